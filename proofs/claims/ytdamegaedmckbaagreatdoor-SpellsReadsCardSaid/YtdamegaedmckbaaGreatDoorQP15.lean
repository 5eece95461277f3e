/- The document's answer, layer 1: top, takes. No further condition. -/
import Derived.Test.YtdamegaedmckbaaGreatDoorQP14
set_option linter.unusedSimpArgs false
set_option linter.unusedVariables false
set_option maxRecDepth 100000
set_option maxHeartbeats 4000000
section
namespace Go.Proofs.YtdamegaedmckbaaGreatDoor
open Go.RowKit
theorem gJ (w : World) (a : Option Addr) (n c : Nat) (d : List Nat) (hd : RdL w a n c d) (hlt : ∀ x ∈ d, x < 1000000000) (p : Nat) (h1 : 1 ≤ p) (hp : p < 35184372088832) :
  Calls Tryz.prog 326 #[.slice a n c, .int .i64 p] w fun e w' => e = .returned (.int .u64 (1000000000 * lim d p + lim d (p - 1))) ∧ w = w' := by
 have hn := hd.few
 have hl := hd.len
 have s0 := Gf hlt p
 have s1 := Gf hlt (p - 1)
 have s0' := (hd.small p).1
 have s1' := (hd.small (p - 1)).1
 have hn1 : ((p : Int) - 1).toNat = p - 1 := by omega
 clear hlt
 by_cases hA : p < n
 ·obtain ⟨b, o, rfl, c1⟩ := hd.at' hA
  have c2 := hd.at (i := p - 1) qB
  have hB : (p : Int) - 1 < n := by omega
  have h0 : 0 ≤ (p : Int) - 1 := by omega
  clear hd hl
  go_enter Tryz.func326, Tryz.ntmps326
  go_wp2
  go_ret
  exact ⟨rfl, rfl⟩
 ·by_cases hB : p - 1 < n
  ·obtain ⟨b, o, rfl, c2⟩ := hd.at' hB
   have hB' : (p : Int) - 1 < n := by omega
   have h0 : 0 ≤ (p : Int) - 1 := by omega
   have hz : lim d p = 0 := J1 qB
   have HZ := Ae hz
   clear hd hl hz s0 s0'
   go_enter Tryz.func326, Tryz.ntmps326
   go_wp2
   go_ret
   exact ⟨by rw [HZ.out]; simp, rfl⟩
  ·have hB' : ¬ (p : Int) - 1 < n := by omega
   have hz : lim d p = 0 := J1 qB
   have hz' : lim d (p - 1) = 0 := J1 qB
   have HZ := Ae hz
   have HZ' := Ae hz'
   clear hd hl hz hz' s0 s0' s1 s1'
   go_enter Tryz.func326, Tryz.ntmps326
   go_wp2
   go_ret
   exact ⟨by rw [HZ.out, HZ'.out]; simp, rfl⟩
def Z5 (w : World) (B g n c : Nat) (N : Nat) (e : Ending) (w' : World) : Prop :=
 e = .returned (.tuple #[]) ∧ ∃ l, l.length = n ∧ (∀ x ∈ l, x < 1000000000) ∧ val l = N ∧ w'.ownsRow B 112 1 (.slice (some ⟨g, 0, none⟩) n c) n (Bv l) ∧ w.grownBy w' (some g)
theorem RdL.other {w w' : World} {a : Option Addr} {n c : Nat} {d : List Nat} {g : Nat} (h : RdL w a n c d) (hg : w.grownBy w' (some g)) (hne : n = 0 ∨ ∀ x, a = some x → x.block ≠ g) : RdL w' a n c d := by
 refine ⟨h.len, h.cap, h.few, h.top, h.small, ?_⟩
 rcases hne with h0 | hne
 ·exact .inl h0
 ·rcases h.cell with h0 | ⟨b, o, ha, hc⟩
  ·exact .inl h0
  ·refine .inr ⟨b, o, ha, fun i hi => hg.cell (hc i hi) ?_⟩
   have := hne _ ha
   simpa using this
theorem bI (w : World) (B g n c : Nat) (l : List Nat) (hown : w.ownsRow B 112 1 (.slice (some ⟨g, 0, none⟩) n c) n (Bv l)) (hlt : ∀ x ∈ l, x < 1000000000) (a' : Option Addr) (n' c' : Nat) (d' : List Nat) (hd' : RdL w a' n' c' d') (hlt' : ∀ x ∈ d', x < 1000000000)
  (hne : n' = 0 ∨ ∀ x, a' = some x → x.block ≠ g) (p often : Nat) (ho : often < 1000000000) (hp : p + n' ≤ n) (hle : often * (1000000000 ^ p * val d') ≤ val l) (hn : n ≤ 35184372088832) :
  Calls Tryz.prog 327 #[.slice (some ⟨g, 0, none⟩) n c, .slice a' n' c', .int .i64 p, .int .u64 often] w (Z5 w B g n c (val l - often * (1000000000 ^ p * val d'))) := by
 have hl : l.length = n := by have := hown.1; rw [Cf] at this; omega
 have HLE := Ae hle
 have HLT := Ae hlt
 have HLT' := Ae hlt'
 have HNE := Ae hne
 have HL := Ae hl
 have HL' := Ae hd'.len
 clear hle hlt hlt' hne hl
 go_enter Tryz.func327, Tryz.ntmps327
 go_wp2_with fail
 go_loopw [8, 9] (fun v8 v9 wr => ∃ (i owed : Nat) (l1 : List Nat), p + i ≤ n ∧ v9 = .int .i64 i ∧ v8 = .int .u64 owed ∧ Hid (Kg (val l) d' p often n i owed l1) ∧ wr.ownsRow B 112 1 (.slice (some ⟨g, 0, none⟩) n c) n (Bv l1) ∧ w.grownBy wr (some g)) (fun _ v9 _ => n - (intOf v9).toNat)
 case atStart =>
  refine ⟨0, 0, l, by omega, rfl, rfl, Ae ?_, hown, ⟨rfl, rfl, rfl, Ad _, fun _ _ _ => rfl⟩⟩
  have := Kg.start (b := d') (p := p) (often := often) HLT.out
  rw [HL.out] at this
  exact this
 case round =>
  clear hown
  obtain ⟨i, owed, l1, hi, rfl, rfl, HT, hown, hgr⟩ := hrel
  by_cases hlti : p + i < n
  ·have hj : p + i < l1.length := by rw [HT.out.len]; exact hlti
   have hcell := hown.cellAt (p + i) qB
   rw [Hb hj] at hcell
   have hfr := hown.frozenAt (p + i)
   obtain ⟨x, hx⟩ : ∃ x : Nat, x = l1.getD (p + i) 0 := ⟨_, rfl⟩
   have hxl : x < 1000000000 := by rw [hx]; exact Cc HT.out.lt _
   rw [← hx] at hcell
   have hij : ((p : Int) + (i : Int)).toNat = p + i := by omega
   have hsm := HT.out.small
   obtain ⟨y, hy⟩ : ∃ y : Nat, y = d'.getD i 0 := ⟨_, rfl⟩
   have hyl : y < 1000000000 := by rw [hy]; exact Cc HLT'.out i
   obtain ⟨t, ht⟩ : ∃ t : Nat, t = owed + often * y := ⟨_, rfl⟩
   have hstep := HT.out.step HLT'.out hlti (show t = owed + often * d'.getD i 0 by rw [ht, hy]) hx
   have hST := Ae hstep
   have HX := Ae hx
   have hpl : often * y ≤ 999999999 * 999999999 := Nat.mul_le_mul qB qB
   have htl : t < 1000000000000000000 := by rw [ht]; omega
   have hlI : (p : Int) + (i : Int) < (n : Int) := by omega
   clear hstep hx hj hlti
   by_cases hin : i < n'
   ·obtain ⟨b', o', rfl, c2⟩ := (hd'.other hgr HNE.out).at' hin
    rw [Du, ← hy] at c2
    have hq : (owed : Int) + (often : Int) * (y : Int) = (t : Int) := by rw [ht]; simp
    have hp0 : (0 : Int) ≤ (often : Int) * (y : Int) := Int.mul_nonneg qB qB
    have hp1 : (owed : Int) + (often : Int) * (y : Int) < 1000000000000000000 := by omega
    have HQ := Ae hq
    clear hq ht hy hpl
    by_cases hc : x < t % 1000000000
    ·have hcI : (x : Int) < ((owed : Int) + (often : Int) * (y : Int)) % 1000000000 := by have := HQ.out; omega
     have hm0 : 0 ≤ ((owed : Int) + (often : Int) * (y : Int)) % 1000000000 := by omega
     have hm1 : ((owed : Int) + (often : Int) * (y : Int)) % 1000000000 < 1000000000 := by omega
     have HC := Ae hc
     clear hc
     have h1 := hown.stored (p + i) (.int .u32 ((x : Int) + 1000000000))
     have h2 := h1.1.stored (p + i) (.int .u32 ((x : Int) + 1000000000 - ((owed : Int) + (often : Int) * (y : Int)) % 1000000000))
     have HS := Ae h2.1
     have HG := Ae (hgr.andThen (h1.2.andThen h2.2 (fun j hj => .inr hj)) (fun j hj => .inr hj))
     clear h1 h2
     go_wp2_with fail
     go_roundw
     case rel =>
      refine ⟨i + 1, t / 1000000000 + 1, l1.set (p + i) (x + 1000000000 - t % 1000000000), by omega, by go_num, by rw [HQ.out]; simp, Ae (hST.out.1 HC.out), ?_, HG.out⟩
      have e : ((x + 1000000000 - t % 1000000000 : Nat) : Int) = ((x : Int) + 1000000000 - ((owed : Int) + (often : Int) * (y : Int)) % 1000000000) := by have := HQ.out; have := HC.out; omega
      exact qCq
     case measure => (first | (simp [intOf]; omega) | (simp [intOf]; done))
    ·have hcI : ¬ (x : Int) < ((owed : Int) + (often : Int) * (y : Int)) % 1000000000 := by have := HQ.out; omega
     have hm0 : 0 ≤ ((owed : Int) + (often : Int) * (y : Int)) % 1000000000 := by omega
     have hm1 : ((owed : Int) + (often : Int) * (y : Int)) % 1000000000 < 1000000000 := by omega
     have HC := Ae hc
     clear hc
     have h1 := hown.stored (p + i) (.int .u32 ((x : Int) - ((owed : Int) + (often : Int) * (y : Int)) % 1000000000))
     have HS := Ae h1.1
     have HG := Ae (hgr.andThen h1.2 (fun j hj => .inr hj))
     clear h1
     go_wp2_with fail
     go_roundw
     case rel =>
      refine ⟨i + 1, t / 1000000000, l1.set (p + i) (x - t % 1000000000), by omega, by go_num, by rw [HQ.out]; simp, Ae (hST.out.2 HC.out), ?_, HG.out⟩
      have e : ((x - t % 1000000000 : Nat) : Int) = ((x : Int) - ((owed : Int) + (often : Int) * (y : Int)) % 1000000000) := by have := HQ.out; have := HC.out; omega
      exact qCq
     case measure => (first | (simp [intOf]; omega) | (simp [intOf]; done))
   ·have hdz : y = 0 := by rw [hy]; simp [List.getD, List.getElem?_eq_none (show d'.length ≤ i by rw [HL'.out]; omega)]
    obtain rfl : t = owed := by rw [ht, hdz, Nat.mul_zero, Nat.add_zero]
    clear ht hy hdz hpl hyl y
    by_cases hc : x < t % 1000000000
    ·have hcI : (x : Int) < (t : Int) % 1000000000 := by omega
     have hm0 : 0 ≤ (t : Int) % 1000000000 := by omega
     have hm1 : (t : Int) % 1000000000 < 1000000000 := by omega
     have HC := Ae hc
     clear hc
     have h1 := hown.stored (p + i) (.int .u32 ((x : Int) + 1000000000))
     have h2 := h1.1.stored (p + i) (.int .u32 ((x : Int) + 1000000000 - (t : Int) % 1000000000))
     have HS := Ae h2.1
     have HG := Ae (hgr.andThen (h1.2.andThen h2.2 (fun j hj => .inr hj)) (fun j hj => .inr hj))
     clear h1 h2
     go_wp2_with fail
     go_roundw
     case rel =>
      refine ⟨i + 1, t / 1000000000 + 1, l1.set (p + i) (x + 1000000000 - t % 1000000000), by omega, by go_num, by simp, Ae (hST.out.1 HC.out), ?_, HG.out⟩
      have e : ((x + 1000000000 - t % 1000000000 : Nat) : Int) = ((x : Int) + 1000000000 - (t : Int) % 1000000000) := by have := HC.out; omega
      exact qCq
     case measure => (first | (simp [intOf]; omega) | (simp [intOf]; done))
    ·have hcI : ¬ (x : Int) < (t : Int) % 1000000000 := by omega
     have hm0 : 0 ≤ (t : Int) % 1000000000 := by omega
     have hm1 : (t : Int) % 1000000000 < 1000000000 := by omega
     have HC := Ae hc
     clear hc
     have h1 := hown.stored (p + i) (.int .u32 ((x : Int) - (t : Int) % 1000000000))
     have HS := Ae h1.1
     have HG := Ae (hgr.andThen h1.2 (fun j hj => .inr hj))
     clear h1
     go_wp2_with fail
     go_roundw
     case rel =>
      refine ⟨i + 1, t / 1000000000, l1.set (p + i) (x - t % 1000000000), by omega, by go_num, by simp, Ae (hST.out.2 HC.out), ?_, HG.out⟩
      have e : ((x - t % 1000000000 : Nat) : Int) = ((x : Int) - (t : Int) % 1000000000) := by have := HC.out; omega
      exact qCq
     case measure => (first | (simp [intOf]; omega) | (simp [intOf]; done))
  ·have hnl : ¬ (p : Int) + (i : Int) < (n : Int) := by omega
   have hpe : p + i = n := by omega
   have HPE := Ae hpe
   have hbd : (p : Int) + (i : Int) ≤ 35184372088832 := by omega
   clear hpe hlti hi
   go_wp2_with fail
   go_end0
   exact ⟨rfl, l1, HT.out.len, HT.out.lt, HT.out.done HPE.out (by rw [HL'.out]; have := HPE.out; omega) HLE.out, hown, hgr⟩
theorem Hp {w : World} {ops : Array Oper} {rest : List Oper} {o : Oper} {a : Act} {Q : Exit → Act → World → Prop} (hgd : o.guard = none) (s x : Operand)
  (ho : o.op = .call { callee := .builtin .append, args := #[s, x], argTypes := #[57, 57] }) (hs : a.eval s = .slice none 0 0)
  (ad : Option Addr) (n c : Nat) (d : List Nat) (hx : a.eval x = .slice ad n c) (hd : RdL w ad n c d)
  (h : ∀ a1 c1 w1, RdL w1 a1 n c1 d → w1.ownsRow w.heap.size 112 1 (.slice a1 n c1) n (Bv d) → Below w.heap.size w w1 → wpList Tryz.prog ops Q rest (a.put o.dst (.slice a1 n c1)) w1) :
  wpList Tryz.prog ops Q (o :: rest) a w := by
 obtain ⟨i0, hi, hz0, hz1, hz2⟩ := info_parts Cu
 have hn := hd.few
 rcases Aq n with h0 | h0
 ·subst h0
  have hdn : d = [] := List.eq_nil_of_length_eq_zero hd.len
  subst hdn
  refine wpList_plain hgd fun K hK => ?_
  have hrun := Hh (P := Tryz.prog) (w := w) w.heap.size 57 o.type 112 i0 1 Tryz.underlying57 hi (.slice none 0 0) 0 [] (World.ownsRow_nil _ _ _ _) ad c
  unfold Oper.wp
  simp [execOp, ho, resolve, invoke, builtin, hs, hx, hrun, Result.andThen]
  exact hK _ _ (h none 0 w ⟨rfl, Ad _, by omega, by omega, fun i => by simp [lim], .inl rfl⟩ (World.ownsRow_nil _ _ _ _) (Ac _ _))
 ·obtain ⟨b, o', rfl, hcl⟩ := hd.cell.resolve_left qB
  refine wpList_append_own _ hgd s x 57 ho w.heap.size 112 i0 (.int .u32 0) 1 4 Tryz.underlying57 hi hz0 hz1 hz2 rfl qC _ _ _ hs (World.ownsRow_nil _ _ _ _) ⟨b, o', none⟩ n c (Bv d) hx (by rw [Cf, hd.len]; omega) (H5 hd) (I3 d) qO qB (Ad _) ?_
  intro v' w' hown hgrow hnil
  rw [Nat.zero_add, List.nil_append] at hown
  obtain ⟨a', c', rfl, hr, hfr⟩ := Dr hown hn hd.small
  exact h a' c' w' hr hown ((Ac _ _).grown hgrow (Ad _) (fun k hk => (by cases hk)))
theorem Li {w : World} {ops : Array Oper} {rest : List Oper} {o : Oper} {a : Act} {Q : Exit → Act → World → Prop} (hgd : o.guard = none) (s x : Operand)
  (ho : o.op = .call { callee := .builtin .append, args := #[s, x], argTypes := #[57, 57] }) (hs : a.eval s = .slice none 0 0)
  (ad : Option Addr) (n c : Nat) (d : List Nat) (hx : a.eval x = .slice ad n c) (hd : RdL w ad n c d) (hn : 0 < n)
  (h : ∀ L c1 w1, RdL w1 (some ⟨L, 0, none⟩) n c1 d → w1.ownsRow w.heap.size 112 1 (.slice (some ⟨L, 0, none⟩) n c1) n (Bv d) → Below w.heap.size w w1 → wpList Tryz.prog ops Q rest (a.put o.dst (.slice (some ⟨L, 0, none⟩) n c1)) w1) :
  wpList Tryz.prog ops Q (o :: rest) a w := by
 refine Hp hgd s x ho hs ad n c d hx hd ?_
 intro a1 c1 w1 h1 h2 h3
 rcases h2.2 with ⟨h4, h5⟩ | ⟨g, cap, cur, h4, _⟩
 ·omega
 ·cases h4
  exact h g c1 w1 h1 h2 h3
theorem Ej {w w' : World} {base g n c : Nat} {xs : List Value} (h : w.ownsRow base 112 1 (.slice (some ⟨g, 0, none⟩) n c) n xs) (e : w'.heap[g]? = w.heap[g]?) : w'.ownsRow base 112 1 (.slice (some ⟨g, 0, none⟩) n c) n xs := by
 exact qCp
theorem Uj (k : Nat) (hk : k ≤ 35184372088832) (W : World) : (Instr.makeSlice 57 (.int .i64 (k : Int)) (.int .i64 (k : Int))).run Tryz.prog W = .ok (.slice (some ⟨W.heap.size, 0, none⟩) k k) (W.alloc (.cells (Bv (List.replicate k 0)).toArray 112)) := by
 obtain ⟨i0, hi, hz0, hz1, hz2⟩ := info_parts Cu
 have hb' : (i0.bytes : Int) * (k : Int) ≤ 281474976710656 := by rw [hz2]; omega
 have hr := run_make (P := Tryz.prog) W 57 112 i0 (.int .u32 0) Tryz.underlying57 hi hz0 .i64 .i64 k k qB (Int.le_refl _) hb' qB
 simp only [Int.toNat_natCast] at hr
 have e : madeCells (Value.cells (.int .u32 0)) (k * i0.size) = (Bv (List.replicate k 0)).toArray := by
  apply Array.ext'
  rw [hz1, Nat.mul_one, show Value.cells (.int .u32 0) = #[.int .u32 0] from rfl, toList_madeCells_one]
  simp [Bv]
 rw [e] at hr
 exact hr
theorem Nu (B : Nat) (W : World) (k : Nat) (hB : B ≤ W.heap.size) (hk : k ≤ 35184372088832) : (W.alloc (.cells (Bv (List.replicate k 0)).toArray 112)).ownsRow B 112 1 (.slice (some ⟨W.heap.size, 0, none⟩) k k) k (Bv (List.replicate k 0)) :=
 World.ownsRow_lit (base := B) (e := 112) (size := 1) W (Bv (List.replicate k 0)).toArray k hB qO (by simp [Bv])
theorem Z6 {w w' : World} {b o n c : Nat} {d : List Nat} (h : RdL w (some ⟨b, o, none⟩) n c d) (e : w'.heap[b]? = w.heap[b]?) : RdL w' (some ⟨b, o, none⟩) n c d := by
 exact qDh
theorem Nq (x y : Nat) : decide (Br (x : Int) (y : Int) < 0) = decide (x < y) := by
 exact qDt
theorem L5 {w : World} {ops : Array Oper} {o : Oper} {a : Act} {K : Act → World → Prop} {Q : Exit → Act → World → Prop} {E : Prop} (s x : Operand)
  (ho : o.op = .call { callee := .builtin .append, args := #[s, x], argTypes := #[57, 57] }) (hw : Region.wanted o (yielded ops a.tmps) = true)
  (B : Nat) (v : Value) (n : Nat) (l : List Nat) (hs : a.eval s = v) (hown : w.ownsRow B 112 1 v n (Bv l)) (hl : ∀ x ∈ l, x < 1000000000) (hB : B ≤ w.heap.size)
  (ad : Option Addr) (m c : Nat) (d : List Nat) (hx : a.eval x = .slice ad m c) (hd : RdL w ad m c d) (hdl : ∀ x ∈ d, x < 1000000000) (hm : 0 < m) (hnm : n + m ≤ 35184372088832)
  (h : ∀ a1 c1 w1, RdL w1 a1 (n + m) c1 (l ++ d) → Below B w w1 → K (a.put o.dst (.slice a1 (n + m) c1)) w1) :
  if Region.wanted o (yielded ops a.tmps) = true then Oper.wp Tryz.prog o a w K Q else E := by
 rw [if_pos hw]
 obtain ⟨i0, hi, hz0, hz1, hz2⟩ := info_parts Cu
 obtain ⟨b, o', rfl, hcl⟩ := hd.cell.resolve_left qB
 refine wp_append_own w s x 57 ho B 112 i0 (.int .u32 0) 1 4 Tryz.underlying57 hi hz0 hz1 hz2 rfl qC v n (Bv l) hs hown ⟨b, o', none⟩ m c (Bv d) hx (by rw [Cf, hd.len]; omega) (H5 hd) (I3 d) qO qB hB ?_
 intro v' w' hown' hgrow hnil
 rw [← Ce] at hown'
 have hsm := Bi (d := l ++ d) (fun x hx => by rcases List.mem_append.1 hx with h | h; have := hl x h; omega; have := hdl x h; omega)
 obtain ⟨a', c', rfl, hr, hfr⟩ := Dr hown' hnm hsm
 exact h a' c' w' hr ((Ac _ _).grown hgrow hB (fun k hk => (hown.lt k hk).1))
theorem Oc {w : World} {ops : Array Oper} {o : Oper} {a : Act} {K : Act → World → Prop} {Q : Exit → Act → World → Prop} {E : Prop} (s x : Operand)
  (ho : o.op = .call { callee := .builtin .append, args := #[s, x], argTypes := #[57, 57] }) (hw : Region.wanted o (yielded ops a.tmps) = true)
  (B : Nat) (n : Nat) (l : List Nat) (hown : w.ownsRow B 112 1 (a.eval s) n (Bv l)) (hl : ∀ x ∈ l, x < 1000000000) (hB : B ≤ w.heap.size)
  (ad : Option Addr) (m c : Nat) (d : List Nat) (hx : a.eval x = .slice ad m c) (hd : RdL w ad m c d) (hdl : ∀ x ∈ d, x < 1000000000) (hm : 0 < m) (hnm : n + m ≤ 35184372088832)
  (h : ∀ a1 c1 w1, RdL w1 a1 (n + m) c1 (l ++ d) → Below B w w1 → K (a.put o.dst (.slice a1 (n + m) c1)) w1) :
  if Region.wanted o (yielded ops a.tmps) = true then Oper.wp Tryz.prog o a w K Q else E :=
 L5 s x ho hw B _ n l rfl hown hl hB ad m c d hx hd hdl hm hnm h
theorem eS (w : World) (a : Option Addr) (n c : Nat) (d : List Nat) (hd : RdL w a n c d) (hlt : ∀ x ∈ d, x < 1000000000) (M : Int) (p : Nat) (hM : M = p) (h1 : 1 ≤ p) (hp : p < 35184372088832) (T : Nat) (hT : T = 1000000000 * d.getD p 0 + d.getD (p - 1) 0) :
  Calls Tryz.prog 326 #[.slice a n c, .int .i64 M] w fun e w' => e = .returned (.int .u64 (T : Int)) ∧ w = w' := by
 subst hM
 refine (gJ w a n c d hd hlt p h1 hp).mono ?_
 rintro e w' ⟨rfl, rfl⟩
 refine ⟨?_, rfl⟩
 rw [hT, Du, Du]
 simp
def Ns (A V n g : Nat) (l q : List Nat) : Prop := l.length = n ∧ (∀ x ∈ l, x < 1000000000) ∧ q.length = n + 1 ∧ (∀ x ∈ q, x < 1000000000) ∧
 match g with
 | 0 => val q = A / V ∧ val l = A % V
 | k + 1 => Iw A V n k l q
theorem Ns.of {A V n k : Nat} {l q : List Nat} (h : Iw A V n k l q) : Ns A V n (k + 1) l q := ⟨h.llen, h.lt, h.qlen, h.qlt, h⟩
theorem Ns.next {A V n k : Nat} {l q : List Nat} (h : Iw A V n k l q) (hV : 0 < V) (hb : val l < 1000000000 ^ k * V) : Ns A V n k l q := by
 refine ⟨h.llen, h.lt, h.qlen, h.qlt, ?_⟩
 cases k with
 | zero => rw [Nat.pow_zero, Nat.one_mul] at hb; exact h.done hV hb
 | succ k => exact h.next hb
theorem dO (o : Nat) : (if (1 : Int) < (o : Int) then (o : Int) else 1) = ((max 1 o : Nat) : Int) := by
 split <;> omega
theorem cN (w : World) (a : Option Addr) (n c : Nat) (d : List Nat) (a' : Option Addr) (n' c' : Nat) (d' : List Nat) (hd : RdL w a n c d) (hd' : RdL w a' n' c' d') (hc : C8 d) (hc' : C8 d')
  (h2 : 2 ≤ n') (hle : n' ≤ n) (hn : n < 35184372088830) :
  Calls Tryz.prog 294 #[.slice a n c, .slice a' n' c'] w (Fw w (val d) (val d') (n + 1) n) := by
 obtain ⟨i0, hi, hz0, hz1, hz2⟩ := info_parts Cu
 have HB := Ac w.heap.size w
 obtain ⟨t, ht⟩ : ∃ t : Nat, t = d'.getD (n' - 1) 0 := ⟨_, rfl⟩
 have ht2 : t < 1000000000 := by rw [ht]; exact Cc hc'.lt _
 obtain ⟨b', o', rfl, c1⟩ := hd'.at' (i := n' - 1) qB
 have hb'w : b' < w.heap.size := Aa _ _ c1
 rw [Du, ← ht] at c1
 have hn1 : ((n' : Int) - 1).toNat = n' - 1 := by omega
 have hn1b : 0 ≤ (n' : Int) - 1 := by omega
 have hn1c : 1 ≤ (n' : Int) := by omega
 have hn1a : (n' : Int) - 1 < (n' : Int) := by omega
 have hne1 : ((n' : Int) == 1) = false := by rw [beq_eq_false_iff_ne]; omega
 obtain ⟨V, hV⟩ : ∃ V, V = val d' := ⟨_, rfl⟩
 have hVlt : V < 1000000000 ^ (n' - 1) * (t + 1) := by rw [hV, ht]; exact fF hc'.lt hd'.len qB
 have hVge : 1000000000 ^ (n' - 1) ≤ V := by rw [hV]; exact Vf hc' hd'.len qB
 have hVp : 0 < V := Nat.lt_of_lt_of_le (Nat.pow_pos qB) hVge
 have hstart : val d < 1000000000 ^ (n - n' + 1) * V := by
  have h3 := Eg d hc.lt
  rw [hd.len, show n = n - n' + 1 + (n' - 1) by omega, Nat.pow_add] at h3
  have h4 : 1000000000 ^ (n - n' + 1) * 1000000000 ^ (n' - 1) ≤ 1000000000 ^ (n - n' + 1) * V := At _ hVge
  omega
 have HS := Ae (And.intro hVlt hstart)
 have HV := Ae hV
 have HC := Ae hc
 have HC' := Ae hc'
 have HLX := Ae hd.len
 have HLY := Ae hd'.len
 clear hV hVlt hVge hstart ht hc hc'
 go_enter Tryz.func294, Tryz.ntmps294
 go_wp2_with (first
  | (refine Li rfl (.tmp 26) (.tmp 27) rfl rfl a n c d rfl (hd.keep qF) qB ?_; intro L cL w1 hr1 hown1 hb1)
  | (refine wpList_make_full _ rfl _ _ 57 rfl w1.heap.size 112 i0 (.int .u32 0) 1 Tryz.underlying57 hi hz0 hz1 .i64 .i64 _ _ (n + 1) rfl rfl rfl qT (by rw [hz2]; omega) qO (Ad _) ?_; intro w3 hown3 hgrow3))
 have HB3 : Below w1.heap.size w1 w3 := (Ac _ _).grown hgrow3 (Ad _) (fun k h => by cases h)
 rw [Nat.mul_one, show Value.cells (.int .u32 0) = #[.int .u32 0] from rfl, toList_madeCells_one, ← Ew] at hown3
 have hL1 := hown1.lt L rfl
 obtain ⟨Q, hQ⟩ : ∃ Q, Q = w1.heap.size := ⟨_, rfl⟩
 have hLQ : L < Q := by rw [hQ]; exact hL1.2
 have hown1' := Ej hown1 (HB3.block L hL1.2)
 have hB13 : Below w.heap.size w w3 := hb1.trans (HB3.mono hb1.size)
 rw [← hQ] at hown3
 simp only [← hQ]
 have hwL : w.heap.size ≤ L := hL1.1
 have HQ := Ae hQ
 have hsI : ∃ j : Nat, j = n - n' + 1 := ⟨_, rfl⟩
 clear hgrow3 HB3 hb1 hown1 hr1 hL1 hQ HB hsI
 go_loopg [10] (n - n' + 1) (fun g v10 wr => ∃ l q, v10 = .int .i64 ((g : Int) - 1) ∧ g ≤ n - n' + 1 ∧ Hid (Ns (val d) V n g l q) ∧ wr.ownsRow w.heap.size 112 1 (.slice (some ⟨L, 0, none⟩) n cL) n (Bv l) ∧ wr.ownsRow Q 112 1 (.slice (some ⟨Q, 0, none⟩) (n + 1) (n + 1)) (n + 1) (Bv q) ∧ Below w.heap.size w wr)
 case atStart =>
  exact ⟨d, List.replicate (n + 1) 0, congrArg (Value.int .i64) qB, Ad _, Ae (Ns.of (Iw.start HLX.out HC.out.lt qB HS.out.2)), hown1', hown3, hB13⟩
 case round =>
  clear hown1' hown3 hB13
  obtain ⟨l, q, hv10, hgm, HG, hL, hQ, HB⟩ := hrel
  cases gk with
  | zero =>
   rw [show ((0 : Nat) : Int) - 1 = -1 from rfl] at hv10
   subst hv10
   go_wp2_with fail
   go_ret2
   obtain ⟨hll, hlt, hql, hqlt, hq1, hq2⟩ := HG.out
   exact ⟨_, n + 1, n + 1, q, _, n, cL, l, rfl, Cr hQ qB (Bi (fun x hx => by have := hqlt x hx; omega)), Cr hL qB (Bi (fun x hx => by have := hlt x hx; omega)), by rw [hq1, HV.out], by rw [hq2, HV.out], hqlt, hlt, Ad _, Ad _, (Av.of_owns hQ).mono qB, Av.of_owns hL, HB⟩
  | succ k =>
   rw [show ((k + 1 : Nat) : Int) - 1 = (k : Int) by omega] at hv10
   subst hv10
   have hG0 : Iw (val d) V n k l q := HG.out.2.2.2.2
   have HG0 := Ae hG0
   clear hG0 HG
   have hkI : (k : Int) + (n' : Int) < 35184372088832 := by omega
   have hk0 : (0 : Int) ≤ (k : Int) := by omega
   have hkn : (k : Int) < (n : Int) + 1 := by omega
   go_wp2_with fail
   go_loopg [] (val l) (fun gg wi => ∃ l q, gg = val l ∧ Hid (Iw (val d) V n k l q) ∧ wi.ownsRow w.heap.size 112 1 (.slice (some ⟨L, 0, none⟩) n cL) n (Bv l) ∧ wi.ownsRow Q 112 1 (.slice (some ⟨Q, 0, none⟩) (n + 1) (n + 1)) (n + 1) (Bv q) ∧ Below w.heap.size w wi)
   case atStart => exact ⟨l, q, rfl, HG0, hL, hQ, HB⟩
   case round =>
    clear HG0 hL hQ HB
    obtain ⟨l, q, hgg, HG, hL, hQ, HB⟩ := hrel
    obtain ⟨T, hT⟩ : ∃ T, T = 1000000000 * l.getD (k + n') 0 + l.getD (k + n' - 1) 0 := ⟨_, rfl⟩
    obtain ⟨o, ho⟩ : ∃ o : Nat, o = T / (t + 1) := ⟨_, rfl⟩
    have hof := HG.out.often h2 HS.out.1 hVp
    rw [← hT, ← ho] at hof
    have hTl : T < 1000000000000000000 := by
     have e1 := Cc HG.out.lt (k + n')
     have e2 := Cc HG.out.lt (k + n' - 1)
     omega
    have hoI : (T : Int) / ((t : Int) + 1) = (o : Int) := by rw [ho]; simp
    have HOF := Ae hof
    have HT := Ae hT
    have HO := Ae hoI
    have ho1 := hof.2
    have hrd := Cr hL qB (Bi (fun x hx => by have := HG.out.lt x hx; omega))
    have hq0 : 0 ≤ (T : Int) / ((t : Int) + 1) := by rw [hoI]; omega
    have hq1 : (T : Int) / ((t : Int) + 1) < 1000000000 := by rw [hoI]; omega
    have k1 := A8 (Au HB c1)
    clear hof hT hoI ho
    go_upto_region 10 with fail
    (refine A9 qG qG ?_; (repeat (go_big_quiet_step ((go_at_call 326; exact gL (eS _ _ _ _ l (hrd.keep (Subtype.property _)) HG.out.lt _ (k + n') qB qB qB T HT.out))))); refine wpQuiet_nil ?_; intro _ hw0; obtain ⟨nq, hw0⟩ := hw0; subst hw0)
    rw [HO.out]
    clear k1 hq0 hq1 hrd
    have hnb := nq.2
    replace hL := Ej hL (hnb.block L (hL.lt L rfl).2)
    replace hQ := Ej hQ (hnb.block Q (hQ.lt Q rfl).2)
    replace HB := HB.trans (hnb.mono HB.size)
    generalize nq.val = wy at *
    clear nq hnb
    go_upto_region 11 with fail
    go_cut [71] (fun v71 wx => v71 = .bool (decide (o = 0 ∧ val l < 1000000000 ^ k * V)) ∧ wx.ownsRow w.heap.size 112 1 (.slice (some ⟨L, 0, none⟩) n cL) n (Bv l) ∧ wx.ownsRow Q 112 1 (.slice (some ⟨Q, 0, none⟩) (n + 1) (n + 1)) (n + 1) (Bv q) ∧ Below w.heap.size w wx)
    case first =>
     by_cases ho0 : o = 0
     ·subst ho0
      have hmk := fun (W : World) => Uj k qB W
      have HBy := Ac wy.heap.size wy
      have hLy : L < wy.heap.size := (hL.lt L rfl).2
      have hwy := HB.size
      have hrl := Cr hL qB (Bi (fun x hx => by have := HG.out.lt x hx; omega))
      obtain ⟨X, hX⟩ : ∃ X, X = 1000000000 ^ k * V := ⟨_, rfl⟩
      have hva : val (List.replicate k 0 ++ d') = X := by rw [hX, Ex, Gl, Nat.zero_add, List.length_replicate, HV.out]
      have HX := Ae hX
      have hQy : Q < wy.heap.size := (hQ.lt Q rfl).2
      clear hX
      have HVA := Ae hva
      have hval : ∀ x ∈ List.replicate k 0 ++ d', x < 1000000000 := fun x hx => by
       rcases List.mem_append.1 hx with h | h
       ·rw [(List.mem_replicate.1 h).2]; omega
       ·exact HC'.out.lt x h
      have HVL := Ae hval
      have hz0' : ∀ x ∈ List.replicate k 0, x < 1000000000 := fun x hx => by rw [(List.mem_replicate.1 hx).2]; omega
      have HZL := Ae hz0'
      have hkn' : k + n' ≤ 35184372088832 := by omega
      clear hva hval hz0'
      go_region_law (first
       | (go_simp; go_at_call 188; ((with_reducible refine (Fb _ false _ _ _ l (hrl.keep qR) HG.out.lt).mono ?_); rintro e w1' ⟨g2, n2, rfl, hn2, hnum2, hb2⟩; replace HBy : Below wy.heap.size wy w1' := Al qR (hb2.mono qA); have hsy := HBy.size; have hr2y := Z6 hnum2.rd (HBy.block L hLy).symm; rw [Fr] at hr2y; (try replace hrA := hrA.keep hb2)))
       | (go_simp; go_at_call 188; ((with_reducible refine (Fb _ false _ _ _ (List.replicate k 0 ++ d') hrA HVL.out).mono ?_); rintro e w6 ⟨g3, n3, rfl, hn3, hnum3, hb3⟩; replace HBy : Below wy.heap.size wy w6 := Al qR (hb3.mono qA); have hsy := HBy.size; have hr3 := hnum3.rd; rw [Fr, HVA.out] at hr3))
       | (go_simp; go_at_call 250; ((with_reducible refine (Q0 _ _ _ _ (dg (val l)) _ _ _ (dg X) (hr2y.keep qR) hr3 (Bp _) (Bp _)).mono ?_); rintro e w7 ⟨rfl, hb7⟩; replace HBy : Below wy.heap.size wy w7 := Al qR (hb7.mono qA); rw [Ba, Ba]))
       | ((with_reducible refine Oc (.tmp 64) (.tmp 65) ?_ ?_ wy.heap.size k (List.replicate k 0) ?_ ?_ ?_ (some ⟨b', o', none⟩) n' c' d' ?_ ?_ ?_ ?_ ?_ ?_); (focus rfl); (focus rfl); (focus (first | (refine Nu _ _ _ ?_ ?_; (focus (first | exact hsy | go_size | omega | (simp; omega))); (focus omega)) | (refine Ej (Nu _ _ _ ?_ ?_) (hb2.block _ ?_); (focus (first | go_size | omega | (simp; omega))); (focus omega); (focus (first | go_size | omega | (simp; omega)))))); (focus exact HZL.out); (focus (first | go_size | omega | (simp; omega))); (focus rfl); (focus exact hd'.keep (Al HB ((by first | assumption | go_grown : Below wy.heap.size wy _).mono hwy))); (focus exact HC'.out.lt); (focus omega); (focus exact hkn'); intro aA cA w4 hrA hbA; replace HBy : Below wy.heap.size wy w4 := Al qR hbA; have hsy := HBy.size))
      all_goals
       go_wp2_with fail
       go_meet
       case rel => exact ⟨congrArg Value.bool (by rw [← HX.out]; first | (rw [Nq]; simp; done) | (simp [Nq]; done)), Ej hL (HBy.block L hLy), Ej hQ (HBy.block Q hQy), HB.trans (HBy.mono hwy)⟩
     ·have hoB : ((o : Int) == 0) = false := by rw [beq_eq_false_iff_ne]; omega
      have hoD : decide (o = 0 ∧ val l < 1000000000 ^ k * V) = false := decide_eq_false (fun h => ho0 h.1)
      have HOD := Ae hoD
      clear ho0 hoD
      (refine A9 qG qG ?_; (repeat (go_big_quiet_step (fail))); refine wpQuiet_nil ?_; intro _ hw0; obtain ⟨nq, hw0⟩ := hw0; subst hw0)
      have hnb := nq.2
      replace hL := Ej hL (hnb.block L (hL.lt L rfl).2)
      replace hQ := Ej hQ (hnb.block Q (hQ.lt Q rfl).2)
      replace HB := HB.trans (hnb.mono HB.size)
      go_wp2_with fail
      go_meet
      case rel => exact ⟨by rw [HOD.out], hL, hQ, HB⟩
    case rest =>
    obtain ⟨wx, rfl⟩ : ∃ x : World, x = wc := ⟨_, rfl⟩
    clear hL hQ HB
    obtain ⟨rfl, hL, hQ, HB⟩ := hcut
    by_cases hbr : o = 0 ∧ val l < 1000000000 ^ k * V
    ·rw [decide_eq_true hbr]
     have hgr := Ae (Ns.next HG.out hVp hbr.2)
     clear hbr
     go_wp2_with fail
     go_roundg k
     case measure => omega
     case rel => exact ⟨l, q, rfl, Nat.le_of_succ_le hgm, hgr, hL, hQ, HB⟩
    ·rw [decide_eq_false hbr]
     have hmx := dO o
     obtain ⟨om, hom⟩ : ∃ om, om = max 1 o := ⟨_, rfl⟩
     rw [← hom] at hmx
     have hom1 : om < 1000000000 := by omega
     have hom0 : 0 < om := by omega
     have hole : om * (1000000000 ^ k * V) ≤ val l := by
      rcases Aq o with h0 | h0
      ·have : om = 1 := by omega
       rw [this, Nat.one_mul]
       exact Nat.le_of_not_lt (fun h => hbr ⟨h0, h⟩)
      ·have : om = o := by omega
       rw [this]
       exact HOF.out.1
     have HMX := Ae hmx
     have HLE := Ae hole
     have hlq : k < q.length := by rw [HG.out.qlen]; omega
     have HVO : Hid (om * (1000000000 ^ k * val d') ≤ val l) := Ae (by rw [← HV.out]; exact hole)
     clear hbr hmx hom hole
     go_upto_region 13 with fail
     have hmxJ : max (1 : Int) (o : Int) = (om : Int) := by rw [← HMX.out]; split <;> omega
     first | rw [HMX.out] | rw [hmxJ]
     clear hmxJ
     have hneB : n' = 0 ∨ ∀ x, (some ⟨b', o', none⟩ : Option Addr) = some x → x.block ≠ L := .inr (fun x hx => by cases hx; exact Nat.ne_of_lt (Nat.lt_of_lt_of_le hb'w hwL))
     go_wp2_with fail
     refine (bI _ w.heap.size L n cL l hL HG.out.lt _ n' c' d' (hd'.keep HB) HC'.out.lt hneB k om hom1 qB HVO.out qB).mono ?_
     rintro e wz ⟨rfl, l2, hl1, hl2, hl3, hL2, hg2⟩
     rw [← HV.out] at hl3
     have hst := HG.out.step hVp HLE.out hl1 hl2 hl3
     have hQ2 := Ej hQ (hg2.block Q (hQ.lt Q rfl).2 qL)
     have hB2 : Below w.heap.size w wz := HB.grown hg2 HB.size (fun j hj => (by cases hj; exact hwL))
     obtain ⟨qk, hqk⟩ : ∃ qk, qk = q.getD k 0 := ⟨_, rfl⟩
     rw [← hqk] at hst
     have hcQ := hQ2.cellAt k qB
     rw [Hb hlq, ← hqk] at hcQ
     have hfQ := hQ2.frozenAt k
     have hq3 := hst.1
     have hq4 : (qk : Int) + (om : Int) < 1000000000 := by omega
     have hST := Ae hst.2
     have hmes : val l2 < val l := by
      have : 0 < om * (1000000000 ^ k * V) := Nat.mul_pos hom0 (Nat.mul_pos (Nat.pow_pos qB) hVp)
      have := HLE.out
      omega
     have HME := Ae hmes
     have HSQ := Ae (hQ2.stored k (.int .u32 ((qk : Int) + (om : Int)))).1
     clear hl1 hl2 hl3 hst hqk hmes hQ hL HB
     go_wp2_with fail
     go_roundg (val l2)
     case measure => rw [hgg]; exact HME.out
     case rel =>
      refine ⟨l2, q.set k (qk + om), rfl, hST, Ej hL2 (Below.heap_setCell _ _ _ _ (Nat.ne_of_lt hLQ)), ?_, ?_⟩
      ·rw [I4, Int.natCast_add]; exact HSQ.out
      ·exact hB2.trans ⟨rfl, rfl, rfl, by simp, fun j hj => Below.heap_setCell _ _ _ _ (by show j ≠ Q; omega)⟩
end Go.Proofs.YtdamegaedmckbaaGreatDoor
end
