/- Package limbs: Mul. -/
import Derived.Test.YtdamegaedmckbaaGreatDoorQP5
set_option linter.unusedSimpArgs false
set_option linter.unusedVariables false
set_option maxRecDepth 100000
set_option maxHeartbeats 4000000
section
namespace Go.Proofs.YtdamegaedmckbaaGreatDoor
open Go.RowKit
theorem Ew (m : Nat) : Bv (List.replicate m 0) = List.replicate m (.int .u32 0) := by simp [Bv]
theorem Hb {l : List Nat} {j : Nat} (h : j < l.length) : (Bv l)[j]? = some (.int .u32 ((l.getD j 0 : Nat) : Int)) := by simp [Bv, List.getD, h]
theorem I4 (l : List Nat) (j y : Nat) : Bv (l.set j y) = (Bv l).set j (.int .u32 y) := by simp [Bv, List.map_set]
theorem Wk (w : World) (g : Bool) (a : Option Addr) (n c : Nat) (z : Int) (h : A4 w g a n c z) (g' : Bool) (a' : Option Addr) (n' c' : Nat) (z' : Int) (h' : A4 w g' a' n' c' z')
  (hb1 : n ≤ 17592186044416) (hb2 : n' ≤ 17592186044416) :
  Calls Tryz.prog 174 #[.agg #[.bool g, .slice a n c], .agg #[.bool g', .slice a' n' c']] w (C4 w (z * z')) := by
 obtain ⟨i0, hi, hz0, hz1, hz2⟩ := info_parts Cu
 have HB := Ac w.heap.size w
 have hlx := Ae h.rd.len
 have hly := Ae h'.rd.len
 go_enter Tryz.func174, Tryz.ntmps174
 go_wp2_with fail
 go_region_held3 (fun W => W.cell? ⟨w.heap.size, 0, none⟩ = some (.bool g) ∧ W.cell? ⟨w.heap.size, 1, none⟩ = some (.slice a n c) ∧ W.cell? ⟨w.heap.size + 1, 0, none⟩ = some (.bool g') ∧ W.cell? ⟨w.heap.size + 1, 1, none⟩ = some (.slice a' n' c')) (first | ((try dsimp only); (repeat' apply And.intro); all_goals (first | (with_reducible assumption) | (go_keep; done) | (simp [*, go_sem]; done)))) (first
  | (go_at_call 95; (with_reducible refine (H3 _ g a n c z (h.keep qF)).mono ?_); rintro e w1 ⟨rfl, hb⟩; obtain ⟨hc, hf⟩ := Ax hb; have hz := hb.size; (try simp only [Aj, Ak] at hz); replace HB := zD w hb; obtain ⟨s0_0, s0_1⟩ := qX hc (w.heap.size) (.bool g) (.slice a n c); obtain ⟨s1_0, s1_1⟩ := qX hc (w.heap.size + 1) (.bool g') (.slice a' n' c'); obtain ⟨s2_0, s2_1⟩ := qZ hc (w.heap.size + 1 + 1); obtain ⟨f2_0, f2_1⟩ := zA hf (w.heap.size + 1 + 1); obtain ⟨f0_0, f0_1⟩ := zA hf (w.heap.size); obtain ⟨f1_0, f1_1⟩ := zA hf (w.heap.size + 1))
  | (go_at_call 95; (with_reducible refine (H3 _ g' a' n' c' z' (h'.keep qF)).mono ?_); rintro e w1 ⟨rfl, hb⟩; obtain ⟨hc, hf⟩ := Ax hb; have hz := hb.size; (try simp only [Aj, Ak] at hz); replace HB := zD w hb; obtain ⟨s0_0, s0_1⟩ := qX hc (w.heap.size) (.bool g) (.slice a n c); obtain ⟨s1_0, s1_1⟩ := qX hc (w.heap.size + 1) (.bool g') (.slice a' n' c'); obtain ⟨s2_0, s2_1⟩ := qZ hc (w.heap.size + 1 + 1); obtain ⟨f2_0, f2_1⟩ := zA hf (w.heap.size + 1 + 1); obtain ⟨f0_0, f0_1⟩ := zA hf (w.heap.size); obtain ⟨f1_0, f1_1⟩ := zA hf (w.heap.size + 1)))
 replace HB : Below w.heap.size w ((((w1.setCell ⟨w.heap.size, 0, none⟩ (.bool g)).setCell ⟨w.heap.size, 1, none⟩ (.slice a n c)).setCell ⟨w.heap.size + 1, 0, none⟩ (.bool g')).setCell ⟨w.heap.size + 1, 1, none⟩ (.slice a' n' c')) := by go_grown
 obtain ⟨w2, hw2⟩ : ∃ w2, w2 = ((((w1.setCell ⟨w.heap.size, 0, none⟩ (.bool g)).setCell ⟨w.heap.size, 1, none⟩ (.slice a n c)).setCell ⟨w.heap.size + 1, 0, none⟩ (.bool g')).setCell ⟨w.heap.size + 1, 1, none⟩ (.slice a' n' c')) := ⟨_, rfl⟩
 rw [← hw2] at HB ⊢
 have u0 : w2.cell? ⟨w.heap.size, 0, none⟩ = some (.bool g) := by rw [hw2]; simp [*, go_sem]
 have u1 : w2.cell? ⟨w.heap.size, 1, none⟩ = some (.slice a n c) := by rw [hw2]; simp [*, go_sem]
 have u2 : w2.cell? ⟨w.heap.size + 1, 0, none⟩ = some (.bool g') := by rw [hw2]; simp [*, go_sem]
 have u3 : w2.cell? ⟨w.heap.size + 1, 1, none⟩ = some (.slice a' n' c') := by rw [hw2]; simp [*, go_sem]
 have u4 : w2.cell? ⟨w.heap.size + 1 + 1, 0, none⟩ = some (.bool false) := by rw [hw2]; simp [*, go_sem]
 have u5 : w2.cell? ⟨w.heap.size + 1 + 1, 1, none⟩ = some (.slice none 0 0) := by rw [hw2]; simp [*, go_sem]
 have v4 : w2.frozen? ⟨w.heap.size + 1 + 1, 0, none⟩ = false := by rw [hw2]; simp [*, go_sem]
 have v5 : w2.frozen? ⟨w.heap.size + 1 + 1, 1, none⟩ = false := by rw [hw2]; simp [*, go_sem]
 have hk2 : w.heap.size + 1 + 1 < w2.heap.size := Aa w2 _ u4
 clear hw2 s0_0 s0_1 s1_0 s1_1 s2_0 s2_1 f2_0 f2_1 f0_0 f0_1 f1_0 f1_1 hz hc hf hb
 go_wp2_with (refine wpList_make_full _ rfl _ _ 57 rfl w2.heap.size 112 i0 (.int .u32 0) 1 Tryz.underlying57 hi hz0 hz1 .i64 .i64 _ _ (n + n') rfl rfl rfl qT (by rw [hz2]; omega) qO (Ad _) ?_; intro w3 hown3 hgrow3; have HB3 : Below w2.heap.size w2 w3 := (Ac _ _).grown hgrow3 (Ad _) (fun k h => (by cases h)); have t1 := Au HB3 u1; have t3 := Au HB3 u3)
 have HB3 : Below w2.heap.size w2 w3 := (Ac _ _).grown hgrow3 (Ad _) (fun k h => by cases h)
 rw [Nat.mul_one, show Value.cells (.int .u32 0) = #[.int .u32 0] from rfl, toList_madeCells_one] at hown3
 clear hgrow3 t1 t3
 have HLT := Ae (Dj z.natAbs)
 have HLT' := Ae (Dj z'.natAbs)
 go_loopw [26] (fun v26 wr => ∃ (i : Nat) (l : List Nat), i ≤ n ∧ v26 = .int .i64 i ∧ Hid (Ga (dg z.natAbs) (dg z'.natAbs) i 0 0 l) ∧
   wr.ownsRow w2.heap.size 112 1 (.slice (some ⟨w2.heap.size, 0, none⟩) (n + n') (n + n')) (n + n') (Bv l) ∧ Below w2.heap.size w2 wr) (fun v26 _ => n - (intOf v26).toNat)
 case atStart =>
  refine ⟨0, List.replicate (n + n') 0, Nat.zero_le _, rfl, Ae ?_, ?_, HB3⟩
  ·have := Ga.start (dg z.natAbs) (dg z'.natAbs)
   rw [hlx.out, hly.out] at this
   exact this
  ·rw [Ew]; exact hown3
 case round =>
  obtain ⟨i, l, hik, rfl, HM, hown, hBr⟩ := hrel
  have HBr : Below w.heap.size w wr := HB.trans (hBr.mono HB.size)
  have HBz := hBr.size
  have hlt1 := (hown.lt w2.heap.size rfl).2
  have t0 := Au hBr u0
  have t1 := Au hBr u1
  have t2 := Au hBr u2
  have t3 := Au hBr u3
  have t4 := Au hBr u4
  have t5 := Au hBr u5
  by_cases hlt : i < n
  ·obtain ⟨b, o, rfl, c1⟩ := (h.rd.keep HBr).at' hlt
   obtain ⟨x, hx⟩ : ∃ x : Nat, x = (dg z.natAbs).getD i 0 := ⟨_, rfl⟩
   rw [Du, ← hx] at c1
   have hxl : x < 1000000000 := by rw [hx]; exact Cc HLT.out i
   have HX := Ae hx
   clear hx
   go_wp2_with fail
   go_loopw [8, 34] (fun v8 v34 wi => ∃ (k on : Nat) (l : List Nat), k ≤ n' ∧ v34 = .int .i64 k ∧ v8 = .int .u64 on ∧ on < 1000000000 ∧ Hid (Ga (dg z.natAbs) (dg z'.natAbs) i k on l) ∧
     wi.ownsRow w2.heap.size 112 1 (.slice (some ⟨w2.heap.size, 0, none⟩) (n + n') (n + n')) (n + n') (Bv l) ∧ Below w2.heap.size w2 wi) (fun _ v34 _ => n' - (intOf v34).toNat)
   case atStart => exact ⟨0, 0, l, Nat.zero_le _, rfl, rfl, by omega, HM, hown, hBr⟩
   case round =>
    clear hown hBr HBr HBz hlt1 t0 t1 t2 t3 t4 t5
    obtain ⟨k, on, l1, hkk, rfl, rfl, hon, HM1, hown, hBr⟩ := hrel
    have HBr : Below w.heap.size w wr := HB.trans (hBr.mono HB.size)
    have HBz := hBr.size
    have hlt1 := (hown.lt w2.heap.size rfl).2
    have t3 := Au hBr u3
    by_cases hkt : k < n'
    ·obtain ⟨b', o', rfl, c2⟩ := (h'.rd.keep HBr).at' hkt
     obtain ⟨y, hy⟩ : ∃ y : Nat, y = (dg z'.natAbs).getD k 0 := ⟨_, rfl⟩
     rw [Du, ← hy] at c2
     have hyl : y < 1000000000 := by rw [hy]; exact Cc HLT'.out k
     have hlen := HM1.out.len
     rw [hlx.out, hly.out] at hlen
     have hcell := hown.cellAt (i + k) qB
     rw [Hb qB] at hcell
     have hfr := hown.frozenAt (i + k)
     obtain ⟨u, hu⟩ : ∃ u : Nat, u = l1.getD (i + k) 0 := ⟨_, rfl⟩
     have hul : u < 1000000000 := by rw [hu]; exact Cc HM1.out.lt _
     rw [← hu] at hcell
     obtain ⟨t, ht⟩ : ∃ t : Nat, t = on + x * y + u := ⟨_, rfl⟩
     have hst := Ae (HM1.out.step HLT.out HLT'.out (by rw [hlx.out]; exact hlt) (by rw [hly.out]; exact hkt) (show t = on + (dg z.natAbs).getD i 0 * (dg z'.natAbs).getD k 0 + l1.getD (i + k) 0 by rw [ht, HX.out, hy, hu]))
     have htl := Ly hxl hyl hul hon
     rw [← ht] at htl
     have hq : ((on : Int) + ((x : Int) * (y : Int) + (u : Int))) = (t : Int) := by rw [ht]; simp [Int.add_assoc]
     have hxy0 : (0 : Int) ≤ (x : Int) * (y : Int) := Int.mul_nonneg qB qB
     have hij : ((i : Int) + (k : Int)).toNat = i + k := by omega
     have HQ := Ae hq
     have hxy1 : (x : Int) * (y : Int) + (u : Int) + (on : Int) < 1000000000000000000 := by omega
     have hm0 : 0 ≤ ((on : Int) + ((x : Int) * (y : Int) + (u : Int))) % 1000000000 := by omega
     have hm1 : ((on : Int) + ((x : Int) * (y : Int) + (u : Int))) % 1000000000 < 1000000000 := by omega
     have hd0 : 0 ≤ ((on : Int) + ((x : Int) * (y : Int) + (u : Int))) / 1000000000 := by omega
     have hd1 : ((on : Int) + ((x : Int) * (y : Int) + (u : Int))) / 1000000000 < 1000000000 := by omega
     have HST := Ae (hown.stored (i + k) (.int .u32 (((on : Int) + ((x : Int) * (y : Int) + (u : Int))) % 1000000000))).1
     clear hu hy ht hq hlen htl
     exact qCe
    ·obtain rfl : k = n' := by omega
     have hlen := HM1.out.len
     rw [hlx.out, hly.out] at hlen
     have hcell := hown.cellAt (i + k) qB
     rw [Hb qB] at hcell
     have hfr := hown.frozenAt (i + k)
     have hst : Hid (Ga (dg z.natAbs) (dg z'.natAbs) (i + 1) 0 0 (l1.set (i + k) on)) := by
      have h1 := HM1.out
      have h2 := hly.out
      subst h2
      exact Ae (h1.next (by rw [hlx.out]; exact hlt))
     exact qCa
  ·obtain rfl : i = n := by omega
   have hst := HM.out
   have h2 := hlx.out
   have hrd := Cr hown qB (fun j => Bi (fun x hx => by have := hst.lt x hx; omega) j)
   have hfr := Av.of_owns hown
   have hval : sgn (!(g == g')) (val l) = z * z' := by
    subst h2
    rw [hst.done]
    exact Wr h.neg h'.neg
   have HV := Ae hval
   clear hval h2
   go_wp2_with fail
   refine (E6 _ _ _ _ _ l hrd hst.lt).mono ?_
   rintro e w5 ⟨g3, n3, rfl, hn3, hnum, hb⟩
   have q4 := Au hb t4
   have q5 := Au hb t5
   have q6 : w5.frozen? ⟨w.heap.size + 1 + 1, 0, none⟩ = false := (hb.frozen (by show w.heap.size + 1 + 1 < _; omega)).trans ((hBr.frozen (by show w.heap.size + 1 + 1 < _; omega)).trans v4)
   have q7 : w5.frozen? ⟨w.heap.size + 1 + 1, 1, none⟩ = false := (hb.frozen (by show w.heap.size + 1 + 1 < _; omega)).trans ((hBr.frozen (by show w.heap.size + 1 + 1 < _; omega)).trans v5)
   have hfr5 : Av (w.heap.size + 1 + 1 + 1) w5 (some ⟨w2.heap.size, 0, none⟩) n3 := ((hfr.keep hb).less qB).mono qB
   have hz5 := hb.size
   rw [HV.out] at hnum
   have HB5 : Below w.heap.size w w5 := HBr.trans (hb.mono HBr.size)
   go_wp2_with fail
   refine bodyPost_ret (v := .agg #[.bool g3, .slice (some ⟨w2.heap.size, 0, none⟩) n3 n3]) (by simp [results, Tryz.results174, go_sem, q4, q5]) rfl ?_
   refine ⟨g3, _, n3, n3, rfl, ?_, ?_, by go_grown⟩
   ·exact qFf
   ·exact qFk
theorem Ud (w : World) (M : Int) (m : Nat) (hM : M = m) (c1 c2 : Value) (D : Nat → Int) (hm : m ≤ 35184372088832)
  (hD : ∀ i, i < m → -4000000000000000000 ≤ D i ∧ D i ≤ 4000000000000000000)
  (hcall : ∀ (i : Nat) (W : World), i < m → Below w.heap.size w W → Calls Tryz.prog 328 #[.int .i64 i, c1, c2] W fun e W' => e = .returned (.int .i64 (D i)) ∧ Below W.heap.size W W') :
  Calls Tryz.prog 271 #[.int .i64 M, .func (.func 328) #[] #[c1, c2]] w (H9 w m D) := by
 subst hM
 exact Wy w m c1 c2 D hm hD hcall
theorem bY (w : World) (A B : Nat) (a : Option Addr) (n c : Nat) (d : List Nat) (by' : Nat) (hb : by' < 1000000000) (i : Nat) (hd : RdL w a n c d) (hlt : lim d i < 1000000000)
  (h1 : w.cell? ⟨A, 0, none⟩ = some (.slice a n c)) (h2 : w.cell? ⟨B, 0, none⟩ = some (.int .u32 by')) :
  Calls Tryz.prog 328 #[.int .i64 i, .pointer (some ⟨A, 0, none⟩), .pointer (some ⟨B, 0, none⟩)] w fun e w' => e = .returned (.int .i64 (lim d i * by')) ∧ Below w.heap.size w w' := by
 have hs := hd.small i
 have h0 : 0 ≤ lim d i * (by' : Int) := Int.mul_nonneg hs.1 qB
 have h1' : lim d i * (by' : Int) ≤ 999999999 * 999999999 := Int.mul_le_mul qB qB qB qB
 go_enter Tryz.func328, Tryz.ntmps328
 go_wp2
 go_quiet ((first | (go_at_call 273; first | exact In (Gu _ _ _ _ d i (hd.keep (Ay _ (Ac _ _)))) | exact Ha (Gu _ _ _ _ d i (hd.keep (Ay _ (Ac _ _)))))))
 exact qEm
theorem cS (d : List Nat) (k m : Nat) (h : d.length ≤ m) : Cl (fun i => lim d i * (k : Int)) m = ((val d * k : Nat) : Int) := by
 have e : Cl (fun i => lim d i * (k : Int)) m = Cl (fun i => (k : Int) * (fun i => lim d i) i) m := Kj (fun i _ => Int.mul_comm _ _)
 rw [e, M4 (fun i => lim d i), show Cl (fun i => lim d i) m = val d from Gg d m h]
 simp [Int.mul_comm]
def bZ (w : World) (n N : Nat) (e : Ending) (w' : World) : Prop :=
 ∃ a, e = .returned (.slice a (n + 1) (n + 1)) ∧ RdL w' a (n + 1) (n + 1) (fx (n + 1) N) ∧ N < 1000000000 ^ (n + 1) ∧ Av w.heap.size w' a (n + 1) ∧ Below w.heap.size w w'
theorem Vg (w : World) (a : Option Addr) (n c : Nat) (d : List Nat) (by' : Nat) (hd : RdL w a n c d) (hlt : ∀ x ∈ d, x < 1000000000) (hb : by' < 1000000000) (hn : n < 35184372088832) :
  Calls Tryz.prog 298 #[.slice a n c, .int .u32 by'] w (bZ w n (val d * by')) := by
 have HB := Ac w.heap.size w
 have hlen := hd.len
 have HDD : Hid (∀ i, i < n + 1 → -4000000000000000000 ≤ (fun i => lim d i * (by' : Int)) i ∧ (fun i => lim d i * (by' : Int)) i ≤ 4000000000000000000) := Ae (by
  intro i _
  have hs := hd.small i
  have h0 : 0 ≤ lim d i * (by' : Int) := Int.mul_nonneg hs.1 qB
  have h1' : lim d i * (by' : Int) ≤ 999999999 * 999999999 := Int.mul_le_mul (by have := Gf hlt i; omega) qB qB qB
  show -4000000000000000000 ≤ lim d i * (by' : Int) ∧ lim d i * (by' : Int) ≤ 4000000000000000000
  omega)
 have HL := Ae hlt
 have HN : Hid (val d * by' < 1000000000 ^ (n + 1)) := Ae (by
  have h1 := Eg d hlt
  rw [hlen] at h1
  rw [Nat.pow_succ]
  exact Nat.mul_lt_mul'' h1 hb)
 clear hlt
 go_enter Tryz.func298, Tryz.ntmps298
 go_wp2_with fail
 refine (Ud _ _ (n + 1) qB _ _ (fun i => lim d i * (by' : Int)) qB HDD.out (fun i W hi hW => bY W w.heap.size (w.heap.size + 1) a n c d by' hb i (hd.keep (Al qF (hW.mono qA))) (by have := Gf HL.out i; omega) (Au hW qJ) (Au hW qJ))).mono ?_
 rintro e w4 ⟨ac, rfl, hr, hfr, hb4⟩
 have HB4 := zD w hb4
 rw [cS d by' (n + 1) qB, V9] at hr
 have hfr2 : Av w.heap.size w4 ac (n + 1) := hfr.mono qA
 go_wp2_with fail
 go_ret
 exact ⟨ac, rfl, hr, HN.out, hfr2, HB4⟩
@[go_sem ↓] theorem gG (w : World) (g : Bool) (a : Option Addr) (n c : Nat) : (Instr.field 59 (.agg #[.bool g, .slice a n c]) 1).run Tryz.prog w = .ok (.slice a n c) w := by kernel_rfl
theorem bR (w : World) (a : Option Addr) (n c : Nat) (d : List Nat) (a' : Option Addr) (n' c' : Nat) (d' : List Nat) (k : Nat) (hd : RdL w a n c d) (hd' : RdL w a' n' c' d') (hlt : ∀ x ∈ d, x < 1000000000) (hlt' : ∀ x ∈ d', x < 1000000000)
  (hk : k < 1000000000) (hn' : n' < 35184372088832) :
  Calls Tryz.prog 300 #[.slice a n c, .slice a' n' c', .int .u64 k] w fun e w' => e = .returned (.bool (decide (val d < val d' * k))) ∧ Below w.heap.size w w' := by
 have HB := Ac w.heap.size w
 have HL := Ae hlt
 have HL' := Ae hlt'
 clear hlt hlt'
 go_enter Tryz.func300, Tryz.ntmps300
 go_wp2_with fail
 refine (Lh _ _ _ _ d hd).mono ?_
 rintro e w1 ⟨a1, c1, rfl, hr1, hf1, hb1⟩
 have HB1 := zD w hb1
 go_wp2_with fail
 refine (E6 _ _ _ _ _ d hr1 HL.out).mono ?_
 rintro e w2 ⟨g2, n2, rfl, hn2, hnum2, hb2⟩
 have HB2 : Below w.heap.size w w2 := Al HB1 (hb2.mono HB1.size)
 go_wp2_with fail
 refine (Vg _ _ _ _ d' k (hd'.keep HB2) HL'.out hk hn').mono ?_
 rintro e w3 ⟨a3, rfl, hr3, hN, hf3, hb3⟩
 have HB3 : Below w.heap.size w w3 := Al HB2 (hb3.mono HB2.size)
 have HN := Ae (L9 _ _ hN)
 clear hN
 go_wp2_with fail
 refine (E6 _ _ _ _ _ _ hr3 (Yy _ _)).mono ?_
 rintro e w4 ⟨g4, n4, rfl, hn4, hnum4, hb4⟩
 have HB4 : Below w.heap.size w w4 := Al HB3 (hb4.mono HB3.size)
 have hr2 := (hnum2.rd.keep hb3).keep hb4
 rw [Fr] at hr2
 have hr4 := hnum4.rd
 rw [Fr, HN.out] at hr4
 clear hnum2 hnum4
 go_wp2_with fail
 refine (Ek _ _ _ _ _ _ _ _ _ hr2 hr4 (Bp _) (Bp _)).mono ?_
 rintro e w5 ⟨rfl, hb5⟩
 have HB5 : Below w.heap.size w w5 := Al HB4 (hb5.mono HB4.size)
 rw [Ba, Ba]
 have hr : ∀ x y : Nat, decide (Br (x : Int) (y : Int) < 0) = decide (x < y) := by
  intro x y
  exact qDt
 replace hr := hr (val d) (val d' * k)
 rw [Int.natCast_mul] at hr
 have HR := Ae hr
 clear hr
 go_wp2_with fail
 go_ret
 exact ⟨congrArg (fun b => Ending.returned (.bool b)) HR.out, HB5⟩
theorem Pn (W : World) (g o n c k : Nat) (hk : k ≤ c) : (Instr.sliceAt 57 (.slice (some ⟨g, o, none⟩) n c) none (some (.int .i64 (k : Int))) none).run Tryz.prog W = .ok (.slice (some ⟨g, o, none⟩) k c) W := by
 exact qCr
theorem dU (W : World) (g o n c i k : Nat) (hi : i ≤ k) (hk : k ≤ c) (hc : i < c) : (Instr.sliceAt 57 (.slice (some ⟨g, o, none⟩) n c) (some (.int .i64 (i : Int))) (some (.int .i64 (k : Int))) none).run Tryz.prog W = .ok (.slice (some ⟨g, o + i, none⟩) (k - i) (c - i)) W := by
 have h0 : (0 : Int) ≤ (k : Int) := by omega
 have h3 : (0 : Int) ≤ (i : Int) := by omega
 have h4 : c ≠ i := by omega
 simp [Instr.sliceAt, Instr.slice, Instr.sliceBounds, Instr.sliceBound, go_sem, h0, h3, h4, hk, hi]
theorem RdL.front {w : World} {a : Option Addr} {n c : Nat} {d : List Nat} (h : RdL w a n c d) {k : Nat} (hk : k ≤ n) : RdL w a k c (d.take k) := by
 have hl := h.len
 refine ⟨by rw [List.length_take]; omega, Ah hk h.cap, Ah hk h.few, h.top, fun i => ?_, ?_⟩
 ·rcases Nat.lt_or_ge i k with h1 | h1
  ·have : lim (d.take k) i = lim d i := by simp [lim, List.getD, List.getElem?_take, h1]
   rw [this]; exact h.small i
  ·have : lim (d.take k) i = 0 := by simp [lim, List.getD, List.getElem?_take, Nat.not_lt.2 h1]
   rw [this]; omega
 ·rcases h.cell with h0 | ⟨b, o, ha, hc⟩
  ·exact .inl qB
  ·refine .inr ⟨b, o, ha, fun i hi => ?_⟩
   have : lim (d.take k) i = lim d i := by simp [lim, List.getD, List.getElem?_take, hi]
   rw [this]
   exact hc i qB
theorem RdL.mid {w : World} {b o n c : Nat} {d : List Nat} (h : RdL w (some ⟨b, o, none⟩) n c d) {i k : Nat} (hk : i + k ≤ n) : RdL w (some ⟨b, o + i, none⟩) k (c - i) ((d.drop i).take k) := by
 have hl := h.len
 have hcp := h.cap
 have hfw := h.few
 have htp := h.top
 have e : ∀ j, j < k → lim ((d.drop i).take k) j = lim d (i + j) := fun j hj => by simp [lim, List.getD, List.getElem?_take, hj, List.getElem?_drop]
 refine ⟨by rw [List.length_take, List.length_drop]; omega, by omega, by omega, by omega, fun j => ?_, .inr ⟨b, o + i, rfl, fun j hj => ?_⟩⟩
 ·rcases Nat.lt_or_ge j k with h1 | h1
  ·rw [e j h1]; exact h.small _
  ·have : lim ((d.drop i).take k) j = 0 := by simp [lim, List.getD, List.getElem?_take, Nat.not_lt.2 h1]
   rw [this]; omega
 ·rw [e j hj, Nat.add_assoc]
  exact h.at qB
theorem fD {d : List Nat} (h : ∀ x ∈ d, x < 1000000000) (i k : Nat) : ∀ x ∈ (d.drop i).take k, x < 1000000000 := fun x hx => h x (List.mem_of_mem_drop (List.mem_of_mem_take hx))
def A6 : List UInt8 → Int → Bool
 | [], _ => false
 | b :: _, c => decide ((b.toNat : Int) = c)
theorem If (b : UInt8) (r : List UInt8) : (⟨(b :: r).toArray⟩ : ByteArray).extract 1 (r.length + 1) = ⟨r.toArray⟩ := by
 apply ByteArray.ext
 simp
theorem To (w : World) (R : Nat) (c : Int) (h0 : w.cell? ⟨R, 0, none⟩ = some (.string ⟨([] : List UInt8).toArray⟩)) (hf : w.frozen? ⟨R, 0, none⟩ = false) (h1 : 0 ≤ c) (h2 : c < 256) :
  Calls Tryz.prog 129 #[.pointer (some ⟨R, 0, none⟩), .int .u8 c] w (fun e w' => e = .returned (.bool false) ∧ w' = w) := by
 go_enter Tryz.func129, Tryz.ntmps129
 go_wp2
 exact bodyPost_ret (v := .bool false) (by simp [results, Tryz.results129, go_sem]) rfl ⟨rfl, rfl⟩
theorem Q7 (w : World) (R : Nat) (b : UInt8) (r : List UInt8) (c : Int) (h0 : w.cell? ⟨R, 0, none⟩ = some (.string ⟨(b :: r).toArray⟩)) (hf : w.frozen? ⟨R, 0, none⟩ = false) (h1 : 0 ≤ c) (h2 : c < 256) (hr : r.length < 1000000000) :
  Calls Tryz.prog 129 #[.pointer (some ⟨R, 0, none⟩), .int .u8 c] w (fun e w' => e = .returned (.bool (decide ((b.toNat : Int) = c))) ∧ (if (b.toNat : Int) = c then w' = w.setCell ⟨R, 0, none⟩ (.string ⟨r.toArray⟩) else w' = w)) := by
 have hx := If b r
 have hy : (⟨(b :: r).toArray⟩ : ByteArray)[0]'(by simp [ByteArray.size]) = b := by simp [ByteArray.getElem_eq_getElem_data]
 go_enter Tryz.func129, Tryz.ntmps129
 go_wp2
 all_goals first
  | exact bodyPost_ret (v := .bool true) (by simp [results, Tryz.results129, go_sem]) rfl ⟨rfl, rfl⟩
  | exact bodyPost_ret (v := .bool false) (by simp [results, Tryz.results129, go_sem]) rfl ⟨rfl, rfl⟩
  | (exfalso; simp_all; done)
theorem Xa (w : World) (R : Nat) (l : List UInt8) (c : Int) (h0 : w.cell? ⟨R, 0, none⟩ = some (.string ⟨l.toArray⟩)) (hf : w.frozen? ⟨R, 0, none⟩ = false) (h1 : 0 ≤ c) (h2 : c < 256) (hr : l.length < 1000000000) :
  Calls Tryz.prog 129 #[.pointer (some ⟨R, 0, none⟩), .int .u8 c] w (fun e w' => e = .returned (.bool (A6 l c)) ∧ w' = if A6 l c then w.setCell ⟨R, 0, none⟩ (.string ⟨l.tail.toArray⟩) else w) := by
 cases l with
 | nil => exact To w R c h0 hf h1 h2
 | cons b r =>
  refine (Q7 w R b r c h0 hf h1 h2 (by simp at hr; omega)).mono ?_
  rintro e w' ⟨rfl, h⟩
  refine ⟨rfl, ?_⟩
  simp only [A6, List.tail_cons, decide_eq_true_eq]
  by_cases hb : (b.toNat : Int) = c
  ·simpa [hb] using h
  ·simpa [hb] using h
end Go.Proofs.YtdamegaedmckbaaGreatDoor
end
