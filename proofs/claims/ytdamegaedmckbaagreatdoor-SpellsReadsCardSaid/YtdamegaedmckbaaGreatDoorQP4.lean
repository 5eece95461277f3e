/- Package limbs: Of; slices.Clone; wide; short. -/
import Derived.Test.YtdamegaedmckbaaGreatDoorQP3
set_option linter.unusedSimpArgs false
set_option linter.unusedVariables false
set_option maxRecDepth 100000
set_option maxHeartbeats 4000000
section
namespace Go.Proofs.YtdamegaedmckbaaGreatDoor
open Go.RowKit
def cR (w : World) (n : Nat) (d : List Nat) (e : Ending) (w' : World) : Prop :=
 ∃ a c, e = .returned (.slice a n c) ∧ RdL w' a n c d ∧ Av w.heap.size w' a c ∧ Below w.heap.size w w'
theorem Bi {d : List Nat} (h : ∀ x ∈ d, x < 4294967296) (i : Nat) : 0 ≤ lim d i ∧ lim d i < 4294967296 := by
 by_cases hi : i < d.length
 ·have := h _ (List.getElem_mem hi)
  exact qEb
 ·rw [J1 (Nat.le_of_not_lt hi)]; omega
theorem Dr {w : World} {base n : Nat} {v : Value} {d : List Nat} (h : w.ownsRow base 112 1 v n (Bv d)) (hn : n ≤ 35184372088832) (hs : ∀ i, 0 ≤ lim d i ∧ lim d i < 4294967296) :
  ∃ a c, v = .slice a n c ∧ RdL w a n c d ∧ Av base w a c := by
 have hlen : d.length = n := by have := h.1; rw [Cf] at this; omega
 rcases h.2 with ⟨rfl, rfl⟩ | ⟨g, cap, cur, rfl, hb, hg, hnc, hcm, hcs, _⟩
 ·exact ⟨none, 0, rfl, ⟨hlen, Ad _, by omega, by omega, hs, .inl rfl⟩, .inl rfl⟩
 ·exact ⟨_, _, rfl, Cr h hn hs, .inr ⟨g, cur, rfl, hb, hg, by omega⟩⟩
theorem S5 {d : List Nat} {n : Nat} (hl : d.length = n) (j : Nat) (u : Value) (h : (Bv d)[j]? = some u) : j < n ∧ u = .int .u32 (lim d j) := by
 have hj : j < d.length := by
  rcases Nat.lt_or_ge j d.length with h1 | h1
  ·exact h1
  ·rw [List.getElem?_eq_none (by rw [Cf]; exact h1)] at h; cases h
 rw [Tf d j hj] at h
 exact ⟨by omega, (Option.some.inj h).symm⟩
theorem H5 {w : World} {b o n c : Nat} {d : List Nat} (h : RdL w (some ⟨b, o, none⟩) n c d) : ∀ j u, (Bv d)[j]? = some u → w.cell? ((⟨b, o, none⟩ : Addr).add j) = some u := by
 intro j u hj
 obtain ⟨h1, rfl⟩ := S5 h.len j u hj
 have hadd : (⟨b, o, none⟩ : Addr).add j = ⟨b, o + j, none⟩ := by unfold Addr.add; split <;> simp_all
 rw [hadd]
 exact h.at h1
theorem I3 (d : List Nat) : ∀ u ∈ Bv d, u.oneCell' = true := by
 intro u hu
 simp only [Bv, List.mem_map] at hu
 obtain ⟨z, _, rfl⟩ := hu
 rfl
theorem Lh (w : World) (a : Option Addr) (n c : Nat) (d : List Nat) (hd : RdL w a n c d) :
  Calls Tryz.prog 211 #[.slice a n c] w (cR w n d) := by
 obtain ⟨i0, hi, hz0, hz1, hz2⟩ := info_parts Cu
 have hn := hd.few
 have HB := Ac w.heap.size w
 match a, hd with
 | none, hd =>
  have h0 : n = 0 := by
   rcases hd.cell with h | ⟨b, o, h, _⟩
   ·exact h
   ·cases h
  subst h0
  have hdn : d = [] := List.eq_nil_of_length_eq_zero hd.len
  have hq := fun (W : World) => Lib.run_eql_slice_nil (P := Tryz.prog) W 57 112 none 0 c 0 0 Tryz.underlying57
  have HN := Ae hdn
  clear hdn
  go_enter Tryz.func211, Tryz.ntmps211
  go_wp2
  go_ret
  exact ⟨none, 0, rfl, by rw [HN.out]; exact ⟨rfl, Ad _, by omega, by omega, fun i => by simp [lim], .inl rfl⟩, .inl rfl, HB⟩
 | some ad, hd =>
  have hsl : n = 0 ∨ ∃ b o, ad = ⟨b, o, none⟩ := by
   rcases hd.cell with h | ⟨b, o, h, _⟩
   ·exact .inl h
   ·exact .inr ⟨b, o, by cases h; rfl⟩
  have hcs : ∀ (W : World), Below w.heap.size w W → ∀ j u, (Bv d)[j]? = some u → W.cell? (ad.add j) = some u := by
   intro W hW j u hj
   rcases hsl with h0 | ⟨b, o, rfl⟩
   ·have := (S5 hd.len j u hj).1
    omega
   ·exact H5 (hd.keep hW) j u hj
  have HCS := Ae hcs
  clear hcs
  have hq := fun (W : World) => Lib.run_eql_slice_nil (P := Tryz.prog) W 57 112 (some ad) n c 0 0 Tryz.underlying57
  go_enter Tryz.func211, Tryz.ntmps211
  have hlit : ∀ W : World, (W.alloc (.cells #[] 112)).ownsRow W.heap.size 112 1 (.slice (some ⟨W.heap.size, 0, none⟩) 0 0) 0 [] := fun W => World.ownsRow_lit (size := 1) W #[] 0 (Ad _) qO qH
  have HLIT := Ae hlit
  clear hlit
  go_wp2_with (at_builtin; refine wpList_append_own _ rfl _ _ 57 rfl w.heap.size 112 i0 (.int .u32 0) 1 4 Tryz.underlying57 hi hz0 hz1 hz2 rfl qC _ _ _ rfl (HLIT.out w) ad n c (Bv d) rfl (by rw [Cf, hd.len]; omega) (HCS.out _ qF) (I3 d) qO qB qA ?_; intro v' w1 hown' hgrow hnil)
  rw [Nat.zero_add, List.nil_append] at hown'
  obtain ⟨a', c', rfl, hr, hfr⟩ := Dr hown' hn hd.small
  go_ret
  refine ⟨a', c', rfl, hr, hfr, ?_⟩
  exact ((Ac w.heap.size w).alloc (Ad _) _).grown hgrow qA (fun k h => by cases h; exact Ad _)
theorem Lq (A : Nat) (hA : A ≤ 9223372036854775808) (hA0 : 0 < A) : IntKind.u64.wrap (-IntKind.u64.wrap (-(A : Int))) = A := by
 simp only [IntKind.wrap_u64]
 omega
theorem gT : (1000000000 : Nat) ^ 3 = 1000000000000000000000000000 := by decide
theorem Nc (l : List Nat) (x : Nat) : val (l ++ [x]) = val l + 1000000000 ^ l.length * x := by rw [Ex]; simp [val]
theorem Un {l : List Nat} {v A : Nat} (h : val l + 1000000000 ^ l.length * v = A) (hA : A ≤ 9223372036854775808) (hv : 0 < v) : l.length ≤ 2 := by
 rcases Nat.lt_or_ge 2 l.length with h1 | h1
 ·exfalso
  have h2 : 1000000000 ^ 3 ≤ 1000000000 ^ l.length := Nat.pow_le_pow_right qB h1
  rw [gT] at h2
  have h3 : 1000000000 ^ l.length * 1 ≤ 1000000000 ^ l.length * v := At _ hv
  omega
 ·exact h1
theorem Sa {l : List Nat} {v A : Nat} (h : val l + 1000000000 ^ l.length * v = A) : val (l ++ [v % 1000000000]) + 1000000000 ^ (l ++ [v % 1000000000]).length * (v / 1000000000) = A := by
 rw [Nc, List.length_append, List.length_singleton, Nat.pow_succ, Nat.mul_assoc, Nat.add_assoc, ← Nat.mul_add]
 have : v % 1000000000 + 1000000000 * (v / 1000000000) = v := by omega
 rw [this]
 exact h
theorem eQ (w : World) (A : Nat) (hA : A ≤ 9223372036854775807) : Calls Tryz.prog 27 #[.int .i64 (A : Int)] w (C4 w (A : Int)) := by
 obtain ⟨i0, hi, hz0, hz1, hz2⟩ := info_parts Cu
 have HB := Ac w.heap.size w
 go_enter Tryz.func27, Tryz.ntmps27
 go_wp2_with fail
 go_loopw [3, 4] (fun v3 v4 wr => ∃ (l : List Nat) (v : Nat), v3 = .int .u64 v ∧ Hid (val l + 1000000000 ^ l.length * v = A) ∧ l.length ≤ 3 ∧ v ≤ 9223372036854775808 ∧ (∀ x ∈ l, x < 1000000000) ∧ wr.ownsRow (w.heap.size + 1) 112 1 v4 l.length (Bv l) ∧ w.heap.size < wr.heap.size ∧ wr.cell? ⟨w.heap.size, 0, none⟩ = some (.bool false) ∧ wr.cell? ⟨w.heap.size, 1, none⟩ = some (.slice none 0 0) ∧ wr.frozen? ⟨w.heap.size, 0, none⟩ = false ∧ wr.frozen? ⟨w.heap.size, 1, none⟩ = false ∧ Below w.heap.size w wr) (fun v3 _ _ => (intOf v3).toNat)
 case atStart => exact ⟨[], A, (by first | rfl | exact congrArg (Value.int .u64) (Lq A hA hA0)), Ae (by simp [val]), by simp, by omega, fun x hx => (by cases hx), World.ownsRow_nil _ _ _ _, by simp, by simp [go_sem], by simp [go_sem], by simp [go_sem], by simp [go_sem], by go_grown⟩
 case round =>
  obtain ⟨l, v, rfl, hv, hl3, hvb, hlt, hown, hlr, k0, k1, f0, f1, HB⟩ := hrel
  have HBz := HB.size
  have HLT := Ae hlt
  clear hlt
  by_cases hp : 0 < v
  ·exact qAp
  ·obtain rfl : v = 0 := by omega
   have hv0 := Ae (show val l = A by have := hv.out; simpa using this)
   obtain ⟨a', c', rfl, hr, hfr⟩ := Dr hown qB (fun i => Bi (fun x hx => by have := HLT.out x hx; omega) i)
   go_wp2_with fail
   refine (E6 _ false a' l.length c' l hr HLT.out).mono ?_
   exact qBb
theorem fU (w : World) (A : Nat) (hA : A ≤ 9223372036854775808) (hA0 : 0 < A) : Calls Tryz.prog 27 #[.int .i64 (-(A : Int))] w (C4 w (-(A : Int))) := by
 obtain ⟨i0, hi, hz0, hz1, hz2⟩ := info_parts Cu
 have HB := Ac w.heap.size w
 have hneg : -(A : Int) < 0 := by omega
 have hmin : -9223372036854775808 ≤ -(A : Int) := by omega
 go_enter Tryz.func27, Tryz.ntmps27
 go_wp2_with fail
 go_loopw [3, 4] (fun v3 v4 wr => ∃ (l : List Nat) (v : Nat), v3 = .int .u64 v ∧ Hid (val l + 1000000000 ^ l.length * v = A) ∧ l.length ≤ 3 ∧ v ≤ 9223372036854775808 ∧ (∀ x ∈ l, x < 1000000000) ∧ wr.ownsRow (w.heap.size + 1) 112 1 v4 l.length (Bv l) ∧ w.heap.size < wr.heap.size ∧ wr.cell? ⟨w.heap.size, 0, none⟩ = some (.bool false) ∧ wr.cell? ⟨w.heap.size, 1, none⟩ = some (.slice none 0 0) ∧ wr.frozen? ⟨w.heap.size, 0, none⟩ = false ∧ wr.frozen? ⟨w.heap.size, 1, none⟩ = false ∧ Below w.heap.size w wr) (fun v3 _ _ => (intOf v3).toNat)
 case atStart => exact ⟨[], A, (by first | rfl | exact congrArg (Value.int .u64) (Lq A hA hA0)), Ae (by simp [val]), by simp, by omega, fun x hx => (by cases hx), World.ownsRow_nil _ _ _ _, by simp, by simp [go_sem], by simp [go_sem], by simp [go_sem], by simp [go_sem], by go_grown⟩
 case round =>
  obtain ⟨l, v, rfl, hv, hl3, hvb, hlt, hown, hlr, k0, k1, f0, f1, HB⟩ := hrel
  have HBz := HB.size
  have HLT := Ae hlt
  clear hlt
  by_cases hp : 0 < v
  ·exact qAp
  ·obtain rfl : v = 0 := by omega
   have hv0 := Ae (show val l = A by have := hv.out; simpa using this)
   obtain ⟨a', c', rfl, hr, hfr⟩ := Dr hown qB (fun i => Bi (fun x hx => by have := HLT.out x hx; omega) i)
   go_wp2_with fail
   refine (E6 _ true a' l.length c' l hr HLT.out).mono ?_
   exact qBb
theorem Sz (w : World) (z : Int) (h0 : -9223372036854775808 ≤ z) (h1 : z ≤ 9223372036854775807) : Calls Tryz.prog 27 #[.int .i64 z] w (C4 w z) := by
 rcases Int.lt_or_le z 0 with h | h
 ·have := fU w z.natAbs qB qB
  rwa [show -(z.natAbs : Int) = z by omega] at this
 ·have := eQ w z.natAbs qB
  rwa [show (z.natAbs : Int) = z by omega] at this
theorem E7 (d : List Nat) (j : Nat) (h : j < d.length) : val (d.drop j) = d.getD j 0 + 1000000000 * val (d.drop (j + 1)) := by
 rw [List.drop_eq_getElem_cons h, val]
 simp [List.getD, Ai h]
theorem Oi (a H by' : Nat) (hb : 0 < by') :
  (a + 1000000000 * H) / by' = (H % by' * 1000000000 + a) / by' + 1000000000 * (H / by') ∧ (a + 1000000000 * H) % by' = (H % by' * 1000000000 + a) % by' := by
 have e : a + 1000000000 * H = (H % by' * 1000000000 + a) + by' * (1000000000 * (H / by')) := by
  have h1 := Nat.mod_add_div H by'
  generalize H % by' = r at *
  generalize H / by' = q at *
  subst h1
  rw [Nat.mul_add, Nat.mul_left_comm by' 1000000000 q]
  omega
 constructor
 ·rw [e, Nat.add_mul_div_left _ _ hb]
 ·rw [e, Nat.add_mul_mod_self_left]
theorem Mh (a r by' : Nat) (hb : 0 < by') (hr : r < by') (ha : a < 1000000000) : (r * 1000000000 + a) / by' < 1000000000 := by
 rw [Nat.div_lt_iff_lt_mul hb]
 have : r * 1000000000 + 1000000000 ≤ by' * 1000000000 := by
  have := Nat.mul_le_mul_right 1000000000 (show r + 1 ≤ by' from hr)
  omega
 rw [Nat.mul_comm]
 omega
def Rp (w : World) (n by' : Nat) (d : List Nat) (e : Ending) (w' : World) : Prop :=
 ∃ a q, e = .returned (.tuple #[.slice a n n, .int .u32 ((val d % by' : Nat) : Int)]) ∧ RdL w' a n n q ∧ val q = val d / by' ∧ (∀ x ∈ q, x < 1000000000) ∧ Av w.heap.size w' a n ∧ Below w.heap.size w w'
theorem Ws (w : World) (a : Option Addr) (n c : Nat) (d : List Nat) (by' : Nat) (hd : RdL w a n c d) (hlt : ∀ x ∈ d, x < 1000000000) (hb0 : 0 < by') (hb1 : by' < 4294967296) :
  Calls Tryz.prog 258 #[.slice a n c, .int .u32 by'] w (Rp w n by' d) := by
 obtain ⟨i0, hi, hz0, hz1, hz2⟩ := info_parts Cu
 have hlen := hd.len
 have hn := hd.few
 have HLT := Ae hlt
 clear hlt
 go_enter Tryz.func258, Tryz.ntmps258
 go_wp2_with (refine wpList_make_full _ rfl _ _ 57 rfl w.heap.size 112 i0 (.int .u32 0) 1 Tryz.underlying57 hi hz0 hz1 .i64 .i64 _ _ n rfl rfl rfl rfl (by rw [hz2]; omega) qO (Ad _) ?_; intro w1 hown1 hgrow1)
 have HB : Below w.heap.size w w1 := (Ac _ _).grown hgrow1 (Ad _) (fun k h => by cases h)
 rw [Nat.mul_one, show Value.cells (.int .u32 0) = #[.int .u32 0] from rfl, toList_madeCells_one] at hown1
 clear hgrow1
 go_loopw [6, 7] (fun v6 v7 wr => ∃ (k r : Nat) (q : List Nat), k ≤ n ∧ v7 = .int .i64 ((k : Int) - 1) ∧ v6 = .int .u64 r ∧ r < by' ∧ Hid (r = val (d.drop k) % by') ∧ Hid (val q = val (d.drop k) / by') ∧ Hid (q.length = n - k) ∧ Hid (∀ x ∈ q, x < 1000000000) ∧
   wr.ownsRow w.heap.size 112 1 (.slice (some ⟨w.heap.size, 0, none⟩) n n) n (List.replicate k (.int .u32 0) ++ Bv q) ∧ Below w.heap.size w wr) (fun _ v7 _ => (intOf v7 + 1).toNat)
 case atStart => exact ⟨n, 0, [], Ad _, rfl, rfl, hb0, Ae (by rw [List.drop_of_length_le qB]; simp [val]), Ae (by rw [List.drop_of_length_le qB]; simp [val]), Ae qH, Ae (fun x hx => (by cases hx)), by simpa [Bv] using hown1, HB⟩
 case round =>
  obtain ⟨k, r, q, hk, rfl, rfl, hrb, hr, hq, hql, hqlt, hown, HB⟩ := hrel
  have HBz := HB.size
  have hlt1 := (hown.lt w.heap.size rfl).2
  clear hown1
  match k with
  | 0 =>
   exact qBz
  | j + 1 =>
   rw [show ((j + 1 : Nat) : Int) - 1 = (j : Int) from by omega]
   obtain ⟨b, o, rfl, c1⟩ := (hd.keep HB).at' (i := j) qB
   have hs := hd.small j
   have ha : d.getD j 0 < 1000000000 := by
    rw [List.getD, Ai qB]
    exact HLT.out _ (List.getElem_mem qB)
   have hlim : lim d j = ((d.getD j 0 : Nat) : Int) := rfl
   have hst := Oi (d.getD j 0) (val (d.drop (j + 1))) by' hb0
   rw [← E7 d j qB, ← hr.out, ← hq.out] at hst
   have HST := Ae hst
   have hdg := Mh (d.getD j 0) r by' hb0 hrb ha
   have hmod := Nat.mod_lt (r * 1000000000 + d.getD j 0) hb0
   have t1 : ((r : Int) * 1000000000 + lim d j) / (by' : Int) = (((r * 1000000000 + d.getD j 0) / by' : Nat) : Int) := by rw [hlim]; simp
   have t2 : ((r : Int) * 1000000000 + lim d j) % (by' : Int) = (((r * 1000000000 + d.getD j 0) % by' : Nat) : Int) := by rw [hlim]; simp
   have q1 : 0 ≤ ((r : Int) * 1000000000 + lim d j) / (by' : Int) := by rw [t1]; revert hdg; generalize (r * 1000000000 + d.getD j 0) / by' = X; intro h; omega
   have q2 : ((r : Int) * 1000000000 + lim d j) / (by' : Int) ≤ 999999999 := by rw [t1]; revert hdg; generalize (r * 1000000000 + d.getD j 0) / by' = X; intro h; omega
   have q3 : 0 ≤ ((r : Int) * 1000000000 + lim d j) % (by' : Int) := by rw [t2]; revert hmod; generalize (r * 1000000000 + d.getD j 0) % by' = X; intro h; omega
   have q4 : ((r : Int) * 1000000000 + lim d j) % (by' : Int) < by' := by rw [t2]; revert hmod; generalize (r * 1000000000 + d.getD j 0) % by' = X; intro h; omega
   have T1 := Ae t1
   have T2 := Ae t2
   have HM := Ae hmod
   have HDG := Ae hdg
   have hcell := hown.cellAt j qB
   rw [List.getElem?_append_left qH, List.getElem?_replicate, if_pos qB] at hcell
   have hfr := hown.frozenAt j
   have hb1' : (by' : Int) < 4294967296 := by omega
   have hb0' : (1 : Int) ≤ by' := by omega
   clear t1 t2 hst hlim ha hmod hdg
   go_wp2_with fail
   go_roundw
   case rel =>
    refine ⟨j, (r * 1000000000 + d.getD j 0) % by', (r * 1000000000 + d.getD j 0) / by' :: q, by omega, rfl, by rw [T2.out], HM.out, Ae HST.out.2.symm, Ae ?_, Ae ?_, Ae ?_, ?_, by go_grown⟩
    ·rw [val]; exact HST.out.1.symm
    ·have := hql.out; simp; omega
    ·intro x hx
     rcases List.mem_cons.1 hx with rfl | hx
     ·exact HDG.out
     ·exact hqlt.out x hx
    ·have := (hown.stored j (.int .u32 (((r : Int) * 1000000000 + lim d j) / (by' : Int)))).1
     exact qCv
   case measure => (first | (simp [intOf]; omega) | (simp [intOf]; done))
theorem Yk {d : List Nat} (h : ∀ i, i < d.length → lim d i < 1000000000) : ∀ x ∈ d, x < 1000000000 := by
 intro x hx
 obtain ⟨i, hi, rfl⟩ := List.getElem_of_mem hx
 have := h i hi
 simp only [lim, List.getD, Ai hi, Option.getD_some] at this
 omega
theorem Gf {d : List Nat} (h : ∀ x ∈ d, x < 1000000000) (i : Nat) : lim d i < 1000000000 := by
 by_cases hi : i < d.length
 ·have := h _ (List.getElem_mem hi)
  exact qEb
 ·rw [J1 qB]; omega
theorem Ei (w : World) (g : Bool) (a : Option Addr) (n c : Nat) (d : List Nat) (hd : RdL w a n c d) (r : Bool) (hr : Ix g d ↔ r = true) :
  Calls Tryz.prog 234 #[.agg #[.bool g, .slice a n c]] w fun e w' => e = .returned (.bool r) ∧ Below w.heap.size w w' := by
 have HB := Ac w.heap.size w
 have hl := hd.len
 have hn := hd.few
 have HR := Ae hr
 clear hr
 go_enter Tryz.func234, Tryz.ntmps234
 go_wp2_with fail
 go_loop [3] (fun v3 => ∃ k : Nat, k ≤ n ∧ v3 = .int .i64 k ∧ Hid (∀ j, j < k → lim d j < 1000000000)) (fun v3 => n - (intOf v3).toNat)
 case atStart => exact ⟨0, Nat.zero_le _, rfl, Ae (fun j hj => absurd hj (Nat.not_lt_zero _))⟩
 case round =>
  obtain ⟨k, hk, rfl, hall⟩ := hrel
  by_cases hlt : k < n
  ·obtain ⟨b, o, rfl, c1⟩ := hd.at' hlt
   have c1' := Au (show Below w.heap.size w (w.alloc (.cells #[.bool g, .slice (some ⟨b, o, none⟩) n c] 59)) by go_grown) c1
   clear c1
   by_cases hb : 1000000000 ≤ lim d k
   ·have hrf : r = false := by
     cases r
     ·rfl
     ·have := Gf (HR.out.2 rfl).1.1 k
      omega
    subst hrf
    go_wp2_with fail
    go_ret
    exact ⟨rfl, by go_grown⟩
   ·have hb' : decide (1000000000 ≤ lim d k) = false := by rw [decide_eq_false_iff_not]; exact hb
    clear hb
    go_wp2_with fail
    go_round
    case rel =>
     refine ⟨k + 1, by omega, by go_num, Ae (fun j hj => ?_)⟩
     rcases Nat.lt_succ_iff_lt_or_eq.1 hj with h | rfl
     ·exact hall.out j h
     ·have := of_decide_eq_false hb'
      omega
    case measure => (first | (simp [intOf]; omega) | (simp [intOf]; done))
  ·obtain rfl : k = n := by omega
   have HL := Ae (Yk (d := d) (fun i hi => hall.out i qB))
   rcases Aq k with rfl | hp
   ·have hdn : d = [] := List.eq_nil_of_length_eq_zero hl
    have hrg : r = !g := by
     have h1 : Ix g d ↔ g = false := by
      unfold Ix C8
      rw [hdn]
      simp
     have h2 := HR.out
     rw [h1] at h2
     cases r <;> cases g <;> simp_all
    subst hrg
    clear hdn
    cases g
    all_goals
     go_wp2_with fail
     go_ret
     exact ⟨rfl, by go_grown⟩
   ·have hc := Nz HL.out qB
    rw [hl] at hc
    have hr2 : (lim d (k - 1) != 0) = r := by
     have h1 : Ix g d ↔ C8 d := ⟨fun h => h.1, fun h => ⟨h, fun e => by rw [e] at hl; simp at hl; omega⟩⟩
     have h2 := HR.out
     rw [h1, hc] at h2
     cases r <;> simp_all
    have hr3 := Ae hr2
    obtain ⟨b, o, rfl, c1⟩ := (hd.at' (i := k - 1) qB)
    have c1' := Au (show Below w.heap.size w (w.alloc (.cells #[.bool g, .slice (some ⟨b, o, none⟩) k c] 59)) by go_grown) c1
    have hn1 : ((k : Int) - 1).toNat = k - 1 := by omega
    clear c1 hc hr2
    go_wp2_with fail
    go_ret
    exact ⟨by rw [hr3.out]; rfl, by go_grown⟩
theorem Fq (w : World) (g : Bool) (a : Option Addr) (n c : Nat) (z : Int) (h : A4 w g a n c z) :
  Calls Tryz.prog 187 #[.agg #[.bool g, .slice a n c]] w (We w g a n c) := by
 have HB := Ac w.heap.size w
 have ho := Ae h.okay
 go_enter Tryz.func187, Tryz.ntmps187
 go_wp2_with fail
 refine (Ei _ _ _ _ _ (dg z.natAbs) (h.rd.keep qF) true ⟨fun _ => rfl, fun _ => ho.out⟩).mono ?_
 rintro e w1 ⟨rfl, hb⟩
 obtain ⟨hc, hf⟩ := Ax hb; have hz := hb.size; (try simp only [Aj, Ak] at hz)
 replace HB := zD w hb
 obtain ⟨s0_0, s0_1⟩ := qX hc (w.heap.size) (.bool g) (.slice a n c); obtain ⟨s1_0, s1_1⟩ := qZ hc (w.heap.size + 1); obtain ⟨f1_0, f1_1⟩ := zA hf (w.heap.size + 1)
 go_wp2_with fail
 refine bodyPost_ret (v := .agg #[.bool g, .slice a n c]) (by simp [results, Tryz.results187, go_sem, s1_0, s1_1]) rfl ?_
 exact ⟨rfl, by go_grown⟩
theorem Qp {z : Int} {n : Nat} (h : (dg z.natAbs).length = n) (hz : ¬ z < 0) : Br z 0 = if 0 < n then 1 else 0 := by
 by_cases h0 : z = 0
 ·subst h0
  rw [show (0 : Int).natAbs = 0 from rfl, Dl] at h
  simp at h
  rw [← h]; rfl
 ·rw [Ct qB, if_pos]
  rw [Gs qB] at h
  simp at h
  omega
theorem Lb (w : World) (g : Bool) (a : Option Addr) (n c : Nat) (z : Int) (h : A4 w g a n c z) :
  Calls Tryz.prog 119 #[.agg #[.bool g, .slice a n c]] w fun e w' => e = .returned (.int .i64 (Br z 0)) ∧ Below w.heap.size w w' := by
 have HB := Ac w.heap.size w
 have hg := h.neg
 have hl := h.rd.len
 cases g
 ·have hz : ¬ z < 0 := by simpa using hg.symm
  have hr := Qp hl hz
  clear hg hl hz
  by_cases hn : 0 < n
  ·rw [if_pos hn] at hr
   have HR := Ae hr
   clear hr
   go_enter Tryz.func119, Tryz.ntmps119
   go_wp2_with fail
   refine (Fq _ _ _ _ _ _ (h.keep qF)).mono ?_
   rintro e w1 ⟨rfl, hb⟩
   obtain ⟨hc, hf⟩ := Ax hb; have hz := hb.size; (try simp only [Aj, Ak] at hz)
   replace HB := zD w hb
   obtain ⟨s0_0, s0_1⟩ := qX hc (w.heap.size) (.bool false) (.slice a n c)
   exact qBs
  ·obtain rfl : n = 0 := by omega
   rw [if_neg hn] at hr
   have HR := Ae hr
   clear hr hn
   go_enter Tryz.func119, Tryz.ntmps119
   go_wp2_with fail
   refine (Fq _ _ _ _ _ _ (h.keep qF)).mono ?_
   rintro e w1 ⟨rfl, hb⟩
   obtain ⟨hc, hf⟩ := Ax hb; have hz := hb.size; (try simp only [Aj, Ak] at hz)
   replace HB := zD w hb
   obtain ⟨s0_0, s0_1⟩ := qX hc (w.heap.size) (.bool false) (.slice a 0 c)
   exact qBs
 ·have hz : z < 0 := by simpa using hg.symm
  have HR := Ae (show Br z 0 = -1 from Dm hz)
  clear hg hl hz
  go_enter Tryz.func119, Tryz.ntmps119
  go_wp2_with fail
  refine (Fq _ _ _ _ _ _ (h.keep qF)).mono ?_
  rintro e w1 ⟨rfl, hb⟩
  obtain ⟨hc, hf⟩ := Ax hb; have hz := hb.size; (try simp only [Aj, Ak] at hz)
  replace HB := zD w hb
  obtain ⟨s0_0, s0_1⟩ := qX hc (w.heap.size) (.bool true) (.slice a n c)
  exact qBs
theorem RdL.recap {w : World} {a : Option Addr} {n c c' : Nat} {d : List Nat} (h : RdL w a n c d) (h1 : n ≤ c') (h2 : c' ≤ 9223372036854775807) : RdL w a n c' d :=
 ⟨h.len, h1, h.few, h2, h.small, h.cell⟩
def eM : Value → Nat
 | .slice _ n _ => n
 | _ => 0
def dI (w : World) (g : Bool) (a : Option Addr) (c : Nat) (d : List Nat) (e : Ending) (w' : World) : Prop :=
 ∃ g' n', e = .returned (.agg #[.bool g', .slice a n' c]) ∧ n' ≤ d.length ∧ A4 w' g' a n' c (sgn g (val d)) ∧ Below w.heap.size w w'
theorem Q2 {w w' : World} {g g' : Bool} {a : Option Addr} {n c k : Nat} {d : List Nat} (hd : RdL w a n c d) (hlt : ∀ x ∈ d, x < 1000000000) (hk : k ≤ n) (hz : ∀ i, k ≤ i → lim d i = 0) (hl : k = 0 ∨ lim d (k - 1) ≠ 0) (hb : Below w.heap.size w w') (hg : g' = (g && decide (0 < k))) :
  A4 w' g' a k c (sgn g (val d)) := by
 have h := Ms hd hlt hk hz hl hb hg
 exact ⟨h.neg, h.rd.recap (Ah hk hd.cap) hd.top⟩
theorem Fb (w : World) (g : Bool) (a : Option Addr) (n c : Nat) (d : List Nat) (hd : RdL w a n c d) (hlt : ∀ x ∈ d, x < 1000000000) :
  Calls Tryz.prog 188 #[.bool g, .slice a n c] w (dI w g a c d) := by
 have hlen := hd.len
 have hcap := hd.cap
 have hn := hd.few
 have htop := hd.top
 have HB := Ac w.heap.size w
 have HL := Ae hlt
 clear hlt
 go_enter Tryz.func188, Tryz.ntmps188
 go_wp2_with fail
 go_loop [1] (fun v3 => ∃ k : Nat, k ≤ n ∧ v3 = .slice a k c ∧ Hid (∀ i, k ≤ i → lim d i = 0)) (fun v3 => eM v3)
 case atStart => exact ⟨n, Ad _, rfl, Ae (fun i hi => by simp [lim, List.getElem?_eq_none (show d.length ≤ i by omega)])⟩
 case round =>
  obtain ⟨k, hk, rfl, HZ⟩ := hrel
  match k with
  | 0 =>
   cases g
   all_goals
    go_wp2_with fail
    refine bodyPost_ret (v := .agg #[.bool false, .slice a 0 c]) (by simp [results, Tryz.results188, go_sem]) rfl ?_
    exact ⟨_, 0, rfl, by omega, Q2 hd HL.out hk HZ.out (.inl rfl) qF qH, by go_grown⟩
  | j + 1 =>
   obtain ⟨b, o, rfl, c1⟩ := hd.at' (i := j) qB
   have hbl : b < w.heap.size := Aa w _ c1
   have hj1 : (((j + 1 : Nat) : Int) - 1).toNat = j := by omega
   by_cases h0 : lim d j = 0
   ·have h0' : (lim d j == 0) = true := by simp [h0]
    have H0 := Ae h0
    clear h0
    go_wp2_with fail
    go_round
    case rel =>
     refine ⟨j, by omega, rfl, Ae (fun i hi => ?_)⟩
     exact qEq
    case measure => simp [eM]
   ·have h0' : (lim d j == 0) = false := by simp [h0]
    have H0 := Ae h0
    clear h0
    cases g
    ·go_wp2_with fail
     refine bodyPost_ret (v := .agg #[.bool false, .slice (some ⟨b, o, none⟩) (j + 1) c]) (by simp [results, Tryz.results188, go_sem]) rfl ?_
     exact ⟨_, j + 1, rfl, by omega, Q2 hd HL.out hk HZ.out (.inr H0.out) qF qH, by go_grown⟩
    ·go_wp2_with fail
     refine bodyPost_ret (v := .agg #[.bool true, .slice (some ⟨b, o, none⟩) (j + 1) c]) (by simp [results, Tryz.results188, go_sem]) rfl ?_
     exact ⟨_, j + 1, rfl, by omega, Q2 hd HL.out hk HZ.out (.inr H0.out) qF qH, by go_grown⟩
theorem Hh {P : Program} {w : World} (base : Nat) (t ty e : TypeId) (i : TypeInfo) (size : Nat) (ht : P.underlying t = some (.slice e)) (hi : P.info? e = some i)
  (v : Value) (n : Nat) (xs : List Value) (hown : w.ownsRow base e size v n xs) (a : Option Addr) (c : Nat) :
  (Builtin.append_ #[t, t] ty #[v, .slice a 0 c]).run P w = .ok v w := by
 rcases hown.2 with ⟨rfl, rfl⟩ | ⟨g, cap, cur, rfl, _, _, hnc, _⟩
 ·cases a <;> simp [Builtin.append_, run_underlying ht, sizeOf, typeInfo, hi, Builtin.lenOf, Builtin.firstCells, loadCells, loadCellsFrom]
 ·cases a <;> simp [Builtin.append_, run_underlying ht, sizeOf, typeInfo, hi, Builtin.lenOf, Builtin.firstCells, hnc, storeCells, loadCells, loadCellsFrom]
theorem Ka {P : Program} {w : World} {ops : Array Oper} {o : Oper} {a : Act} {K : Act → World → Prop} {Q : Exit → Act → World → Prop} {E : Prop} (hgd : o.guard = none) (s x : Operand) (t : TypeId)
  (ho : o.op = .call { callee := .builtin .append, args := #[s, x], argTypes := #[t, t] })
  (base : Nat) (e : TypeId) (i : TypeInfo) (size : Nat) (ht : P.underlying t = some (.slice e)) (hi : P.info? e = some i)
  (v : Value) (n : Nat) (xs : List Value) (hs : a.eval s = v) (hown : w.ownsRow base e size v n xs) (ad : Option Addr) (c : Nat) (hx : a.eval x = .slice ad 0 c)
  (h : K (a.put o.dst v) w) : if Region.wanted o (yielded ops a.tmps) = true then Oper.wp P o a w K Q else E := by
 have hw : Region.wanted o (yielded ops a.tmps) = true := by simp [Region.wanted, hgd]
 rw [if_pos hw]
 have hrun := Hh (P := P) (w := w) base t o.type e i size ht hi v n xs hown ad c
 unfold Oper.wp
 simp [execOp, ho, resolve, invoke, builtin, hs, hx, hrun, Result.andThen]
 exact h
end Go.Proofs.YtdamegaedmckbaaGreatDoor
end
