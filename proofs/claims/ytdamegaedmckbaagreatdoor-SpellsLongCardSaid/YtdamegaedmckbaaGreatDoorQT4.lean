/- Package limbs: Of; slices.Clone; wide; short. No condition. Package limbs: short: an amount by one part. No condition. The document's answer, layer 1: Check, Fit, Sign, num. append of nothing, of what may be nothing, at a step of a region that draws its order. No program. -/
import Derived.Test.YtdamegaedmckbaaGreatDoorQT3
import Derived.PlainAid
import Derived.Deep.AppendLies
import Derived.Test.YtdamegaedmckbaaGreatDoorQTZ
set_option linter.unusedSimpArgs false
set_option linter.unusedVariables false
set_option maxRecDepth 100000
set_option maxHeartbeats 4000000
section
namespace Go.Proofs.YtdamegaedmckbaaGreatDoor
open Go.RowKit
def RetList (w : World) (n : Nat) (d : List Nat) (e : Ending) (w' : World) : Prop :=
 ∃ a c, e = .returned (.slice a n c) ∧ RdL w' a n c d ∧ Fresh w.heap.size w' a c ∧ Below w.heap.size w w'
theorem lim_small_of_lt {d : List Nat} (h : ∀ x ∈ d, x < 4294967296) (i : Nat) : 0 ≤ lim d i ∧ lim d i < 4294967296 := by
 by_cases hi : i < d.length
 ·have := h _ (List.getElem_mem hi)
  simp only [lim, List.getD, List.getElem?_eq_getElem hi, Option.getD_some]
  omega
 ·rw [lim_out (Nat.le_of_not_lt hi)]; omega
theorem owns_list {w : World} {base n : Nat} {v : Value} {d : List Nat} (h : w.ownsRow base 112 1 v n (vals d)) (hn : n ≤ 35184372088832) (hs : ∀ i, 0 ≤ lim d i ∧ lim d i < 4294967296) :
  ∃ a c, v = .slice a n c ∧ RdL w a n c d ∧ Fresh base w a c := by
 have hlen : d.length = n := by have := h.1; rw [vals_length] at this; omega
 rcases h.2 with ⟨rfl, rfl⟩ | ⟨g, cap, cur, rfl, hb, hg, hnc, hcm, hcs, _⟩
 ·exact ⟨none, 0, rfl, ⟨hlen, Nat.le_refl _, by omega, by omega, hs, .inl rfl⟩, .inl rfl⟩
 ·exact ⟨_, _, rfl, rdl_of_owns h hn hs, .inr ⟨g, cur, rfl, hb, hg, by omega⟩⟩
theorem vals_lim {d : List Nat} {n : Nat} (hl : d.length = n) (j : Nat) (u : Value) (h : (vals d)[j]? = some u) : j < n ∧ u = .int .u32 (lim d j) := by
 have hj : j < d.length := by
  rcases Nat.lt_or_ge j d.length with h1 | h1
  ·exact h1
  ·rw [List.getElem?_eq_none (by rw [vals_length]; exact h1)] at h; cases h
 rw [vals_get d j hj] at h
 exact ⟨by omega, (Option.some.inj h).symm⟩
theorem rdl_cells {w : World} {b o n c : Nat} {d : List Nat} (h : RdL w (some ⟨b, o, none⟩) n c d) : ∀ j u, (vals d)[j]? = some u → w.cell? ((⟨b, o, none⟩ : Addr).add j) = some u := by
 intro j u hj
 obtain ⟨h1, rfl⟩ := vals_lim h.len j u hj
 have hadd : (⟨b, o, none⟩ : Addr).add j = ⟨b, o + j, none⟩ := by unfold Addr.add; split <;> simp_all
 rw [hadd]
 exact h.at h1
theorem vals_one (d : List Nat) : ∀ u ∈ vals d, u.oneCell' = true := by
 intro u hu
 simp only [vals, List.mem_map] at hu
 obtain ⟨z, _, rfl⟩ := hu
 rfl
theorem Clone_c (w : World) (a : Option Addr) (n c : Nat) (d : List Nat) (hd : RdL w a n c d) :
  Calls Tryz.prog 211 #[.slice a n c] w (RetList w n d) := by
 obtain ⟨i0, hi, hz0, hz1, hz2⟩ := info_parts info112
 have hn := hd.few
 have HB := Below.refl w.heap.size w
 match a, hd with
 | none, hd =>
  have h0 : n = 0 := by
   rcases hd.cell with h | ⟨b, o, h, _⟩
   ·exact h
   ·cases h
  subst h0
  have hdn : d = [] := List.eq_nil_of_length_eq_zero hd.len
  have hq := fun (W : World) => Lib.run_eql_slice_nil (P := Tryz.prog) W 57 112 none 0 c 0 0 Tryz.underlying57
  have HN := Lib.hid hdn
  clear hdn
  go_enter Tryz.func211, Tryz.ntmps211
  go_wp2
  go_ret
  exact ⟨none, 0, rfl, by rw [HN.out]; exact ⟨rfl, Nat.le_refl _, by omega, by omega, fun i => by simp [lim], .inl rfl⟩, .inl rfl, HB⟩
 | some ad, hd =>
  have hsl : n = 0 ∨ ∃ b o, ad = ⟨b, o, none⟩ := by
   rcases hd.cell with h | ⟨b, o, h, _⟩
   ·exact .inl h
   ·exact .inr ⟨b, o, by cases h; rfl⟩
  have hcs : ∀ (W : World), Below w.heap.size w W → ∀ j u, (vals d)[j]? = some u → W.cell? (ad.add j) = some u := by
   intro W hW j u hj
   rcases hsl with h0 | ⟨b, o, rfl⟩
   ·have := (vals_lim hd.len j u hj).1
    omega
   ·exact rdl_cells (hd.keep hW) j u hj
  have HCS := Lib.hid hcs
  clear hcs
  have hq := fun (W : World) => Lib.run_eql_slice_nil (P := Tryz.prog) W 57 112 (some ad) n c 0 0 Tryz.underlying57
  go_enter Tryz.func211, Tryz.ntmps211
  have hlit : ∀ W : World, (W.alloc (.cells #[] 112)).ownsRow W.heap.size 112 1 (.slice (some ⟨W.heap.size, 0, none⟩) 0 0) 0 [] := fun W => World.ownsRow_lit (size := 1) W #[] 0 (Nat.le_refl _) qO qH
  have HLIT := Lib.hid hlit
  clear hlit
  go_wp2_with (at_builtin; refine wpList_append_own _ rfl _ _ 57 rfl w.heap.size 112 i0 (.int .u32 0) 1 4 Tryz.underlying57 hi hz0 hz1 hz2 rfl qC _ _ _ rfl (HLIT.out w) ad n c (vals d) rfl (by rw [vals_length, hd.len]; omega) (HCS.out _ qF) (vals_one d) qO qB qA ?_; intro v' w1 hown' hgrow hnil)
  rw [Nat.zero_add, List.nil_append] at hown'
  obtain ⟨a', c', rfl, hr, hfr⟩ := owns_list hown' hn hd.small
  go_ret
  refine ⟨a', c', rfl, hr, hfr, ?_⟩
  exact ((Below.refl w.heap.size w).alloc (Nat.le_refl _) _).grown hgrow qA (fun k h => by cases h; exact Nat.le_refl _)
theorem u64_back (A : Nat) (hA : A ≤ 9223372036854775808) (hA0 : 0 < A) : IntKind.u64.wrap (-IntKind.u64.wrap (-(A : Int))) = A := by
 simp only [IntKind.wrap_u64]
 omega
theorem pow3 : (1000000000 : Nat) ^ 3 = 1000000000000000000000000000 := by decide
theorem val_snoc (l : List Nat) (x : Nat) : val (l ++ [x]) = val l + 1000000000 ^ l.length * x := by rw [val_append]; simp [val]
theorem few_digits {l : List Nat} {v A : Nat} (h : val l + 1000000000 ^ l.length * v = A) (hA : A ≤ 9223372036854775808) (hv : 0 < v) : l.length ≤ 2 := by
 rcases Nat.lt_or_ge 2 l.length with h1 | h1
 ·exfalso
  have h2 : 1000000000 ^ 3 ≤ 1000000000 ^ l.length := Nat.pow_le_pow_right qB h1
  rw [pow3] at h2
  have h3 : 1000000000 ^ l.length * 1 ≤ 1000000000 ^ l.length * v := Nat.mul_le_mul_left _ hv
  omega
 ·exact h1
theorem step_digits {l : List Nat} {v A : Nat} (h : val l + 1000000000 ^ l.length * v = A) : val (l ++ [v % 1000000000]) + 1000000000 ^ (l ++ [v % 1000000000]).length * (v / 1000000000) = A := by
 rw [val_snoc, List.length_append, List.length_singleton, Nat.pow_succ, Nat.mul_assoc, Nat.add_assoc, ← Nat.mul_add]
 have : v % 1000000000 + 1000000000 * (v / 1000000000) = v := by omega
 rw [this]
 exact h
theorem Of_pos (w : World) (A : Nat) (hA : A ≤ 9223372036854775807) : Calls Tryz.prog 27 #[.int .i64 (A : Int)] w (RetNum w (A : Int)) := by
 obtain ⟨i0, hi, hz0, hz1, hz2⟩ := info_parts info112
 have HB := Below.refl w.heap.size w
 go_enter Tryz.func27, Tryz.ntmps27
 go_wp2_with fail
 go_loopw [3, 4] (fun v3 v4 wr => ∃ (l : List Nat) (v : Nat), v3 = .int .u64 v ∧ Hid (val l + 1000000000 ^ l.length * v = A) ∧ l.length ≤ 3 ∧ v ≤ 9223372036854775808 ∧ (∀ x ∈ l, x < 1000000000) ∧ wr.ownsRow (w.heap.size + 1) 112 1 v4 l.length (vals l) ∧ w.heap.size < wr.heap.size ∧ wr.cell? ⟨w.heap.size, 0, none⟩ = some (.bool false) ∧ wr.cell? ⟨w.heap.size, 1, none⟩ = some (.slice none 0 0) ∧ wr.frozen? ⟨w.heap.size, 0, none⟩ = false ∧ wr.frozen? ⟨w.heap.size, 1, none⟩ = false ∧ Below w.heap.size w wr) (fun v3 _ _ => (intOf v3).toNat)
 case atStart => exact ⟨[], A, (by first | rfl | exact congrArg (Value.int .u64) (u64_back A hA hA0)), Lib.hid (by simp [val]), by simp, by omega, fun x hx => (by cases hx), World.ownsRow_nil _ _ _ _, by simp, by simp [go_sem], by simp [go_sem], by simp [go_sem], by simp [go_sem], by go_grown⟩
 case round =>
  obtain ⟨l, v, rfl, hv, hl3, hvb, hlt, hown, hlr, k0, k1, f0, f1, HB⟩ := hrel
  have HBz := HB.size
  have HLT := Lib.hid hlt
  clear hlt
  by_cases hp : 0 < v
  ·exact qAp
  ·obtain rfl : v = 0 := by omega
   have hv0 := Lib.hid (show val l = A by have := hv.out; simpa using this)
   obtain ⟨a', c', rfl, hr, hfr⟩ := owns_list hown qB (fun i => lim_small_of_lt (fun x hx => by have := HLT.out x hx; omega) i)
   go_wp2_with fail
   refine (cut_c _ false a' l.length c' l hr HLT.out).mono ?_
   exact qBc
theorem Of_neg (w : World) (A : Nat) (hA : A ≤ 9223372036854775808) (hA0 : 0 < A) : Calls Tryz.prog 27 #[.int .i64 (-(A : Int))] w (RetNum w (-(A : Int))) := by
 obtain ⟨i0, hi, hz0, hz1, hz2⟩ := info_parts info112
 have HB := Below.refl w.heap.size w
 have hneg : -(A : Int) < 0 := by omega
 have hmin : -9223372036854775808 ≤ -(A : Int) := by omega
 go_enter Tryz.func27, Tryz.ntmps27
 go_wp2_with fail
 go_loopw [3, 4] (fun v3 v4 wr => ∃ (l : List Nat) (v : Nat), v3 = .int .u64 v ∧ Hid (val l + 1000000000 ^ l.length * v = A) ∧ l.length ≤ 3 ∧ v ≤ 9223372036854775808 ∧ (∀ x ∈ l, x < 1000000000) ∧ wr.ownsRow (w.heap.size + 1) 112 1 v4 l.length (vals l) ∧ w.heap.size < wr.heap.size ∧ wr.cell? ⟨w.heap.size, 0, none⟩ = some (.bool false) ∧ wr.cell? ⟨w.heap.size, 1, none⟩ = some (.slice none 0 0) ∧ wr.frozen? ⟨w.heap.size, 0, none⟩ = false ∧ wr.frozen? ⟨w.heap.size, 1, none⟩ = false ∧ Below w.heap.size w wr) (fun v3 _ _ => (intOf v3).toNat)
 case atStart => exact ⟨[], A, (by first | rfl | exact congrArg (Value.int .u64) (u64_back A hA hA0)), Lib.hid (by simp [val]), by simp, by omega, fun x hx => (by cases hx), World.ownsRow_nil _ _ _ _, by simp, by simp [go_sem], by simp [go_sem], by simp [go_sem], by simp [go_sem], by go_grown⟩
 case round =>
  obtain ⟨l, v, rfl, hv, hl3, hvb, hlt, hown, hlr, k0, k1, f0, f1, HB⟩ := hrel
  have HBz := HB.size
  have HLT := Lib.hid hlt
  clear hlt
  by_cases hp : 0 < v
  ·exact qAp
  ·obtain rfl : v = 0 := by omega
   have hv0 := Lib.hid (show val l = A by have := hv.out; simpa using this)
   obtain ⟨a', c', rfl, hr, hfr⟩ := owns_list hown qB (fun i => lim_small_of_lt (fun x hx => by have := HLT.out x hx; omega) i)
   go_wp2_with fail
   refine (cut_c _ true a' l.length c' l hr HLT.out).mono ?_
   exact qBc
theorem Of_c (w : World) (z : Int) (h0 : -9223372036854775808 ≤ z) (h1 : z ≤ 9223372036854775807) : Calls Tryz.prog 27 #[.int .i64 z] w (RetNum w z) := by
 rcases Int.lt_or_le z 0 with h | h
 ·have := Of_neg w z.natAbs qB qB
  rwa [show -(z.natAbs : Int) = z by omega] at this
 ·have := Of_pos w z.natAbs qB
  rwa [show (z.natAbs : Int) = z by omega] at this
end Go.Proofs.YtdamegaedmckbaaGreatDoor
end
section
namespace Go.Proofs.YtdamegaedmckbaaGreatDoor
open Go.RowKit
theorem drop_val (d : List Nat) (j : Nat) (h : j < d.length) : val (d.drop j) = d.getD j 0 + 1000000000 * val (d.drop (j + 1)) := by
 rw [List.drop_eq_getElem_cons h, val]
 simp [List.getD, List.getElem?_eq_getElem h]
theorem short_step (a H by' : Nat) (hb : 0 < by') :
  (a + 1000000000 * H) / by' = (H % by' * 1000000000 + a) / by' + 1000000000 * (H / by') ∧ (a + 1000000000 * H) % by' = (H % by' * 1000000000 + a) % by' := by
 have e : a + 1000000000 * H = (H % by' * 1000000000 + a) + by' * (1000000000 * (H / by')) := by
  have h1 := Nat.mod_add_div H by'
  generalize H % by' = r at *
  generalize H / by' = q at *
  subst h1
  rw [Nat.mul_add, Nat.mul_left_comm by' 1000000000 q]
  omega
 constructor
 ·rw [e, Nat.add_mul_div_left _ _ hb]
 ·rw [e, Nat.add_mul_mod_self_left]
theorem short_digit (a r by' : Nat) (hb : 0 < by') (hr : r < by') (ha : a < 1000000000) : (r * 1000000000 + a) / by' < 1000000000 := by
 rw [Nat.div_lt_iff_lt_mul hb]
 have : r * 1000000000 + 1000000000 ≤ by' * 1000000000 := by
  have := Nat.mul_le_mul_right 1000000000 (show r + 1 ≤ by' from hr)
  omega
 rw [Nat.mul_comm]
 omega
def RetShort (w : World) (n by' : Nat) (d : List Nat) (e : Ending) (w' : World) : Prop :=
 ∃ a q, e = .returned (.tuple #[.slice a n n, .int .u32 ((val d % by' : Nat) : Int)]) ∧ RdL w' a n n q ∧ val q = val d / by' ∧ (∀ x ∈ q, x < 1000000000) ∧ Fresh w.heap.size w' a n ∧ Below w.heap.size w w'
theorem short_c (w : World) (a : Option Addr) (n c : Nat) (d : List Nat) (by' : Nat) (hd : RdL w a n c d) (hlt : ∀ x ∈ d, x < 1000000000) (hb0 : 0 < by') (hb1 : by' < 4294967296) :
  Calls Tryz.prog 258 #[.slice a n c, .int .u32 by'] w (RetShort w n by' d) := by
 obtain ⟨i0, hi, hz0, hz1, hz2⟩ := info_parts info112
 have hlen := hd.len
 have hn := hd.few
 have HLT := Lib.hid hlt
 clear hlt
 go_enter Tryz.func258, Tryz.ntmps258
 go_wp2_with (refine wpList_make_full _ rfl _ _ 57 rfl w.heap.size 112 i0 (.int .u32 0) 1 Tryz.underlying57 hi hz0 hz1 .i64 .i64 _ _ n rfl rfl rfl rfl (by rw [hz2]; omega) qO (Nat.le_refl _) ?_; intro w1 hown1 hgrow1)
 have HB : Below w.heap.size w w1 := (Below.refl _ _).grown hgrow1 (Nat.le_refl _) (fun k h => by cases h)
 rw [Nat.mul_one, show Value.cells (.int .u32 0) = #[.int .u32 0] from rfl, toList_madeCells_one] at hown1
 clear hgrow1
 go_loopw [6, 7] (fun v6 v7 wr => ∃ (k r : Nat) (q : List Nat), k ≤ n ∧ v7 = .int .i64 ((k : Int) - 1) ∧ v6 = .int .u64 r ∧ r < by' ∧ Hid (r = val (d.drop k) % by') ∧ Hid (val q = val (d.drop k) / by') ∧ Hid (q.length = n - k) ∧ Hid (∀ x ∈ q, x < 1000000000) ∧
   wr.ownsRow w.heap.size 112 1 (.slice (some ⟨w.heap.size, 0, none⟩) n n) n (List.replicate k (.int .u32 0) ++ vals q) ∧ Below w.heap.size w wr) (fun _ v7 _ => (intOf v7 + 1).toNat)
 case atStart => exact ⟨n, 0, [], Nat.le_refl _, rfl, rfl, hb0, Lib.hid (by rw [List.drop_of_length_le qB]; simp [val]), Lib.hid (by rw [List.drop_of_length_le qB]; simp [val]), Lib.hid qH, Lib.hid (fun x hx => (by cases hx)), by simpa [vals] using hown1, HB⟩
 case round =>
  obtain ⟨k, r, q, hk, rfl, rfl, hrb, hr, hq, hql, hqlt, hown, HB⟩ := hrel
  have HBz := HB.size
  have hlt1 := (hown.lt w.heap.size rfl).2
  clear hown1
  match k with
  | 0 =>
   exact qBt
  | j + 1 =>
   rw [show ((j + 1 : Nat) : Int) - 1 = (j : Int) from by omega]
   obtain ⟨b, o, rfl, c1⟩ := (hd.keep HB).at' (i := j) qB
   have hs := hd.small j
   have ha : d.getD j 0 < 1000000000 := by
    rw [List.getD, List.getElem?_eq_getElem qB]
    exact HLT.out _ (List.getElem_mem qB)
   have hlim : lim d j = ((d.getD j 0 : Nat) : Int) := rfl
   have hst := short_step (d.getD j 0) (val (d.drop (j + 1))) by' hb0
   rw [← drop_val d j qB, ← hr.out, ← hq.out] at hst
   have HST := Lib.hid hst
   have hdg := short_digit (d.getD j 0) r by' hb0 hrb ha
   have hmod := Nat.mod_lt (r * 1000000000 + d.getD j 0) hb0
   have t1 : ((r : Int) * 1000000000 + lim d j) / (by' : Int) = (((r * 1000000000 + d.getD j 0) / by' : Nat) : Int) := by rw [hlim]; simp
   have t2 : ((r : Int) * 1000000000 + lim d j) % (by' : Int) = (((r * 1000000000 + d.getD j 0) % by' : Nat) : Int) := by rw [hlim]; simp
   have q1 : 0 ≤ ((r : Int) * 1000000000 + lim d j) / (by' : Int) := by rw [t1]; revert hdg; generalize (r * 1000000000 + d.getD j 0) / by' = X; intro h; omega
   have q2 : ((r : Int) * 1000000000 + lim d j) / (by' : Int) ≤ 999999999 := by rw [t1]; revert hdg; generalize (r * 1000000000 + d.getD j 0) / by' = X; intro h; omega
   have q3 : 0 ≤ ((r : Int) * 1000000000 + lim d j) % (by' : Int) := by rw [t2]; revert hmod; generalize (r * 1000000000 + d.getD j 0) % by' = X; intro h; omega
   have q4 : ((r : Int) * 1000000000 + lim d j) % (by' : Int) < by' := by rw [t2]; revert hmod; generalize (r * 1000000000 + d.getD j 0) % by' = X; intro h; omega
   have T1 := Lib.hid t1
   have T2 := Lib.hid t2
   have HM := Lib.hid hmod
   have HDG := Lib.hid hdg
   have hcell := hown.cellAt j qB
   rw [List.getElem?_append_left qH, List.getElem?_replicate, if_pos qB] at hcell
   have hfr := hown.frozenAt j
   have hb1' : (by' : Int) < 4294967296 := by omega
   have hb0' : (1 : Int) ≤ by' := by omega
   clear t1 t2 hst hlim ha hmod hdg
   go_wp2_with fail
   go_roundw
   case rel =>
    refine ⟨j, (r * 1000000000 + d.getD j 0) % by', (r * 1000000000 + d.getD j 0) / by' :: q, by omega, rfl, by rw [T2.out], HM.out, Lib.hid HST.out.2.symm, Lib.hid ?_, Lib.hid ?_, Lib.hid ?_, ?_, by go_grown⟩
    ·rw [val]; exact HST.out.1.symm
    ·have := hql.out; simp; omega
    ·intro x hx
     rcases List.mem_cons.1 hx with rfl | hx
     ·exact HDG.out
     ·exact hqlt.out x hx
    ·have := (hown.stored j (.int .u32 (((r : Int) * 1000000000 + lim d j) / (by' : Int)))).1
     exact qCm
   case measure => (first | (simp [intOf]; omega) | (simp [intOf]; done))
end Go.Proofs.YtdamegaedmckbaaGreatDoor
end
section
namespace Go.Proofs.YtdamegaedmckbaaGreatDoor
open Go.RowKit
theorem lt_of_lim {d : List Nat} (h : ∀ i, i < d.length → lim d i < 1000000000) : ∀ x ∈ d, x < 1000000000 := by
 intro x hx
 obtain ⟨i, hi, rfl⟩ := List.getElem_of_mem hx
 have := h i hi
 simp only [lim, List.getD, List.getElem?_eq_getElem hi, Option.getD_some] at this
 omega
theorem lim_of_lt {d : List Nat} (h : ∀ x ∈ d, x < 1000000000) (i : Nat) : lim d i < 1000000000 := by
 by_cases hi : i < d.length
 ·have := h _ (List.getElem_mem hi)
  simp only [lim, List.getD, List.getElem?_eq_getElem hi, Option.getD_some]
  omega
 ·rw [lim_out qB]; omega
theorem rCheck_c (w : World) (g : Bool) (a : Option Addr) (n c : Nat) (d : List Nat) (hd : RdL w a n c d) (r : Bool) (hr : Okay g d ↔ r = true) :
  Calls Tryz.prog 234 #[.agg #[.bool g, .slice a n c]] w fun e w' => e = .returned (.bool r) ∧ Below w.heap.size w w' := by
 have HB := Below.refl w.heap.size w
 have hl := hd.len
 have hn := hd.few
 have HR := Lib.hid hr
 clear hr
 go_enter Tryz.func234, Tryz.ntmps234
 go_wp2_with fail
 go_loop [3] (fun v3 => ∃ k : Nat, k ≤ n ∧ v3 = .int .i64 k ∧ Hid (∀ j, j < k → lim d j < 1000000000)) (fun v3 => n - (intOf v3).toNat)
 case atStart => exact ⟨0, Nat.zero_le _, rfl, Lib.hid (fun j hj => absurd hj (Nat.not_lt_zero _))⟩
 case round =>
  obtain ⟨k, hk, rfl, hall⟩ := hrel
  by_cases hlt : k < n
  ·obtain ⟨b, o, rfl, c1⟩ := hd.at' hlt
   have c1' := cell_keep (show Below w.heap.size w (w.alloc (.cells #[.bool g, .slice (some ⟨b, o, none⟩) n c] 59)) by go_grown) c1
   clear c1
   by_cases hb : 1000000000 ≤ lim d k
   ·have hrf : r = false := by
     cases r
     ·rfl
     ·have := lim_of_lt (HR.out.2 rfl).1.1 k
      omega
    subst hrf
    go_wp2_with fail
    go_ret
    exact ⟨rfl, by go_grown⟩
   ·have hb' : decide (1000000000 ≤ lim d k) = false := by rw [decide_eq_false_iff_not]; exact hb
    clear hb
    go_wp2_with fail
    go_round
    case rel =>
     refine ⟨k + 1, by omega, by go_num, Lib.hid (fun j hj => ?_)⟩
     rcases Nat.lt_succ_iff_lt_or_eq.1 hj with h | rfl
     ·exact hall.out j h
     ·have := of_decide_eq_false hb'
      omega
    case measure => (first | (simp [intOf]; omega) | (simp [intOf]; done))
  ·obtain rfl : k = n := by omega
   have HL := Lib.hid (lt_of_lim (d := d) (fun i hi => hall.out i qB))
   rcases Nat.eq_zero_or_pos k with rfl | hp
   ·have hdn : d = [] := List.eq_nil_of_length_eq_zero hl
    have hrg : r = !g := by
     have h1 : Okay g d ↔ g = false := by
      unfold Okay Canon
      rw [hdn]
      simp
     have h2 := HR.out
     rw [h1] at h2
     cases r <;> cases g <;> simp_all
    subst hrg
    clear hdn
    cases g
    all_goals
     go_wp2_with fail
     go_ret
     exact ⟨rfl, by go_grown⟩
   ·have hc := canon_last HL.out qB
    rw [hl] at hc
    have hr2 : (lim d (k - 1) != 0) = r := by
     have h1 : Okay g d ↔ Canon d := ⟨fun h => h.1, fun h => ⟨h, fun e => by rw [e] at hl; simp at hl; omega⟩⟩
     have h2 := HR.out
     rw [h1, hc] at h2
     cases r <;> simp_all
    have hr3 := Lib.hid hr2
    obtain ⟨b, o, rfl, c1⟩ := (hd.at' (i := k - 1) qB)
    have c1' := cell_keep (show Below w.heap.size w (w.alloc (.cells #[.bool g, .slice (some ⟨b, o, none⟩) k c] 59)) by go_grown) c1
    have hn1 : ((k : Int) - 1).toNat = k - 1 := by omega
    clear c1 hc hr2
    go_wp2_with fail
    go_ret
    exact ⟨by rw [hr3.out]; rfl, by go_grown⟩
theorem rFit_c (w : World) (g : Bool) (a : Option Addr) (n c : Nat) (z : Int) (h : NumAt w g a n c z) :
  Calls Tryz.prog 187 #[.agg #[.bool g, .slice a n c]] w (RetSame w g a n c) := by
 have HB := Below.refl w.heap.size w
 have ho := Lib.hid h.okay
 go_enter Tryz.func187, Tryz.ntmps187
 go_wp2_with fail
 refine (rCheck_c _ _ _ _ _ (dg z.natAbs) (h.rd.keep qF) true ⟨fun _ => rfl, fun _ => ho.out⟩).mono ?_
 rintro e w1 ⟨rfl, hb⟩
 obtain ⟨hc, hf⟩ := bcell hb; have hz := hb.size; (try simp only [World.size_alloc, World.size_drew] at hz)
 replace HB := zB w hb
 obtain ⟨s0_0, s0_1⟩ := qV hc (w.heap.size) (.bool g) (.slice a n c); obtain ⟨s1_0, s1_1⟩ := qX hc (w.heap.size + 1); obtain ⟨f1_0, f1_1⟩ := qY hf (w.heap.size + 1)
 go_wp2_with fail
 refine bodyPost_ret (v := .agg #[.bool g, .slice a n c]) (by simp [results, Tryz.results187, go_sem, s1_0, s1_1]) rfl ?_
 exact ⟨rfl, by go_grown⟩
theorem cmpI_zero_of {z : Int} {n : Nat} (h : (dg z.natAbs).length = n) (hz : ¬ z < 0) : cmpI z 0 = if 0 < n then 1 else 0 := by
 by_cases h0 : z = 0
 ·subst h0
  rw [show (0 : Int).natAbs = 0 from rfl, dg_zero] at h
  simp at h
  rw [← h]; rfl
 ·rw [cmpI_gt qB, if_pos]
  rw [dg_pos qB] at h
  simp at h
  omega
theorem rSign_c (w : World) (g : Bool) (a : Option Addr) (n c : Nat) (z : Int) (h : NumAt w g a n c z) :
  Calls Tryz.prog 119 #[.agg #[.bool g, .slice a n c]] w fun e w' => e = .returned (.int .i64 (cmpI z 0)) ∧ Below w.heap.size w w' := by
 have HB := Below.refl w.heap.size w
 have hg := h.neg
 have hl := h.rd.len
 cases g
 ·have hz : ¬ z < 0 := by simpa using hg.symm
  have hr := cmpI_zero_of hl hz
  clear hg hl hz
  by_cases hn : 0 < n
  ·rw [if_pos hn] at hr
   have HR := Lib.hid hr
   clear hr
   go_enter Tryz.func119, Tryz.ntmps119
   go_wp2_with fail
   refine (rFit_c _ _ _ _ _ _ (h.keep qF)).mono ?_
   rintro e w1 ⟨rfl, hb⟩
   obtain ⟨hc, hf⟩ := bcell hb; have hz := hb.size; (try simp only [World.size_alloc, World.size_drew] at hz)
   replace HB := zB w hb
   obtain ⟨s0_0, s0_1⟩ := qV hc (w.heap.size) (.bool false) (.slice a n c)
   exact qBp
  ·obtain rfl : n = 0 := by omega
   rw [if_neg hn] at hr
   have HR := Lib.hid hr
   clear hr hn
   go_enter Tryz.func119, Tryz.ntmps119
   go_wp2_with fail
   refine (rFit_c _ _ _ _ _ _ (h.keep qF)).mono ?_
   rintro e w1 ⟨rfl, hb⟩
   obtain ⟨hc, hf⟩ := bcell hb; have hz := hb.size; (try simp only [World.size_alloc, World.size_drew] at hz)
   replace HB := zB w hb
   obtain ⟨s0_0, s0_1⟩ := qV hc (w.heap.size) (.bool false) (.slice a 0 c)
   exact qBp
 ·have hz : z < 0 := by simpa using hg.symm
  have HR := Lib.hid (show cmpI z 0 = -1 from cmpI_lt hz)
  clear hg hl hz
  go_enter Tryz.func119, Tryz.ntmps119
  go_wp2_with fail
  refine (rFit_c _ _ _ _ _ _ (h.keep qF)).mono ?_
  rintro e w1 ⟨rfl, hb⟩
  obtain ⟨hc, hf⟩ := bcell hb; have hz := hb.size; (try simp only [World.size_alloc, World.size_drew] at hz)
  replace HB := zB w hb
  obtain ⟨s0_0, s0_1⟩ := qV hc (w.heap.size) (.bool true) (.slice a n c)
  exact qBp
theorem RdL.recap {w : World} {a : Option Addr} {n c c' : Nat} {d : List Nat} (h : RdL w a n c d) (h1 : n ≤ c') (h2 : c' ≤ 9223372036854775807) : RdL w a n c' d :=
 ⟨h.len, h1, h.few, h2, h.small, h.cell⟩
def lenOf : Value → Nat
 | .slice _ n _ => n
 | _ => 0
def RetNumS (w : World) (g : Bool) (a : Option Addr) (c : Nat) (d : List Nat) (e : Ending) (w' : World) : Prop :=
 ∃ g' n', e = .returned (.agg #[.bool g', .slice a n' c]) ∧ n' ≤ d.length ∧ NumAt w' g' a n' c (sgn g (val d)) ∧ Below w.heap.size w w'
theorem num_end {w w' : World} {g g' : Bool} {a : Option Addr} {n c k : Nat} {d : List Nat} (hd : RdL w a n c d) (hlt : ∀ x ∈ d, x < 1000000000) (hk : k ≤ n) (hz : ∀ i, k ≤ i → lim d i = 0) (hl : k = 0 ∨ lim d (k - 1) ≠ 0) (hb : Below w.heap.size w w') (hg : g' = (g && decide (0 < k))) :
  NumAt w' g' a k c (sgn g (val d)) := by
 have h := cut_end hd hlt hk hz hl hb hg
 exact ⟨h.neg, h.rd.recap (Nat.le_trans hk hd.cap) hd.top⟩
theorem rnum_c (w : World) (g : Bool) (a : Option Addr) (n c : Nat) (d : List Nat) (hd : RdL w a n c d) (hlt : ∀ x ∈ d, x < 1000000000) :
  Calls Tryz.prog 188 #[.bool g, .slice a n c] w (RetNumS w g a c d) := by
 have hlen := hd.len
 have hcap := hd.cap
 have hn := hd.few
 have htop := hd.top
 have HB := Below.refl w.heap.size w
 have HL := Lib.hid hlt
 clear hlt
 go_enter Tryz.func188, Tryz.ntmps188
 go_wp2_with fail
 go_loop [1] (fun v3 => ∃ k : Nat, k ≤ n ∧ v3 = .slice a k c ∧ Hid (∀ i, k ≤ i → lim d i = 0)) (fun v3 => lenOf v3)
 case atStart => exact ⟨n, Nat.le_refl _, rfl, Lib.hid (fun i hi => by simp [lim, List.getElem?_eq_none (show d.length ≤ i by omega)])⟩
 case round =>
  obtain ⟨k, hk, rfl, HZ⟩ := hrel
  match k with
  | 0 =>
   cases g
   all_goals
    go_wp2_with fail
    refine bodyPost_ret (v := .agg #[.bool false, .slice a 0 c]) (by simp [results, Tryz.results188, go_sem]) rfl ?_
    exact ⟨_, 0, rfl, by omega, num_end hd HL.out hk HZ.out (.inl rfl) qF qH, by go_grown⟩
  | j + 1 =>
   obtain ⟨b, o, rfl, c1⟩ := hd.at' (i := j) qB
   have hbl : b < w.heap.size := World.block_lt_of_cell? w _ c1
   have hj1 : (((j + 1 : Nat) : Int) - 1).toNat = j := by omega
   by_cases h0 : lim d j = 0
   ·have h0' : (lim d j == 0) = true := by simp [h0]
    have H0 := Lib.hid h0
    clear h0
    go_wp2_with fail
    go_round
    case rel =>
     refine ⟨j, by omega, rfl, Lib.hid (fun i hi => ?_)⟩
     rcases Nat.lt_or_ge j i with h | h
     ·exact HZ.out i h
     ·obtain rfl : i = j := by omega
      exact H0.out
    case measure => simp [lenOf]
   ·have h0' : (lim d j == 0) = false := by simp [h0]
    have H0 := Lib.hid h0
    clear h0
    cases g
    ·go_wp2_with fail
     refine bodyPost_ret (v := .agg #[.bool false, .slice (some ⟨b, o, none⟩) (j + 1) c]) (by simp [results, Tryz.results188, go_sem]) rfl ?_
     exact ⟨_, j + 1, rfl, by omega, num_end hd HL.out hk HZ.out (.inr H0.out) qF qH, by go_grown⟩
    ·go_wp2_with fail
     refine bodyPost_ret (v := .agg #[.bool true, .slice (some ⟨b, o, none⟩) (j + 1) c]) (by simp [results, Tryz.results188, go_sem]) rfl ?_
     exact ⟨_, j + 1, rfl, by omega, num_end hd HL.out hk HZ.out (.inr H0.out) qF qH, by go_grown⟩
end Go.Proofs.YtdamegaedmckbaaGreatDoor
end
section
namespace Go.Proofs.YtdamegaedmckbaaGreatDoor
open Go.RowKit
theorem run_append_nothing {P : Program} {w : World} (base : Nat) (t ty e : TypeId) (i : TypeInfo) (size : Nat) (ht : P.underlying t = some (.slice e)) (hi : P.info? e = some i)
  (v : Value) (n : Nat) (xs : List Value) (hown : w.ownsRow base e size v n xs) (a : Option Addr) (c : Nat) :
  (Builtin.append_ #[t, t] ty #[v, .slice a 0 c]).run P w = .ok v w := by
 rcases hown.2 with ⟨rfl, rfl⟩ | ⟨g, cap, cur, rfl, _, _, hnc, _⟩
 ·cases a <;> simp [Builtin.append_, run_underlying ht, sizeOf, typeInfo, hi, Builtin.lenOf, Builtin.firstCells, loadCells, loadCellsFrom]
 ·cases a <;> simp [Builtin.append_, run_underlying ht, sizeOf, typeInfo, hi, Builtin.lenOf, Builtin.firstCells, hnc, storeCells, loadCells, loadCellsFrom]
theorem step_append_nothing {P : Program} {w : World} {ops : Array Oper} {o : Oper} {a : Act} {K : Act → World → Prop} {Q : Exit → Act → World → Prop} {E : Prop} (hgd : o.guard = none) (s x : Operand) (t : TypeId)
  (ho : o.op = .call { callee := .builtin .append, args := #[s, x], argTypes := #[t, t] })
  (base : Nat) (e : TypeId) (i : TypeInfo) (size : Nat) (ht : P.underlying t = some (.slice e)) (hi : P.info? e = some i)
  (v : Value) (n : Nat) (xs : List Value) (hs : a.eval s = v) (hown : w.ownsRow base e size v n xs) (ad : Option Addr) (c : Nat) (hx : a.eval x = .slice ad 0 c)
  (h : K (a.put o.dst v) w) : if Region.wanted o (yielded ops a.tmps) = true then Oper.wp P o a w K Q else E := by
 have hw : Region.wanted o (yielded ops a.tmps) = true := by simp [Region.wanted, hgd]
 rw [if_pos hw]
 have hrun := run_append_nothing (P := P) (w := w) base t o.type e i size ht hi v n xs hown ad c
 unfold Oper.wp
 simp [execOp, ho, resolve, invoke, builtin, hs, hx, hrun, Result.andThen]
 exact h
end Go.Proofs.YtdamegaedmckbaaGreatDoor
end
