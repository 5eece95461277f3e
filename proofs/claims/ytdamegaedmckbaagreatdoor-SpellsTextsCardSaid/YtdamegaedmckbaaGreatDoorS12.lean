/- Package limbs: short: an amount by one part. No condition. -/
import Derived.Test.YtdamegaedmckbaaGreatDoorS11
set_option linter.unusedSimpArgs false
set_option linter.unusedVariables false
namespace Go.Proofs.YtdamegaedmckbaaGreatDoor
open Go.RowKit

theorem drop_val (d : List Nat) (j : Nat) (h : j < d.length) : val (d.drop j) = d.getD j 0 + 1000000000 * val (d.drop (j + 1)) := by
  rw [List.drop_eq_getElem_cons h, val]
  simp [List.getD, List.getElem?_eq_getElem h]

/-- One step of the division by one part. -/
theorem short_step (a H by' : Nat) (hb : 0 < by') :
    (a + 1000000000 * H) / by' = (H % by' * 1000000000 + a) / by' + 1000000000 * (H / by') ∧ (a + 1000000000 * H) % by' = (H % by' * 1000000000 + a) % by' := by
  have e : a + 1000000000 * H = (H % by' * 1000000000 + a) + by' * (1000000000 * (H / by')) := by
    have h1 := Nat.mod_add_div H by'
    generalize H % by' = r at *
    generalize H / by' = q at *
    subst h1
    rw [Nat.mul_add, Nat.mul_left_comm by' 1000000000 q]
    omega
  constructor
  · rw [e, Nat.add_mul_div_left _ _ hb]
  · rw [e, Nat.add_mul_mod_self_left]

theorem short_digit (a r by' : Nat) (hb : 0 < by') (hr : r < by') (ha : a < 1000000000) : (r * 1000000000 + a) / by' < 1000000000 := by
  rw [Nat.div_lt_iff_lt_mul hb]
  have : r * 1000000000 + 1000000000 ≤ by' * 1000000000 := by
    have := Nat.mul_le_mul_right 1000000000 (show r + 1 ≤ by' from hr)
    omega
  rw [Nat.mul_comm]
  omega

def RetShort (w : World) (n by' : Nat) (d : List Nat) (e : Ending) (w' : World) : Prop :=
  ∃ a q, e = .returned (.tuple #[.slice a n n, .int .u32 ((val d % by' : Nat) : Int)]) ∧ RdL w' a n n q ∧ val q = val d / by' ∧ (∀ x ∈ q, x < 1000000000) ∧ Fresh w.heap.size w' a n ∧ Below w.heap.size w w'

set_option maxRecDepth 100000 in
set_option maxHeartbeats 1000000 in
theorem short_c (w : World) (a : Option Addr) (n c : Nat) (d : List Nat) (by' : Nat) (hd : RdL w a n c d) (hlt : ∀ x ∈ d, x < 1000000000) (hb0 : 0 < by') (hb1 : by' < 4294967296) :
    Calls Tryz.prog 258 #[.slice a n c, .int .u32 by'] w (RetShort w n by' d) := by
  obtain ⟨i0, hi, hz0, hz1, hz2⟩ := info_parts info112
  have hlen := hd.len
  have hn := hd.few
  have HLT := Lib.hid hlt
  clear hlt
  go_enter Tryz.func258, Tryz.ntmps258
  go_wp2_with (refine wpList_make_full _ rfl _ _ 57 rfl w.heap.size 112 i0 (.int .u32 0) 1 Tryz.underlying57 hi hz0 hz1 .i64 .i64 _ _ n rfl rfl rfl rfl (by rw [hz2]; omega) (by unfold maxLen; omega) (Nat.le_refl _) ?_; intro w1 hown1 hgrow1)
  have HB : Below w.heap.size w w1 := (Below.refl _ _).grown hgrow1 (Nat.le_refl _) (fun k h => by cases h)
  rw [Nat.mul_one, show Value.cells (.int .u32 0) = #[.int .u32 0] from rfl, toList_madeCells_one] at hown1
  clear hgrow1
  go_loopw [6, 7] (fun v6 v7 wr => ∃ (k r : Nat) (q : List Nat), k ≤ n ∧ v7 = .int .i64 ((k : Int) - 1) ∧ v6 = .int .u64 r ∧ r < by' ∧ Hid (r = val (d.drop k) % by') ∧ Hid (val q = val (d.drop k) / by') ∧ Hid (q.length = n - k) ∧ Hid (∀ x ∈ q, x < 1000000000) ∧
      wr.ownsRow w.heap.size 112 1 (.slice (some ⟨w.heap.size, 0, none⟩) n n) n (List.replicate k (.int .u32 0) ++ vals q) ∧ Below w.heap.size w wr) (fun _ v7 _ => (intOf v7 + 1).toNat)
  case atStart => exact ⟨n, 0, [], Nat.le_refl _, rfl, rfl, hb0, Lib.hid (by rw [List.drop_of_length_le (by omega)]; simp [val]), Lib.hid (by rw [List.drop_of_length_le (by omega)]; simp [val]), Lib.hid (by simp), Lib.hid (fun x hx => (by cases hx)), by simpa [vals] using hown1, HB⟩
  case round =>
    obtain ⟨k, r, q, hk, rfl, rfl, hrb, hr, hq, hql, hqlt, hown, HB⟩ := hrel
    have HBz := HB.size
    have hlt1 := (hown.lt w.heap.size rfl).2
    clear hown1
    match k with
    | 0 =>
      rw [show ((0 : Nat) : Int) - 1 = -1 from rfl]
      rw [List.replicate_zero, List.nil_append] at hown
      go_wp2_with fail
      go_ret2
      refine ⟨_, q, ?_, rdl_of_owns hown hn (fun i => lim_small_of_lt (fun x hx => by have := hqlt.out x hx; omega) i), ?_, hqlt.out, .of_owns hown, HB⟩
      · have := hr.out
        rw [List.drop_zero] at this
        rw [← this]; rfl
      · have := hq.out
        rwa [List.drop_zero] at this
    | j + 1 =>
      rw [show ((j + 1 : Nat) : Int) - 1 = (j : Int) from by omega]
      obtain ⟨b, o, rfl, c1⟩ := (hd.keep HB).at' (i := j) (by omega)
      have hs := hd.small j
      have ha : d.getD j 0 < 1000000000 := by
        rw [List.getD, List.getElem?_eq_getElem (by omega)]
        exact HLT.out _ (List.getElem_mem (by omega))
      have hlim : lim d j = ((d.getD j 0 : Nat) : Int) := rfl
      have hst := short_step (d.getD j 0) (val (d.drop (j + 1))) by' hb0
      rw [← drop_val d j (by omega), ← hr.out, ← hq.out] at hst
      have HST := Lib.hid hst
      have hdg := short_digit (d.getD j 0) r by' hb0 hrb ha
      have hmod := Nat.mod_lt (r * 1000000000 + d.getD j 0) hb0
      have t1 : ((r : Int) * 1000000000 + lim d j) / (by' : Int) = (((r * 1000000000 + d.getD j 0) / by' : Nat) : Int) := by rw [hlim]; simp
      have t2 : ((r : Int) * 1000000000 + lim d j) % (by' : Int) = (((r * 1000000000 + d.getD j 0) % by' : Nat) : Int) := by rw [hlim]; simp
      have q1 : 0 ≤ ((r : Int) * 1000000000 + lim d j) / (by' : Int) := by rw [t1]; revert hdg; generalize (r * 1000000000 + d.getD j 0) / by' = X; intro h; omega
      have q2 : ((r : Int) * 1000000000 + lim d j) / (by' : Int) ≤ 999999999 := by rw [t1]; revert hdg; generalize (r * 1000000000 + d.getD j 0) / by' = X; intro h; omega
      have q3 : 0 ≤ ((r : Int) * 1000000000 + lim d j) % (by' : Int) := by rw [t2]; revert hmod; generalize (r * 1000000000 + d.getD j 0) % by' = X; intro h; omega
      have q4 : ((r : Int) * 1000000000 + lim d j) % (by' : Int) < by' := by rw [t2]; revert hmod; generalize (r * 1000000000 + d.getD j 0) % by' = X; intro h; omega
      have T1 := Lib.hid t1
      have T2 := Lib.hid t2
      have HM := Lib.hid hmod
      have HDG := Lib.hid hdg
      have hcell := hown.cellAt j (by omega)
      rw [List.getElem?_append_left (by simp), List.getElem?_replicate, if_pos (by omega)] at hcell
      have hfr := hown.frozenAt j
      have hb1' : (by' : Int) < 4294967296 := by omega
      have hb0' : (1 : Int) ≤ by' := by omega
      clear t1 t2 hst hlim ha hmod hdg
      go_wp2_with fail
      go_roundw
      case rel =>
        refine ⟨j, (r * 1000000000 + d.getD j 0) % by', (r * 1000000000 + d.getD j 0) / by' :: q, by omega, rfl, by rw [T2.out], HM.out, Lib.hid HST.out.2.symm, Lib.hid ?_, Lib.hid ?_, Lib.hid ?_, ?_, by go_grown⟩
        · rw [val]; exact HST.out.1.symm
        · have := hql.out; simp; omega
        · intro x hx
          rcases List.mem_cons.1 hx with rfl | hx
          · exact HDG.out
          · exact hqlt.out x hx
        · have := (hown.stored j (.int .u32 (((r : Int) * 1000000000 + lim d j) / (by' : Int)))).1
          rw [List.set_append_left _ _ (by simp), List.replicate_succ', List.set_append_right _ _ (by simp)] at this
          simp only [List.length_replicate, Nat.sub_self, List.set_cons_zero, List.append_assoc, List.singleton_append] at this
          rw [T1.out] at this ⊢
          exact this
      case measure => (first | (simp [intOf]; omega) | (simp [intOf]; done))
end Go.Proofs.YtdamegaedmckbaaGreatDoor
