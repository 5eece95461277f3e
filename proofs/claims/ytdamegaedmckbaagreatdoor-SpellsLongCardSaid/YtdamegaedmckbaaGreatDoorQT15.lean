/- The document's answer, layer 1: Sub, small, goes (by one part). -/
import Derived.Test.YtdamegaedmckbaaGreatDoorQT14
import Derived.Test.YtdamegaedmckbaaGreatDoorQTZ
set_option linter.unusedSimpArgs false
set_option linter.unusedVariables false
set_option maxRecDepth 100000
set_option maxHeartbeats 4000000
section
namespace Go.Proofs.YtdamegaedmckbaaGreatDoor
open Go.RowKit
theorem rSub_c (w : World) (g : Bool) (a : Option Addr) (n c : Nat) (z : Int) (h : NumAt w g a n c z) (g' : Bool) (a' : Option Addr) (n' c' : Nat) (z' : Int) (h' : NumAt w g' a' n' c' z') (hb1 : n < 35184372088830) (hb2 : n' < 35184372088830) :
  Calls Tryz.prog 295 #[.agg #[.bool g, .slice a n c], .agg #[.bool g', .slice a' n' c']] w (RetNum w (z - z')) := by
 have HB := Below.refl w.heap.size w
 go_enter Tryz.func295, Tryz.ntmps295
 go_wp2_with fail
 go_region_held3 (fun W => W.cell? ⟨w.heap.size, 0, none⟩ = some (.bool g) ∧ W.cell? ⟨w.heap.size, 1, none⟩ = some (.slice a n c) ∧ W.cell? ⟨w.heap.size + 1, 0, none⟩ = some (.bool g') ∧ W.cell? ⟨w.heap.size + 1, 1, none⟩ = some (.slice a' n' c')) (first | ((try dsimp only); (repeat' apply And.intro); all_goals (first | (with_reducible assumption) | (go_keep; done) | (simp [*, go_sem]; done)))) (first
  | (go_at_call 121; (with_reducible refine (rNeg_c _ g' a' n' c' z' (h'.keep qF)).mono ?_); rintro e w1 ⟨g1, a1, n1, c1, rfl, hn1, hfr1, hb⟩; obtain ⟨hc, hf⟩ := bcell hb; have hz := hb.size; (try simp only [World.size_alloc, World.size_drew, World.size_setCell] at hz); replace HB := zB w hb; obtain ⟨s0_0, s0_1⟩ := qV hc (w.heap.size) (.bool g) (.slice a n c); obtain ⟨s1_0, s1_1⟩ := qV hc (w.heap.size + 1) (.bool g') (.slice a' n' c'); obtain ⟨s2_0, s2_1⟩ := qX hc (w.heap.size + 1 + 1); obtain ⟨f2_0, f2_1⟩ := qY hf (w.heap.size + 1 + 1))
  | (go_at_call 202; (with_reducible refine (rAdd_c _ g a n c z (h.keep qF) g1 a1 n1 c1 (-z') (hn1.keep qF) qB (by have := hn1.rd.len; rw [Int.natAbs_neg, h'.rd.len] at this; omega)).mono ?_); rintro e w2 ⟨g3, a3, n3, c3, rfl, hn3, hfr3, hb⟩; obtain ⟨hc, hf⟩ := bcell hb; have hz := hb.size; (try simp only [World.size_alloc, World.size_drew, World.size_setCell] at hz); replace HB := zB w hb; obtain ⟨s0_0, s0_1⟩ := qV hc (w.heap.size) (.bool g) (.slice a n c); obtain ⟨s1_0, s1_1⟩ := qV hc (w.heap.size + 1) (.bool g') (.slice a' n' c'); obtain ⟨s2_0, s2_1⟩ := qX hc (w.heap.size + 1 + 1); obtain ⟨f2_0, f2_1⟩ := qY hf (w.heap.size + 1 + 1); have hfr4 := hfr3.mono (show w.heap.size + 1 + 1 + 1 ≤ _ from qS)))
 go_wp2_with fail
 refine bodyPost_ret (v := .agg #[.bool g3, .slice a3 n3 c3]) (by simp [results, Tryz.results295, go_sem, s2_0, s2_1]) rfl ?_
 rw [← Int.sub_eq_add_neg] at hn3
 have q3 : w.heap.size + 1 + 1 < w.heap.size + 1 + 1 + 1 := Nat.lt_succ_self _
 refine ⟨g3, a3, n3, c3, rfl, ?_, ((hfr4.setNew _ _ q3).setNew _ _ q3).mono qB, by go_grown⟩
 exact (hn3.setFresh hfr4 _ _ q3).setFresh (hfr4.setNew _ _ q3) _ _ q3
theorem small_c (w : World) (a : Option Addr) (n c : Nat) (d : List Nat) (by' : Nat) (hd : RdL w a n c d) (hlt : ∀ x ∈ d, x < 1000000000) (hb0 : 0 < by') (hb1 : by' < 4294967296) :
  Calls Tryz.prog 325 #[.slice a n c, .int .u32 by'] w (RetShort w n by' d) := by
 obtain ⟨i0, hi, hz0, hz1, hz2⟩ := info_parts info112
 have hlen := hd.len
 have hn := hd.few
 have HLT := Lib.hid hlt
 clear hlt
 go_enter Tryz.func325, Tryz.ntmps325
 go_wp2_with (refine wpList_make_full _ rfl _ _ 57 rfl w.heap.size 112 i0 (.int .u32 0) 1 Tryz.underlying57 hi hz0 hz1 .i64 .i64 _ _ n rfl rfl rfl rfl (by rw [hz2]; omega) qO (Nat.le_refl _) ?_; intro w1 hown1 hgrow1)
 have HB : Below w.heap.size w w1 := (Below.refl _ _).grown hgrow1 (Nat.le_refl _) (fun k h => by cases h)
 rw [Nat.mul_one, show Value.cells (.int .u32 0) = #[.int .u32 0] from rfl, toList_madeCells_one] at hown1
 clear hgrow1
 go_loopw [7, 8] (fun v6 v7 wr => ∃ (k r : Nat) (q : List Nat), k ≤ n ∧ v7 = .int .i64 ((k : Int) - 1) ∧ v6 = .int .u64 r ∧ r < by' ∧ Hid (r = val (d.drop k) % by') ∧ Hid (val q = val (d.drop k) / by') ∧ Hid (q.length = n - k) ∧ Hid (∀ x ∈ q, x < 1000000000) ∧
   wr.ownsRow w.heap.size 112 1 (.slice (some ⟨w.heap.size, 0, none⟩) n n) n (List.replicate k (.int .u32 0) ++ vals q) ∧ Below w.heap.size w wr) (fun _ v7 _ => (intOf v7 + 1).toNat)
 case atStart => exact ⟨n, 0, [], Nat.le_refl _, rfl, rfl, hb0, Lib.hid (by rw [List.drop_of_length_le qB]; simp [val]), Lib.hid (by rw [List.drop_of_length_le qB]; simp [val]), Lib.hid qH, Lib.hid (fun x hx => (by cases hx)), by simpa [vals] using hown1, HB⟩
 case round =>
  obtain ⟨k, r, q, hk, rfl, rfl, hrb, hr, hq, hql, hqlt, hown, HB⟩ := hrel
  have HBz := HB.size
  have hlt1 := (hown.lt w.heap.size rfl).2
  clear hown1
  match k with
  | 0 =>
   exact qBt
  | j + 1 =>
   rw [show ((j + 1 : Nat) : Int) - 1 = (j : Int) from by omega]
   obtain ⟨b, o, rfl, c1⟩ := (hd.keep HB).at' (i := j) qB
   have hs := hd.small j
   have ha : d.getD j 0 < 1000000000 := by
    rw [List.getD, List.getElem?_eq_getElem qB]
    exact HLT.out _ (List.getElem_mem qB)
   have hlim : lim d j = ((d.getD j 0 : Nat) : Int) := rfl
   have hst := short_step (d.getD j 0) (val (d.drop (j + 1))) by' hb0
   rw [← drop_val d j qB, ← hr.out, ← hq.out] at hst
   have HST := Lib.hid hst
   have hdg := short_digit (d.getD j 0) r by' hb0 hrb ha
   have hmod := Nat.mod_lt (r * 1000000000 + d.getD j 0) hb0
   have t1 : (1000000000 * (r : Int) + lim d j) / (by' : Int) = (((r * 1000000000 + d.getD j 0) / by' : Nat) : Int) := by rw [hlim]; simp [Int.mul_comm]
   have t2 : (1000000000 * (r : Int) + lim d j) % (by' : Int) = (((r * 1000000000 + d.getD j 0) % by' : Nat) : Int) := by rw [hlim]; simp [Int.mul_comm]
   have q1 : 0 ≤ (1000000000 * (r : Int) + lim d j) / (by' : Int) := by rw [t1]; revert hdg; generalize (r * 1000000000 + d.getD j 0) / by' = X; intro h; omega
   have q2 : (1000000000 * (r : Int) + lim d j) / (by' : Int) ≤ 999999999 := by rw [t1]; revert hdg; generalize (r * 1000000000 + d.getD j 0) / by' = X; intro h; omega
   have q3 : 0 ≤ (1000000000 * (r : Int) + lim d j) % (by' : Int) := by rw [t2]; revert hmod; generalize (r * 1000000000 + d.getD j 0) % by' = X; intro h; omega
   have q4 : (1000000000 * (r : Int) + lim d j) % (by' : Int) < by' := by rw [t2]; revert hmod; generalize (r * 1000000000 + d.getD j 0) % by' = X; intro h; omega
   have T1 := Lib.hid t1
   have T2 := Lib.hid t2
   have HM := Lib.hid hmod
   have HDG := Lib.hid hdg
   have hcell := hown.cellAt j qB
   rw [List.getElem?_append_left qH, List.getElem?_replicate, if_pos qB] at hcell
   have hfr := hown.frozenAt j
   have hb1' : (by' : Int) < 4294967296 := by omega
   have hb0' : (1 : Int) ≤ by' := by omega
   clear t1 t2 hst hlim ha hmod hdg
   go_wp2_with fail
   go_roundw
   case rel =>
    refine ⟨j, (r * 1000000000 + d.getD j 0) % by', (r * 1000000000 + d.getD j 0) / by' :: q, by omega, rfl, by rw [T2.out], HM.out, Lib.hid HST.out.2.symm, Lib.hid ?_, Lib.hid ?_, Lib.hid ?_, ?_, by go_grown⟩
    ·rw [val]; exact HST.out.1.symm
    ·have := hql.out; simp; omega
    ·intro x hx
     rcases List.mem_cons.1 hx with rfl | hx
     ·exact HDG.out
     ·exact hqlt.out x hx
    ·have := (hown.stored j (.int .u32 ((1000000000 * (r : Int) + lim d j) / (by' : Int)))).1
     exact qCm
   case measure => (first | (simp [intOf]; omega) | (simp [intOf]; done))
def RetGoes (w : World) (x y : Nat) (mq mr : Nat) (e : Ending) (w' : World) : Prop :=
 ∃ a k c q a' k' c' r, e = .returned (.tuple #[.slice a k c, .slice a' k' c']) ∧ RdL w' a k c q ∧ RdL w' a' k' c' r ∧ val q = x / y ∧ val r = x % y ∧ (∀ x ∈ q, x < 1000000000) ∧ (∀ x ∈ r, x < 1000000000) ∧ k ≤ mq ∧ k' ≤ mr ∧ Fresh w.heap.size w' a c ∧ Fresh w.heap.size w' a' c' ∧ Below w.heap.size w w'
theorem rdl_one {w : World} (x : Nat) (hx : x < 4294967296) (w' : World) (hw : w' = w.alloc (.cells #[.int .u32 x] 112)) : RdL w' (some ⟨w.heap.size, 0, none⟩) 1 1 [x] := by
 subst hw
 refine ⟨rfl, Nat.le_refl _, by omega, by omega, fun i => lim_small_of_lt (d := [x]) (fun y hy => by rw [List.mem_singleton] at hy; omega) i, .inr ⟨_, _, rfl, fun i hi => ?_⟩⟩
 obtain rfl : i = 0 := by omega
 simp [go_sem, lim]
theorem goes_one (w : World) (a : Option Addr) (n c : Nat) (d : List Nat) (a' : Option Addr) (c' : Nat) (x : Nat) (hd : RdL w a n c d) (hd' : RdL w a' 1 c' [x]) (hlt : ∀ x ∈ d, x < 1000000000) (hx0 : 0 < x) (hx : x < 1000000000) :
  Calls Tryz.prog 294 #[.slice a n c, .slice a' 1 c'] w (RetGoes w (val d) x n 1) := by
 have hn := hd.few
 have HB := Below.refl w.heap.size w
 obtain ⟨b', o', rfl, c2⟩ := hd'.at' (i := 0) qB
 rw [show lim [x] 0 = (x : Int) from rfl, Nat.add_zero] at c2
 go_enter Tryz.func294, Tryz.ntmps294
 go_wp2_with fail
 refine (small_c w a n c d x hd hlt hx0 qB).mono ?_
 rintro e w1 ⟨a1, q, rfl, hr1, hq, hqlt, hfr1, hb⟩
 have hmod := Nat.mod_lt (val d) hx0
 have HQ := Lib.hid hq
 have HQL := Lib.hid hqlt
 clear hq hqlt
 generalize hr : val d % x = r at *
 have HR := Lib.hid hr
 clear hr
 have hsz := hb.size
 go_wp2_with fail
 refine bodyPost_ret (v := .tuple #[.slice a1 n n, .slice (some ⟨w1.heap.size, 0, none⟩) 1 1]) (by simp [results, Tryz.results294, go_sem]) rfl ?_
 refine ⟨a1, n, n, q, _, 1, 1, [r], rfl, hr1.alloc _, rdl_one r qB _ rfl, HQ.out, by simp [val, HR.out], HQL.out, fun y hy => by rw [List.mem_singleton] at hy; omega, Nat.le_refl _, Nat.le_refl _, hfr1.keep qF, .inr ⟨_, _, rfl, hsz, heap_alloc_new _ _, by simp⟩, by go_grown⟩
end Go.Proofs.YtdamegaedmckbaaGreatDoor
end
