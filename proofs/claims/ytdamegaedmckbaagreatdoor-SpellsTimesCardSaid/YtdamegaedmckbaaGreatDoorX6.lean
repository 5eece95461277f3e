/- Package limbs: Mul. No further condition. -/
import Derived.Test.YtdamegaedmckbaaGreatDoorX5
import Derived.Test.YtdamegaedmckbaaGreatDoorX4
set_option linter.unusedSimpArgs false
set_option linter.unusedVariables false
section
namespace Go.Proofs.YtdamegaedmckbaaGreatDoor
open Go.RowKit

theorem vals_replicate (m : Nat) : vals (List.replicate m 0) = List.replicate m (.int .u32 0) := by simp [vals]
theorem vals_at {l : List Nat} {j : Nat} (h : j < l.length) : (vals l)[j]? = some (.int .u32 ((l.getD j 0 : Nat) : Int)) := by simp [vals, List.getD, h]
theorem vals_set (l : List Nat) (j y : Nat) : vals (l.set j y) = (vals l).set j (.int .u32 y) := by simp [vals, List.map_set]
set_option maxRecDepth 100000 in
set_option maxHeartbeats 2000000 in
theorem Mul_c (w : World) (g : Bool) (a : Option Addr) (n c : Nat) (z : Int) (h : NumAt w g a n c z) (g' : Bool) (a' : Option Addr) (n' c' : Nat) (z' : Int) (h' : NumAt w g' a' n' c' z')
    (hb1 : n ≤ 17592186044416) (hb2 : n' ≤ 17592186044416) :
    Calls Tryz.prog 174 #[.agg #[.bool g, .slice a n c], .agg #[.bool g', .slice a' n' c']] w (RetNum w (z * z')) := by
  obtain ⟨i0, hi, hz0, hz1, hz2⟩ := info_parts info112
  have HB := Below.refl w.heap.size w
  have hlx := Lib.hid h.rd.len
  have hly := Lib.hid h'.rd.len
  go_enter Tryz.func174, Tryz.ntmps174
  go_wp2_with fail
  go_region_held3 (fun W => W.cell? ⟨w.heap.size, 0, none⟩ = some (.bool g) ∧ W.cell? ⟨w.heap.size, 1, none⟩ = some (.slice a n c) ∧ W.cell? ⟨w.heap.size + 1, 0, none⟩ = some (.bool g') ∧ W.cell? ⟨w.heap.size + 1, 1, none⟩ = some (.slice a' n' c')) (first | ((try dsimp only); (repeat' apply And.intro); all_goals (first | (with_reducible assumption) | (go_keep; done) | (simp [*, go_sem]; done)))) (first
    | (go_at_call 95; (with_reducible refine (of_c _ g a n c z (h.keep (by go_grown))).mono ?_); rintro e w1 ⟨rfl, hb⟩; obtain ⟨hc, hf⟩ := bcell hb; have hz := hb.size; (try simp only [World.size_alloc, World.size_drew] at hz); replace HB : Below w.heap.size w w1 := Below.trans (by go_grown) (hb.mono (by go_size)); have s0_0 : w1.cell? ⟨w.heap.size, 0, none⟩ = some (.bool g) := (hc _ _ (by go_size)).trans (by first | assumption | (simp [go_sem]; done)); have s0_1 : w1.cell? ⟨w.heap.size, 1, none⟩ = some (.slice a n c) := (hc _ _ (by go_size)).trans (by first | assumption | (simp [go_sem]; done)); have s1_0 : w1.cell? ⟨w.heap.size + 1, 0, none⟩ = some (.bool g') := (hc _ _ (by go_size)).trans (by first | assumption | (simp [go_sem]; done)); have s1_1 : w1.cell? ⟨w.heap.size + 1, 1, none⟩ = some (.slice a' n' c') := (hc _ _ (by go_size)).trans (by first | assumption | (simp [go_sem]; done)); have s2_0 : w1.cell? ⟨w.heap.size + 1 + 1, 0, none⟩ = some (.bool false) := (hc _ _ (by go_size)).trans (by first | assumption | (simp [go_sem]; done)); have s2_1 : w1.cell? ⟨w.heap.size + 1 + 1, 1, none⟩ = some (.slice none 0 0) := (hc _ _ (by go_size)).trans (by first | assumption | (simp [go_sem]; done)); have f2_0 : w1.frozen? ⟨w.heap.size + 1 + 1, 0, none⟩ = false := (hf _ _ (by go_size)).trans (by first | assumption | (simp [go_sem]; done)); have f2_1 : w1.frozen? ⟨w.heap.size + 1 + 1, 1, none⟩ = false := (hf _ _ (by go_size)).trans (by first | assumption | (simp [go_sem]; done)); have f0_0 : w1.frozen? ⟨w.heap.size, 0, none⟩ = false := (hf _ _ (by go_size)).trans (by first | assumption | (simp [go_sem]; done)); have f0_1 : w1.frozen? ⟨w.heap.size, 1, none⟩ = false := (hf _ _ (by go_size)).trans (by first | assumption | (simp [go_sem]; done)); have f1_0 : w1.frozen? ⟨w.heap.size + 1, 0, none⟩ = false := (hf _ _ (by go_size)).trans (by first | assumption | (simp [go_sem]; done)); have f1_1 : w1.frozen? ⟨w.heap.size + 1, 1, none⟩ = false := (hf _ _ (by go_size)).trans (by first | assumption | (simp [go_sem]; done)))
    | (go_at_call 95; (with_reducible refine (of_c _ g' a' n' c' z' (h'.keep (by go_grown))).mono ?_); rintro e w1 ⟨rfl, hb⟩; obtain ⟨hc, hf⟩ := bcell hb; have hz := hb.size; (try simp only [World.size_alloc, World.size_drew] at hz); replace HB : Below w.heap.size w w1 := Below.trans (by go_grown) (hb.mono (by go_size)); have s0_0 : w1.cell? ⟨w.heap.size, 0, none⟩ = some (.bool g) := (hc _ _ (by go_size)).trans (by first | assumption | (simp [go_sem]; done)); have s0_1 : w1.cell? ⟨w.heap.size, 1, none⟩ = some (.slice a n c) := (hc _ _ (by go_size)).trans (by first | assumption | (simp [go_sem]; done)); have s1_0 : w1.cell? ⟨w.heap.size + 1, 0, none⟩ = some (.bool g') := (hc _ _ (by go_size)).trans (by first | assumption | (simp [go_sem]; done)); have s1_1 : w1.cell? ⟨w.heap.size + 1, 1, none⟩ = some (.slice a' n' c') := (hc _ _ (by go_size)).trans (by first | assumption | (simp [go_sem]; done)); have s2_0 : w1.cell? ⟨w.heap.size + 1 + 1, 0, none⟩ = some (.bool false) := (hc _ _ (by go_size)).trans (by first | assumption | (simp [go_sem]; done)); have s2_1 : w1.cell? ⟨w.heap.size + 1 + 1, 1, none⟩ = some (.slice none 0 0) := (hc _ _ (by go_size)).trans (by first | assumption | (simp [go_sem]; done)); have f2_0 : w1.frozen? ⟨w.heap.size + 1 + 1, 0, none⟩ = false := (hf _ _ (by go_size)).trans (by first | assumption | (simp [go_sem]; done)); have f2_1 : w1.frozen? ⟨w.heap.size + 1 + 1, 1, none⟩ = false := (hf _ _ (by go_size)).trans (by first | assumption | (simp [go_sem]; done)); have f0_0 : w1.frozen? ⟨w.heap.size, 0, none⟩ = false := (hf _ _ (by go_size)).trans (by first | assumption | (simp [go_sem]; done)); have f0_1 : w1.frozen? ⟨w.heap.size, 1, none⟩ = false := (hf _ _ (by go_size)).trans (by first | assumption | (simp [go_sem]; done)); have f1_0 : w1.frozen? ⟨w.heap.size + 1, 0, none⟩ = false := (hf _ _ (by go_size)).trans (by first | assumption | (simp [go_sem]; done)); have f1_1 : w1.frozen? ⟨w.heap.size + 1, 1, none⟩ = false := (hf _ _ (by go_size)).trans (by first | assumption | (simp [go_sem]; done))))
  replace HB : Below w.heap.size w ((((w1.setCell ⟨w.heap.size, 0, none⟩ (.bool g)).setCell ⟨w.heap.size, 1, none⟩ (.slice a n c)).setCell ⟨w.heap.size + 1, 0, none⟩ (.bool g')).setCell ⟨w.heap.size + 1, 1, none⟩ (.slice a' n' c')) := by go_grown
  obtain ⟨w2, hw2⟩ : ∃ w2, w2 = ((((w1.setCell ⟨w.heap.size, 0, none⟩ (.bool g)).setCell ⟨w.heap.size, 1, none⟩ (.slice a n c)).setCell ⟨w.heap.size + 1, 0, none⟩ (.bool g')).setCell ⟨w.heap.size + 1, 1, none⟩ (.slice a' n' c')) := ⟨_, rfl⟩
  rw [← hw2] at HB ⊢
  have u0 : w2.cell? ⟨w.heap.size, 0, none⟩ = some (.bool g) := by rw [hw2]; simp [*, go_sem]
  have u1 : w2.cell? ⟨w.heap.size, 1, none⟩ = some (.slice a n c) := by rw [hw2]; simp [*, go_sem]
  have u2 : w2.cell? ⟨w.heap.size + 1, 0, none⟩ = some (.bool g') := by rw [hw2]; simp [*, go_sem]
  have u3 : w2.cell? ⟨w.heap.size + 1, 1, none⟩ = some (.slice a' n' c') := by rw [hw2]; simp [*, go_sem]
  have u4 : w2.cell? ⟨w.heap.size + 1 + 1, 0, none⟩ = some (.bool false) := by rw [hw2]; simp [*, go_sem]
  have u5 : w2.cell? ⟨w.heap.size + 1 + 1, 1, none⟩ = some (.slice none 0 0) := by rw [hw2]; simp [*, go_sem]
  have v4 : w2.frozen? ⟨w.heap.size + 1 + 1, 0, none⟩ = false := by rw [hw2]; simp [*, go_sem]
  have v5 : w2.frozen? ⟨w.heap.size + 1 + 1, 1, none⟩ = false := by rw [hw2]; simp [*, go_sem]
  have hk2 : w.heap.size + 1 + 1 < w2.heap.size := World.block_lt_of_cell? w2 _ u4
  clear hw2 s0_0 s0_1 s1_0 s1_1 s2_0 s2_1 f2_0 f2_1 f0_0 f0_1 f1_0 f1_1 hz hc hf hb
  go_wp2_with (refine wpList_make_full _ rfl _ _ 57 rfl w2.heap.size 112 i0 (.int .u32 0) 1 Tryz.underlying57 hi hz0 hz1 .i64 .i64 _ _ (n + n') rfl rfl rfl (by first | rfl | simp) (by rw [hz2]; omega) (by unfold maxLen; omega) (Nat.le_refl _) ?_; intro w3 hown3 hgrow3; have HB3 : Below w2.heap.size w2 w3 := (Below.refl _ _).grown hgrow3 (Nat.le_refl _) (fun k h => (by cases h)); have t1 := cell_keep HB3 u1; have t3 := cell_keep HB3 u3)
  have HB3 : Below w2.heap.size w2 w3 := (Below.refl _ _).grown hgrow3 (Nat.le_refl _) (fun k h => by cases h)
  rw [Nat.mul_one, show Value.cells (.int .u32 0) = #[.int .u32 0] from rfl, toList_madeCells_one] at hown3
  clear hgrow3 t1 t3
  have HLT := Lib.hid (dg_lt z.natAbs)
  have HLT' := Lib.hid (dg_lt z'.natAbs)
  go_loopw [26] (fun v26 wr => ∃ (i : Nat) (l : List Nat), i ≤ n ∧ v26 = .int .i64 i ∧ Hid (MulSt (dg z.natAbs) (dg z'.natAbs) i 0 0 l) ∧
      wr.ownsRow w2.heap.size 112 1 (.slice (some ⟨w2.heap.size, 0, none⟩) (n + n') (n + n')) (n + n') (vals l) ∧ Below w2.heap.size w2 wr) (fun v26 _ => n - (intOf v26).toNat)
  case atStart =>
    refine ⟨0, List.replicate (n + n') 0, Nat.zero_le _, rfl, Lib.hid ?_, ?_, HB3⟩
    · have := MulSt.start (dg z.natAbs) (dg z'.natAbs)
      rw [hlx.out, hly.out] at this
      exact this
    · rw [vals_replicate]; exact hown3
  case round =>
    obtain ⟨i, l, hik, rfl, HM, hown, hBr⟩ := hrel
    have HBr : Below w.heap.size w wr := HB.trans (hBr.mono HB.size)
    have HBz := hBr.size
    have hlt1 := (hown.lt w2.heap.size rfl).2
    have t0 := cell_keep hBr u0
    have t1 := cell_keep hBr u1
    have t2 := cell_keep hBr u2
    have t3 := cell_keep hBr u3
    have t4 := cell_keep hBr u4
    have t5 := cell_keep hBr u5
    by_cases hlt : i < n
    · obtain ⟨b, o, rfl, c1⟩ := (h.rd.keep HBr).at' hlt
      obtain ⟨x, hx⟩ : ∃ x : Nat, x = (dg z.natAbs).getD i 0 := ⟨_, rfl⟩
      rw [lim_eq, ← hx] at c1
      have hxl : x < 1000000000 := by rw [hx]; exact getD_lt HLT.out i
      have HX := Lib.hid hx
      clear hx
      go_wp2_with fail
      go_loopw [8, 34] (fun v8 v34 wi => ∃ (k on : Nat) (l : List Nat), k ≤ n' ∧ v34 = .int .i64 k ∧ v8 = .int .u64 on ∧ on < 1000000000 ∧ Hid (MulSt (dg z.natAbs) (dg z'.natAbs) i k on l) ∧
          wi.ownsRow w2.heap.size 112 1 (.slice (some ⟨w2.heap.size, 0, none⟩) (n + n') (n + n')) (n + n') (vals l) ∧ Below w2.heap.size w2 wi) (fun _ v34 _ => n' - (intOf v34).toNat)
      case atStart => exact ⟨0, 0, l, Nat.zero_le _, rfl, rfl, by omega, HM, hown, hBr⟩
      case round =>
        clear hown hBr HBr HBz hlt1 t0 t1 t2 t3 t4 t5
        obtain ⟨k, on, l1, hkk, rfl, rfl, hon, HM1, hown, hBr⟩ := hrel
        have HBr : Below w.heap.size w wr := HB.trans (hBr.mono HB.size)
        have HBz := hBr.size
        have hlt1 := (hown.lt w2.heap.size rfl).2
        have t3 := cell_keep hBr u3
        by_cases hkt : k < n'
        · obtain ⟨b', o', rfl, c2⟩ := (h'.rd.keep HBr).at' hkt
          obtain ⟨y, hy⟩ : ∃ y : Nat, y = (dg z'.natAbs).getD k 0 := ⟨_, rfl⟩
          rw [lim_eq, ← hy] at c2
          have hyl : y < 1000000000 := by rw [hy]; exact getD_lt HLT'.out k
          have hlen := HM1.out.len
          rw [hlx.out, hly.out] at hlen
          have hcell := hown.cellAt (i + k) (by omega)
          rw [vals_at (by omega)] at hcell
          have hfr := hown.frozenAt (i + k)
          obtain ⟨u, hu⟩ : ∃ u : Nat, u = l1.getD (i + k) 0 := ⟨_, rfl⟩
          have hul : u < 1000000000 := by rw [hu]; exact getD_lt HM1.out.lt _
          rw [← hu] at hcell
          obtain ⟨t, ht⟩ : ∃ t : Nat, t = on + x * y + u := ⟨_, rfl⟩
          have hst := Lib.hid (HM1.out.step HLT.out HLT'.out (by rw [hlx.out]; exact hlt) (by rw [hly.out]; exact hkt) (show t = on + (dg z.natAbs).getD i 0 * (dg z'.natAbs).getD k 0 + l1.getD (i + k) 0 by rw [ht, HX.out, hy, hu]))
          have htl := mul_small hxl hyl hul hon
          rw [← ht] at htl
          have hq : ((on : Int) + ((x : Int) * (y : Int) + (u : Int))) = (t : Int) := by rw [ht]; simp [Int.add_assoc]
          have hxy0 : (0 : Int) ≤ (x : Int) * (y : Int) := Int.mul_nonneg (by omega) (by omega)
          have hij : ((i : Int) + (k : Int)).toNat = i + k := by omega
          have HQ := Lib.hid hq
          have hxy1 : (x : Int) * (y : Int) + (u : Int) + (on : Int) < 1000000000000000000 := by omega
          have hm0 : 0 ≤ ((on : Int) + ((x : Int) * (y : Int) + (u : Int))) % 1000000000 := by omega
          have hm1 : ((on : Int) + ((x : Int) * (y : Int) + (u : Int))) % 1000000000 < 1000000000 := by omega
          have hd0 : 0 ≤ ((on : Int) + ((x : Int) * (y : Int) + (u : Int))) / 1000000000 := by omega
          have hd1 : ((on : Int) + ((x : Int) * (y : Int) + (u : Int))) / 1000000000 < 1000000000 := by omega
          have HST := Lib.hid (hown.stored (i + k) (.int .u32 (((on : Int) + ((x : Int) * (y : Int) + (u : Int))) % 1000000000))).1
          clear hu hy ht hq hlen htl
          go_wp2_with fail
          go_roundw
          case rel =>
            refine ⟨k + 1, t / 1000000000, l1.set (i + k) (t % 1000000000), by omega, by go_num, by rw [HQ.out]; simp, ?_, hst, ?_, by go_grown⟩
            · exact hst.out.few
            · rw [vals_set]
              have := HST.out
              rw [HQ.out] at this ⊢
              simpa using this
          case measure => (first | (simp [intOf]; omega) | (simp [intOf]; done))
        · obtain rfl : k = n' := by omega
          have hlen := HM1.out.len
          rw [hlx.out, hly.out] at hlen
          have hcell := hown.cellAt (i + k) (by omega)
          rw [vals_at (by omega)] at hcell
          have hfr := hown.frozenAt (i + k)
          have hst : Hid (MulSt (dg z.natAbs) (dg z'.natAbs) (i + 1) 0 0 (l1.set (i + k) on)) := by
            have h1 := HM1.out
            have h2 := hly.out
            subst h2
            exact Lib.hid (h1.next (by rw [hlx.out]; exact hlt))
          have hij : ((i : Int) + (k : Int)).toNat = i + k := by omega
          have HST := Lib.hid (hown.stored (i + k) (.int .u32 (on : Int))).1
          clear hlen
          go_wp2_with fail
          go_roundw
          case rel =>
            refine ⟨i + 1, l1.set (i + k) on, by omega, by go_num, hst, ?_, by go_grown⟩
            rw [vals_set]
            exact HST.out
          case measure => (first | (simp [intOf]; omega) | (simp [intOf]; done))
    · obtain rfl : i = n := by omega
      have hst := HM.out
      have h2 := hlx.out
      have hrd := rdl_of_owns hown (by omega) (fun j => lim_small_of_lt (fun x hx => by have := hst.lt x hx; omega) j)
      have hfr := Fresh.of_owns hown
      have hval : sgn (!(g == g')) (val l) = z * z' := by
        subst h2
        rw [hst.done]
        exact mul_sgn h.neg h'.neg
      have HV := Lib.hid hval
      clear hval h2
      go_wp2_with fail
      refine (cut_c _ _ _ _ _ l hrd hst.lt).mono ?_
      rintro e w5 ⟨g3, n3, rfl, hn3, hnum, hb⟩
      have q4 := cell_keep hb t4
      have q5 := cell_keep hb t5
      have q6 : w5.frozen? ⟨w.heap.size + 1 + 1, 0, none⟩ = false := (hb.frozen (by show w.heap.size + 1 + 1 < _; omega)).trans ((hBr.frozen (by show w.heap.size + 1 + 1 < _; omega)).trans v4)
      have q7 : w5.frozen? ⟨w.heap.size + 1 + 1, 1, none⟩ = false := (hb.frozen (by show w.heap.size + 1 + 1 < _; omega)).trans ((hBr.frozen (by show w.heap.size + 1 + 1 < _; omega)).trans v5)
      have hfr5 : Fresh (w.heap.size + 1 + 1 + 1) w5 (some ⟨w2.heap.size, 0, none⟩) n3 := ((hfr.keep hb).less (by omega)).mono (by omega)
      have hz5 := hb.size
      rw [HV.out] at hnum
      have HB5 : Below w.heap.size w w5 := HBr.trans (hb.mono HBr.size)
      go_wp2_with fail
      refine bodyPost_ret (v := .agg #[.bool g3, .slice (some ⟨w2.heap.size, 0, none⟩) n3 n3]) (by simp [results, Tryz.results174, go_sem, q4, q5]) rfl ?_
      refine ⟨g3, _, n3, n3, rfl, ?_, ?_, by go_grown⟩
      · exact (hnum.setFresh hfr5 _ _ (by show w.heap.size + 1 + 1 < _; omega)).setFresh (hfr5.setNew _ _ (by show w.heap.size + 1 + 1 < _; omega)) _ _ (by show w.heap.size + 1 + 1 < _; omega)
      · exact ((hfr5.setNew _ _ (by show w.heap.size + 1 + 1 < _; omega)).setNew _ _ (by show w.heap.size + 1 + 1 < _; omega)).mono (by omega)
end Go.Proofs.YtdamegaedmckbaaGreatDoor
end
