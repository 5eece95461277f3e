/- Package polys: Scale by -1. No further condition. Plain: the texts that SpellsOrder builds, step by step. No condition. -/
import Derived.Test.YtdamegaedmckbaaGreatDoorX31
import Derived.Test.YtdamegaedmckbaaGreatDoorX41
import Derived.Test.YtdamegaedmckbaaGreatDoorX37
set_option linter.unusedSimpArgs false
set_option linter.unusedVariables false
section
namespace Go.Proofs.YtdamegaedmckbaaGreatDoor
open Go.RowKit

/-- What a term is answered by. -/
def RetTm (w : World) (x : PC) (m0 m1 m2 m3 : Nat) (e : Ending) (w' : World) : Prop :=
  ∃ g1 a1 n1 c1 g2 a2 n2 c2, e = .returned (.agg #[.bool g1, .slice a1 n1 c1, .bool g2, .slice a2 n2 c2, .int .u16 m0, .int .u16 m1, .int .u16 m2, .int .u16 m3]) ∧ FracAt w' g1 a1 n1 c1 x.1 g2 a2 n2 c2 x.2 ∧ Fresh w.heap.size w' a1 c1 ∧ Fresh w.heap.size w' a2 c2 ∧ Below w.heap.size w w'
set_option maxRecDepth 100000 in
set_option maxHeartbeats 4000000 in
theorem scale1_c (w : World) (t : Tm) (x : PC) (hx : FracAt w t.g1 t.a1 t.n1 t.c1 x.1 t.g2 t.a2 t.n2 t.c2 x.2) (b : Nat) (g1 : Bool) (a1 : Option Addr) (n1 c1 : Nat) (g2 : Bool) (a2 : Option Addr) (n2 c2 : Nat) (y : PC) (hy : FracAt w g1 a1 n1 c1 y.1 g2 a2 n2 c2 y.2)
    (h0 : w.cell? ⟨b, 0, none⟩ = some (.bool g1)) (h1 : w.cell? ⟨b, 1, none⟩ = some (.slice a1 n1 c1)) (h2 : w.cell? ⟨b, 2, none⟩ = some (.bool g2)) (h3 : w.cell? ⟨b, 3, none⟩ = some (.slice a2 n2 c2))
    (q1 : t.n1 ≤ 1000000000) (q2 : t.n2 ≤ 1000000000) (q3 : n1 ≤ 1000000000) (q4 : n2 ≤ 1000000000) :
    Calls Tryz.prog 105 #[t.val, .pointer (some ⟨b, 0, none⟩)] w (RetTm w (mulC x y) t.m0 t.m1 t.m2 t.m3) := by
  have hlt : b < w.heap.size := World.block_lt_of_cell? _ _ h0
  have hlt1 : b ≠ w.heap.size := by omega
  have hlt2 : b ≠ w.heap.size + 1 := by omega
  have HB := Below.refl w.heap.size w
  go_enter Tryz.func105, Tryz.ntmps105
  go_wp2_with fail
  go_region_held3 (fun W => W.cell? ⟨w.heap.size, 0, none⟩ = some (.bool t.g1) ∧ W.cell? ⟨w.heap.size, 1, none⟩ = some (.slice t.a1 t.n1 t.c1) ∧ W.cell? ⟨w.heap.size, 2, none⟩ = some (.bool t.g2) ∧ W.cell? ⟨w.heap.size, 3, none⟩ = some (.slice t.a2 t.n2 t.c2) ∧ W.cell? ⟨w.heap.size, 4, none⟩ = some (.int .u16 t.m0) ∧ W.cell? ⟨w.heap.size, 5, none⟩ = some (.int .u16 t.m1) ∧ W.cell? ⟨w.heap.size, 6, none⟩ = some (.int .u16 t.m2) ∧ W.cell? ⟨w.heap.size, 7, none⟩ = some (.int .u16 t.m3) ∧ W.cell? ⟨b, 0, none⟩ = some (.bool g1) ∧ W.cell? ⟨b, 1, none⟩ = some (.slice a1 n1 c1) ∧ W.cell? ⟨b, 2, none⟩ = some (.bool g2) ∧ W.cell? ⟨b, 3, none⟩ = some (.slice a2 n2 c2)) (first | ((try dsimp only); (repeat' apply And.intro); all_goals (first | (with_reducible assumption) | (go_keep; done) | (simp [*, go_sem]; done)))) (first
    | (go_at_call 106; (with_reducible refine (fMul_c _ _ _ _ _ _ _ _ _ _ _ (hx.keep (by go_grown)) _ _ _ _ _ _ _ _ _ _ (hy.keep (by go_grown)) q1 q2 q3 q4).mono ?_); rintro e w4 ⟨gm1, am1, nm1, cm1, gm2, am2, nm2, cm2, rfl, hmul, hfm1, hfm2, hb⟩; obtain ⟨hc, hf⟩ := bcell hb; have hz := hb.size; (try simp only [World.size_alloc, World.size_drew, World.size_setCell] at hz); replace HB : Below w.heap.size w w4 := Below.trans (by go_grown) (hb.mono (by go_size)); have s0_0 : w4.cell? ⟨w.heap.size, 0, none⟩ = some (.bool t.g1) := (hc _ _ (by go_size)).trans (by first | assumption | (simp [go_sem]; done) | (simp [*, go_sem]; done)); have s0_1 : w4.cell? ⟨w.heap.size, 1, none⟩ = some (.slice t.a1 t.n1 t.c1) := (hc _ _ (by go_size)).trans (by first | assumption | (simp [go_sem]; done) | (simp [*, go_sem]; done)); have s0_2 : w4.cell? ⟨w.heap.size, 2, none⟩ = some (.bool t.g2) := (hc _ _ (by go_size)).trans (by first | assumption | (simp [go_sem]; done) | (simp [*, go_sem]; done)); have s0_3 : w4.cell? ⟨w.heap.size, 3, none⟩ = some (.slice t.a2 t.n2 t.c2) := (hc _ _ (by go_size)).trans (by first | assumption | (simp [go_sem]; done) | (simp [*, go_sem]; done)); have s0_4 : w4.cell? ⟨w.heap.size, 4, none⟩ = some (.int .u16 t.m0) := (hc _ _ (by go_size)).trans (by first | assumption | (simp [go_sem]; done) | (simp [*, go_sem]; done)); have s0_5 : w4.cell? ⟨w.heap.size, 5, none⟩ = some (.int .u16 t.m1) := (hc _ _ (by go_size)).trans (by first | assumption | (simp [go_sem]; done) | (simp [*, go_sem]; done)); have s0_6 : w4.cell? ⟨w.heap.size, 6, none⟩ = some (.int .u16 t.m2) := (hc _ _ (by go_size)).trans (by first | assumption | (simp [go_sem]; done) | (simp [*, go_sem]; done)); have s0_7 : w4.cell? ⟨w.heap.size, 7, none⟩ = some (.int .u16 t.m3) := (hc _ _ (by go_size)).trans (by first | assumption | (simp [go_sem]; done) | (simp [*, go_sem]; done)); have s1_0 : w4.cell? ⟨w.heap.size + 1, 0, none⟩ = some (.bool false) := (hc _ _ (by go_size)).trans (by first | assumption | (simp [go_sem]; done) | (simp [*, go_sem]; done)); have s1_1 : w4.cell? ⟨w.heap.size + 1, 1, none⟩ = some (.slice none 0 0) := (hc _ _ (by go_size)).trans (by first | assumption | (simp [go_sem]; done) | (simp [*, go_sem]; done)); have s1_2 : w4.cell? ⟨w.heap.size + 1, 2, none⟩ = some (.bool false) := (hc _ _ (by go_size)).trans (by first | assumption | (simp [go_sem]; done) | (simp [*, go_sem]; done)); have s1_3 : w4.cell? ⟨w.heap.size + 1, 3, none⟩ = some (.slice none 0 0) := (hc _ _ (by go_size)).trans (by first | assumption | (simp [go_sem]; done) | (simp [*, go_sem]; done)); have s1_4 : w4.cell? ⟨w.heap.size + 1, 4, none⟩ = some (.int .u16 0) := (hc _ _ (by go_size)).trans (by first | assumption | (simp [go_sem]; done) | (simp [*, go_sem]; done)); have s1_5 : w4.cell? ⟨w.heap.size + 1, 5, none⟩ = some (.int .u16 0) := (hc _ _ (by go_size)).trans (by first | assumption | (simp [go_sem]; done) | (simp [*, go_sem]; done)); have s1_6 : w4.cell? ⟨w.heap.size + 1, 6, none⟩ = some (.int .u16 0) := (hc _ _ (by go_size)).trans (by first | assumption | (simp [go_sem]; done) | (simp [*, go_sem]; done)); have s1_7 : w4.cell? ⟨w.heap.size + 1, 7, none⟩ = some (.int .u16 0) := (hc _ _ (by go_size)).trans (by first | assumption | (simp [go_sem]; done) | (simp [*, go_sem]; done)); have f1_0 : w4.frozen? ⟨w.heap.size + 1, 0, none⟩ = false := (hf _ _ (by go_size)).trans (by first | assumption | (simp [go_sem]; done) | (simp [*, go_sem]; done)); have f1_1 : w4.frozen? ⟨w.heap.size + 1, 1, none⟩ = false := (hf _ _ (by go_size)).trans (by first | assumption | (simp [go_sem]; done) | (simp [*, go_sem]; done)); have f1_2 : w4.frozen? ⟨w.heap.size + 1, 2, none⟩ = false := (hf _ _ (by go_size)).trans (by first | assumption | (simp [go_sem]; done) | (simp [*, go_sem]; done)); have f1_3 : w4.frozen? ⟨w.heap.size + 1, 3, none⟩ = false := (hf _ _ (by go_size)).trans (by first | assumption | (simp [go_sem]; done) | (simp [*, go_sem]; done)); have f1_4 : w4.frozen? ⟨w.heap.size + 1, 4, none⟩ = false := (hf _ _ (by go_size)).trans (by first | assumption | (simp [go_sem]; done) | (simp [*, go_sem]; done)); have f1_5 : w4.frozen? ⟨w.heap.size + 1, 5, none⟩ = false := (hf _ _ (by go_size)).trans (by first | assumption | (simp [go_sem]; done) | (simp [*, go_sem]; done)); have f1_6 : w4.frozen? ⟨w.heap.size + 1, 6, none⟩ = false := (hf _ _ (by go_size)).trans (by first | assumption | (simp [go_sem]; done) | (simp [*, go_sem]; done)); have f1_7 : w4.frozen? ⟨w.heap.size + 1, 7, none⟩ = false := (hf _ _ (by go_size)).trans (by first | assumption | (simp [go_sem]; done) | (simp [*, go_sem]; done)); have z0 : w4.cell? ⟨b, 0, none⟩ = some (.bool g1) := (hc _ _ (by go_size)).trans (by simp [*, go_sem]); have z1 : w4.cell? ⟨b, 1, none⟩ = some (.slice a1 n1 c1) := (hc _ _ (by go_size)).trans (by simp [*, go_sem]); have z2 : w4.cell? ⟨b, 2, none⟩ = some (.bool g2) := (hc _ _ (by go_size)).trans (by simp [*, go_sem]); have z3 : w4.cell? ⟨b, 3, none⟩ = some (.slice a2 n2 c2) := (hc _ _ (by go_size)).trans (by simp [*, go_sem])))
  go_wp2_with fail
  have fe1 := hfm1.mono (show w.heap.size + 1 + 1 ≤ _ by go_size)
  have fe2 := hfm2.mono (show w.heap.size + 1 + 1 ≤ _ by go_size)
  have u : w.heap.size + 1 < w.heap.size + 1 + 1 := by omega
  have hk1 : w.heap.size + 1 < w4.heap.size := by have := hz; omega
  refine bodyPost_ret (v := .agg #[.bool gm1, .slice am1 nm1 cm1, .bool gm2, .slice am2 nm2 cm2, .int .u16 t.m0, .int .u16 t.m1, .int .u16 t.m2, .int .u16 t.m3]) (by simp [*, results, Tryz.results105, go_sem]) rfl ?_
  refine ⟨gm1, am1, nm1, cm1, gm2, am2, nm2, cm2, rfl, ⟨(hmul.top.set4 fe1 _ _ _ _ _ _ _ _ u u u u).set4 (fe1.set4 _ _ _ _ _ _ _ _ u u u u) _ _ _ _ _ _ _ _ u u u u, (hmul.low.set4 fe2 _ _ _ _ _ _ _ _ u u u u).set4 (fe2.set4 _ _ _ _ _ _ _ _ u u u u) _ _ _ _ _ _ _ _ u u u u, hmul.pos, hmul.red⟩, ((fe1.set4 _ _ _ _ _ _ _ _ u u u u).set4 _ _ _ _ _ _ _ _ u u u u).mono (by omega), ((fe2.set4 _ _ _ _ _ _ _ _ u u u u).set4 _ _ _ _ _ _ _ _ u u u u).mono (by omega), by go_grown⟩
theorem negT_pw {l : List PT} (hl : PW l) : PW (l.map negT) := by
  refine ⟨?_, fun t ht => ?_, fun t ht => ?_⟩
  · rw [Falls, List.pairwise_map]
    exact hl.falls
  · obtain ⟨x, hx, rfl⟩ := List.mem_map.1 ht
    obtain ⟨h1, h2⟩ := hl.good x hx
    exact ⟨⟨h1.pos, by show Int.gcd (-x.2.1) x.2.2 = 1; rw [Int.neg_gcd]; exact h1.red⟩, by show ¬ -x.2.1 = 0; omega⟩
  · obtain ⟨x, hx, rfl⟩ := List.mem_map.1 ht
    exact hl.key x hx
theorem negT_few {l : List PT} {K : Nat} (h : FewL K l) : FewL K (l.map negT) := fun t ht => by
  obtain ⟨x, hx, rfl⟩ := List.mem_map.1 ht
  have := h x hx
  exact ⟨by show (dg (-x.2.1).natAbs).length ≤ K; rw [Int.natAbs_neg]; exact this.1, this.2⟩
theorem mulC_neg {c : PC} (hc : CW c) : mulC c (-1, 1) = negC c := by
  have h1 := negC_mul c (1, 1)
  rw [mulC_one hc] at h1
  rw [h1]
  unfold mulC negC
  simp only [Int.mul_one, Int.mul_neg]
theorem mapF_falls {l : List PT} (hl : Falls l) (k : Nat) : mapF l k = lk l k := by
  unfold mapF
  rw [foldl_ins l hl]
  cases lk l k <;> rfl
set_option maxRecDepth 100000 in
set_option maxHeartbeats 4000000 in
theorem with_c (wo : World) (a : Option Addr) (n c : Nat) (p : Nat → Tm) (hp : RdP wo a n c p) (l : List PT) (hll : l.length = n) (hpx : ∀ i x, l[i]? = some x → TmIs (p i) x) (hl : PW l) (K : Nat) (hK : FewL K l) (hK1 : K < 500000) (hn : n ≤ 500000)
    (b : Nat) (g1 : Bool) (a1 : Option Addr) (n1 c1 : Nat) (g2 : Bool) (a2 : Option Addr) (n2 c2 : Nat) (hy : FracAt wo g1 a1 n1 c1 (-1) g2 a2 n2 c2 1)
    (h0 : wo.cell? ⟨b, 0, none⟩ = some (.bool g1)) (h1 : wo.cell? ⟨b, 1, none⟩ = some (.slice a1 n1 c1)) (h2 : wo.cell? ⟨b, 2, none⟩ = some (.bool g2)) (h3 : wo.cell? ⟨b, 3, none⟩ = some (.slice a2 n2 c2)) :
    Calls Tryz.prog 104 #[.slice a n c, .func (.func 105) #[] #[.pointer (some ⟨b, 0, none⟩)]] wo (RetPoly wo (l.map negT)) := by
  have HB := Below.refl wo.heap.size wo
  have hmm := @run_makeMap Tryz.prog
  have HM0 : MapAt (wo.alloc (.map #[] 0)) wo.heap.size 0 (wo.heap.size + 1) (fun _ => none) := ⟨.map [], World.ownsMap_made wo Tryz.prog 66 RH, Holds4.empty _ _⟩
  have HX := Lib.hid hpx
  clear hpx
  go_enter Tryz.func104, Tryz.ntmps104
  go_wp2_with fail
  go_loopw [11] (fun v11 wr => ∃ i : Nat, i ≤ n ∧ v11 = .int .i64 i ∧ MapAt wr wo.heap.size i (wo.heap.size + 1) (mapF ((l.map negT).take i)) ∧ Below wo.heap.size wo wr) (fun v11 _ => n - (intOf v11).toNat)
  case atStart => exact ⟨0, by omega, rfl, by simpa [mapF] using HM0, by go_grown⟩
  case round =>
    obtain ⟨k, hk, rfl, hM, HBr⟩ := hrel
    have hzr := HBr.size
    clear HM0
    by_cases hlt : k < n
    · obtain ⟨gb, go, rfl, _⟩ := hp.cell.resolve_left (by omega)
      have hkl : k < l.length := by omega
      obtain ⟨x, hx⟩ : ∃ x, l[k]? = some x := ⟨_, List.getElem?_eq_getElem hkl⟩
      have hm := List.mem_of_getElem? hx
      have hti := HX.out k x hx
      have hcw := (hl.good x hm).1
      have hfw := hK x hm
      have hrt := (hp.tm k hlt).keep HBr
      have hat := (hp.keep HBr).at hlt
      generalize p k = t at *
      obtain ⟨e0, e1, e2, e3, e4, e5, e6, e7⟩ := hat
      obtain ⟨w, rfl⟩ : ∃ w : World, w = wr := ⟨_, rfl⟩
      have HB := Below.refl w.heap.size w
      have hfr := hti.frac hrt hcw
      have hyr := hy.keep HBr
      have hbl : wo.heap.size < w.heap.size := by obtain ⟨D, hD, _⟩ := hM.ex; exact hD.lt
      have e9 := hfr.top.rd.len
      have e10 := hfr.low.rd.len
      have e11 := hy.top.rd.len
      have e12 := hy.low.rd.len
      have e13 : (dg (1 : Int).natAbs).length = 1 := dg_one_len
      have e14 : (dg (-1 : Int).natAbs).length = 1 := dg_one_len
      obtain ⟨i1, i2⟩ := hfw
      have q1 : t.n1 ≤ 1000000000 := by omega
      have q2 : t.n2 ≤ 1000000000 := by omega
      have q3 : n1 ≤ 1000000000 := by omega
      have q4 : n2 ≤ 1000000000 := by omega
      have E1 := mulC_neg hcw
      have z0 := cell_keep HBr h0
      have z1 := cell_keep HBr h1
      have z2 := cell_keep HBr h2
      have z3 := cell_keep HBr h3
      have hf9 : FewC 1000000000 (negC x.2) := ⟨by show (dg (-x.2.1).natAbs).length ≤ _; rw [Int.natAbs_neg]; omega, by show (dg x.2.2.natAbs).length ≤ _; omega⟩
      have hnl := negT_pw hl
      have hyk : ∀ y, mapF ((l.map negT).take k) (key4 t.m0 t.m1 t.m2 t.m3) = some y → FewC 1000000000 y := fun y hy => by
        rw [mapF_falls (hnl.falls.sublist (List.take_sublist _ _))] at hy
        exact FewC.mono (negT_few hK _ (List.mem_of_mem_take (lk_mem hy))) (by omega)
      have HN := Lib.hid (show mapF ((l.map negT).take (k + 1)) = insF (mapF ((l.map negT).take k)) (key4 t.m0 t.m1 t.m2 t.m3, negC x.2) by
        have e : (l.map negT).take (k + 1) = (l.map negT).take k ++ [negT x] := by
          rw [List.take_add_one, List.getElem?_map, hx]; rfl
        rw [e, mapF_snoc, hti.key]; rfl)
      have HT := Lib.hid hti
      have HYK := Lib.hid hyk
      clear hti hx i1 i2 e9 e10 e11 e12 e13 e14 hyk hnl hm hcw
      go_wp2_with fail
      refine (scale1_c _ t x.2 (hfr.keep (by go_grown)) b g1 a1 n1 c1 g2 a2 n2 c2 (-1, 1) (hyr.keep (by go_grown)) (cell_keep (by go_grown) z0) (cell_keep (by go_grown) z1) (cell_keep (by go_grown) z2) (cell_keep (by go_grown) z3) q1 q2 q3 q4).mono ?_
      rintro e w5 ⟨g5, a5, n5, c5, g6, a6, n6, c6, rfl, hsc, hs1, hs2, hb5⟩
      obtain ⟨hc5, hf5⟩ := bcell hb5
      have hz5 := hb5.size
      simp only [World.size_alloc] at hz5
      have s0_0 : w5.cell? ⟨w.heap.size, 0, none⟩ = some (.bool t.g1) := (hc5 _ _ (by go_size)).trans (by simp [go_sem])
      have f0_0 : w5.frozen? ⟨w.heap.size, 0, none⟩ = false := (hf5 _ _ (by go_size)).trans (by simp [go_sem])
      have s0_1 : w5.cell? ⟨w.heap.size, 1, none⟩ = some (.slice t.a1 t.n1 t.c1) := (hc5 _ _ (by go_size)).trans (by simp [go_sem])
      have f0_1 : w5.frozen? ⟨w.heap.size, 1, none⟩ = false := (hf5 _ _ (by go_size)).trans (by simp [go_sem])
      have s0_2 : w5.cell? ⟨w.heap.size, 2, none⟩ = some (.bool t.g2) := (hc5 _ _ (by go_size)).trans (by simp [go_sem])
      have f0_2 : w5.frozen? ⟨w.heap.size, 2, none⟩ = false := (hf5 _ _ (by go_size)).trans (by simp [go_sem])
      have s0_3 : w5.cell? ⟨w.heap.size, 3, none⟩ = some (.slice t.a2 t.n2 t.c2) := (hc5 _ _ (by go_size)).trans (by simp [go_sem])
      have f0_3 : w5.frozen? ⟨w.heap.size, 3, none⟩ = false := (hf5 _ _ (by go_size)).trans (by simp [go_sem])
      have s0_4 : w5.cell? ⟨w.heap.size, 4, none⟩ = some (.int .u16 t.m0) := (hc5 _ _ (by go_size)).trans (by simp [go_sem])
      have f0_4 : w5.frozen? ⟨w.heap.size, 4, none⟩ = false := (hf5 _ _ (by go_size)).trans (by simp [go_sem])
      have s0_5 : w5.cell? ⟨w.heap.size, 5, none⟩ = some (.int .u16 t.m1) := (hc5 _ _ (by go_size)).trans (by simp [go_sem])
      have f0_5 : w5.frozen? ⟨w.heap.size, 5, none⟩ = false := (hf5 _ _ (by go_size)).trans (by simp [go_sem])
      have s0_6 : w5.cell? ⟨w.heap.size, 6, none⟩ = some (.int .u16 t.m2) := (hc5 _ _ (by go_size)).trans (by simp [go_sem])
      have f0_6 : w5.frozen? ⟨w.heap.size, 6, none⟩ = false := (hf5 _ _ (by go_size)).trans (by simp [go_sem])
      have s0_7 : w5.cell? ⟨w.heap.size, 7, none⟩ = some (.int .u16 t.m3) := (hc5 _ _ (by go_size)).trans (by simp [go_sem])
      have f0_7 : w5.frozen? ⟨w.heap.size, 7, none⟩ = false := (hf5 _ _ (by go_size)).trans (by simp [go_sem])
      rw [E1] at hsc
      have B5 : Below w.heap.size w w5 := Below.trans (by go_grown) (hb5.mono (by go_size))
      clear hc5 hf5 hb5
      have fe1 := hs1.mono (show w.heap.size + 1 ≤ _ by go_size)
      have fe2 := hs2.mono (show w.heap.size + 1 ≤ _ by go_size)
      have u : w.heap.size < w.heap.size + 1 := by omega
      have hk5 : w.heap.size < w5.heap.size := by omega
      have km1 : Nw (wo.heap.size + 1) n5 a5 := Nw.mono (fe1.newA hsc.top.rd) (by omega)
      have km2 : Nw (wo.heap.size + 1) n6 a6 := Nw.mono (fe2.newA hsc.low.rd) (by omega)
      have hbB : b < wo.heap.size := World.block_lt_of_cell? _ _ h0
      go_wp2_with fail
      refine (add_c _ wo.heap.size k (wo.heap.size + 1) (mapF ((l.map negT).take k)) (hM.keep (by go_grown)) (Nat.lt_succ_self _) (by go_size) (by omega) g5 a5 n5 c5 g6 a6 n6 c6 (negC x.2) ⟨(hsc.top.set4 fe1 _ _ _ _ _ _ _ _ u u u u).set4 (fe1.set4 _ _ _ _ _ _ _ _ u u u u) _ _ _ _ _ _ _ _ u u u u, (hsc.low.set4 fe2 _ _ _ _ _ _ _ _ u u u u).set4 (fe2.set4 _ _ _ _ _ _ _ _ u u u u) _ _ _ _ _ _ _ _ u u u u, hsc.pos, hsc.red⟩ km1 km2 t.m0 t.m1 t.m2 t.m3 hrt.s0 hrt.s1 hrt.s2 hrt.s3 hf9 HYK.out).mono ?_
      rintro e w6 ⟨rfl, hM6, hg6⟩
      have HB6 : Below wo.heap.size wo w6 := Below.grown (HBr.trans (Below.mono (by go_grown : Below w.heap.size w _) HBr.size)) hg6 (by go_size) (fun j hj => by cases hj; exact Nat.le_refl _)
      go_wp2_with fail
      go_roundw
      case rel => exact ⟨k + 1, by omega, by go_num, by rw [HN.out]; exact hM6, HB6⟩
      case measure => (first | (simp [intOf]; omega) | (simp [intOf]; done))
    · obtain rfl : k = n := by omega
      have hnl := negT_pw hl
      have hM6 : MapAt wr wo.heap.size k (wo.heap.size + 1) (mapF (l.map negT)) := by
        have := hM
        rwa [List.take_of_length_le (by rw [List.length_map]; omega)] at this
      have hbl : wo.heap.size < wr.heap.size := by obtain ⟨D, hD, _⟩ := hM.ex; exact hD.lt
      have hkk : ∀ j x, mapF (l.map negT) j = some x → j < 18446744073709551616 ∧ FewC 1000000 x := fun j x hx => by
        rw [mapF_falls hnl.falls] at hx
        have hm := lk_mem hx
        exact ⟨hnl.key _ hm, FewC.mono (negT_few hK _ hm) (by omega)⟩
      go_wp2_with fail
      refine (sum_c _ wo.heap.size k (wo.heap.size + 1) (mapF (l.map negT)) hM6 (by omega) (by omega) hkk).mono ?_
      rintro e w6 ⟨a6, n6, c6, r, rfl, hr, hfr, hmr, hb6⟩
      have hrl : r = l.map negT := falls_ext hfr hnl.falls fun t => by
        obtain ⟨k, x⟩ := t
        rw [hmr, mapF_falls hnl.falls]
        constructor
        · rintro ⟨h1, _⟩; exact lk_mem h1
        · intro h1; exact ⟨lk_of_mem hnl.falls h1, (hnl.good _ h1).2⟩
      subst hrl
      go_wp2_with fail
      refine bodyPost_ret (v := .slice a6 n6 c6) (by simp [results, Tryz.results104, go_sem]) rfl ?_
      exact ⟨a6, n6, c6, rfl, hr.mono (by omega), HBr.trans (hb6.mono HBr.size)⟩
set_option maxRecDepth 100000 in
set_option maxHeartbeats 4000000 in
theorem scale_c (w : World) (B : Nat) (a : Option Addr) (n c : Nat) (l : List PT) (h : PolyAt w B a n c l) (hl : PW l) (K : Nat) (hK : FewL K l) (hK1 : K < 500000) (hn : n ≤ 500000)
    (g1 : Bool) (a1 : Option Addr) (n1 c1 : Nat) (g2 : Bool) (a2 : Option Addr) (n2 c2 : Nat) (hy : FracAt w g1 a1 n1 c1 (-1) g2 a2 n2 c2 1) :
    Calls Tryz.prog 29 #[.slice a n c, .agg #[.bool g1, .slice a1 n1 c1, .bool g2, .slice a2 n2 c2]] w (RetPoly w (l.map negT)) := by
  obtain ⟨p, hp, hpx⟩ := h.ts
  have hok := h.pok hl hp hpx
  have hpf := h.few hK hp hpx
  have P1 := Lib.hid hok
  have P3 : Hid (∀ k, k < n → (p k).n1 ≤ 1000000 ∧ (p k).n2 ≤ 1000000) := Lib.hid fun k hk => by have := hpf k hk; omega
  have P5 := Lib.hid hpx
  clear hok hpf hpx
  go_enter Tryz.func29, Tryz.ntmps29
  go_wp2_with fail
  refine (pof_c _ a n c p (hp.keep (by go_grown)) P3.out true ⟨fun _ => rfl, fun _ => P1.out⟩).mono ?_
  rintro e w1 ⟨rfl, hb1⟩
  have B1 : Below w.heap.size w w1 := Below.trans (by go_grown) (hb1.mono (by simp))
  go_wp2_with fail
  refine (with_c w1 a n c p (hp.keep B1) l h.len (fun i x hx => (P5.out i x hx).1) hl K hK hK1 hn w.heap.size g1 a1 n1 c1 g2 a2 n2 c2 (hy.keep B1) ((hb1.cell (by simp)).trans (by simp [go_sem])) ((hb1.cell (by simp)).trans (by simp [go_sem])) ((hb1.cell (by simp)).trans (by simp [go_sem])) ((hb1.cell (by simp)).trans (by simp [go_sem]))).mono ?_
  rintro e w2 ⟨a2, n2, c2, rfl, P2, hb2⟩
  go_wp2_with fail
  refine bodyPost_ret (v := .slice a2 n2 c2) (by simp [results, Tryz.results29, go_sem]) rfl ?_
  exact ⟨a2, n2, c2, rfl, P2.mono B1.size, B1.trans (hb2.mono B1.size)⟩
end Go.Proofs.YtdamegaedmckbaaGreatDoor
end
section
namespace Go.Proofs.YtdamegaedmckbaaGreatDoor
open Go.RowKit

/-- The text of one term. -/
abbrev tx1 (x : PT) : List UInt8 := sumW [32] [32] [x]
theorem tx1_eq (x : PT) : tx1 x = (if sgB x then [45] else []) ++ bodyW [32] x := by
  rw [tx1, sumW]; simp [tailW, tailG]
/-- The terms from j on, the last one first. -/
def backS (l : List PT) (j : Nat) : List UInt8 := if j < l.length then sumW [32] [] (l.drop j).reverse else []
/-- The same, each with the opposite sign ahead. -/
def oppS (l : List PT) (j : Nat) : List UInt8 := tailW [32] [] ((l.drop j).reverse.map negT)
theorem body_ne {x : PT} (hx : FineT x) (s : List UInt8) : bodyW s x ≠ [] := by
  intro e
  have := body_starts hx s []
  rw [e] at this
  cases this
theorem sumW_snoc (s : List UInt8) {zs : List PT} (hz : zs ≠ []) (x : PT) : sumW s [] (zs ++ [x]) = sumW s [] zs ++ (sgC (sgB x) :: bodyW s x) := by
  obtain ⟨z, zs, rfl⟩ := List.exists_cons_of_ne_nil hz
  rw [List.cons_append, sumW, sumW]
  simp [tailW, tailG]
theorem drop_rev {l : List PT} {i : Nat} (h : i < l.length) : (l.drop i).reverse = (l.drop (i + 1)).reverse ++ [l[i]] := by
  rw [List.drop_eq_getElem_cons h, List.reverse_cons]
theorem back_ne {l : List PT} (hx : ∀ x ∈ l, FineT x) {j : Nat} (h : j < l.length) : backS l j ≠ [] := by
  unfold backS
  rw [if_pos h, drop_rev h]
  obtain ⟨z, zs, e⟩ := List.exists_cons_of_ne_nil (show (l.drop (j + 1)).reverse ++ [l[j]] ≠ [] by simp)
  have hz : FineT z := hx z (by
    have : z ∈ (l.drop j).reverse := by rw [drop_rev h, e]; simp
    exact List.mem_of_mem_drop (List.mem_reverse.1 this))
  rw [e, sumW]
  intro h
  have := (List.append_eq_nil_iff.1 (List.append_eq_nil_iff.1 h).2).1
  exact body_ne hz _ this
theorem back_end (l : List PT) : backS l l.length = [] := by unfold backS; rw [if_neg (by omega)]
theorem opp_end (l : List PT) : oppS l l.length = [] := by unfold oppS; simp [tailW, tailG]
theorem back_step {l : List PT} (hx : ∀ x ∈ l, FineT x) {i : Nat} (h : i < l.length) : backS l i = if sgB l[i] then backS l (i + 1) ++ tx1 l[i] else (if backS l (i + 1) = [] then [] else backS l (i + 1) ++ [43]) ++ tx1 l[i] := by
  by_cases h1 : i + 1 < l.length
  · have hz : (l.drop (i + 1)).reverse ≠ [] := by
      intro e
      have := congrArg List.length e
      rw [List.length_reverse, List.length_drop] at this
      simp only [List.length_nil] at this
      omega
    have e1 : backS l i = backS l (i + 1) ++ (sgC (sgB l[i]) :: bodyW [32] l[i]) := by
      unfold backS
      rw [if_pos h, if_pos h1, drop_rev h, sumW_snoc _ hz]
    rw [if_neg (back_ne hx h1), e1, tx1_eq]
    cases sgB l[i] <;> simp [sgC]
  · have e0 : backS l (i + 1) = [] := by unfold backS; rw [if_neg h1]
    have e1 : backS l i = tx1 l[i] := by
      unfold backS
      rw [if_pos h, drop_rev h, List.drop_of_length_le (by omega)]
      rw [List.reverse_nil, List.nil_append, sumW, tx1_eq]
      simp [tailW, tailG]
    rw [e1, e0, if_pos rfl]
    simp
theorem opp_step {l : List PT} (hx : ∀ x ∈ l, FineT x) {i : Nat} (h : i < l.length) : oppS l i = if sgB l[i] then (oppS l (i + 1) ++ [43]) ++ tx1 (negT l[i]) else oppS l (i + 1) ++ tx1 (negT l[i]) := by
  unfold oppS
  have hf := hx l[i] (List.getElem_mem h)
  rw [drop_rev h, List.map_append]
  have e : ∀ ys : List PT, tailW [32] [] (ys ++ [negT l[i]]) = tailW [32] [] ys ++ (sgC (sgB (negT l[i])) :: bodyW [32] (negT l[i])) := fun ys => by simp [tailW, tailG]
  rw [List.map_cons, List.map_nil, e, tx1_eq, sgB_neg hf.nz]
  cases sgB l[i] <;> simp [sgC]
theorem back_zero {l : List PT} (h : 0 < l.length) : backS l 0 = sumW [32] [] l.reverse := by unfold backS; rw [if_pos h, List.drop_zero]
theorem opp_zero (l : List PT) : oppS l 0 = oppW l := by unfold oppS oppW; rw [List.drop_zero]
theorem back_len {l : List PT} (hx : ∀ x ∈ l, FineT x) (j : Nat) : (backS l j).length ≤ 1 + l.length * 447 := by
  unfold backS
  split
  · have := sum_len (l := (l.drop j).reverse) (s := [32]) (b := []) (by simp) (by simp) fun y hy => hx y (List.mem_of_mem_drop (List.mem_reverse.1 hy))
    rw [List.length_reverse, List.length_drop] at this
    exact Nat.le_trans this (Nat.add_le_add_left (Nat.mul_le_mul (Nat.sub_le _ _) (Nat.le_refl _)) 1)
  · simp
theorem opp_len {l : List PT} (hx : ∀ x ∈ l, FineT x) (j : Nat) : (oppS l j).length ≤ l.length * 447 := by
  unfold oppS tailW
  have := tail_len (xs := ((l.drop j).reverse.map negT).map fun y => (([] : List UInt8), y)) (s := [32]) (by simp) fun y hy => by
    obtain ⟨z, hz, rfl⟩ := List.mem_map.1 hy
    obtain ⟨u, hu, rfl⟩ := List.mem_map.1 hz
    exact ⟨by simp, fine_neg (hx u (List.mem_of_mem_drop (List.mem_reverse.1 hu)))⟩
  rw [List.length_map, List.length_map, List.length_reverse, List.length_drop] at this
  exact Nat.le_trans this (Nat.mul_le_mul (Nat.sub_le _ _) (Nat.le_refl _))
theorem tx1_len {x : PT} (hx : FineT x) : (tx1 x).length ≤ 448 := by
  have := sum_len (l := [x]) (s := [32]) (b := [32]) (by simp) (by simp) fun y hy => by
    simp only [List.mem_singleton] at hy; subst hy; exact hx
  simpa using this
/-- Both texts are read as the law says. -/
theorem order_read {l : List PT} (hl : Falls l) (hx : ∀ x ∈ l, FineT x) (h0 : 0 < l.length) (hn : l.length ≤ 20) : rdText (backS l 0) = (l, 0) ∧ rdText (sumW [32] [32] l ++ oppS l 0) = ([], 0) := by
  have hne : l ≠ [] := by rintro rfl; simp at h0
  have h1 := back_len hx 0
  have h2 := opp_len hx 0
  have h3 := sum_len (s := [32]) (b := [32]) (by simp) (by simp) hx
  refine ⟨rdText_of (by omega) ?_, rdText_of (by rw [List.length_append]; omega) ?_⟩
  · rw [back_zero h0]; exact back_read hl hx hne
  · rw [opp_zero]; exact twice_read hl hx hne
end Go.Proofs.YtdamegaedmckbaaGreatDoor
end
