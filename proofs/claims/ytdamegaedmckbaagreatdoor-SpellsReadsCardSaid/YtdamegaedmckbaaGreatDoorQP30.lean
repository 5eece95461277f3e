/- The document's answer, layer 2: lowest. -/
import Derived.Test.YtdamegaedmckbaaGreatDoorQP29
set_option linter.unusedSimpArgs false
set_option linter.unusedVariables false
set_option maxRecDepth 100000
set_option maxHeartbeats 4000000
section
namespace Go.Proofs.YtdamegaedmckbaaGreatDoor
open Go.RowKit
theorem eL (w : World) (g : Bool) (a : Option Addr) (n c : Nat) (z : Int) (h : A4 w g a n c z) (g' : Bool) (a' : Option Addr) (n' c' : Nat) (z' : Int) (h' : A4 w g' a' n' c' z') (hz' : 0 < z') (hb1 : n < 35184372088829) (hb2 : n' < 35184372088829) :
  Calls Tryz.prog 253 #[.agg #[.bool g, .slice a n c], .agg #[.bool g', .slice a' n' c']] w (Is w (z / z') (z % z')) :=
 Z8 w g a n c z h g' a' n' c' z' h' hz' (n + 1) (n + 1) qB qB qB (fun W hW => Rq W a n c z.natAbs a' n' c' z'.natAbs (h.rd.keep hW) (h'.rd.keep hW) qB qB)
theorem Zx (w : World) (g : Bool) (a : Option Addr) (n c : Nat) (z : Int) (h : A4 w g a n c z) (g' : Bool) (a' : Option Addr) (n' c' : Nat) (h' : A4 w g' a' n' c' 1) (hb1 : n < 35184372088829) (hb2 : n' < 35184372088829) :
  Calls Tryz.prog 204 #[.agg #[.bool g, .slice a n c], .agg #[.bool g', .slice a' n' c']] w (Hx w z 1) := by
 have HB := Ac w.heap.size w
 have hsg : Br 1 0 = 1 := Ct qB
 go_enter Tryz.func204, Tryz.ntmps204
 go_wp2_with fail
 refine (Lb _ _ _ _ _ 1 (h'.keep qF)).mono ?_
 rintro e w1 ⟨rfl, hb⟩
 obtain ⟨hc, hf⟩ := Ax hb; have hz := hb.size; (try simp only [Aj, Ak] at hz)
 replace HB := zD w hb
 obtain ⟨s0_0, s0_1⟩ := qX hc (w.heap.size) (.bool g) (.slice a n c); obtain ⟨s1_0, s1_1⟩ := qX hc (w.heap.size + 1) (.bool g') (.slice a' n' c'); obtain ⟨s2_0, s2_1⟩ := qZ hc (w.heap.size + 1 + 1); obtain ⟨s2_2, s2_3⟩ := qY hc (w.heap.size + 1 + 1) (.bool false) (.slice none 0 0); obtain ⟨f2_0, f2_1⟩ := zA hf (w.heap.size + 1 + 1); obtain ⟨f2_2, f2_3⟩ := zB hf (w.heap.size + 1 + 1)
 have hk1 : w.heap.size + 1 + 1 < w1.heap.size := by omega
 clear hc hf hb hz
 rw [hsg]
 go_wp2_with fail
 refine (Qz _ _ _ _ _ 1 (h'.keep qF)).mono ?_
 rintro e w2 ⟨rfl, hb⟩
 obtain ⟨hc, hf⟩ := Ax hb; have hz := hb.size; (try simp only [Aj, Ak] at hz)
 replace HB := zD w hb
 obtain ⟨s0_0, s0_1⟩ := qX hc (w.heap.size) (.bool g) (.slice a n c); obtain ⟨s1_0, s1_1⟩ := qX hc (w.heap.size + 1) (.bool g') (.slice a' n' c'); obtain ⟨s2_0, s2_1⟩ := qZ hc (w.heap.size + 1 + 1); obtain ⟨s2_2, s2_3⟩ := qY hc (w.heap.size + 1 + 1) (.bool false) (.slice none 0 0); obtain ⟨f2_0, f2_1⟩ := zA hf (w.heap.size + 1 + 1); obtain ⟨f2_2, f2_3⟩ := zB hf (w.heap.size + 1 + 1)
 have hk2 : w.heap.size + 1 + 1 < w2.heap.size := by omega
 clear hc hf hb hz
 go_wp2_with fail
 have HB2 := HB
 have h2 := h.keep HB2
 have h2' := h'.keep HB2
 go_region_held3 (fun W => W.cell? ⟨w.heap.size, 0, none⟩ = some (.bool g) ∧ W.cell? ⟨w.heap.size, 1, none⟩ = some (.slice a n c) ∧ W.cell? ⟨w.heap.size + 1, 0, none⟩ = some (.bool g') ∧ W.cell? ⟨w.heap.size + 1, 1, none⟩ = some (.slice a' n' c')) (first | ((try dsimp only); (repeat' apply And.intro); all_goals (first | (with_reducible assumption) | (go_keep; done) | (simp [*, go_sem]; done)))) (first
  | (go_at_call 122; (with_reducible refine (J4 _ _ _ _ _ z (h.keep qF)).mono ?_); rintro e w3 ⟨ge, ae, ne, ce, rfl, hn3, hf3, hb3⟩; have hb23 : Below w2.heap.size w2 w3 := Al qQ (hb3.mono qA); have hsz3 := hb23.size; (replace f2_0 := (Ab hb23 (Aa _ _ s2_0)).trans f2_0; replace s2_0 := Au hb23 s2_0; replace f2_1 := (Ab hb23 (Aa _ _ s2_1)).trans f2_1; replace s2_1 := Au hb23 s2_1; replace f2_2 := (Ab hb23 (Aa _ _ s2_2)).trans f2_2; replace s2_2 := Au hb23 s2_2; replace f2_3 := (Ab hb23 (Aa _ _ s2_3)).trans f2_3; replace s2_3 := Au hb23 s2_3); replace s0_0 := Au hb23 s0_0; replace s0_1 := Au hb23 s0_1; replace s1_0 := Au hb23 s1_0; replace s1_1 := Au hb23 s1_1; replace HB := HB.trans (hb23.mono HB.size))
  | (go_at_call 122; (with_reducible refine (J4 _ _ _ _ _ 1 (h'.keep qF)).mono ?_); rintro e w4 ⟨gf, af, nf, cf, rfl, hn4, hf4, hb4⟩; have hb34 : Below w3.heap.size w3 w4 := Al qQ (hb4.mono qA); have hsz4 := hb34.size; (replace f2_0 := (Ab hb34 (Aa _ _ s2_0)).trans f2_0; replace s2_0 := Au hb34 s2_0; replace f2_1 := (Ab hb34 (Aa _ _ s2_1)).trans f2_1; replace s2_1 := Au hb34 s2_1; replace f2_2 := (Ab hb34 (Aa _ _ s2_2)).trans f2_2; replace s2_2 := Au hb34 s2_2; replace f2_3 := (Ab hb34 (Aa _ _ s2_3)).trans f2_3; replace s2_3 := Au hb34 s2_3); replace s0_0 := Au hb34 s0_0; replace s0_1 := Au hb34 s0_1; replace s1_0 := Au hb34 s1_0; replace s1_1 := Au hb34 s1_1; replace HB := HB.trans (hb34.mono HB.size)))
 all_goals
  have hn3' := hn3.keep hb34
  have fe : Av (w.heap.size + 1 + 1 + 1) w4 ae ce := (hf3.mono qA).keep hb34
  have ff : Av (w.heap.size + 1 + 1 + 1) w4 af cf := hf4.mono qA
  have hk4 : w.heap.size + 1 + 1 < w4.heap.size := Aa _ _ s2_0
  have u2 : w.heap.size + 1 + 1 < w.heap.size + 1 + 1 + 1 := Ag _
  go_wp2_with fail
  refine bodyPost_ret (v := .agg #[.bool ge, .slice ae ne ce, .bool gf, .slice af nf cf]) (by simp [results, Tryz.results204, go_sem, s2_0, s2_1, s2_2, s2_3]) rfl ?_
  refine ⟨ge, ae, ne, ce, gf, af, nf, cf, rfl, ⟨?_, ?_, by omega, by simp [Int.gcd]⟩, ?_, ?_, by go_grown⟩
  ·exact hn3'.set4 fe _ _ _ _ _ _ _ _ u2 u2 u2 u2
  ·exact hn4.set4 ff _ _ _ _ _ _ _ _ u2 u2 u2 u2
  ·exact (fe.set4 _ _ _ _ _ _ _ _ u2 u2 u2 u2).mono qB
  ·exact (ff.set4 _ _ _ _ _ _ _ _ u2 u2 u2 u2).mono qB
theorem aS (w : World) (g : Bool) (a : Option Addr) (n c : Nat) (z : Int) (h : A4 w g a n c z) (g' : Bool) (a' : Option Addr) (n' c' : Nat) (z' : Int) (h' : A4 w g' a' n' c' z') (hz' : 1 < z') (hb1 : n < 35184372088829) (hb2 : n' < 35184372088829) :
  Calls Tryz.prog 204 #[.agg #[.bool g, .slice a n c], .agg #[.bool g', .slice a' n' c']] w (Hx w (Fz z z') (Fj z z')) := by
 have HB := Ac w.heap.size w
 have hsg : Br z' 0 = 1 := Ct qB
 have hne : decide (z' = 1) = false := decide_eq_false qB
 have hz0 : 0 < z' := by omega
 have hgp : 0 < Int.gcd z z' := Int.gcd_pos_of_ne_zero_right _ qB
 obtain ⟨D, hD⟩ : ∃ D : Int, D = ((Int.gcd z z' : Nat) : Int) := ⟨_, rfl⟩
 have hDp : 0 < D := by omega
 have HD := Ae hD
 have hlD : (dg D.natAbs).length ≤ n' := by
  have h1 := h'.rd.len
  have h3 := Nd (p := z) hz0
  rw [hD, Int.natAbs_natCast]
  omega
 have HLD := Ae hlD
 clear hD hlD hgp
 go_enter Tryz.func204, Tryz.ntmps204
 go_wp2_with fail
 refine (Lb _ _ _ _ _ z' (h'.keep qF)).mono ?_
 rintro e w1 ⟨rfl, hb⟩
 obtain ⟨hc, hf⟩ := Ax hb; have hz := hb.size; (try simp only [Aj, Ak] at hz)
 replace HB := zD w hb
 obtain ⟨s0_0, s0_1⟩ := qX hc (w.heap.size) (.bool g) (.slice a n c); obtain ⟨s1_0, s1_1⟩ := qX hc (w.heap.size + 1) (.bool g') (.slice a' n' c'); obtain ⟨s2_0, s2_1⟩ := qZ hc (w.heap.size + 1 + 1); obtain ⟨s2_2, s2_3⟩ := qY hc (w.heap.size + 1 + 1) (.bool false) (.slice none 0 0); obtain ⟨f2_0, f2_1⟩ := zA hf (w.heap.size + 1 + 1); obtain ⟨f2_2, f2_3⟩ := zB hf (w.heap.size + 1 + 1)
 have hk1 : w.heap.size + 1 + 1 < w1.heap.size := by omega
 clear hc hf hb hz
 rw [hsg]
 go_wp2_with fail
 refine (Qz _ _ _ _ _ z' (h'.keep qF)).mono ?_
 rintro e w2 ⟨rfl, hb⟩
 obtain ⟨hc, hf⟩ := Ax hb; have hz := hb.size; (try simp only [Aj, Ak] at hz)
 replace HB := zD w hb
 obtain ⟨s0_0, s0_1⟩ := qX hc (w.heap.size) (.bool g) (.slice a n c); obtain ⟨s1_0, s1_1⟩ := qX hc (w.heap.size + 1) (.bool g') (.slice a' n' c'); obtain ⟨s2_0, s2_1⟩ := qZ hc (w.heap.size + 1 + 1); obtain ⟨s2_2, s2_3⟩ := qY hc (w.heap.size + 1 + 1) (.bool false) (.slice none 0 0); obtain ⟨f2_0, f2_1⟩ := zA hf (w.heap.size + 1 + 1); obtain ⟨f2_2, f2_3⟩ := zB hf (w.heap.size + 1 + 1)
 have hk2 : w.heap.size + 1 + 1 < w2.heap.size := by omega
 clear hc hf hb hz
 rw [hne]
 go_wp2_with fail
 refine (Y7 _ _ _ _ _ z (h.keep qF) _ _ _ _ z' (h'.keep qF) hz0 hb2 hb1).mono ?_
 rintro e w3 ⟨gg, ag, ng, cg, rfl, hng, hfg, hb⟩
 obtain ⟨hc, hf⟩ := Ax hb; have hz := hb.size; (try simp only [Aj, Ak] at hz)
 replace HB := zD w hb
 obtain ⟨s0_0, s0_1⟩ := qX hc (w.heap.size) (.bool g) (.slice a n c); obtain ⟨s1_0, s1_1⟩ := qX hc (w.heap.size + 1) (.bool g') (.slice a' n' c'); obtain ⟨s2_0, s2_1⟩ := qZ hc (w.heap.size + 1 + 1); obtain ⟨s2_2, s2_3⟩ := qY hc (w.heap.size + 1 + 1) (.bool false) (.slice none 0 0); obtain ⟨f2_0, f2_1⟩ := zA hf (w.heap.size + 1 + 1); obtain ⟨f2_2, f2_3⟩ := zB hf (w.heap.size + 1 + 1)
 have hk3 : w.heap.size + 1 + 1 < w3.heap.size := by omega
 rw [← HD.out] at hng
 have hbx : w.heap.size + 1 + 1 + 1 ≤ w3.heap.size := hk3
 clear hc hf hb hz hfg
 go_upto_region 7 with fail
 (refine Ck ?_; intro w4 hw4; have G0' : w4.cell? ⟨w3.heap.size, 0, none⟩ = some (.bool gg) := (by rw [hw4]; first | assumption | (simp [go_sem]; done) | (simp [*, go_sem]; done)); have G1' : w4.cell? ⟨w3.heap.size, 1, none⟩ = some (.slice ag ng cg) := (by rw [hw4]; first | assumption | (simp [go_sem]; done) | (simp [*, go_sem]; done)); have G0 := G0'; clear G0'; have G1 := G1'; clear G1')
 have hb34 : Below w3.heap.size w3 w4 := by rw [hw4]; go_grown
 have HB4 := HB.trans (hb34.mono HB.size)
 have hs34 : w3.heap.size < w4.heap.size := by rw [hw4]; simp
 (replace f2_0 := (Ab hb34 (Aa _ _ s2_0)).trans f2_0; replace s2_0 := Au hb34 s2_0; replace f2_1 := (Ab hb34 (Aa _ _ s2_1)).trans f2_1; replace s2_1 := Au hb34 s2_1; replace f2_2 := (Ab hb34 (Aa _ _ s2_2)).trans f2_2; replace s2_2 := Au hb34 s2_2; replace f2_3 := (Ab hb34 (Aa _ _ s2_3)).trans f2_3; replace s2_3 := Au hb34 s2_3)
 replace s0_0 := Au hb34 s0_0
 replace s0_1 := Au hb34 s0_1
 replace s1_0 := Au hb34 s1_0
 replace s1_1 := Au hb34 s1_1
 have hng4 := hng.keep hb34
 obtain ⟨G, hG⟩ : ∃ G, G = w3.heap.size := ⟨_, rfl⟩
 rw [← hG] at G0 G1 ⊢
 have hGl : w.heap.size + 1 + 1 < G := by omega
 have hlg : ng ≤ n' := by have h1 := hng4.rd.len; have := HLD.out; omega
 clear hw4 hb34 hG hng HB
 go_wp2_with fail
 refine (eL _ _ _ _ _ z (h.keep HB4) _ _ _ _ D hng4 hDp hb1 qB).mono ?_
 rintro e w5 ⟨gq, aq, nq, cq, gr, ar, nr, cr, rfl, hq, hr, hfq, hfr, hb⟩
 have HB5 := HB4.trans (hb.mono HB4.size)
 (replace f2_0 := (Ab hb (Aa _ _ s2_0)).trans f2_0; replace s2_0 := Au hb s2_0; replace f2_1 := (Ab hb (Aa _ _ s2_1)).trans f2_1; replace s2_1 := Au hb s2_1; replace f2_2 := (Ab hb (Aa _ _ s2_2)).trans f2_2; replace s2_2 := Au hb s2_2; replace f2_3 := (Ab hb (Aa _ _ s2_3)).trans f2_3; replace s2_3 := Au hb s2_3)
 replace s0_0 := Au hb s0_0
 replace s0_1 := Au hb s0_1
 replace s1_0 := Au hb s1_0
 replace s1_1 := Au hb s1_1
 replace G0 := Au hb G0
 replace G1 := Au hb G1
 have hng5 := hng4.keep hb
 have hfq5 : Av (w.heap.size + 1 + 1 + 1) w5 aq cq := hfq.mono qB
 have hk5 : w.heap.size + 1 + 1 < w5.heap.size := Aa _ _ s2_0
 have hsz5 := hb.size
 clear hb hr hfr hfq hng4
 go_upto_region 8 with fail
 (refine Ck ?_; intro w6 hw6; have N0' : w6.cell? ⟨w5.heap.size, 0, none⟩ = some (.bool gq) := (by rw [hw6]; first | assumption | (simp [go_sem]; done) | (simp [*, go_sem]; done)); have N1' : w6.cell? ⟨w5.heap.size, 1, none⟩ = some (.slice aq nq cq) := (by rw [hw6]; first | assumption | (simp [go_sem]; done) | (simp [*, go_sem]; done)); have N0 := N0'; clear N0'; have N1 := N1'; clear N1')
 have hb56 : Below w5.heap.size w5 w6 := by rw [hw6]; go_grown
 have HB6 := HB5.trans (hb56.mono HB5.size)
 have hs56 : w5.heap.size < w6.heap.size := by rw [hw6]; simp; omega
 (replace f2_0 := (Ab hb56 (Aa _ _ s2_0)).trans f2_0; replace s2_0 := Au hb56 s2_0; replace f2_1 := (Ab hb56 (Aa _ _ s2_1)).trans f2_1; replace s2_1 := Au hb56 s2_1; replace f2_2 := (Ab hb56 (Aa _ _ s2_2)).trans f2_2; replace s2_2 := Au hb56 s2_2; replace f2_3 := (Ab hb56 (Aa _ _ s2_3)).trans f2_3; replace s2_3 := Au hb56 s2_3)
 replace s0_0 := Au hb56 s0_0
 replace s0_1 := Au hb56 s0_1
 replace s1_0 := Au hb56 s1_0
 replace s1_1 := Au hb56 s1_1
 replace G0 := Au hb56 G0
 replace G1 := Au hb56 G1
 have hng6 := hng5.keep hb56
 have hq6 := hq.keep hb56
 have hfq6 := hfq5.keep hb56
 obtain ⟨N, hN⟩ : ∃ N, N = w5.heap.size := ⟨_, rfl⟩
 rw [← hN] at N0 N1 ⊢
 clear hw6 hb56 hN hng5 hq hfq5 HB5 HB4
 go_wp2_with fail
 refine (eL _ _ _ _ _ z' (h'.keep HB6) _ _ _ _ D hng6 hDp hb2 qB).mono ?_
 rintro e w7 ⟨ge, ae, ne, ce, gr, ar, nr, cr, rfl, he, hr, hfe, hfr, hb⟩
 have HB7 := HB6.trans (hb.mono HB6.size)
 (replace f2_0 := (Ab hb (Aa _ _ s2_0)).trans f2_0; replace s2_0 := Au hb s2_0; replace f2_1 := (Ab hb (Aa _ _ s2_1)).trans f2_1; replace s2_1 := Au hb s2_1; replace f2_2 := (Ab hb (Aa _ _ s2_2)).trans f2_2; replace s2_2 := Au hb s2_2; replace f2_3 := (Ab hb (Aa _ _ s2_3)).trans f2_3; replace s2_3 := Au hb s2_3)
 replace N0 := Au hb N0
 replace N1 := Au hb N1
 have hq7 := hq6.keep hb
 have hfq7 := hfq6.keep hb
 have hfe7 : Av (w.heap.size + 1 + 1 + 1) w7 ae ce := hfe.mono qB
 have hk7 : w.heap.size + 1 + 1 < w7.heap.size := Aa _ _ s2_0
 clear hb hr hfr hfe hng6 hq6 hfq6
 go_upto_region 9 with fail
 (refine Ck ?_; intro w8 hw8; have E0' : w8.cell? ⟨w7.heap.size, 0, none⟩ = some (.bool ge) := (by rw [hw8]; first | assumption | (simp [go_sem]; done) | (simp [*, go_sem]; done)); have E1' : w8.cell? ⟨w7.heap.size, 1, none⟩ = some (.slice ae ne ce) := (by rw [hw8]; first | assumption | (simp [go_sem]; done) | (simp [*, go_sem]; done)); have E0 := E0'; clear E0'; have E1 := E1'; clear E1')
 have hb78 : Below w7.heap.size w7 w8 := by rw [hw8]; go_grown
 have HB8 := HB7.trans (hb78.mono HB7.size)
 (replace f2_0 := (Ab hb78 (Aa _ _ s2_0)).trans f2_0; replace s2_0 := Au hb78 s2_0; replace f2_1 := (Ab hb78 (Aa _ _ s2_1)).trans f2_1; replace s2_1 := Au hb78 s2_1; replace f2_2 := (Ab hb78 (Aa _ _ s2_2)).trans f2_2; replace s2_2 := Au hb78 s2_2; replace f2_3 := (Ab hb78 (Aa _ _ s2_3)).trans f2_3; replace s2_3 := Au hb78 s2_3)
 replace N0 := Au hb78 N0
 replace N1 := Au hb78 N1
 have hq8 := hq7.keep hb78
 have hfq8 := hfq7.keep hb78
 have he8 := he.keep hb78
 have hfe8 := hfe7.keep hb78
 have hk8 : w.heap.size + 1 + 1 < w8.heap.size := Aa _ _ s2_0
 have u2 : w.heap.size + 1 + 1 < w.heap.size + 1 + 1 + 1 := Ag _
 clear hw8 hb78 hq7 hfq7 he hfe7 HB7 HB6 G0 G1 s0_0 s0_1 s1_0 s1_1
 go_wp2_with fail
 refine bodyPost_ret (v := .agg #[.bool gq, .slice aq nq cq, .bool ge, .slice ae ne ce]) (by simp [results, Tryz.results204, go_sem, s2_0, s2_1, s2_2, s2_3]) rfl ?_
 have hfl := Sk (p := z) hz0
 rw [← HD.out] at hfl
 rw [Fz, Fj, ← HD.out]
 refine ⟨gq, aq, nq, cq, ge, ae, ne, ce, rfl, ⟨?_, ?_, hfl.1, hfl.2⟩, ?_, ?_, by go_grown⟩
 ·exact hq8.set4 hfq8 _ _ _ _ _ _ _ _ u2 u2 u2 u2
 ·exact he8.set4 hfe8 _ _ _ _ _ _ _ _ u2 u2 u2 u2
 ·exact (hfq8.set4 _ _ _ _ _ _ _ _ u2 u2 u2 u2).mono qB
 ·exact (hfe8.set4 _ _ _ _ _ _ _ _ u2 u2 u2 u2).mono qB
theorem Qa (w : World) (g : Bool) (a : Option Addr) (n c : Nat) (z : Int) (h : A4 w g a n c z) (g' : Bool) (a' : Option Addr) (n' c' : Nat) (z' : Int) (h' : A4 w g' a' n' c' z') (hz' : 0 < z') (hb1 : n < 35184372088829) (hb2 : n' < 35184372088829) :
  Calls Tryz.prog 204 #[.agg #[.bool g, .slice a n c], .agg #[.bool g', .slice a' n' c']] w (Hx w (Fz z z') (Fj z z')) := by
 by_cases h1 : z' = 1
 ·subst h1
  have := Zx w g a n c z h g' a' n' c' h' hb1 hb2
  have e1 : Int.gcd z 1 = 1 := by simp [Int.gcd]
  rw [Fz, Fj, e1]
  simpa using this
 ·exact aS w g a n c z h g' a' n' c' z' h' qB hb1 hb2
def Qu (w : World) (c : PC) (e : Ending) (w' : World) : Prop :=
 ∃ g1 a1 n1 c1 g2 a2 n2 c2, e = .returned (.tuple #[.agg #[.bool g1, .slice a1 n1 c1, .bool g2, .slice a2 n2 c2], .int .i64 0]) ∧ Bj w' g1 a1 n1 c1 c.1 g2 a2 n2 c2 c.2 ∧ Av w.heap.size w' a1 c1 ∧ Av w.heap.size w' a2 c2 ∧ Below w.heap.size w w'
theorem Zw {d : List UInt8} (h : Bb d = true) (h0 : d ≠ [48]) : 0 < Bd d := by
 cases d with
 | nil => cases h
 | cons b r =>
  simp only [Bb, Bool.and_eq_true, Bool.or_eq_true, decide_eq_true_eq, List.all_cons] at h
  have hb := h.1.1
  unfold Bl at hb
  rw [decide_eq_true_eq] at hb
  have hr : ¬ (b.toNat : Int) = 48 := by
   rcases h.2 with h2 | h2
   ·intro e
    simp at h2
    subst h2
    exact h0 (by rw [UInt8.toNat_inj.1 (show b.toNat = (48 : UInt8).toNat by show b.toNat = 48; omega)])
   ·exact h2
  have e : Bd (b :: r) = (b.toNat - 48) * 10 ^ r.length + Bd r := by
   exact qEh
  have h6 : 0 < 10 ^ r.length := Nat.pow_pos qB
  have h7 : 1 * 10 ^ r.length ≤ (b.toNat - 48) * 10 ^ r.length := Nat.mul_le_mul_right _ qB
  omega
theorem bH : Bd [49] = 1 := by decide
theorem R4 (w : World) (T t : List UInt8) (hTt : T = t) (hd : Bb t = true) (hlen : t.length ≤ 200) :
  Calls Tryz.prog 199 #[.string ⟨T.toArray⟩] w (Qu w (Df (Bd t) 1)) := by
 have HB := Ac w.heap.size w
 have HA := Ae (Eb hd).1
 have hd1 : Bb [49] = true := by decide
 have HT : Hid (∀ k (h : k < t.length) (h' : k < T.length), T[k] = t[k]) := Ae (by subst hTt; exact fun k h h' => rfl)
 have hTl : T.length = t.length := by rw [hTt]
 have q : ∀ W : World, (Instr.sliceAt 9 (.string ⟨T.toArray⟩) none (some (.int .i64 (t.length : Int))) none).run Tryz.prog W = .ok (.string ⟨t.toArray⟩) W := fun W => by
  subst hTt
  rw [Ir W _ _ (by show T.length ≤ T.toArray.size; simp), Gm, List.take_length]
 have HM := Ae (show Df (Bd t) 1 = (Fz (Bd t : Nat) (1 : Int), Fj (Bd t : Nat) (1 : Int)) by unfold Df; rw [if_neg qC]; rfl)
 clear hTt
 go_enter Tryz.func199, Tryz.ntmps199
 go_wp2_with fail
 obtain ⟨W0, hW0⟩ : ∃ W0, W0 = w.alloc (.cells #[.bool false, .slice none 0 0, .bool false, .slice none 0 0] 64) := ⟨_, rfl⟩
 have e0 : W0.cell? ⟨w.heap.size, 0, none⟩ = some (.bool false) := by rw [hW0]; simp [go_sem]
 have e1 : W0.cell? ⟨w.heap.size, 1, none⟩ = some (.slice none 0 0) := by rw [hW0]; simp [go_sem]
 have e2 : W0.cell? ⟨w.heap.size, 2, none⟩ = some (.bool false) := by rw [hW0]; simp [go_sem]
 have e3 : W0.cell? ⟨w.heap.size, 3, none⟩ = some (.slice none 0 0) := by rw [hW0]; simp [go_sem]
 have j0 : W0.frozen? ⟨w.heap.size, 0, none⟩ = false := by rw [hW0]; simp [go_sem]
 have j1 : W0.frozen? ⟨w.heap.size, 1, none⟩ = false := by rw [hW0]; simp [go_sem]
 have j2 : W0.frozen? ⟨w.heap.size, 2, none⟩ = false := by rw [hW0]; simp [go_sem]
 have j3 : W0.frozen? ⟨w.heap.size, 3, none⟩ = false := by rw [hW0]; simp [go_sem]
 have HW0 : Below w.heap.size w W0 := by rw [hW0]; go_grown
 have hz0 : W0.heap.size = w.heap.size + 1 := by rw [hW0]; simp
 go_loopw [4] (fun v4 wr => ∃ k : Nat, k ≤ t.length ∧ v4 = .int .i64 k ∧ Below W0.heap.size W0 wr) (fun v4 _ => t.length - (intOf v4).toNat)
 case atStart => exact ⟨0, Nat.zero_le _, rfl, by rw [← hW0]; exact Ac _ _⟩
 case round =>
  obtain ⟨k, hk, rfl, HBr⟩ := hrel
  by_cases hlt : k < t.length
  ·skip
   exact qBp
  ·obtain rfl : k = t.length := by omega
   clear HB
   replace j0 := (Ab HBr (Aa _ _ e0)).trans j0; replace j1 := (Ab HBr (Aa _ _ e1)).trans j1; replace j2 := (Ab HBr (Aa _ _ e2)).trans j2; replace j3 := (Ab HBr (Aa _ _ e3)).trans j3; replace e0 := Au HBr e0; replace e1 := Au HBr e1; replace e2 := Au HBr e2; replace e3 := Au HBr e3; skip
   have HB1 := HW0.trans (HBr.mono qB)
   have hzr := HBr.size
   clear HBr hW0 HW0 HT HA
   have hzt : (dg (Bd t)).length ≤ 200 := by have := Eh hd; unfold Ec at this; rw [if_neg qB] at this; omega
   go_wp2_with (first
    | (go_at_call 248; (with_reducible refine (Lp _ t hd hlen).mono ?_); rintro e w1 ⟨gt, at', nt, ct, rfl, hnt, hft, hb1⟩; replace j0 := (Ab hb1 (Aa _ _ e0)).trans j0; replace j1 := (Ab hb1 (Aa _ _ e1)).trans j1; replace j2 := (Ab hb1 (Aa _ _ e2)).trans j2; replace j3 := (Ab hb1 (Aa _ _ e3)).trans j3; replace e0 := Au hb1 e0; replace e1 := Au hb1 e1; replace e2 := Au hb1 e2; replace e3 := Au hb1 e3; have HB2 := HB1.trans (hb1.mono qB); have hz1 := hb1.size)
    | (go_at_call 248; (with_reducible refine (Lp _ [49] hd1 qC).mono ?_); rintro e w2 ⟨gl, al, nl, cl, rfl, hnl, hfl, hb2⟩; have nb0 := Au hb2 (by simp [go_sem] : World.cell? _ ⟨w1.heap.size, 0, none⟩ = some (.bool gt)); have nb1 := Au hb2 (by simp [go_sem] : World.cell? _ ⟨w1.heap.size, 1, none⟩ = some (.slice at' nt ct)); have hb12 := zD w1 hb2; have hz2 : w1.heap.size < w2.heap.size := (by have := hb2.size; simp only [Aj] at this; omega); replace j0 := (Ab hb12 (Aa _ _ e0)).trans j0; replace j1 := (Ab hb12 (Aa _ _ e1)).trans j1; replace j2 := (Ab hb12 (Aa _ _ e2)).trans j2; replace j3 := (Ab hb12 (Aa _ _ e3)).trans j3; replace e0 := Au hb12 e0; replace e1 := Au hb12 e1; replace e2 := Au hb12 e2; replace e3 := Au hb12 e3; have HB3 := HB2.trans (hb12.mono qB); rw [bH] at hnl; replace hnt := hnt.keep hb12; have et := hnt.rd.len; have el := hnl.rd.len; simp only [Int.natAbs_natCast] at et el; rw [Fd] at el; have hnt8 : nt ≤ 200 := qB; have hnl8 : nl ≤ 200 := qB; clear et el)
    | (go_at_call 204; (with_reducible refine (Qa _ _ _ _ _ _ (hnt.keep qF) _ _ _ _ _ (hnl.keep qF) qC qB qB).mono ?_); rintro e w3 ⟨ge, ae, ne, ce, gf, af, nf, cf, rfl, hfr, hfe, hff, hb3⟩; have hb23 := zD w2 hb3; have hz3 := hb3.size; replace j0 := (Ab hb23 (Aa _ _ e0)).trans j0; replace j1 := (Ab hb23 (Aa _ _ e1)).trans j1; replace j2 := (Ab hb23 (Aa _ _ e2)).trans j2; replace j3 := (Ab hb23 (Aa _ _ e3)).trans j3; replace e0 := Au hb23 e0; replace e1 := Au hb23 e1; replace e2 := Au hb23 e2; replace e3 := Au hb23 e3; have HB4 := HB3.trans (hb23.mono qB)))
   exact qBj
theorem Sj (w : World) (T t l : List UInt8) (hTt : T = t ++ 47 :: l) (hd : Bb t = true) (hlen : t.length ≤ 200) (hdl : Bb l = true) (hll : l.length ≤ 200) (hl0 : l ≠ [48]) :
  Calls Tryz.prog 199 #[.string ⟨T.toArray⟩] w (Qu w (Df (Bd t) (Bd l))) := by
 have HB := Ac w.heap.size w
 have HA := Ae (Eb hd).1
 have hpos := Zw hdl hl0
 have HT : Hid (∀ k (h : k < t.length) (h' : k < T.length), T[k] = t[k]) := Ae (by subst hTt; exact fun k h h' => List.getElem_append_left h)
 have hTl : T.length = t.length + 1 + l.length := by rw [hTt]; simp; omega
 have hT47 : Hid (∀ h : t.length < T.length, T[t.length] = 47) := Ae (by subst hTt; intro h; simp)
 have q : ∀ W : World, (Instr.sliceAt 9 (.string ⟨T.toArray⟩) none (some (.int .i64 (t.length : Int))) none).run Tryz.prog W = .ok (.string ⟨t.toArray⟩) W := fun W => by
  rw [Ir W _ _ (by show t.length ≤ T.toArray.size; simp; omega), Gm, hTt, List.take_left]
 have q2 : ∀ W : World, (Instr.sliceAt 9 (.string ⟨T.toArray⟩) (some (.int .i64 ((t.length : Int) + 1))) none none).run Tryz.prog W = .ok (.string ⟨l.toArray⟩) W := fun W => by
  have e : (t.length : Int) + 1 = ((t.length + 1 : Nat) : Int) := by omega
  rw [e, L6 W _ _ (by show t.length + 1 ≤ T.toArray.size; simp; omega)]
  have : (⟨T.toArray⟩ : ByteArray).size = T.length := by simp [ByteArray.size]
  rw [this, Im, hTt]
  have : (t ++ 47 :: l).drop (t.length + 1) = l := by rw [← List.drop_drop, List.drop_left]; rfl
  rw [this]
 have HM := Ae (show Df (Bd t) (Bd l) = (Fz (Bd t : Nat) (Bd l : Nat), Fj (Bd t : Nat) (Bd l : Nat)) by unfold Df; rw [if_neg qB])
 clear hTt
 go_enter Tryz.func199, Tryz.ntmps199
 go_wp2_with fail
 obtain ⟨W0, hW0⟩ : ∃ W0, W0 = w.alloc (.cells #[.bool false, .slice none 0 0, .bool false, .slice none 0 0] 64) := ⟨_, rfl⟩
 have e0 : W0.cell? ⟨w.heap.size, 0, none⟩ = some (.bool false) := by rw [hW0]; simp [go_sem]
 have e1 : W0.cell? ⟨w.heap.size, 1, none⟩ = some (.slice none 0 0) := by rw [hW0]; simp [go_sem]
 have e2 : W0.cell? ⟨w.heap.size, 2, none⟩ = some (.bool false) := by rw [hW0]; simp [go_sem]
 have e3 : W0.cell? ⟨w.heap.size, 3, none⟩ = some (.slice none 0 0) := by rw [hW0]; simp [go_sem]
 have j0 : W0.frozen? ⟨w.heap.size, 0, none⟩ = false := by rw [hW0]; simp [go_sem]
 have j1 : W0.frozen? ⟨w.heap.size, 1, none⟩ = false := by rw [hW0]; simp [go_sem]
 have j2 : W0.frozen? ⟨w.heap.size, 2, none⟩ = false := by rw [hW0]; simp [go_sem]
 have j3 : W0.frozen? ⟨w.heap.size, 3, none⟩ = false := by rw [hW0]; simp [go_sem]
 have HW0 : Below w.heap.size w W0 := by rw [hW0]; go_grown
 have hz0 : W0.heap.size = w.heap.size + 1 := by rw [hW0]; simp
 go_loopw [4] (fun v4 wr => ∃ k : Nat, k ≤ t.length ∧ v4 = .int .i64 k ∧ Below W0.heap.size W0 wr) (fun v4 _ => t.length - (intOf v4).toNat)
 case atStart => exact ⟨0, Nat.zero_le _, rfl, by rw [← hW0]; exact Ac _ _⟩
 case round =>
  obtain ⟨k, hk, rfl, HBr⟩ := hrel
  by_cases hlt : k < t.length
  ·skip
   exact qBp
  ·obtain rfl : k = t.length := by omega
   clear HB
   replace j0 := (Ab HBr (Aa _ _ e0)).trans j0; replace j1 := (Ab HBr (Aa _ _ e1)).trans j1; replace j2 := (Ab HBr (Aa _ _ e2)).trans j2; replace j3 := (Ab HBr (Aa _ _ e3)).trans j3; replace e0 := Au HBr e0; replace e1 := Au HBr e1; replace e2 := Au HBr e2; replace e3 := Au HBr e3; skip
   have HB1 := HW0.trans (HBr.mono qB)
   have hzr := HBr.size
   have hg : t.length < T.length := by omega
   have hy : (⟨T.toArray⟩ : ByteArray)[t.length]'(by simpa [ByteArray.size] using hg) = T[t.length] := by simp [ByteArray.getElem_eq_getElem_data]
   have hb : (T[t.length].toNat : Int) = 47 := by rw [hT47.out hg]; rfl
   generalize T[t.length] = b at *
   clear HBr hW0 HW0 HT HA hT47
   have hzt : (dg (Bd t)).length ≤ 200 := by have := Eh hd; unfold Ec at this; rw [if_neg qB] at this; omega
   have hzl : (dg (Bd l)).length ≤ 200 := by have := Eh hdl; unfold Ec at this; rw [if_neg qB] at this; omega
   have hq : (l == [48]) = false := by simp [hl0]
   cases l with
   | nil => cases hdl
   | cons c r =>
    have h45 := Kw hdl
    have hyc : (⟨(c :: r).toArray⟩ : ByteArray)[0]'(by simp [ByteArray.size]) = c := by simp [ByteArray.getElem_eq_getElem_data]
    go_wp2_with (first
     | (go_at_call 248; (with_reducible refine (Lp _ t hd hlen).mono ?_); rintro e w1 ⟨gt, at', nt, ct, rfl, hnt, hft, hb1⟩; replace j0 := (Ab hb1 (Aa _ _ e0)).trans j0; replace j1 := (Ab hb1 (Aa _ _ e1)).trans j1; replace j2 := (Ab hb1 (Aa _ _ e2)).trans j2; replace j3 := (Ab hb1 (Aa _ _ e3)).trans j3; replace e0 := Au hb1 e0; replace e1 := Au hb1 e1; replace e2 := Au hb1 e2; replace e3 := Au hb1 e3; have HB2 := HB1.trans (hb1.mono qB); have hz1 := hb1.size)
     | (go_at_call 248; (with_reducible refine (Lp _ (c :: r) hdl hll).mono ?_); rintro e w2 ⟨gl, al, nl, cl, rfl, hnl, hfl, hb2⟩; have nb0 := Au hb2 (by simp [go_sem] : World.cell? _ ⟨w1.heap.size, 0, none⟩ = some (.bool gt)); have nb1 := Au hb2 (by simp [go_sem] : World.cell? _ ⟨w1.heap.size, 1, none⟩ = some (.slice at' nt ct)); have hb12 := zD w1 hb2; have hz2 : w1.heap.size < w2.heap.size := (by have := hb2.size; simp only [Aj] at this; omega); replace j0 := (Ab hb12 (Aa _ _ e0)).trans j0; replace j1 := (Ab hb12 (Aa _ _ e1)).trans j1; replace j2 := (Ab hb12 (Aa _ _ e2)).trans j2; replace j3 := (Ab hb12 (Aa _ _ e3)).trans j3; replace e0 := Au hb12 e0; replace e1 := Au hb12 e1; replace e2 := Au hb12 e2; replace e3 := Au hb12 e3; have HB3 := HB2.trans (hb12.mono qB); skip; replace hnt := hnt.keep hb12; have et := hnt.rd.len; have el := hnl.rd.len; simp only [Int.natAbs_natCast] at et el; skip; have hnt8 : nt ≤ 200 := qB; have hnl8 : nl ≤ 200 := qB; clear et el)
     | (go_at_call 204; (with_reducible refine (Qa _ _ _ _ _ _ (hnt.keep qF) _ _ _ _ _ (hnl.keep qF) qB qB qB).mono ?_); rintro e w3 ⟨ge, ae, ne, ce, gf, af, nf, cf, rfl, hfr, hfe, hff, hb3⟩; have hb23 := zD w2 hb3; have hz3 := hb3.size; replace j0 := (Ab hb23 (Aa _ _ e0)).trans j0; replace j1 := (Ab hb23 (Aa _ _ e1)).trans j1; replace j2 := (Ab hb23 (Aa _ _ e2)).trans j2; replace j3 := (Ab hb23 (Aa _ _ e3)).trans j3; replace e0 := Au hb23 e0; replace e1 := Au hb23 e1; replace e2 := Au hb23 e2; replace e3 := Au hb23 e3; have HB4 := HB3.trans (hb23.mono qB)))
    exact qBj
end Go.Proofs.YtdamegaedmckbaaGreatDoor
end
