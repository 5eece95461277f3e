/- The document's answer, layer 1: goes, by any number above 0. No further condition. -/
import Derived.Test.YtdamegaedmckbaaGreatDoorQP15
import Derived.Test.YtdamegaedmckbaaGreatDoorQP13
set_option linter.unusedSimpArgs false
set_option linter.unusedVariables false
set_option maxRecDepth 100000
set_option maxHeartbeats 4000000
section
namespace Go.Proofs.YtdamegaedmckbaaGreatDoor
open Go.RowKit
theorem dH (w : World) (a : Option Addr) (n c : Nat) (d : List Nat) (a' : Option Addr) (n' c' : Nat) (d' : List Nat) (hd : RdL w a n c d) (hd' : RdL w a' n' c' d') (hc : C8 d) (hc' : C8 d')
  (h2 : 2 ≤ n') (hlt : n < n') (hn : n < 35184372088830) :
  Calls Tryz.prog 294 #[.slice a n c, .slice a' n' c'] w (Fw w (val d) (val d') (n + 1) n) := by
 obtain ⟨i0, hi, hz0, hz1, hz2⟩ := info_parts Cu
 have HB := Ac w.heap.size w
 have hne1 : ((n' : Int) == 1) = false := by rw [beq_eq_false_iff_ne]; omega
 have hv : val d < val d' := Kv hc hc' (by rw [hd.len, hd'.len]; exact hlt)
 have HV := Ae hv
 have HC := Ae hc
 have hneg : ¬ (0 : Int) ≤ (n : Int) - (n' : Int) := by omega
 have hneg2 : ¬ (n' : Int) ≤ (n : Int) := by omega
 have hn2 := hd'.few
 have hw64 : wrap64 ((n : Int) - (n' : Int)) = (n : Int) - (n' : Int) := by simp only [wrap64]; omega
 clear hv hc hc'
 go_enter Tryz.func294, Tryz.ntmps294
 go_wp2_with (first
  | (refine Hp rfl (.tmp 26) (.tmp 27) rfl rfl a n c d rfl (hd.keep qF) ?_; intro a1 c1 w1 hr1 hown1 hb1)
  | (refine wpList_make_full _ rfl _ _ 57 rfl w1.heap.size 112 i0 (.int .u32 0) 1 Tryz.underlying57 hi hz0 hz1 .i64 .i64 _ _ (n + 1) rfl rfl rfl qT (by rw [hz2]; omega) qO (Ad _) ?_; intro w3 hown3 hgrow3))
 have HB3 : Below w1.heap.size w1 w3 := (Ac _ _).grown hgrow3 (Ad _) (fun k h => by cases h)
 rw [Nat.mul_one, show Value.cells (.int .u32 0) = #[.int .u32 0] from rfl, toList_madeCells_one, ← Ew] at hown3
 have hB13 : Below w.heap.size w w3 := hb1.trans (HB3.mono hb1.size)
 have hrl := hr1.keep HB3
 have hsz := hb1.size
 have hfl : Av w.heap.size w3 a1 c1 := by
  obtain ⟨a2, c2, he, _, hf⟩ := Dr hown1 qB hr1.small
  cases he
  exact hf.keep HB3
 clear hgrow3 HB3 hb1 hown1 hr1
 go_loopg [10] 0 (fun g v10 wr => v10 = .int .i64 ((n : Int) - (n' : Int)) ∧ w3 = wr)
 case atStart => exact ⟨by first | rfl | (rw [hw64]), rfl⟩
 case round =>
  obtain ⟨rfl, rfl⟩ := hrel
  go_wp2_with fail
  go_ret2
  have hz : ∀ x ∈ List.replicate (n + 1) 0, x < 1000000000 := fun x hx => by rw [(List.mem_replicate.1 hx).2]; omega
  exact ⟨_, n + 1, n + 1, _, a1, n, c1, d, rfl, Cr hown3 qB (Bi (fun x hx => by have := hz x hx; omega)), hrl, by rw [Gl, Nat.div_eq_of_lt HV.out], (Nat.mod_eq_of_lt HV.out).symm, hz, HC.out.lt, Ad _, Ad _, (Av.of_owns hown3).mono hsz, hfl, hB13⟩
theorem Fw.wide {w w' : World} {e : Ending} {x y mq mr mq' mr' : Nat} (h : Fw w x y mq mr e w') (h1 : mq ≤ mq') (h2 : mr ≤ mr') : Fw w x y mq' mr' e w' := by
 obtain ⟨a, k, c, q, a', k', c', r, g1, g2, g3, g4, g5, g6, g7, g8, g9, g10⟩ := h
 exact ⟨a, k, c, q, a', k', c', r, g1, g2, g3, g4, g5, g6, g7, Ah g8 h1, Ah g9 h2, g10⟩
theorem Za (w : World) (a : Option Addr) (n c : Nat) (d : List Nat) (a' : Option Addr) (n' c' : Nat) (d' : List Nat) (hd : RdL w a n c d) (hd' : RdL w a' n' c' d') (hc : C8 d) (hc' : C8 d')
  (h1 : 1 ≤ n') (hn : n < 35184372088830) :
  Calls Tryz.prog 294 #[.slice a n c, .slice a' n' c'] w (Fw w (val d) (val d') (n + 1) (n + 1)) := by
 rcases Nat.lt_or_ge n' 2 with h2 | h2
 ·obtain rfl : n' = 1 := by omega
  have hl := hd'.len
  have hp := Qg hc' hl qB
  obtain ⟨x, rfl⟩ : ∃ x, d' = [x] := by
   match d', hl with
   | [x], _ => exact ⟨x, rfl⟩
  have hx : x < 1000000000 := hc'.lt x qH
  have hx0 : 0 < x := by simpa using hp
  refine (aT w a n c d a' c' x hd hd' hc.lt hx0 hx).mono (fun e w' h => ?_)
  have := h.wide (mq' := n + 1) (mr' := n + 1) qB qB
  simpa [val] using this
 ·rcases Nat.lt_or_ge n n' with h3 | h3
  ·exact (dH w a n c d a' n' c' d' hd hd' hc hc' h2 h3 hn).mono (fun e w' h => h.wide (Ad _) qB)
  ·exact (cN w a n c d a' n' c' d' hd hd' hc hc' h2 h3 hn).mono (fun e w' h => h.wide (Ad _) qB)
theorem Rq (w : World) (a : Option Addr) (n c : Nat) (x : Nat) (a' : Option Addr) (n' c' : Nat) (y : Nat) (hd : RdL w a n c (dg x)) (hd' : RdL w a' n' c' (dg y)) (hy : 0 < y) (hn : n < 35184372088830) :
  Calls Tryz.prog 294 #[.slice a n c, .slice a' n' c'] w (Fw w x y (n + 1) (n + 1)) := by
 have h1 : 1 ≤ n' := by
  rcases Aq n' with h | h
  ·have hl := hd'.len
   have hv := Ba y
   rw [h] at hl
   rw [List.eq_nil_of_length_eq_zero hl, val] at hv
   omega
  ·exact h
 have := Za w a n c (dg x) a' n' c' (dg y) hd hd' (Bp x) (Bp y) h1 hn
 rwa [Ba, Ba] at this
theorem Dx.sz0 {w wr : World} {ga : Bool} {aa : Option Addr} {na ca : Nat} {x : Int} {gb : Bool} {ab : Option Addr} {nb cb : Nat} {y : Int} (h : Dx w wr ga aa na ca x gb ab nb cb y) : w.heap.size < wr.heap.size := by have := h.sz; omega
theorem Dx.sz1 {w wr : World} {ga : Bool} {aa : Option Addr} {na ca : Nat} {x : Int} {gb : Bool} {ab : Option Addr} {nb cb : Nat} {y : Int} (h : Dx w wr ga aa na ca x gb ab nb cb y) : w.heap.size + 1 < wr.heap.size := by have := h.sz; omega
theorem Dx.setA {w wr : World} {ga : Bool} {aa : Option Addr} {na ca : Nat} {x : Int} {gb : Bool} {ab : Option Addr} {nb cb : Nat} {y : Int} (h : Dx w wr ga aa na ca x gb ab nb cb y)
  {gx : Bool} {ax : Option Addr} {nx cx : Nat} {x' : Int} (hx : A4 wr gx ax nx cx x') (ox : Off w.heap.size (w.heap.size + 1 + 1 + 1) nx ax) :
  Dx w ((wr.setCell ⟨w.heap.size, 0, none⟩ (.bool gx)).setCell ⟨w.heap.size, 1, none⟩ (.slice ax nx cx)) gx ax nx cx x' gb ab nb cb y := by
 have s := h.sz
 have HB := h.hb
 have r0 : w.heap.size ≤ w.heap.size ∧ w.heap.size < w.heap.size + 1 + 1 + 1 := by omega
 obtain ⟨b00, b01, b10, b11, z20, z21, f00, f01, f10, f11, f20, f21, na, nb, oa, ob, _, _⟩ := h
 exact ⟨by simp [*, go_sem], by simp [*, go_sem], by simp [*, go_sem], by simp [*, go_sem], by simp [*, go_sem], by simp [*, go_sem], by simp [*, go_sem], by simp [*, go_sem], by simp [*, go_sem], by simp [*, go_sem], by simp [*, go_sem], by simp [*, go_sem],
  (hx.setOff ox _ _ r0.1 r0.2).setOff ox _ _ r0.1 r0.2, (nb.setOff ob _ _ r0.1 r0.2).setOff ob _ _ r0.1 r0.2, ox, ob, by simp only [Am]; omega, by go_grown⟩
theorem Dx.setB {w wr : World} {ga : Bool} {aa : Option Addr} {na ca : Nat} {x : Int} {gb : Bool} {ab : Option Addr} {nb cb : Nat} {y : Int} (h : Dx w wr ga aa na ca x gb ab nb cb y)
  {gx : Bool} {ax : Option Addr} {nx cx : Nat} {x' : Int} (hx : A4 wr gx ax nx cx x') (ox : Off w.heap.size (w.heap.size + 1 + 1 + 1) nx ax) :
  Dx w ((wr.setCell ⟨w.heap.size + 1, 0, none⟩ (.bool gx)).setCell ⟨w.heap.size + 1, 1, none⟩ (.slice ax nx cx)) ga aa na ca x gx ax nx cx x' := by
 have s := h.sz
 have HB := h.hb
 have r0 : w.heap.size ≤ w.heap.size + 1 ∧ w.heap.size + 1 < w.heap.size + 1 + 1 + 1 := by omega
 obtain ⟨b00, b01, b10, b11, z20, z21, f00, f01, f10, f11, f20, f21, na, nb, oa, ob, _, _⟩ := h
 exact ⟨by simp [*, go_sem], by simp [*, go_sem], by simp [*, go_sem], by simp [*, go_sem], by simp [*, go_sem], by simp [*, go_sem], by simp [*, go_sem], by simp [*, go_sem], by simp [*, go_sem], by simp [*, go_sem], by simp [*, go_sem], by simp [*, go_sem],
  (na.setOff oa _ _ r0.1 r0.2).setOff oa _ _ r0.1 r0.2, (hx.setOff ox _ _ r0.1 r0.2).setOff ox _ _ r0.1 r0.2, oa, ox, by simp only [Am]; omega, by go_grown⟩
theorem Y7 (w : World) (g : Bool) (a : Option Addr) (n c : Nat) (z : Int) (h : A4 w g a n c z) (g' : Bool) (a' : Option Addr) (n' c' : Nat) (z' : Int) (h' : A4 w g' a' n' c' z')
  (hz' : 0 < z') (hn1 : n' < 35184372088829) (hb1 : n < 35184372088829) :
  Calls Tryz.prog 235 #[.agg #[.bool g, .slice a n c], .agg #[.bool g', .slice a' n' c']] w (C4 w (Int.gcd z z' : Nat)) := by
 have HB := Ac w.heap.size w
 have ho' := h'.rd.off (Ad _) (w.heap.size + 1 + 1 + 1)
 have ho := h.rd.off (Ad _) (w.heap.size + 1 + 1 + 1)
 go_enter Tryz.func235, Tryz.ntmps235
 go_wp2_with fail
 refine (Fq _ _ _ _ _ _ (h.keep qF)).mono ?_
 rintro e w1 ⟨rfl, hb⟩
 obtain ⟨hc, hf⟩ := Ax hb; have hz := hb.size; (try simp only [Aj, Ak] at hz)
 replace HB := zD w hb
 obtain ⟨s0_0, s0_1⟩ := qX hc (w.heap.size) (.bool g) (.slice a n c); obtain ⟨s1_0, s1_1⟩ := qX hc (w.heap.size + 1) (.bool g') (.slice a' n' c'); obtain ⟨s2_0, s2_1⟩ := qZ hc (w.heap.size + 1 + 1); obtain ⟨f2_0, f2_1⟩ := zA hf (w.heap.size + 1 + 1); obtain ⟨f0_0, f0_1⟩ := zA hf (w.heap.size); obtain ⟨f1_0, f1_1⟩ := zA hf (w.heap.size + 1)
 have HG : Dx w w1 g a n c z g' a' n' c' z' := ⟨s0_0, s0_1, s1_0, s1_1, s2_0, s2_1, f0_0, f0_1, f1_0, f1_1, f2_0, f2_1, h.keep HB, h'.keep HB, ho, ho', by omega, HB⟩
 clear hc hf hb hz HB s0_0 s0_1 s1_0 s1_1 s2_0 s2_1 f0_0 f0_1 f1_0 f1_1 f2_0 f2_1
 have b00 := HG.b00; have b01 := HG.b01; have b10 := HG.b10; have b11 := HG.b11; have z20 := HG.z20; have z21 := HG.z21; have f00 := HG.f00; have f01 := HG.f01; have f10 := HG.f10; have f11 := HG.f11; have f20 := HG.f20; have f21 := HG.f21; have HB := HG.hb; have hsz := HG.sz; have hsz0 := HG.sz0; have hsz1 := HG.sz1
 go_wp2_with fail
 refine (J4 _ _ _ _ _ z HG.numa).mono ?_
 rintro e w2 ⟨g2, a2, n2, c2, rfl, hn2, hfr2, hb2⟩
 have hs1 := HG.sz
 clear b00 b01 b10 b11 z20 z21 f00 f01 f10 f11 f20 f21 HB hsz hsz0 hsz1; replace HG := HG.keep hb2; have b00 := HG.b00; have b01 := HG.b01; have b10 := HG.b10; have b11 := HG.b11; have z20 := HG.z20; have z21 := HG.z21; have f00 := HG.f00; have f01 := HG.f01; have f10 := HG.f10; have f11 := HG.f11; have f20 := HG.f20; have f21 := HG.f21; have HB := HG.hb; have hsz := HG.sz; have hsz0 := HG.sz0; have hsz1 := HG.sz1
 go_wp2_with fail
 clear b00 b01 b10 b11 z20 z21 f00 f01 f10 f11 f20 f21 HB hsz hsz0 hsz1
 replace HG := HG.setA hn2 (hfr2.off hn2.rd _ qB)
 have hfa : Av (w.heap.size + 1 + 1 + 1) ((w2.setCell ⟨w.heap.size, 0, none⟩ (.bool g2)).setCell ⟨w.heap.size, 1, none⟩ (.slice a2 n2 c2)) a2 c2 := ((hfr2.mono qB).setNew _ _ (by show w.heap.size < _; omega)).setNew _ _ (by show w.heap.size < _; omega)
 generalize ((w2.setCell ⟨w.heap.size, 0, none⟩ (.bool g2)).setCell ⟨w.heap.size, 1, none⟩ (.slice a2 n2 c2)) = w3 at *
 have b00 := HG.b00; have b01 := HG.b01; have b10 := HG.b10; have b11 := HG.b11; have z20 := HG.z20; have z21 := HG.z21; have f00 := HG.f00; have f01 := HG.f01; have f10 := HG.f10; have f11 := HG.f11; have f20 := HG.f20; have f21 := HG.f21; have HB := HG.hb; have hsz := HG.sz; have hsz0 := HG.sz0; have hsz1 := HG.sz1
 refine (Fq _ _ _ _ _ _ HG.numb).mono ?_
 rintro e w4 ⟨rfl, hb4⟩
 clear b00 b01 b10 b11 z20 z21 f00 f01 f10 f11 f20 f21 HB hsz hsz0 hsz1; replace HG := HG.keep hb4; have b00 := HG.b00; have b01 := HG.b01; have b10 := HG.b10; have b11 := HG.b11; have z20 := HG.z20; have z21 := HG.z21; have f00 := HG.f00; have f01 := HG.f01; have f10 := HG.f10; have f11 := HG.f11; have f20 := HG.f20; have f21 := HG.f21; have HB := HG.hb; have hsz := HG.sz; have hsz0 := HG.sz0; have hsz1 := HG.sz1
 go_wp2_with fail
 refine (J4 _ _ _ _ _ z' HG.numb).mono ?_
 rintro e w5 ⟨g5, a5, n5, c5, rfl, hn5, hfr5, hb5⟩
 have hs4 := HG.sz
 clear b00 b01 b10 b11 z20 z21 f00 f01 f10 f11 f20 f21 HB hsz hsz0 hsz1; replace HG := HG.keep hb5; have b00 := HG.b00; have b01 := HG.b01; have b10 := HG.b10; have b11 := HG.b11; have z20 := HG.z20; have z21 := HG.z21; have f00 := HG.f00; have f01 := HG.f01; have f10 := HG.f10; have f11 := HG.f11; have f20 := HG.f20; have f21 := HG.f21; have HB := HG.hb; have hsz := HG.sz; have hsz0 := HG.sz0; have hsz1 := HG.sz1
 go_wp2_with fail
 clear b00 b01 b10 b11 z20 z21 f00 f01 f10 f11 f20 f21 HB hsz hsz0 hsz1
 replace HG := HG.setB hn5 (hfr5.off hn5.rd _ qB)
 have hl2 : n2 < 35184372088829 := by have h1 := hn2.rd.len; have h2 := h.rd.len; omega
 have hl5 : n5 < 35184372088829 := by have h1 := hn5.rd.len; have h2 := h'.rd.len; omega
 have hfb : Av (w.heap.size + 1 + 1 + 1) ((w5.setCell ⟨w.heap.size + 1, 0, none⟩ (.bool g5)).setCell ⟨w.heap.size + 1, 1, none⟩ (.slice a5 n5 c5)) a5 c5 := ((hfr5.mono qB).setNew _ _ (by show w.heap.size + 1 < _; omega)).setNew _ _ (by show w.heap.size + 1 < _; omega)
 have hfa6 : Av (w.heap.size + 1 + 1 + 1) ((w5.setCell ⟨w.heap.size + 1, 0, none⟩ (.bool g5)).setCell ⟨w.heap.size + 1, 1, none⟩ (.slice a5 n5 c5)) a2 c2 := ((((hfa.keep hb4).keep hb5)).setNew _ _ (by show w.heap.size + 1 < _; omega)).setNew _ _ (by show w.heap.size + 1 < _; omega)
 generalize ((w5.setCell ⟨w.heap.size + 1, 0, none⟩ (.bool g5)).setCell ⟨w.heap.size + 1, 1, none⟩ (.slice a5 n5 c5)) = w6 at *
 have HG6 := HG
 clear HG hn2 hb2 hb4 hn5 hb5
 go_loopw [] (fun wr => ∃ ga aa na ca x gb ab nb cb y, Dx w wr ga aa na ca x gb ab nb cb y ∧ 0 ≤ y ∧ nb < 35184372088829 ∧ na < 35184372088829 ∧ Hid (Int.gcd x y = Int.gcd z z') ∧ Av (w.heap.size + 1 + 1 + 1) wr aa ca ∧ Av (w.heap.size + 1 + 1 + 1) wr ab cb)
  (fun wr => Wa wr (w.heap.size + 1))
 case atStart => exact ⟨g2, a2, n2, c2, z, g5, a5, n5, c5, z', HG6, by omega, hl5, hl2, Ae rfl, hfa6, hfb⟩
 case round =>
  obtain ⟨ga, aa, na, ca, x, gb, ab, nb, cb, y, HG, hy, hnb, hna, HGC, hFa, hFb⟩ := hrel
  clear HG6 hfa6 hfb hfa hfr2 hfr5
  have b00 := HG.b00; have b01 := HG.b01; have b10 := HG.b10; have b11 := HG.b11; have z20 := HG.z20; have z21 := HG.z21; have f00 := HG.f00; have f01 := HG.f01; have f10 := HG.f10; have f11 := HG.f11; have f20 := HG.f20; have f21 := HG.f21; have HB := HG.hb; have hsz := HG.sz; have hsz0 := HG.sz0; have hsz1 := HG.sz1
  have hval0 := Ae ((Lr b11 HG.numb.rd).trans (Ba _))
  by_cases hy0 : nb = 0
  ·have hyz : y = 0 := Decidable.byContradiction fun e => HG.numb.ne.2 e hy0
   subst hy0
   have HYZ := Ae hyz
   clear hyz
   go_wp2_with fail
   refine (Fb _ false aa na ca (dg x.natAbs) HG.numa.rd (Dj _)).mono ?_
   rintro e w7 ⟨g3, n3, rfl, hn3, hnum3, hb7⟩
   clear b00 b01 b10 b11 z20 z21 f00 f01 f10 f11 f20 f21 HB hsz hsz0 hsz1; replace HG := HG.keep hb7; have b00 := HG.b00; have b01 := HG.b01; have b10 := HG.b10; have b11 := HG.b11; have z20 := HG.z20; have z21 := HG.z21; have f00 := HG.f00; have f01 := HG.f01; have f10 := HG.f10; have f11 := HG.f11; have f20 := HG.f20; have f21 := HG.f21; have HB := HG.hb; have hsz := HG.sz; have hsz0 := HG.sz0; have hsz1 := HG.sz1
   go_wp2_with fail
   refine bodyPost_ret (v := .agg #[.bool g3, .slice aa n3 ca]) (by simp [results, Tryz.results235, go_sem, z20, z21]) rfl ?_
   have hval : sgn false (val (dg x.natAbs)) = ((Int.gcd z z' : Nat) : Int) := by rw [← HGC.out, HYZ.out, Ba]; simp [sgn]
   rw [hval] at hnum3
   have hf3 := hFa.keep hb7
   refine ⟨g3, aa, n3, ca, rfl, ?_, ?_, by go_grown⟩
   ·exact qCf
   ·exact qBv
  ·have hyp : 0 < y := by have := HG.numb.ne.1 hy0; omega
   have hnb1 : 0 < nb := by omega
   go_wp2_with fail
   refine (Z8 wr ga aa na ca x HG.numa gb ab nb cb y HG.numb hyp (na + 1) (na + 1) qB qB qB (fun W hW => Rq W aa na ca x.natAbs ab nb cb y.natAbs (HG.numa.rd.keep hW) (HG.numb.rd.keep hW) qB qB)).mono ?_
   rintro e w7 ⟨gq, aq, nq, cq, gr, ar, nr, cr, rfl, hq, hr, hfq, hfr, hb7⟩
   have hs0 := HG.sz
   clear b00 b01 b10 b11 z20 z21 f00 f01 f10 f11 f20 f21 HB hsz hsz0 hsz1; replace HG := HG.keep hb7; have b00 := HG.b00; have b01 := HG.b01; have b10 := HG.b10; have b11 := HG.b11; have z20 := HG.z20; have z21 := HG.z21; have f00 := HG.f00; have f01 := HG.f01; have f10 := HG.f10; have f11 := HG.f11; have f20 := HG.f20; have f21 := HG.f21; have HB := HG.hb; have hsz := HG.sz; have hsz0 := HG.sz0; have hsz1 := HG.sz1
   have hFa7 := hFa.keep hb7
   have hFb7 := hFb.keep hb7
   have hfr7 : Av (w.heap.size + 1 + 1 + 1) w7 ar cr := hfr.mono qB
   have hnr : nr < 35184372088829 := by
    have h1 := hr.rd.len
    have h2 := HG.numb.rd.len
    have h3 := Int.emod_lt_of_pos x hyp
    have h4 := Int.emod_nonneg x (show y ≠ 0 by omega)
    have h5 := Be (a := (x % y).natAbs) (b := y.natAbs) qB
    omega
   have hm0 := Int.emod_nonneg x (show y ≠ 0 by omega)
   have hm1 := Int.emod_lt_of_pos x hyp
   have hgs := Ae ((M7 x y).trans HGC.out)
   clear hq hfq
   go_wp2_with fail
   have hoff := hfr7.off hr.rd w.heap.size (Ad _)
   have HG8 := (HG.setA HG.numb HG.offb).setB ((hr.setOff hoff ⟨w.heap.size, 0, none⟩ (.bool gb) (Ad _) (by show w.heap.size < _; omega)).setOff hoff ⟨w.heap.size, 1, none⟩ (.slice ab nb cb) (Ad _) (by show w.heap.size < _; omega)) hoff
   have p0 : w.heap.size < w.heap.size + 1 + 1 + 1 := by omega
   have p1 : w.heap.size + 1 < w.heap.size + 1 + 1 + 1 := by omega
   have hFb8 := hFb7.set4 ⟨w.heap.size, 0, none⟩ ⟨w.heap.size, 1, none⟩ ⟨w.heap.size + 1, 0, none⟩ ⟨w.heap.size + 1, 1, none⟩ (.bool gb) (.slice ab nb cb) (.bool gr) (.slice ar nr cr) p0 p0 p1 p1
   have hFr8 := hfr7.set4 ⟨w.heap.size, 0, none⟩ ⟨w.heap.size, 1, none⟩ ⟨w.heap.size + 1, 0, none⟩ ⟨w.heap.size + 1, 1, none⟩ (.bool gb) (.slice ab nb cb) (.bool gr) (.slice ar nr cr) p0 p0 p1 p1
   generalize ((((w7.setCell ⟨w.heap.size, 0, none⟩ (.bool gb)).setCell ⟨w.heap.size, 1, none⟩ (.slice ab nb cb)).setCell ⟨w.heap.size + 1, 0, none⟩ (.bool gr)).setCell ⟨w.heap.size + 1, 1, none⟩ (.slice ar nr cr)) = w8 at *
   have hbe : Below w8.heap.size w8 ((w8.alloc (.cells #[.bool gq, .slice aq nq cq] 59)).alloc (.cells #[.bool gr, .slice ar nr cr] 59)) := ((Ac _ _).alloc (Ad _) _).alloc qH _
   have HG9 := HG8.keep hbe
   have hFb9 := hFb8.keep hbe
   have hFr9 := hFr8.keep hbe
   clear HG HG8 b00 b01 b10 b11 z20 z21 f00 f01 f10 f11 f20 f21 hoff
   go_roundw
   case rel =>
    refine ⟨gb, ab, nb, cb, y, gr, ar, nr, cr, x % y, HG9, hm0, hnr, by omega, hgs, hFb9, hFr9⟩
   case measure =>
    rw [Lr HG9.b11 HG9.numb.rd, Ba, hval0.out]
    omega
theorem fL : dg 1 = [1] := by rw [Gs qB, show 1 / 1000000000 = 0 from rfl, Dl]
theorem Qz (w : World) (g : Bool) (a : Option Addr) (n c : Nat) (z : Int) (h : A4 w g a n c z) :
  Calls Tryz.prog 123 #[.agg #[.bool g, .slice a n c]] w fun e w' => e = .returned (.bool (decide (z = 1))) ∧ Below w.heap.size w w' := by
 have hl := h.rd.len
 have hg := h.neg
 cases g
 ·have hz : ¬ z < 0 := by simpa using hg.symm
  by_cases hn : n = 1
  ·subst hn
   obtain ⟨b, o, rfl, c1⟩ := h.rd.at' (i := 0) qB
   obtain ⟨x, hx⟩ : ∃ x, dg z.natAbs = [x] := List.length_eq_one_iff.1 hl
   have hv := Ba z.natAbs
   rw [hx] at c1 hv
   rw [show lim [x] 0 = (x : Int) from rfl, Nat.add_zero] at c1
   have hxz : (x : Int) = z := by simp [val] at hv; omega
   have hxl := Dj z.natAbs x (by rw [hx]; simp)
   by_cases hz1 : z = 1
   ·have HR := Ae (show decide (z = 1) = true from decide_eq_true hz1)
    obtain rfl : x = 1 := by omega
    exact qFb
   ·have HR := Ae (show decide (z = 1) = false from decide_eq_false hz1)
    have hx1 : ((x : Int) == 1) = false := by rw [beq_eq_false_iff_ne]; omega
    exact qFb
  ·have hz1 : z ≠ 1 := by
    intro e
    rw [e, show (1 : Int).natAbs = 1 from rfl, fL] at hl
    exact hn hl.symm
   have HR := Ae (show decide (z = 1) = false from decide_eq_false hz1)
   have hn1 : ((n : Int) == 1) = false := by rw [beq_eq_false_iff_ne]; omega
   clear hz1 hg hl hn
   go_enter Tryz.func123, Tryz.ntmps123
   exact qCg
 ·have hz : z < 0 := by simpa using hg.symm
  have HR := Ae (show decide (z = 1) = false from decide_eq_false qB)
  clear hg hl
  go_enter Tryz.func123, Tryz.ntmps123
  exact qCg
theorem Ge (w : World) (g1 : Bool) (a1 : Option Addr) (n1 c1 : Nat) (d1 : List Nat) (h1 : RdL w a1 n1 c1 d1) (g2 : Bool) (a2 : Option Addr) (n2 c2 : Nat) (d2 : List Nat) (h2 : RdL w a2 n2 c2 d2) (hs : n2 < 35184372088829) (hb1 : n1 < 35184372088829) (r : Bool) (hr : FOk g1 d1 g2 d2 ↔ r = true) :
  Calls Tryz.prog 186 #[.agg #[.bool g1, .slice a1 n1 c1, .bool g2, .slice a2 n2 c2]] w fun e w' => e = .returned (.bool r) ∧ Below w.heap.size w w' := by
 have HB := Ac w.heap.size w
 by_cases o1 : Ix g1 d1
 ·by_cases o2 : Ix g2 d2
  ·have N1 := Eo h1 o1
   have N2 := Eo h2 o2
   have hlow := Te o2
   have hgcd := @FOk.gcd g1 d1 g2 d2
   generalize (if g1 then -(val d1 : Int) else (val d1 : Int)) = z1 at *
   generalize (if g2 then -(val d2 : Int) else (val d2 : Int)) = z2 at *
   have O1 := Ae o1
   have O2 := Ae o2
   clear o1 o2
   by_cases hp : 0 < z2
   ·have hsg : Br z2 0 = 1 := Ct hp
    have HP := Ae (hlow.1 hp)
    clear hlow
    have HR := Ae hr
    have HG := Ae hgcd
    clear hr hgcd
    go_enter Tryz.func186, Tryz.ntmps186
    go_wp2_with fail
    refine (Ei _ _ _ _ _ d1 (h1.keep qF) true ⟨fun _ => rfl, fun _ => O1.out⟩).mono ?_
    rintro e w1 ⟨rfl, hb⟩
    obtain ⟨hc, hf⟩ := Ax hb; have hz := hb.size; (try simp only [Aj, Ak] at hz)
    replace HB := zD w hb
    obtain ⟨s0_0, s0_1⟩ := qX hc (w.heap.size) (.bool g1) (.slice a1 n1 c1); obtain ⟨s0_2, s0_3⟩ := qY hc (w.heap.size) (.bool g2) (.slice a2 n2 c2)
    clear hc hf hb
    go_wp2_with fail
    refine (Ei _ _ _ _ _ d2 (h2.keep qF) true ⟨fun _ => rfl, fun _ => O2.out⟩).mono ?_
    rintro e w2 ⟨rfl, hb⟩
    obtain ⟨hc, hf⟩ := Ax hb; have hz := hb.size; (try simp only [Aj, Ak] at hz)
    replace HB := zD w hb
    obtain ⟨s0_0, s0_1⟩ := qX hc (w.heap.size) (.bool g1) (.slice a1 n1 c1); obtain ⟨s0_2, s0_3⟩ := qY hc (w.heap.size) (.bool g2) (.slice a2 n2 c2)
    clear hc hf hb
    go_wp2_with fail
    refine (Lb _ _ _ _ _ z2 (N2.keep qF)).mono ?_
    rintro e w3 ⟨rfl, hb⟩
    obtain ⟨hc, hf⟩ := Ax hb; have hz := hb.size; (try simp only [Aj, Ak] at hz)
    replace HB := zD w hb
    obtain ⟨s0_0, s0_1⟩ := qX hc (w.heap.size) (.bool g1) (.slice a1 n1 c1); obtain ⟨s0_2, s0_3⟩ := qY hc (w.heap.size) (.bool g2) (.slice a2 n2 c2)
    clear hc hf hb
    rw [hsg]
    go_wp2_with fail
    refine (Qz _ _ _ _ _ z2 (N2.keep qF)).mono ?_
    rintro e w3 ⟨rfl, hb⟩
    obtain ⟨hc, hf⟩ := Ax hb; have hz := hb.size; (try simp only [Aj, Ak] at hz)
    replace HB := zD w hb
    obtain ⟨s0_0, s0_1⟩ := qX hc (w.heap.size) (.bool g1) (.slice a1 n1 c1); obtain ⟨s0_2, s0_3⟩ := qY hc (w.heap.size) (.bool g2) (.slice a2 n2 c2)
    clear hc hf hb
    by_cases h20 : z2 = 1
    ·have H21 := Ae h20
     rw [decide_eq_true h20]
     clear h20
     go_wp2_with fail
     go_ret
     refine ⟨?_, HB⟩
     have hr := HR.out
     have e1 : FOk g1 d1 g2 d2 ↔ ((z1.gcd z2 : Nat) : Int) = 1 := by
      exact qFj
     have := hr.1 (e1.2 (by rw [H21.out, Int.gcd_one]; rfl))
     rw [this]; rfl
    rw [decide_eq_false h20]
    clear h20
    go_wp2_with fail
    refine (Y7 _ _ _ _ _ z1 (N1.keep qF) _ _ _ _ z2 (N2.keep qF) hp hs hb1).mono ?_
    rintro e w4 ⟨g3, a3, n3, c3, rfl, hn3, _, hb⟩
    obtain ⟨hc, hf⟩ := Ax hb; have hz := hb.size; (try simp only [Aj, Ak] at hz)
    replace HB := zD w hb
    obtain ⟨s0_0, s0_1⟩ := qX hc (w.heap.size) (.bool g1) (.slice a1 n1 c1); obtain ⟨s0_2, s0_3⟩ := qY hc (w.heap.size) (.bool g2) (.slice a2 n2 c2)
    clear hc hf hb
    go_wp2_with fail
    refine (Qz _ _ _ _ _ _ hn3).mono ?_
    exact qBd
   ·have hsg : decide (0 < Br z2 0) = false := by rw [decide_eq_false_iff_not, R9]; exact hp
    have hr0 : r = false := by
     cases r
     ·rfl
     ·have := hr.2 rfl
      exact absurd (hlow.2 ⟨this.2.2.1, this.2.2.2.1⟩) hp
    subst hr0
    clear hr hlow hgcd hp
    go_enter Tryz.func186, Tryz.ntmps186
    go_wp2_with fail
    refine (Ei _ _ _ _ _ d1 (h1.keep qF) true ⟨fun _ => rfl, fun _ => O1.out⟩).mono ?_
    rintro e w1 ⟨rfl, hb⟩
    obtain ⟨hc, hf⟩ := Ax hb; have hz := hb.size; (try simp only [Aj, Ak] at hz)
    replace HB := zD w hb
    obtain ⟨s0_0, s0_1⟩ := qX hc (w.heap.size) (.bool g1) (.slice a1 n1 c1); obtain ⟨s0_2, s0_3⟩ := qY hc (w.heap.size) (.bool g2) (.slice a2 n2 c2)
    clear hc hf hb
    go_wp2_with fail
    refine (Ei _ _ _ _ _ d2 (h2.keep qF) true ⟨fun _ => rfl, fun _ => O2.out⟩).mono ?_
    rintro e w2 ⟨rfl, hb⟩
    obtain ⟨hc, hf⟩ := Ax hb; have hz := hb.size; (try simp only [Aj, Ak] at hz)
    replace HB := zD w hb
    obtain ⟨s0_0, s0_1⟩ := qX hc (w.heap.size) (.bool g1) (.slice a1 n1 c1); obtain ⟨s0_2, s0_3⟩ := qY hc (w.heap.size) (.bool g2) (.slice a2 n2 c2)
    clear hc hf hb
    go_wp2_with fail
    refine (Lb _ _ _ _ _ z2 (N2.keep qF)).mono ?_
    rintro e w3 ⟨rfl, hb⟩
    exact qAt
  ·have hr0 : r = false := by
    cases r
    ·rfl
    ·exact absurd (hr.2 rfl).2.1 o2
   subst hr0
   have O1 := Ae o1
   have O2 := Ae o2
   clear hr o1 o2
   go_enter Tryz.func186, Tryz.ntmps186
   go_wp2_with fail
   refine (Ei _ _ _ _ _ d1 (h1.keep qF) true ⟨fun _ => rfl, fun _ => O1.out⟩).mono ?_
   rintro e w1 ⟨rfl, hb⟩
   obtain ⟨hc, hf⟩ := Ax hb; have hz := hb.size; (try simp only [Aj, Ak] at hz)
   replace HB := zD w hb
   obtain ⟨s0_0, s0_1⟩ := qX hc (w.heap.size) (.bool g1) (.slice a1 n1 c1); obtain ⟨s0_2, s0_3⟩ := qY hc (w.heap.size) (.bool g2) (.slice a2 n2 c2)
   clear hc hf hb
   go_wp2_with fail
   refine (Ei _ _ _ _ _ d2 (h2.keep qF) false ⟨fun e => absurd e O2.out, fun e => (by cases e)⟩).mono ?_
   rintro e w2 ⟨rfl, hb⟩
   exact qAt
 ·have hr0 : r = false := by
   cases r
   ·rfl
   ·exact absurd (hr.2 rfl).1 o1
  subst hr0
  have O1 := Ae o1
  clear hr o1
  go_enter Tryz.func186, Tryz.ntmps186
  go_wp2_with fail
  refine (Ei _ _ _ _ _ d1 (h1.keep qF) false ⟨fun e => absurd e O1.out, fun e => (by cases e)⟩).mono ?_
  rintro e w1 ⟨rfl, hb⟩
  exact qAt
theorem J6 (w : World) (g1 : Bool) (a1 : Option Addr) (n1 c1 : Nat) (p : Int) (g2 : Bool) (a2 : Option Addr) (n2 c2 : Nat) (q : Int) (h : Bj w g1 a1 n1 c1 p g2 a2 n2 c2 q) (hs : n2 < 35184372088829) (hb1 : n1 < 35184372088829) :
  Calls Tryz.prog 120 #[.agg #[.bool g1, .slice a1 n1 c1, .bool g2, .slice a2 n2 c2]] w fun e w' => e = .returned (.agg #[.bool g1, .slice a1 n1 c1, .bool g2, .slice a2 n2 c2]) ∧ Below w.heap.size w w' := by
 have HB := Ac w.heap.size w
 have HO := Ae h.ok
 go_enter Tryz.func120, Tryz.ntmps120
 go_wp2_with fail
 refine (Ge _ _ _ _ _ _ (h.top.rd.keep qF) _ _ _ _ _ (h.low.rd.keep qF) hs hb1 true ⟨fun _ => rfl, fun _ => HO.out⟩).mono ?_
 rintro e w1 ⟨rfl, hb⟩
 obtain ⟨hc, hf⟩ := Ax hb; have hz := hb.size; (try simp only [Aj, Ak] at hz)
 replace HB := zD w hb
 obtain ⟨s0_0, s0_1⟩ := qX hc (w.heap.size) (.bool g1) (.slice a1 n1 c1); obtain ⟨s0_2, s0_3⟩ := qY hc (w.heap.size) (.bool g2) (.slice a2 n2 c2); obtain ⟨s1_0, s1_1⟩ := qZ hc (w.heap.size + 1); obtain ⟨s1_2, s1_3⟩ := qY hc (w.heap.size + 1) (.bool false) (.slice none 0 0); obtain ⟨s1_0, s1_1⟩ := qZ hc (w.heap.size + 1); obtain ⟨s1_2, s1_3⟩ := qY hc (w.heap.size + 1) (.bool false) (.slice none 0 0); obtain ⟨f1_0, f1_1⟩ := zA hf (w.heap.size + 1); obtain ⟨f1_2, f1_3⟩ := zB hf (w.heap.size + 1)
 have hk0 : w.heap.size < w1.heap.size := by omega
 have hk1 : w.heap.size + 1 < w1.heap.size := by omega
 clear hc hf hb
 go_wp2_with fail
 refine bodyPost_ret (v := .agg #[.bool g1, .slice a1 n1 c1, .bool g2, .slice a2 n2 c2]) (by simp [results, Tryz.results120, go_sem, s1_0, s1_1, s1_2, s1_3]) rfl ?_
 exact ⟨rfl, by go_grown⟩
theorem Fy (w : World) (g1 : Bool) (a1 : Option Addr) (n1 c1 : Nat) (p : Int) (g2 : Bool) (a2 : Option Addr) (n2 c2 : Nat) (q : Int) (h : Bj w g1 a1 n1 c1 p g2 a2 n2 c2 q) (hs : n2 < 35184372088829) (hb1 : n1 < 35184372088829) :
  Calls Tryz.prog 41 #[.agg #[.bool g1, .slice a1 n1 c1, .bool g2, .slice a2 n2 c2]] w fun e w' => e = .returned (.int .i64 (Br p 0)) ∧ Below w.heap.size w w' := by
 have HB := Ac w.heap.size w
 go_enter Tryz.func41, Tryz.ntmps41
 go_wp2_with fail
 refine (J6 _ _ _ _ _ _ _ _ _ _ _ (h.keep qF) hs hb1).mono ?_
 rintro e w1 ⟨rfl, hb⟩
 obtain ⟨hc, hf⟩ := Ax hb; have hz := hb.size; (try simp only [Aj, Ak] at hz)
 replace HB := zD w hb
 
 clear hc hf hb
 go_wp2_with fail
 refine (Lb _ _ _ _ _ _ (h.top.keep qF)).mono ?_
 exact qDc
end Go.Proofs.YtdamegaedmckbaaGreatDoor
end
