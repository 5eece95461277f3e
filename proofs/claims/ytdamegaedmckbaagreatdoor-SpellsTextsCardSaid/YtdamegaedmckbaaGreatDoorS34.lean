/- The document's answer, layer 1: Gcd, the second number above 0. -/
import Derived.Test.YtdamegaedmckbaaGreatDoorS33
import Derived.Test.YtdamegaedmckbaaGreatDoorS16
set_option linter.unusedSimpArgs false
set_option linter.unusedVariables false
set_option linter.unusedSimpArgs false
set_option linter.unusedVariables false
namespace Go.Proofs.YtdamegaedmckbaaGreatDoor
open Go.RowKit

theorem goes_c (w : World) (a : Option Addr) (n c : Nat) (x : Nat) (a' : Option Addr) (n' c' : Nat) (y : Nat) (hd : RdL w a n c (dg x)) (hd' : RdL w a' n' c' (dg y)) (hy : 0 < y) (hn1 : n' ≤ 1) :
    Calls Tryz.prog 294 #[.slice a n c, .slice a' n' c'] w (RetGoes w x y n 1) := by
  have hl := hd'.len
  have hv := val_dg y
  have h1 : n' = 1 := by
    rcases Nat.eq_zero_or_pos n' with h | h
    · rw [h] at hl
      rw [List.eq_nil_of_length_eq_zero hl, val] at hv
      omega
    · omega
  subst h1
  have hlt := dg_lt y
  match hdy : dg y, hl with
  | [u], _ =>
    rw [hdy] at hv hd' hlt
    have hu : u = y := by simpa [val] using hv
    subst hu
    have := goes_one w a n c (dg x) a' c' u hd hd' (dg_lt x) hy (hlt u (by simp))
    rwa [val_dg] at this

theorem GcdBox.sz0 {w wr : World} {ga : Bool} {aa : Option Addr} {na ca : Nat} {x : Int} {gb : Bool} {ab : Option Addr} {nb cb : Nat} {y : Int} (h : GcdBox w wr ga aa na ca x gb ab nb cb y) : w.heap.size < wr.heap.size := by have := h.sz; omega
theorem GcdBox.sz1 {w wr : World} {ga : Bool} {aa : Option Addr} {na ca : Nat} {x : Int} {gb : Bool} {ab : Option Addr} {nb cb : Nat} {y : Int} (h : GcdBox w wr ga aa na ca x gb ab nb cb y) : w.heap.size + 1 < wr.heap.size := by have := h.sz; omega

theorem GcdBox.setA {w wr : World} {ga : Bool} {aa : Option Addr} {na ca : Nat} {x : Int} {gb : Bool} {ab : Option Addr} {nb cb : Nat} {y : Int} (h : GcdBox w wr ga aa na ca x gb ab nb cb y)
    {gx : Bool} {ax : Option Addr} {nx cx : Nat} {x' : Int} (hx : NumAt wr gx ax nx cx x') (ox : Off w.heap.size (w.heap.size + 1 + 1 + 1) nx ax) :
    GcdBox w ((wr.setCell ⟨w.heap.size, 0, none⟩ (.bool gx)).setCell ⟨w.heap.size, 1, none⟩ (.slice ax nx cx)) gx ax nx cx x' gb ab nb cb y := by
  have s := h.sz
  have HB := h.hb
  have r0 : w.heap.size ≤ w.heap.size ∧ w.heap.size < w.heap.size + 1 + 1 + 1 := by omega
  obtain ⟨b00, b01, b10, b11, z20, z21, f00, f01, f10, f11, f20, f21, na, nb, oa, ob, _, _⟩ := h
  exact ⟨by simp [*, go_sem], by simp [*, go_sem], by simp [*, go_sem], by simp [*, go_sem], by simp [*, go_sem], by simp [*, go_sem], by simp [*, go_sem], by simp [*, go_sem], by simp [*, go_sem], by simp [*, go_sem], by simp [*, go_sem], by simp [*, go_sem],
    (hx.setOff ox _ _ r0.1 r0.2).setOff ox _ _ r0.1 r0.2, (nb.setOff ob _ _ r0.1 r0.2).setOff ob _ _ r0.1 r0.2, ox, ob, by simp only [World.size_setCell]; omega, by go_grown⟩

theorem GcdBox.setB {w wr : World} {ga : Bool} {aa : Option Addr} {na ca : Nat} {x : Int} {gb : Bool} {ab : Option Addr} {nb cb : Nat} {y : Int} (h : GcdBox w wr ga aa na ca x gb ab nb cb y)
    {gx : Bool} {ax : Option Addr} {nx cx : Nat} {x' : Int} (hx : NumAt wr gx ax nx cx x') (ox : Off w.heap.size (w.heap.size + 1 + 1 + 1) nx ax) :
    GcdBox w ((wr.setCell ⟨w.heap.size + 1, 0, none⟩ (.bool gx)).setCell ⟨w.heap.size + 1, 1, none⟩ (.slice ax nx cx)) ga aa na ca x gx ax nx cx x' := by
  have s := h.sz
  have HB := h.hb
  have r0 : w.heap.size ≤ w.heap.size + 1 ∧ w.heap.size + 1 < w.heap.size + 1 + 1 + 1 := by omega
  obtain ⟨b00, b01, b10, b11, z20, z21, f00, f01, f10, f11, f20, f21, na, nb, oa, ob, _, _⟩ := h
  exact ⟨by simp [*, go_sem], by simp [*, go_sem], by simp [*, go_sem], by simp [*, go_sem], by simp [*, go_sem], by simp [*, go_sem], by simp [*, go_sem], by simp [*, go_sem], by simp [*, go_sem], by simp [*, go_sem], by simp [*, go_sem], by simp [*, go_sem],
    (na.setOff oa _ _ r0.1 r0.2).setOff oa _ _ r0.1 r0.2, (hx.setOff ox _ _ r0.1 r0.2).setOff ox _ _ r0.1 r0.2, oa, ox, by simp only [World.size_setCell]; omega, by go_grown⟩

/-- The amount that a box's number has. -/
def valAt (w : World) (b : Nat) : Nat := match w.cell? ⟨b, 1, none⟩ with
  | some (.slice (some ⟨p, o, none⟩) n _) => val ((List.range n).map fun i => match w.cell? ⟨p, o + i, none⟩ with | some (.int _ v) => v.toNat | _ => 0)
  | _ => 0

theorem valAt_eq {w : World} {b : Nat} {a : Option Addr} {n c : Nat} {d : List Nat} (h : w.cell? ⟨b, 1, none⟩ = some (.slice a n c)) (hd : RdL w a n c d) : valAt w b = val d := by
  unfold valAt
  rw [h]
  rcases hd.cell with h0 | ⟨p, o, rfl, hc⟩
  · subst h0
    have : d = [] := List.eq_nil_of_length_eq_zero hd.len
    subst this
    rcases a with _ | ⟨p, o, _ | i⟩ <;> rfl
  · show val _ = val d
    congr 1
    apply List.ext_getElem
    · simp [hd.len]
    · intro i h1 h2
      simp only [List.length_map, List.length_range] at h1
      rw [List.getElem_map, List.getElem_range, hc i h1]
      show (lim d i).toNat = d[i]
      simp [lim, List.getD, List.getElem?_eq_getElem h2]

set_option maxRecDepth 100000 in
set_option maxHeartbeats 4000000 in
theorem rGcd_c (w : World) (g : Bool) (a : Option Addr) (n c : Nat) (z : Int) (h : NumAt w g a n c z) (g' : Bool) (a' : Option Addr) (n' c' : Nat) (z' : Int) (h' : NumAt w g' a' n' c' z')
    (hz' : 0 < z') (hn1 : n' ≤ 1) (hb1 : n < 35184372088830) :
    Calls Tryz.prog 235 #[.agg #[.bool g, .slice a n c], .agg #[.bool g', .slice a' n' c']] w (RetNum w (Int.gcd z z' : Nat)) := by
  have HB := Below.refl w.heap.size w
  have ho' := h'.rd.off (Nat.le_refl _) (w.heap.size + 1 + 1 + 1)
  have ho := h.rd.off (Nat.le_refl _) (w.heap.size + 1 + 1 + 1)
  go_enter Tryz.func235, Tryz.ntmps235
  go_wp2_with fail
  refine (rFit_c _ _ _ _ _ _ (h.keep (by go_grown))).mono ?_
  rintro e w1 ⟨rfl, hb⟩
  obtain ⟨hc, hf⟩ := bcell hb; have hz := hb.size; (try simp only [World.size_alloc, World.size_drew] at hz)
  replace HB : Below w.heap.size w w1 := Below.trans (by go_grown) (hb.mono (by go_size))
  have s0_0 : w1.cell? ⟨w.heap.size, 0, none⟩ = some (.bool g) := (hc _ _ (by go_size)).trans (by first | assumption | (simp [go_sem]; done) | (simp [*, go_sem]; done)); have s0_1 : w1.cell? ⟨w.heap.size, 1, none⟩ = some (.slice a n c) := (hc _ _ (by go_size)).trans (by first | assumption | (simp [go_sem]; done) | (simp [*, go_sem]; done)); have s1_0 : w1.cell? ⟨w.heap.size + 1, 0, none⟩ = some (.bool g') := (hc _ _ (by go_size)).trans (by first | assumption | (simp [go_sem]; done) | (simp [*, go_sem]; done)); have s1_1 : w1.cell? ⟨w.heap.size + 1, 1, none⟩ = some (.slice a' n' c') := (hc _ _ (by go_size)).trans (by first | assumption | (simp [go_sem]; done) | (simp [*, go_sem]; done)); have s2_0 : w1.cell? ⟨w.heap.size + 1 + 1, 0, none⟩ = some (.bool false) := (hc _ _ (by go_size)).trans (by first | assumption | (simp [go_sem]; done) | (simp [*, go_sem]; done)); have s2_1 : w1.cell? ⟨w.heap.size + 1 + 1, 1, none⟩ = some (.slice none 0 0) := (hc _ _ (by go_size)).trans (by first | assumption | (simp [go_sem]; done) | (simp [*, go_sem]; done)); have f2_0 : w1.frozen? ⟨w.heap.size + 1 + 1, 0, none⟩ = false := (hf _ _ (by go_size)).trans (by first | assumption | (simp [go_sem]; done) | (simp [*, go_sem]; done)); have f2_1 : w1.frozen? ⟨w.heap.size + 1 + 1, 1, none⟩ = false := (hf _ _ (by go_size)).trans (by first | assumption | (simp [go_sem]; done) | (simp [*, go_sem]; done)); have f0_0 : w1.frozen? ⟨w.heap.size, 0, none⟩ = false := (hf _ _ (by go_size)).trans (by first | assumption | (simp [go_sem]; done) | (simp [*, go_sem]; done)); have f0_1 : w1.frozen? ⟨w.heap.size, 1, none⟩ = false := (hf _ _ (by go_size)).trans (by first | assumption | (simp [go_sem]; done) | (simp [*, go_sem]; done)); have f1_0 : w1.frozen? ⟨w.heap.size + 1, 0, none⟩ = false := (hf _ _ (by go_size)).trans (by first | assumption | (simp [go_sem]; done) | (simp [*, go_sem]; done)); have f1_1 : w1.frozen? ⟨w.heap.size + 1, 1, none⟩ = false := (hf _ _ (by go_size)).trans (by first | assumption | (simp [go_sem]; done) | (simp [*, go_sem]; done))
  have HG : GcdBox w w1 g a n c z g' a' n' c' z' := ⟨s0_0, s0_1, s1_0, s1_1, s2_0, s2_1, f0_0, f0_1, f1_0, f1_1, f2_0, f2_1, h.keep HB, h'.keep HB, ho, ho', by omega, HB⟩
  clear hc hf hb hz HB s0_0 s0_1 s1_0 s1_1 s2_0 s2_1 f0_0 f0_1 f1_0 f1_1 f2_0 f2_1
  have b00 := HG.b00; have b01 := HG.b01; have b10 := HG.b10; have b11 := HG.b11; have z20 := HG.z20; have z21 := HG.z21; have f00 := HG.f00; have f01 := HG.f01; have f10 := HG.f10; have f11 := HG.f11; have f20 := HG.f20; have f21 := HG.f21; have HB := HG.hb; have hsz := HG.sz; have hsz0 := HG.sz0; have hsz1 := HG.sz1
  go_wp2_with fail
  refine (rTwin_c _ _ _ _ _ z HG.numa).mono ?_
  rintro e w2 ⟨g2, a2, n2, c2, rfl, hn2, hfr2, hb2⟩
  have hs1 := HG.sz
  clear b00 b01 b10 b11 z20 z21 f00 f01 f10 f11 f20 f21 HB hsz hsz0 hsz1; replace HG := HG.keep hb2; have b00 := HG.b00; have b01 := HG.b01; have b10 := HG.b10; have b11 := HG.b11; have z20 := HG.z20; have z21 := HG.z21; have f00 := HG.f00; have f01 := HG.f01; have f10 := HG.f10; have f11 := HG.f11; have f20 := HG.f20; have f21 := HG.f21; have HB := HG.hb; have hsz := HG.sz; have hsz0 := HG.sz0; have hsz1 := HG.sz1
  go_wp2_with fail
  clear b00 b01 b10 b11 z20 z21 f00 f01 f10 f11 f20 f21 HB hsz hsz0 hsz1
  replace HG := HG.setA hn2 (hfr2.off hn2.rd _ (by omega))
  have hfa : Fresh (w.heap.size + 1 + 1 + 1) ((w2.setCell ⟨w.heap.size, 0, none⟩ (.bool g2)).setCell ⟨w.heap.size, 1, none⟩ (.slice a2 n2 c2)) a2 c2 := ((hfr2.mono (by omega)).setNew _ _ (by show w.heap.size < _; omega)).setNew _ _ (by show w.heap.size < _; omega)
  generalize ((w2.setCell ⟨w.heap.size, 0, none⟩ (.bool g2)).setCell ⟨w.heap.size, 1, none⟩ (.slice a2 n2 c2)) = w3 at *
  have b00 := HG.b00; have b01 := HG.b01; have b10 := HG.b10; have b11 := HG.b11; have z20 := HG.z20; have z21 := HG.z21; have f00 := HG.f00; have f01 := HG.f01; have f10 := HG.f10; have f11 := HG.f11; have f20 := HG.f20; have f21 := HG.f21; have HB := HG.hb; have hsz := HG.sz; have hsz0 := HG.sz0; have hsz1 := HG.sz1
  refine (rFit_c _ _ _ _ _ _ HG.numb).mono ?_
  rintro e w4 ⟨rfl, hb4⟩
  clear b00 b01 b10 b11 z20 z21 f00 f01 f10 f11 f20 f21 HB hsz hsz0 hsz1; replace HG := HG.keep hb4; have b00 := HG.b00; have b01 := HG.b01; have b10 := HG.b10; have b11 := HG.b11; have z20 := HG.z20; have z21 := HG.z21; have f00 := HG.f00; have f01 := HG.f01; have f10 := HG.f10; have f11 := HG.f11; have f20 := HG.f20; have f21 := HG.f21; have HB := HG.hb; have hsz := HG.sz; have hsz0 := HG.sz0; have hsz1 := HG.sz1
  go_wp2_with fail
  refine (rTwin_c _ _ _ _ _ z' HG.numb).mono ?_
  rintro e w5 ⟨g5, a5, n5, c5, rfl, hn5, hfr5, hb5⟩
  have hs4 := HG.sz
  clear b00 b01 b10 b11 z20 z21 f00 f01 f10 f11 f20 f21 HB hsz hsz0 hsz1; replace HG := HG.keep hb5; have b00 := HG.b00; have b01 := HG.b01; have b10 := HG.b10; have b11 := HG.b11; have z20 := HG.z20; have z21 := HG.z21; have f00 := HG.f00; have f01 := HG.f01; have f10 := HG.f10; have f11 := HG.f11; have f20 := HG.f20; have f21 := HG.f21; have HB := HG.hb; have hsz := HG.sz; have hsz0 := HG.sz0; have hsz1 := HG.sz1
  go_wp2_with fail
  clear b00 b01 b10 b11 z20 z21 f00 f01 f10 f11 f20 f21 HB hsz hsz0 hsz1
  replace HG := HG.setB hn5 (hfr5.off hn5.rd _ (by omega))
  have hl2 : n2 < 35184372088830 := by have h1 := hn2.rd.len; have h2 := h.rd.len; omega
  have hl5 : n5 ≤ 1 := by have h1 := hn5.rd.len; have h2 := h'.rd.len; omega
  have hfb : Fresh (w.heap.size + 1 + 1 + 1) ((w5.setCell ⟨w.heap.size + 1, 0, none⟩ (.bool g5)).setCell ⟨w.heap.size + 1, 1, none⟩ (.slice a5 n5 c5)) a5 c5 := ((hfr5.mono (by omega)).setNew _ _ (by show w.heap.size + 1 < _; omega)).setNew _ _ (by show w.heap.size + 1 < _; omega)
  have hfa6 : Fresh (w.heap.size + 1 + 1 + 1) ((w5.setCell ⟨w.heap.size + 1, 0, none⟩ (.bool g5)).setCell ⟨w.heap.size + 1, 1, none⟩ (.slice a5 n5 c5)) a2 c2 := ((((hfa.keep hb4).keep hb5)).setNew _ _ (by show w.heap.size + 1 < _; omega)).setNew _ _ (by show w.heap.size + 1 < _; omega)
  generalize ((w5.setCell ⟨w.heap.size + 1, 0, none⟩ (.bool g5)).setCell ⟨w.heap.size + 1, 1, none⟩ (.slice a5 n5 c5)) = w6 at *
  have HG6 := HG
  clear HG hn2 hb2 hb4 hn5 hb5
  go_loopw [] (fun wr => ∃ ga aa na ca x gb ab nb cb y, GcdBox w wr ga aa na ca x gb ab nb cb y ∧ 0 ≤ y ∧ nb ≤ 1 ∧ na < 35184372088830 ∧ Hid (Int.gcd x y = Int.gcd z z') ∧ Fresh (w.heap.size + 1 + 1 + 1) wr aa ca ∧ Fresh (w.heap.size + 1 + 1 + 1) wr ab cb)
    (fun wr => valAt wr (w.heap.size + 1))
  case atStart => exact ⟨g2, a2, n2, c2, z, g5, a5, n5, c5, z', HG6, by omega, hl5, hl2, Lib.hid rfl, hfa6, hfb⟩
  case round =>
    obtain ⟨ga, aa, na, ca, x, gb, ab, nb, cb, y, HG, hy, hnb, hna, HGC, hFa, hFb⟩ := hrel
    clear HG6 hfa6 hfb hfa hfr2 hfr5
    have b00 := HG.b00; have b01 := HG.b01; have b10 := HG.b10; have b11 := HG.b11; have z20 := HG.z20; have z21 := HG.z21; have f00 := HG.f00; have f01 := HG.f01; have f10 := HG.f10; have f11 := HG.f11; have f20 := HG.f20; have f21 := HG.f21; have HB := HG.hb; have hsz := HG.sz; have hsz0 := HG.sz0; have hsz1 := HG.sz1
    have hval0 := Lib.hid ((valAt_eq b11 HG.numb.rd).trans (val_dg _))
    by_cases hy0 : nb = 0
    · have hyz : y = 0 := Decidable.byContradiction fun e => HG.numb.ne.2 e hy0
      subst hy0
      have HYZ := Lib.hid hyz
      clear hyz
      go_wp2_with fail
      refine (rnum_c _ false aa na ca (dg x.natAbs) HG.numa.rd (dg_lt _)).mono ?_
      rintro e w7 ⟨g3, n3, rfl, hn3, hnum3, hb7⟩
      clear b00 b01 b10 b11 z20 z21 f00 f01 f10 f11 f20 f21 HB hsz hsz0 hsz1; replace HG := HG.keep hb7; have b00 := HG.b00; have b01 := HG.b01; have b10 := HG.b10; have b11 := HG.b11; have z20 := HG.z20; have z21 := HG.z21; have f00 := HG.f00; have f01 := HG.f01; have f10 := HG.f10; have f11 := HG.f11; have f20 := HG.f20; have f21 := HG.f21; have HB := HG.hb; have hsz := HG.sz; have hsz0 := HG.sz0; have hsz1 := HG.sz1
      go_wp2_with fail
      refine bodyPost_ret (v := .agg #[.bool g3, .slice aa n3 ca]) (by simp [results, Tryz.results235, go_sem, z20, z21]) rfl ?_
      have hval : sgn false (val (dg x.natAbs)) = ((Int.gcd z z' : Nat) : Int) := by rw [← HGC.out, HYZ.out, val_dg]; simp [sgn]
      rw [hval] at hnum3
      have hf3 := hFa.keep hb7
      refine ⟨g3, aa, n3, ca, rfl, ?_, ?_, by go_grown⟩
      · exact (hnum3.setFresh hf3 _ _ (by show w.heap.size + 1 + 1 < _; omega)).setFresh (hf3.setNew _ _ (by show w.heap.size + 1 + 1 < _; omega)) _ _ (by show w.heap.size + 1 + 1 < _; omega)
      · exact ((hf3.setNew _ _ (by show w.heap.size + 1 + 1 < _; omega)).setNew _ _ (by show w.heap.size + 1 + 1 < _; omega)).mono (by omega)
    · have hyp : 0 < y := by have := HG.numb.ne.1 hy0; omega
      have hnb1 : 0 < nb := by omega
      go_wp2_with fail
      refine (rDiv_c wr ga aa na ca x HG.numa gb ab nb cb y HG.numb hyp na 1 hna (by omega) (by omega) (fun W hW => goes_c W aa na ca x.natAbs ab nb cb y.natAbs (HG.numa.rd.keep hW) (HG.numb.rd.keep hW) (by omega) hnb)).mono ?_
      rintro e w7 ⟨gq, aq, nq, cq, gr, ar, nr, cr, rfl, hq, hr, hfq, hfr, hb7⟩
      have hs0 := HG.sz
      clear b00 b01 b10 b11 z20 z21 f00 f01 f10 f11 f20 f21 HB hsz hsz0 hsz1; replace HG := HG.keep hb7; have b00 := HG.b00; have b01 := HG.b01; have b10 := HG.b10; have b11 := HG.b11; have z20 := HG.z20; have z21 := HG.z21; have f00 := HG.f00; have f01 := HG.f01; have f10 := HG.f10; have f11 := HG.f11; have f20 := HG.f20; have f21 := HG.f21; have HB := HG.hb; have hsz := HG.sz; have hsz0 := HG.sz0; have hsz1 := HG.sz1
      have hFa7 := hFa.keep hb7
      have hFb7 := hFb.keep hb7
      have hfr7 : Fresh (w.heap.size + 1 + 1 + 1) w7 ar cr := hfr.mono (by omega)
      have hnr : nr ≤ 1 := by
        have h1 := hr.rd.len
        have h2 := HG.numb.rd.len
        have h3 := Int.emod_lt_of_pos x hyp
        have h4 := Int.emod_nonneg x (show y ≠ 0 by omega)
        have h5 := dg_length_mono (a := (x % y).natAbs) (b := y.natAbs) (by omega)
        omega
      have hm0 := Int.emod_nonneg x (show y ≠ 0 by omega)
      have hm1 := Int.emod_lt_of_pos x hyp
      have hgs := Lib.hid ((gcd_step x y).trans HGC.out)
      clear hq hfq
      go_wp2_with fail
      have hoff := hfr7.off hr.rd w.heap.size (Nat.le_refl _)
      have HG8 := (HG.setA HG.numb HG.offb).setB ((hr.setOff hoff ⟨w.heap.size, 0, none⟩ (.bool gb) (Nat.le_refl _) (by show w.heap.size < _; omega)).setOff hoff ⟨w.heap.size, 1, none⟩ (.slice ab nb cb) (Nat.le_refl _) (by show w.heap.size < _; omega)) hoff
      have p0 : w.heap.size < w.heap.size + 1 + 1 + 1 := by omega
      have p1 : w.heap.size + 1 < w.heap.size + 1 + 1 + 1 := by omega
      have hFb8 := hFb7.set4 ⟨w.heap.size, 0, none⟩ ⟨w.heap.size, 1, none⟩ ⟨w.heap.size + 1, 0, none⟩ ⟨w.heap.size + 1, 1, none⟩ (.bool gb) (.slice ab nb cb) (.bool gr) (.slice ar nr cr) p0 p0 p1 p1
      have hFr8 := hfr7.set4 ⟨w.heap.size, 0, none⟩ ⟨w.heap.size, 1, none⟩ ⟨w.heap.size + 1, 0, none⟩ ⟨w.heap.size + 1, 1, none⟩ (.bool gb) (.slice ab nb cb) (.bool gr) (.slice ar nr cr) p0 p0 p1 p1
      generalize ((((w7.setCell ⟨w.heap.size, 0, none⟩ (.bool gb)).setCell ⟨w.heap.size, 1, none⟩ (.slice ab nb cb)).setCell ⟨w.heap.size + 1, 0, none⟩ (.bool gr)).setCell ⟨w.heap.size + 1, 1, none⟩ (.slice ar nr cr)) = w8 at *
      have hbe : Below w8.heap.size w8 ((w8.alloc (.cells #[.bool gq, .slice aq nq cq] 59)).alloc (.cells #[.bool gr, .slice ar nr cr] 59)) := ((Below.refl _ _).alloc (Nat.le_refl _) _).alloc (by simp) _
      have HG9 := HG8.keep hbe
      have hFb9 := hFb8.keep hbe
      have hFr9 := hFr8.keep hbe
      clear HG HG8 b00 b01 b10 b11 z20 z21 f00 f01 f10 f11 f20 f21 hoff
      go_roundw
      case rel =>
        refine ⟨gb, ab, nb, cb, y, gr, ar, nr, cr, x % y, HG9, hm0, hnr, by omega, hgs, hFb9, hFr9⟩
      case measure =>
        rw [valAt_eq HG9.b11 HG9.numb.rd, val_dg, hval0.out]
        omega
end Go.Proofs.YtdamegaedmckbaaGreatDoor
