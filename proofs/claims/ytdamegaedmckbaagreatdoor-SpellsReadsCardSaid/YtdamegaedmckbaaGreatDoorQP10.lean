/- Package limbs: Gcd, where the second number is above 0. No further condition. -/
import Derived.Test.YtdamegaedmckbaaGreatDoorQP9
set_option linter.unusedSimpArgs false
set_option linter.unusedVariables false
set_option maxRecDepth 100000
set_option maxHeartbeats 4000000
section
namespace Go.Proofs.YtdamegaedmckbaaGreatDoor
open Go.RowKit
def Off (lo hi : Nat) (n : Nat) (a : Option Addr) : Prop := n = 0 ∨ ∀ x, a = some x → x.block < lo ∨ hi ≤ x.block
theorem RdL.setOff {w : World} {a : Option Addr} {n c : Nat} {d : List Nat} {lo hi : Nat} (h : RdL w a n c d) (ho : Off lo hi n a) (p : Addr) (u : Value) (h1 : lo ≤ p.block) (h2 : p.block < hi) : RdL (w.setCell p u) a n c d := by
 refine ⟨h.len, h.cap, h.few, h.top, h.small, ?_⟩
 rcases ho with ho | ho
 ·exact .inl ho
 ·rcases h.cell with h0 | ⟨b, o, ha, hc⟩
  ·exact .inl h0
  ·refine .inr ⟨b, o, ha, fun i hi' => ?_⟩
   have := ho _ ha
   rw [World.cell?_setCell_far _ _ _ _ (by show p.block ≠ b; intro e; have e2 : (⟨b, o, none⟩ : Addr).block = b := rfl; omega)]
   exact hc i hi'
theorem A4.setOff {w : World} {g : Bool} {a : Option Addr} {n c : Nat} {z : Int} {lo hi : Nat} (h : A4 w g a n c z) (ho : Off lo hi n a) (p : Addr) (u : Value) (h1 : lo ≤ p.block) (h2 : p.block < hi) : A4 (w.setCell p u) g a n c z := ⟨h.neg, h.rd.setOff ho p u h1 h2⟩
theorem RdL.off {w : World} {a : Option Addr} {n c : Nat} {d : List Nat} (h : RdL w a n c d) {lo : Nat} (hlo : w.heap.size ≤ lo) (hi : Nat) : Off lo hi n a := by
 rcases h.cell with h0 | ⟨b, o, ha, hc⟩
 ·exact .inl h0
 ·rcases Aq n with h5 | h5
  ·exact .inl h5
  ·refine .inr fun x hx => .inl ?_
   rw [ha] at hx
   cases hx
   have : b < w.heap.size := Aa w ⟨b, o + 0, none⟩ (hc 0 h5)
   show b < lo
   omega
theorem Av.off {B : Nat} {w : World} {a : Option Addr} {n c : Nat} {d : List Nat} (h : Av B w a c) (hd : RdL w a n c d) (lo : Nat) {hi : Nat} (hh : hi ≤ B) : Off lo hi n a := by
 rcases h.newA hd with h0 | h0
 ·exact .inl h0
 ·exact .inr fun x hx => .inr (by have := h0 x hx; omega)
structure Dx (w wr : World) (ga : Bool) (aa : Option Addr) (na ca : Nat) (x : Int) (gb : Bool) (ab : Option Addr) (nb cb : Nat) (y : Int) : Prop where
 b00 : wr.cell? ⟨w.heap.size, 0, none⟩ = some (.bool ga)
 b01 : wr.cell? ⟨w.heap.size, 1, none⟩ = some (.slice aa na ca)
 b10 : wr.cell? ⟨w.heap.size + 1, 0, none⟩ = some (.bool gb)
 b11 : wr.cell? ⟨w.heap.size + 1, 1, none⟩ = some (.slice ab nb cb)
 z20 : wr.cell? ⟨w.heap.size + 1 + 1, 0, none⟩ = some (.bool false)
 z21 : wr.cell? ⟨w.heap.size + 1 + 1, 1, none⟩ = some (.slice none 0 0)
 f00 : wr.frozen? ⟨w.heap.size, 0, none⟩ = false
 f01 : wr.frozen? ⟨w.heap.size, 1, none⟩ = false
 f10 : wr.frozen? ⟨w.heap.size + 1, 0, none⟩ = false
 f11 : wr.frozen? ⟨w.heap.size + 1, 1, none⟩ = false
 f20 : wr.frozen? ⟨w.heap.size + 1 + 1, 0, none⟩ = false
 f21 : wr.frozen? ⟨w.heap.size + 1 + 1, 1, none⟩ = false
 numa : A4 wr ga aa na ca x
 numb : A4 wr gb ab nb cb y
 offa : Off w.heap.size (w.heap.size + 1 + 1 + 1) na aa
 offb : Off w.heap.size (w.heap.size + 1 + 1 + 1) nb ab
 sz : w.heap.size + 1 + 1 < wr.heap.size
 hb : Below w.heap.size w wr
theorem Dx.keep {w wr ws : World} {ga : Bool} {aa : Option Addr} {na ca : Nat} {x : Int} {gb : Bool} {ab : Option Addr} {nb cb : Nat} {y : Int} (h : Dx w wr ga aa na ca x gb ab nb cb y) (hb : Below wr.heap.size wr ws) : Dx w ws ga aa na ca x gb ab nb cb y := by
 have s := h.sz
 have hz := hb.size
 exact ⟨Au hb h.b00, Au hb h.b01, Au hb h.b10, Au hb h.b11, Au hb h.z20, Au hb h.z21,
  (hb.frozen (by show w.heap.size < _; omega)).trans h.f00, (hb.frozen (by show w.heap.size < _; omega)).trans h.f01, (hb.frozen (by show w.heap.size + 1 < _; omega)).trans h.f10, (hb.frozen (by show w.heap.size + 1 < _; omega)).trans h.f11, (hb.frozen (by show w.heap.size + 1 + 1 < _; omega)).trans h.f20, (hb.frozen (by show w.heap.size + 1 + 1 < _; omega)).trans h.f21,
  h.numa.keep hb, h.numb.keep hb, h.offa, h.offb, by omega, h.hb.trans (hb.mono h.hb.size)⟩
theorem Dx.set {w wr : World} {ga : Bool} {aa : Option Addr} {na ca : Nat} {x : Int} {gb : Bool} {ab : Option Addr} {nb cb : Nat} {y : Int} (h : Dx w wr ga aa na ca x gb ab nb cb y)
  {gx : Bool} {ax : Option Addr} {nx cx : Nat} {x' : Int} {gy : Bool} {ay : Option Addr} {ny cy : Nat} {y' : Int} (hx : A4 wr gx ax nx cx x') (hy : A4 wr gy ay ny cy y') (ox : Off w.heap.size (w.heap.size + 1 + 1 + 1) nx ax) (oy : Off w.heap.size (w.heap.size + 1 + 1 + 1) ny ay) :
  Dx w ((((wr.setCell ⟨w.heap.size, 0, none⟩ (.bool gx)).setCell ⟨w.heap.size, 1, none⟩ (.slice ax nx cx)).setCell ⟨w.heap.size + 1, 0, none⟩ (.bool gy)).setCell ⟨w.heap.size + 1, 1, none⟩ (.slice ay ny cy)) gx ax nx cx x' gy ay ny cy y' := by
 obtain ⟨k0, k1, k2, k3, k4, k5⟩ := Kl (.bool gx) (.slice ax nx cx) (.bool gy) (.slice ay ny cy) h.b00 h.b01 h.b10 h.b11
 have s := h.sz
 have HB := h.hb
 have q1 : w.heap.size ≤ (⟨w.heap.size, 0, none⟩ : Addr).block := Ad _
 have far : ∀ (W : World) (p q : Addr) (u : Value), p.block ≠ q.block → (W.setCell p u).cell? q = W.cell? q := fun W p q u e => World.cell?_setCell_far W p q u e
 have z2 : ∀ i, ((((wr.setCell ⟨w.heap.size, 0, none⟩ (.bool gx)).setCell ⟨w.heap.size, 1, none⟩ (.slice ax nx cx)).setCell ⟨w.heap.size + 1, 0, none⟩ (.bool gy)).setCell ⟨w.heap.size + 1, 1, none⟩ (.slice ay ny cy)).cell? ⟨w.heap.size + 1 + 1, i, none⟩ = wr.cell? ⟨w.heap.size + 1 + 1, i, none⟩ := by
  intro i
  rw [far _ _ _ _ (by show w.heap.size + 1 ≠ w.heap.size + 1 + 1; omega), far _ _ _ _ (by show w.heap.size + 1 ≠ w.heap.size + 1 + 1; omega), far _ _ _ _ (by show w.heap.size ≠ w.heap.size + 1 + 1; omega), far _ _ _ _ (by show w.heap.size ≠ w.heap.size + 1 + 1; omega)]
 have r0 : w.heap.size ≤ w.heap.size ∧ w.heap.size < w.heap.size + 1 + 1 + 1 := by omega
 have r1 : w.heap.size ≤ w.heap.size + 1 ∧ w.heap.size + 1 < w.heap.size + 1 + 1 + 1 := by omega
 exact ⟨k0, k1, k2, k3, (z2 0).trans h.z20, (z2 1).trans h.z21, (k5 _).trans h.f00, (k5 _).trans h.f01, (k5 _).trans h.f10, (k5 _).trans h.f11, (k5 _).trans h.f20, (k5 _).trans h.f21,
  (((hx.setOff ox _ _ r0.1 r0.2).setOff ox _ _ r0.1 r0.2).setOff ox _ _ r1.1 r1.2).setOff ox _ _ r1.1 r1.2, (((hy.setOff oy _ _ r0.1 r0.2).setOff oy _ _ r0.1 r0.2).setOff oy _ _ r1.1 r1.2).setOff oy _ _ r1.1 r1.2, ox, oy, by simp only [Am]; omega, by go_grown⟩
def lenAt (w : World) (b : Nat) : Nat := match w.cell? ⟨b, 1, none⟩ with
 | some (.slice _ n _) => n
 | _ => 0
def Wa (w : World) (b : Nat) : Nat := match w.cell? ⟨b, 1, none⟩ with
 | some (.slice (some ⟨p, o, none⟩) n _) => val ((List.range n).map fun i => match w.cell? ⟨p, o + i, none⟩ with | some (.int _ v) => v.toNat | _ => 0)
 | _ => 0
theorem Lr {w : World} {b : Nat} {a : Option Addr} {n c : Nat} {d : List Nat} (h : w.cell? ⟨b, 1, none⟩ = some (.slice a n c)) (hd : RdL w a n c d) : Wa w b = val d := by
 unfold Wa
 rw [h]
 rcases hd.cell with h0 | ⟨p, o, rfl, hc⟩
 ·subst h0
  have : d = [] := List.eq_nil_of_length_eq_zero hd.len
  subst this
  rcases a with _ | ⟨p, o, _ | i⟩ <;> rfl
 ·show val _ = val d
  congr 1
  apply List.ext_getElem
  ·simp [hd.len]
  ·intro i h1 h2
   simp only [List.length_map, List.length_range] at h1
   rw [List.getElem_map, List.getElem_range, hc i h1]
   show (lim d i).toNat = d[i]
   simp [lim, List.getD, Ai h2]
theorem M7 (x y : Int) : Int.gcd y (x % y) = Int.gcd x y := by
 have e : x % y + y * (x / y) = x := Int.emod_add_mul_ediv x y
 apply Nat.dvd_antisymm
 ·have h1 : ((Int.gcd y (x % y) : Nat) : Int) ∣ y := Int.gcd_dvd_left ..
  have h2 : ((Int.gcd y (x % y) : Nat) : Int) ∣ x % y := Int.gcd_dvd_right ..
  have h4 := Int.dvd_add h2 (Int.dvd_mul_of_dvd_left (c := x / y) h1)
  have h3 : ((Int.gcd y (x % y) : Nat) : Int) ∣ x := by rwa [e] at h4
  exact Int.natCast_dvd_natCast.1 (Int.dvd_coe_gcd h3 h1)
 ·have h1 : ((Int.gcd x y : Nat) : Int) ∣ x := Int.gcd_dvd_left ..
  have h2 : ((Int.gcd x y : Nat) : Int) ∣ y := Int.gcd_dvd_right ..
  have h3 : ((Int.gcd x y : Nat) : Int) ∣ x % y := by rw [Int.emod_def]; exact Int.dvd_sub h1 (Int.dvd_mul_of_dvd_left h2)
  exact Int.natCast_dvd_natCast.1 (Int.dvd_coe_gcd h2 h3)
theorem eH (w : World) (g : Bool) (a : Option Addr) (n c : Nat) (z : Int) (h : A4 w g a n c z) (g' : Bool) (a' : Option Addr) (n' c' : Nat) (z' : Int) (h' : A4 w g' a' n' c' z')
  (hz' : 0 < z') (hn1 : n' < 35184372088829) (hb1 : n < 35184372088829) :
  Calls Tryz.prog 165 #[.agg #[.bool g, .slice a n c], .agg #[.bool g', .slice a' n' c']] w (C4 w (Int.gcd z z' : Nat)) := by
 have HB := Ac w.heap.size w
 go_enter Tryz.func165, Tryz.ntmps165
 go_wp2_with fail
 go_region_held3 (fun W => W.cell? ⟨w.heap.size, 0, none⟩ = some (.bool g) ∧ W.cell? ⟨w.heap.size, 1, none⟩ = some (.slice a n c) ∧ W.cell? ⟨w.heap.size + 1, 0, none⟩ = some (.bool g') ∧ W.cell? ⟨w.heap.size + 1, 1, none⟩ = some (.slice a' n' c')) (first | ((try dsimp only); (repeat' apply And.intro); all_goals (first | (with_reducible assumption) | (go_keep; done) | (simp [*, go_sem]; done)))) (first
  | (go_at_call 95; (with_reducible refine (H3 _ g a n c z (h.keep qF)).mono ?_); rintro e w1 ⟨rfl, hb⟩; obtain ⟨hc, hf⟩ := Ax hb; have hz := hb.size; (try simp only [Aj, Ak] at hz); replace HB := zD w hb; obtain ⟨s0_0, s0_1⟩ := qX hc (w.heap.size) (.bool g) (.slice a n c); obtain ⟨s1_0, s1_1⟩ := qX hc (w.heap.size + 1) (.bool g') (.slice a' n' c'); obtain ⟨s2_0, s2_1⟩ := qZ hc (w.heap.size + 1 + 1); obtain ⟨f2_0, f2_1⟩ := zA hf (w.heap.size + 1 + 1); obtain ⟨f0_0, f0_1⟩ := zA hf (w.heap.size); obtain ⟨f1_0, f1_1⟩ := zA hf (w.heap.size + 1))
  | (go_at_call 95; (with_reducible refine (H3 _ g' a' n' c' z' (h'.keep qF)).mono ?_); rintro e w1 ⟨rfl, hb⟩; obtain ⟨hc, hf⟩ := Ax hb; have hz := hb.size; (try simp only [Aj, Ak] at hz); replace HB := zD w hb; obtain ⟨s0_0, s0_1⟩ := qX hc (w.heap.size) (.bool g) (.slice a n c); obtain ⟨s1_0, s1_1⟩ := qX hc (w.heap.size + 1) (.bool g') (.slice a' n' c'); obtain ⟨s2_0, s2_1⟩ := qZ hc (w.heap.size + 1 + 1); obtain ⟨f2_0, f2_1⟩ := zA hf (w.heap.size + 1 + 1); obtain ⟨f0_0, f0_1⟩ := zA hf (w.heap.size); obtain ⟨f1_0, f1_1⟩ := zA hf (w.heap.size + 1)))
 have hbox1 : Dx w w1 g a n c z g' a' n' c' z' := ⟨s0_0, s0_1, s1_0, s1_1, s2_0, s2_1, f0_0, f0_1, f1_0, f1_1, f2_0, f2_1, h.keep HB, h'.keep HB, h.rd.off (Ad _) _, h'.rd.off (Ad _) _, by omega, HB⟩
 have hbox2 := hbox1.set hbox1.numa hbox1.numb hbox1.offa hbox1.offb
 clear hbox1 hc hf hb HB s0_0 s0_1 s1_0 s1_1 s2_0 s2_1 f0_0 f0_1 f1_0 f1_1 f2_0 f2_1
 go_wp2_with fail
 go_loopw [] (fun wr => ∃ ga aa na ca x gb ab nb cb y, Dx w wr ga aa na ca x gb ab nb cb y ∧ 0 ≤ y ∧ nb < 35184372088829 ∧ na < 35184372088829 ∧ Int.gcd x y = Int.gcd z z')
  (fun wr => Wa wr (w.heap.size + 1))
 case atStart => exact ⟨g, a, n, c, z, g', a', n', c', z', hbox2, by omega, hn1, hb1, rfl⟩
 case round =>
  obtain ⟨ga, aa, na, ca, x, gb, ab, nb, cb, y, HG, hy, hnb, hna, hgcd⟩ := hrel
  clear hbox2
  have b00 := HG.b00
  have b01 := HG.b01
  have b10 := HG.b10
  have b11 := HG.b11
  have z20 := HG.z20
  have z21 := HG.z21
  have f00 := HG.f00
  have f01 := HG.f01
  have f10 := HG.f10
  have f11 := HG.f11
  have f20 := HG.f20
  have f21 := HG.f21
  have HB := HG.hb
  have hsz := HG.sz
  have hsz0 := HG.sz
  have HV0 := Ae ((Lr b11 HG.numb.rd).trans (Ba _))
  by_cases hy0 : nb = 0
  ·have hyz : y = 0 := Decidable.byContradiction fun e => HG.numb.ne.2 e hy0
   subst hy0
   have HGC := Ae hgcd
   clear hgcd
   go_wp2_with fail
   refine (Lh _ _ _ _ (dg x.natAbs) HG.numa.rd).mono ?_
   rintro e w2 ⟨a2, c2, rfl, hr2, hf2, hb2⟩
   clear b00 b01 b10 b11 z20 z21 f00 f01 f10 f11 f20 f21 HB hsz; replace HG := HG.keep hb2; have b00 := HG.b00; have b01 := HG.b01; have b10 := HG.b10; have b11 := HG.b11; have z20 := HG.z20; have z21 := HG.z21; have f00 := HG.f00; have f01 := HG.f01; have f10 := HG.f10; have f11 := HG.f11; have f20 := HG.f20; have f21 := HG.f21; have HB := HG.hb; have hsz := HG.sz
   go_wp2_with fail
   refine (E6 _ false a2 na c2 _ hr2 (Dj _)).mono ?_
   rintro e w3 ⟨g3, n3, rfl, hn3, hnum3, hb3⟩
   clear b00 b01 b10 b11 z20 z21 f00 f01 f10 f11 f20 f21 HB hsz; replace HG := HG.keep hb3; have b00 := HG.b00; have b01 := HG.b01; have b10 := HG.b10; have b11 := HG.b11; have z20 := HG.z20; have z21 := HG.z21; have f00 := HG.f00; have f01 := HG.f01; have f10 := HG.f10; have f11 := HG.f11; have f20 := HG.f20; have f21 := HG.f21; have HB := HG.hb; have hsz := HG.sz
   have hf3 := ((hf2.keep hb3).less hn3).mono (show w.heap.size + 1 + 1 + 1 ≤ _ by omega)
   go_wp2_with fail
   refine bodyPost_ret (v := .agg #[.bool g3, .slice a2 n3 n3]) (by simp [results, Tryz.results165, go_sem, z20, z21]) rfl ?_
   have hval : sgn false (val (dg x.natAbs)) = ((Int.gcd z z' : Nat) : Int) := by rw [← HGC.out, hyz, Ba]; simp [sgn]
   rw [hval] at hnum3
   refine ⟨g3, a2, n3, n3, rfl, ?_, ?_, by go_grown⟩
   ·exact qCf
   ·exact qBv
  ·have hyp : 0 < y := by have := HG.numb.ne.1 hy0; omega
   have hnb1 : 0 < nb := by omega
   have HGC := Ae hgcd
   clear hgcd
   by_cases hna2 : na ≤ 2 ∧ nb ≤ 2
   ·obtain ⟨hna2, hnb2⟩ := hna2
    go_wp2_with fail
    refine (Lh _ _ _ _ (dg x.natAbs) HG.numa.rd).mono ?_
    rintro e w2 ⟨a2, c2, rfl, hr2, hf2, hb2⟩
    clear b00 b01 b10 b11 z20 z21 f00 f01 f10 f11 f20 f21 HB hsz; replace HG := HG.keep hb2; have b00 := HG.b00; have b01 := HG.b01; have b10 := HG.b10; have b11 := HG.b11; have z20 := HG.z20; have z21 := HG.z21; have f00 := HG.f00; have f01 := HG.f01; have f10 := HG.f10; have f11 := HG.f11; have f20 := HG.f20; have f21 := HG.f21; have HB := HG.hb; have hsz := HG.sz
    go_wp2_with fail
    refine (E6 _ false a2 na c2 _ hr2 (Dj _)).mono ?_
    rintro e w3 ⟨g3, n3, rfl, hn3, hnum3, hb3⟩
    clear b00 b01 b10 b11 z20 z21 f00 f01 f10 f11 f20 f21 HB hsz; replace HG := HG.keep hb3; have b00 := HG.b00; have b01 := HG.b01; have b10 := HG.b10; have b11 := HG.b11; have z20 := HG.z20; have z21 := HG.z21; have f00 := HG.f00; have f01 := HG.f01; have f10 := HG.f10; have f11 := HG.f11; have f20 := HG.f20; have f21 := HG.f21; have HB := HG.hb; have hsz := HG.sz
    have hn3' : n3 ≤ 2 := by have h1 := hnum3.rd.len; have h2 := hr2.len; rw [Fr, Ba] at h1; omega
    have hv3 : sgn false (val (dg x.natAbs)) = ((x.natAbs : Nat) : Int) := by rw [Ba]; simp [sgn]
    rw [hv3] at hnum3
    have hxb : ((x.natAbs : Nat) : Int) < 1000000000000000000 := by
     have h3 := Eg (dg x.natAbs) (Dj _)
     have h4 := HG.numa.rd.len
     have h5 := Nat.pow_le_pow_right (show 0 < 1000000000 by omega) (show (dg x.natAbs).length ≤ 2 by omega)
     rw [Ba] at h3
     omega
    go_wp2_with fail
    refine (aF _ _ _ _ _ _ hnum3 qB hn3').mono ?_
    rintro e w4 ⟨rfl, hb4⟩
    clear b00 b01 b10 b11 z20 z21 f00 f01 f10 f11 f20 f21 HB hsz; replace HG := HG.keep hb4; have b00 := HG.b00; have b01 := HG.b01; have b10 := HG.b10; have b11 := HG.b11; have z20 := HG.z20; have z21 := HG.z21; have f00 := HG.f00; have f01 := HG.f01; have f10 := HG.f10; have f11 := HG.f11; have f20 := HG.f20; have f21 := HG.f21; have HB := HG.hb; have hsz := HG.sz
    go_wp2_with fail
    refine (Lh _ _ _ _ (dg y.natAbs) HG.numb.rd).mono ?_
    rintro e w5 ⟨a5, c5, rfl, hr5, hf5, hb5⟩
    clear b00 b01 b10 b11 z20 z21 f00 f01 f10 f11 f20 f21 HB hsz; replace HG := HG.keep hb5; have b00 := HG.b00; have b01 := HG.b01; have b10 := HG.b10; have b11 := HG.b11; have z20 := HG.z20; have z21 := HG.z21; have f00 := HG.f00; have f01 := HG.f01; have f10 := HG.f10; have f11 := HG.f11; have f20 := HG.f20; have f21 := HG.f21; have HB := HG.hb; have hsz := HG.sz
    go_wp2_with fail
    refine (E6 _ false a5 nb c5 _ hr5 (Dj _)).mono ?_
    rintro e w6 ⟨g6, n6, rfl, hn6, hnum6, hb6⟩
    clear b00 b01 b10 b11 z20 z21 f00 f01 f10 f11 f20 f21 HB hsz; replace HG := HG.keep hb6; have b00 := HG.b00; have b01 := HG.b01; have b10 := HG.b10; have b11 := HG.b11; have z20 := HG.z20; have z21 := HG.z21; have f00 := HG.f00; have f01 := HG.f01; have f10 := HG.f10; have f11 := HG.f11; have f20 := HG.f20; have f21 := HG.f21; have HB := HG.hb; have hsz := HG.sz
    have hn6' : n6 ≤ 2 := by have h1 := hnum6.rd.len; have h2 := hr5.len; rw [Fr, Ba] at h1; omega
    have hv6 : sgn false (val (dg y.natAbs)) = y := by rw [Ba]; simp [sgn]; omega
    rw [hv6] at hnum6
    have hyb : y < 1000000000000000000 := by
     have h3 := Eg (dg y.natAbs) (Dj _)
     have h4 := HG.numb.rd.len
     have h5 := Nat.pow_le_pow_right (show 0 < 1000000000 by omega) (show (dg y.natAbs).length ≤ 2 by omega)
     rw [Ba] at h3
     omega
    go_wp2_with fail
    refine (aF _ _ _ _ _ _ hnum6 qB hn6').mono ?_
    rintro e w7 ⟨rfl, hb7⟩
    clear b00 b01 b10 b11 z20 z21 f00 f01 f10 f11 f20 f21 HB hsz; replace HG := HG.keep hb7; have b00 := HG.b00; have b01 := HG.b01; have b10 := HG.b10; have b11 := HG.b11; have z20 := HG.z20; have z21 := HG.z21; have f00 := HG.f00; have f01 := HG.f01; have f10 := HG.f10; have f11 := HG.f11; have f20 := HG.f20; have f21 := HG.f21; have HB := HG.hb; have hsz := HG.sz
    clear hr2 hf2 hb2 hnum3 hb3 hb4 hr5 hf5 hb5 hnum6 hb6 hb7 hv3 hv6 hn3 hn6 hn3' hn6'
    go_wp2_with fail
    go_loopw [5, 7] (fun v5 v7 wi => ∃ m k : Int, v5 = .int .i64 m ∧ v7 = .int .i64 k ∧ 0 ≤ m ∧ m < 1000000000000000000 ∧ 0 ≤ k ∧ k < 1000000000000000000 ∧ Int.gcd m k = Int.gcd z z' ∧ Below w7.heap.size w7 wi)
     (fun _ v7 _ => (intOf v7).toNat)
    case atStart =>
     refine ⟨_, _, rfl, rfl, by omega, hxb, by omega, hyb, ?_, Ac _ _⟩
     rw [← HGC.out]; simp [Int.gcd]
    case round =>
     obtain ⟨m, k, rfl, rfl, hm0, hm1, hk0, hk1, hg, hbi⟩ := hrel
     clear b00 b01 b10 b11 z20 z21 f00 f01 f10 f11 f20 f21 HB hsz; replace HG := HG.keep hbi; have b00 := HG.b00; have b01 := HG.b01; have b10 := HG.b10; have b11 := HG.b11; have z20 := HG.z20; have z21 := HG.z21; have f00 := HG.f00; have f01 := HG.f01; have f10 := HG.f10; have f11 := HG.f11; have f20 := HG.f20; have f21 := HG.f21; have HB := HG.hb; have hsz := HG.sz
     have HGM := Ae hg
     clear hg
     by_cases hk : 0 < k
     ·have hkn : ((k : Int) == 0) = false := by rw [beq_eq_false_iff_ne]; omega
      have hmod := Int.tmod_eq_emod_of_nonneg (b := k) hm0
      have hm2 := Int.emod_nonneg m (show k ≠ 0 by omega)
      have hm3 := Int.emod_lt_of_pos m hk
      go_wp2_with fail
      go_quiet (fail)
      go_wp2_with fail
      refine ⟨⟨k, m % k, rfl, rfl, by omega, by omega, by omega, by omega, by rw [M7]; exact HGM.out, Ay _ hbi⟩, ?_⟩
      simp [intOf]; omega
     ·obtain rfl : k = 0 := by omega
      go_wp2_with fail
      have hsz1 := HG.sz
      refine (Sz _ m qB qB).mono ?_
      rintro e w8 ⟨g3, a8, n3, c8, rfl, hnum3, hf8, hb8⟩
      clear b00 b01 b10 b11 z20 z21 f00 f01 f10 f11 f20 f21 HB hsz; replace HG := HG.keep hb8; have b00 := HG.b00; have b01 := HG.b01; have b10 := HG.b10; have b11 := HG.b11; have z20 := HG.z20; have z21 := HG.z21; have f00 := HG.f00; have f01 := HG.f01; have f10 := HG.f10; have f11 := HG.f11; have f20 := HG.f20; have f21 := HG.f21; have HB := HG.hb; have hsz := HG.sz
      have hf3 := hf8.mono (show w.heap.size + 1 + 1 + 1 ≤ _ by omega)
      go_wp2_with fail
      refine bodyPost_ret (v := .agg #[.bool g3, .slice a8 n3 c8]) (by simp [results, Tryz.results165, go_sem, z20, z21]) rfl ?_
      have hval : m = ((Int.gcd z z' : Nat) : Int) := by rw [← HGM.out]; simp; omega
      rw [hval] at hnum3
      refine ⟨g3, a8, n3, c8, rfl, ?_, ?_, by go_grown⟩
      ·exact qCf
      ·exact qBv
   ·by_cases hna4 : na ≤ 2
    ·have hnb3 : decide ((nb : Int) ≤ 2) = false := by simp; omega
     have hna5 : (na : Int) ≤ 2 := by omega
     clear hna2
     exact qAq
    ·have hna3 : decide ((na : Int) ≤ 2) = false := by simp; omega
     clear hna2 hna4
     exact qAq
end Go.Proofs.YtdamegaedmckbaaGreatDoor
end
section
namespace Go.Proofs.YtdamegaedmckbaaGreatDoor
open Go.RowKit Go.Shelf Go.Lib Go.Sort
def Tab (w : World) : Prop := Lib.TabIs Tryz.prog w "internal/strconv.uint64pow10" .u64 Lib.pow10Tab
end Go.Proofs.YtdamegaedmckbaaGreatDoor
end
section
namespace Go.Proofs.YtdamegaedmckbaaGreatDoor
open Go.RowKit
@[go_sem ↓] theorem gH (w : World) (g1 : Bool) (a1 : Option Addr) (n1 c1 : Nat) (g2 : Bool) (a2 : Option Addr) (n2 c2 : Nat) :
  (Instr.field 64 (.agg #[.bool g1, .slice a1 n1 c1, .bool g2, .slice a2 n2 c2]) 0).run Tryz.prog w = .ok (.agg #[.bool g1, .slice a1 n1 c1]) w := by kernel_rfl
theorem En {x y : Int} : Br x y = 0 ↔ x = y := by
 unfold Br
 split
 ·constructor <;> intro h <;> omega
 ·split
  ·simp [*]
  ·constructor <;> intro h <;> omega
theorem R9 {x y : Int} : 0 < Br x y ↔ y < x := by
 unfold Br
 split
 ·constructor <;> intro h <;> omega
 ·split
  ·constructor <;> intro h <;> omega
  ·constructor <;> intro h <;> omega
theorem fA (w : World) (g : Bool) (a : Option Addr) (n c : Nat) (z : Int) (h : A4 w g a n c z) :
  Calls Tryz.prog 164 #[.agg #[.bool g, .slice a n c]] w fun e w' => e = .returned (.bool (decide (z = 1))) ∧ Below w.heap.size w w' := by
 have HB := Ac w.heap.size w
 go_enter Tryz.func164, Tryz.ntmps164
 go_wp2_with fail
 go_region_held3 (fun W => W.cell? ⟨w.heap.size, 0, none⟩ = some (.bool g) ∧ W.cell? ⟨w.heap.size, 1, none⟩ = some (.slice a n c)) (first | ((try dsimp only); (repeat' apply And.intro); all_goals (first | (with_reducible assumption) | (go_keep; done) | (simp [*, go_sem]; done)))) (first
  | (go_at_call 27; (with_reducible refine (Sz _ 1 qB qB).mono ?_); rintro e w2 ⟨g2, a2, n2, c2, rfl, hm, _, hb⟩; obtain ⟨hc, hf⟩ := Ax hb; have hz := hb.size; (try simp only [Aj, Ak] at hz); replace HB := zD w hb; obtain ⟨s0, s1⟩ := qX hc (w.heap.size) (.bool g) (.slice a n c); clear hc hf)
  | (go_at_call 175; (with_reducible refine (Wf _ _ _ _ _ _ (h.keep qF) _ _ _ _ 1 (hm.keep qF)).mono ?_); rintro e w3 ⟨rfl, hb3⟩; have hz3 := hb3.size; replace HB := zD w hb3; have s0' := Au (hb3) (by first | assumption | (simp [*, go_sem]; done) : World.cell? _ ⟨w.heap.size, 0, none⟩ = some (.bool g)); have s1' := Au hb3 (by first | assumption | (simp [*, go_sem]; done) : World.cell? _ ⟨w.heap.size, 1, none⟩ = some (.slice a n c))))
 all_goals
  go_wp2_with fail
  go_ret
  refine ⟨?_, by go_grown⟩
  by_cases h1 : z = 1
  ·rw [h1, C9]; rfl
  ·have h2 : (Br z 1 == 0) = false := by rw [beq_eq_false_iff_ne]; exact fun e => h1 (En.1 e)
   have h3 : decide (z = 1) = false := by simp [h1]
   rw [h3]
   first
    | (show Ending.returned (.bool (Br z 1 == 0)) = _; rw [h2])
    | (simp [h2]; done)
def FOk (g1 : Bool) (d1 : List Nat) (g2 : Bool) (d2 : List Nat) : Prop := Ix g1 d1 ∧ Ix g2 d2 ∧ g2 = false ∧ d2 ≠ [] ∧ Nat.gcd (val d1) (val d2) = 1
theorem Te {g : Bool} {d : List Nat} (h : Ix g d) : 0 < (if g then -(val d : Int) else (val d : Int)) ↔ g = false ∧ d ≠ [] := by
 cases g
 ·simp only [Bool.false_eq_true, if_false, true_and]
  constructor
  ·intro h1 e; rw [e, val] at h1; omega
  ·intro h1; have := Dz h.1 h1; omega
 ·simp only [if_true, Bool.true_eq_false, false_and, iff_false]
  omega
theorem FOk.gcd {g1 : Bool} {d1 : List Nat} {g2 : Bool} {d2 : List Nat} : Int.gcd (if g1 then -(val d1 : Int) else (val d1 : Int)) (if g2 then -(val d2 : Int) else (val d2 : Int)) = Nat.gcd (val d1) (val d2) := by
 cases g1 <;> cases g2 <;> simp [Int.gcd]
theorem Gq (w : World) (g1 : Bool) (a1 : Option Addr) (n1 c1 : Nat) (d1 : List Nat) (h1 : RdL w a1 n1 c1 d1) (g2 : Bool) (a2 : Option Addr) (n2 c2 : Nat) (d2 : List Nat) (h2 : RdL w a2 n2 c2 d2) (hs : n2 < 35184372088829) (hb1 : n1 < 35184372088829) (r : Bool) (hr : FOk g1 d1 g2 d2 ↔ r = true) :
  Calls Tryz.prog 93 #[.agg #[.bool g1, .slice a1 n1 c1, .bool g2, .slice a2 n2 c2]] w fun e w' => e = .returned (.bool r) ∧ Below w.heap.size w w' := by
 have HB := Ac w.heap.size w
 by_cases o1 : Ix g1 d1
 ·by_cases o2 : Ix g2 d2
  ·have N1 := Eo h1 o1
   have N2 := Eo h2 o2
   have hlow := Te o2
   have hgcd := @FOk.gcd g1 d1 g2 d2
   generalize (if g1 then -(val d1 : Int) else (val d1 : Int)) = z1 at *
   generalize (if g2 then -(val d2 : Int) else (val d2 : Int)) = z2 at *
   have O1 := Ae o1
   have O2 := Ae o2
   clear o1 o2
   by_cases hp : 0 < z2
   ·have hsg : Br z2 0 = 1 := Ct hp
    have HP := Ae (hlow.1 hp)
    clear hlow
    have HR := Ae hr
    have HG := Ae hgcd
    clear hr hgcd
    go_enter Tryz.func93, Tryz.ntmps93
    go_wp2_with fail
    refine (C1 _ _ _ _ _ d1 (h1.keep qF) true ⟨fun _ => rfl, fun _ => O1.out⟩).mono ?_
    rintro e w1 ⟨rfl, hb⟩
    obtain ⟨hc, hf⟩ := Ax hb; have hz := hb.size; (try simp only [Aj, Ak] at hz)
    replace HB := zD w hb
    obtain ⟨s0_0, s0_1⟩ := qX hc (w.heap.size) (.bool g1) (.slice a1 n1 c1); obtain ⟨s0_2, s0_3⟩ := qY hc (w.heap.size) (.bool g2) (.slice a2 n2 c2)
    clear hc hf hb
    go_wp2_with fail
    refine (C1 _ _ _ _ _ d2 (h2.keep qF) true ⟨fun _ => rfl, fun _ => O2.out⟩).mono ?_
    rintro e w2 ⟨rfl, hb⟩
    obtain ⟨hc, hf⟩ := Ax hb; have hz := hb.size; (try simp only [Aj, Ak] at hz)
    replace HB := zD w hb
    obtain ⟨s0_0, s0_1⟩ := qX hc (w.heap.size) (.bool g1) (.slice a1 n1 c1); obtain ⟨s0_2, s0_3⟩ := qY hc (w.heap.size) (.bool g2) (.slice a2 n2 c2)
    clear hc hf hb
    go_wp2_with fail
    refine (Lx _ _ _ _ _ z2 (N2.keep qF)).mono ?_
    rintro e w3 ⟨rfl, hb⟩
    obtain ⟨hc, hf⟩ := Ax hb; have hz := hb.size; (try simp only [Aj, Ak] at hz)
    replace HB := zD w hb
    obtain ⟨s0_0, s0_1⟩ := qX hc (w.heap.size) (.bool g1) (.slice a1 n1 c1); obtain ⟨s0_2, s0_3⟩ := qY hc (w.heap.size) (.bool g2) (.slice a2 n2 c2)
    clear hc hf hb
    rw [hsg]
    go_wp2_with fail
    refine (eH _ _ _ _ _ z1 (N1.keep qF) _ _ _ _ z2 (N2.keep qF) hp hs hb1).mono ?_
    rintro e w4 ⟨g3, a3, n3, c3, rfl, hn3, _, hb⟩
    obtain ⟨hc, hf⟩ := Ax hb; have hz := hb.size; (try simp only [Aj, Ak] at hz)
    replace HB := zD w hb
    obtain ⟨s0_0, s0_1⟩ := qX hc (w.heap.size) (.bool g1) (.slice a1 n1 c1); obtain ⟨s0_2, s0_3⟩ := qY hc (w.heap.size) (.bool g2) (.slice a2 n2 c2)
    clear hc hf hb
    go_wp2_with fail
    refine (fA _ _ _ _ _ _ hn3).mono ?_
    exact qBd
   ·have hsg : decide (0 < Br z2 0) = false := by rw [decide_eq_false_iff_not, R9]; exact hp
    have hr0 : r = false := by
     cases r
     ·rfl
     ·have := hr.2 rfl
      exact absurd (hlow.2 ⟨this.2.2.1, this.2.2.2.1⟩) hp
    subst hr0
    clear hr hlow hgcd hp
    go_enter Tryz.func93, Tryz.ntmps93
    go_wp2_with fail
    refine (C1 _ _ _ _ _ d1 (h1.keep qF) true ⟨fun _ => rfl, fun _ => O1.out⟩).mono ?_
    rintro e w1 ⟨rfl, hb⟩
    obtain ⟨hc, hf⟩ := Ax hb; have hz := hb.size; (try simp only [Aj, Ak] at hz)
    replace HB := zD w hb
    obtain ⟨s0_0, s0_1⟩ := qX hc (w.heap.size) (.bool g1) (.slice a1 n1 c1); obtain ⟨s0_2, s0_3⟩ := qY hc (w.heap.size) (.bool g2) (.slice a2 n2 c2)
    clear hc hf hb
    go_wp2_with fail
    refine (C1 _ _ _ _ _ d2 (h2.keep qF) true ⟨fun _ => rfl, fun _ => O2.out⟩).mono ?_
    rintro e w2 ⟨rfl, hb⟩
    obtain ⟨hc, hf⟩ := Ax hb; have hz := hb.size; (try simp only [Aj, Ak] at hz)
    replace HB := zD w hb
    obtain ⟨s0_0, s0_1⟩ := qX hc (w.heap.size) (.bool g1) (.slice a1 n1 c1); obtain ⟨s0_2, s0_3⟩ := qY hc (w.heap.size) (.bool g2) (.slice a2 n2 c2)
    clear hc hf hb
    go_wp2_with fail
    refine (Lx _ _ _ _ _ z2 (N2.keep qF)).mono ?_
    rintro e w3 ⟨rfl, hb⟩
    exact qAt
  ·have hr0 : r = false := by
    cases r
    ·rfl
    ·exact absurd (hr.2 rfl).2.1 o2
   subst hr0
   have O1 := Ae o1
   have O2 := Ae o2
   clear hr o1 o2
   go_enter Tryz.func93, Tryz.ntmps93
   go_wp2_with fail
   refine (C1 _ _ _ _ _ d1 (h1.keep qF) true ⟨fun _ => rfl, fun _ => O1.out⟩).mono ?_
   rintro e w1 ⟨rfl, hb⟩
   obtain ⟨hc, hf⟩ := Ax hb; have hz := hb.size; (try simp only [Aj, Ak] at hz)
   replace HB := zD w hb
   obtain ⟨s0_0, s0_1⟩ := qX hc (w.heap.size) (.bool g1) (.slice a1 n1 c1); obtain ⟨s0_2, s0_3⟩ := qY hc (w.heap.size) (.bool g2) (.slice a2 n2 c2)
   clear hc hf hb
   go_wp2_with fail
   refine (C1 _ _ _ _ _ d2 (h2.keep qF) false ⟨fun e => absurd e O2.out, fun e => (by cases e)⟩).mono ?_
   rintro e w2 ⟨rfl, hb⟩
   exact qAt
 ·have hr0 : r = false := by
   cases r
   ·rfl
   ·exact absurd (hr.2 rfl).1 o1
  subst hr0
  have O1 := Ae o1
  clear hr o1
  go_enter Tryz.func93, Tryz.ntmps93
  go_wp2_with fail
  refine (C1 _ _ _ _ _ d1 (h1.keep qF) false ⟨fun e => absurd e O1.out, fun e => (by cases e)⟩).mono ?_
  rintro e w1 ⟨rfl, hb⟩
  exact qAt
structure Bj (w : World) (g1 : Bool) (a1 : Option Addr) (n1 c1 : Nat) (p : Int) (g2 : Bool) (a2 : Option Addr) (n2 c2 : Nat) (q : Int) : Prop where
 top : A4 w g1 a1 n1 c1 p
 low : A4 w g2 a2 n2 c2 q
 pos : 0 < q
 red : Int.gcd p q = 1
theorem Bj.keep {w w' : World} {g1 : Bool} {a1 : Option Addr} {n1 c1 : Nat} {p : Int} {g2 : Bool} {a2 : Option Addr} {n2 c2 : Nat} {q : Int} (h : Bj w g1 a1 n1 c1 p g2 a2 n2 c2 q) (hb : Below w.heap.size w w') : Bj w' g1 a1 n1 c1 p g2 a2 n2 c2 q :=
 ⟨h.top.keep hb, h.low.keep hb, h.pos, h.red⟩
theorem Bj.ok {w : World} {g1 : Bool} {a1 : Option Addr} {n1 c1 : Nat} {p : Int} {g2 : Bool} {a2 : Option Addr} {n2 c2 : Nat} {q : Int} (h : Bj w g1 a1 n1 c1 p g2 a2 n2 c2 q) : FOk g1 (dg p.natAbs) g2 (dg q.natAbs) := by
 refine ⟨h.top.okay, h.low.okay, ?_, ?_, ?_⟩
 ·rw [h.low.neg]; have := h.pos; simp; omega
 ·intro e
  have h1 := Ba q.natAbs
  have := h.pos
  rw [e, val] at h1
  omega
 ·rw [Ba, Ba]
  exact h.red
theorem Ry (w : World) (g1 : Bool) (a1 : Option Addr) (n1 c1 : Nat) (p : Int) (g2 : Bool) (a2 : Option Addr) (n2 c2 : Nat) (q : Int) (h : Bj w g1 a1 n1 c1 p g2 a2 n2 c2 q) (hs : n2 < 35184372088829) (hb1 : n1 < 35184372088829) :
  Calls Tryz.prog 108 #[.agg #[.bool g1, .slice a1 n1 c1, .bool g2, .slice a2 n2 c2]] w fun e w' => e = .returned (.agg #[.bool g1, .slice a1 n1 c1, .bool g2, .slice a2 n2 c2]) ∧ Below w.heap.size w w' := by
 have HB := Ac w.heap.size w
 have HO := Ae h.ok
 go_enter Tryz.func108, Tryz.ntmps108
 go_wp2_with fail
 refine (Gq _ _ _ _ _ _ (h.top.rd.keep qF) _ _ _ _ _ (h.low.rd.keep qF) hs hb1 true ⟨fun _ => rfl, fun _ => HO.out⟩).mono ?_
 rintro e w1 ⟨rfl, hb⟩
 obtain ⟨hc, hf⟩ := Ax hb; have hz := hb.size; (try simp only [Aj, Ak] at hz)
 replace HB := zD w hb
 obtain ⟨s0_0, s0_1⟩ := qX hc (w.heap.size) (.bool g1) (.slice a1 n1 c1); obtain ⟨s0_2, s0_3⟩ := qY hc (w.heap.size) (.bool g2) (.slice a2 n2 c2); obtain ⟨s1_0, s1_1⟩ := qZ hc (w.heap.size + 1); obtain ⟨s1_2, s1_3⟩ := qY hc (w.heap.size + 1) (.bool false) (.slice none 0 0); obtain ⟨s1_0, s1_1⟩ := qZ hc (w.heap.size + 1); obtain ⟨s1_2, s1_3⟩ := qY hc (w.heap.size + 1) (.bool false) (.slice none 0 0); obtain ⟨f1_0, f1_1⟩ := zA hf (w.heap.size + 1); obtain ⟨f1_2, f1_3⟩ := zB hf (w.heap.size + 1)
 have hk0 : w.heap.size < w1.heap.size := by omega
 have hk1 : w.heap.size + 1 < w1.heap.size := by omega
 clear hc hf hb
 go_wp2_with fail
 refine bodyPost_ret (v := .agg #[.bool g1, .slice a1 n1 c1, .bool g2, .slice a2 n2 c2]) (by simp [results, Tryz.results108, go_sem, s1_0, s1_1, s1_2, s1_3]) rfl ?_
 exact ⟨rfl, by go_grown⟩
theorem Hc (w : World) (g1 : Bool) (a1 : Option Addr) (n1 c1 : Nat) (p : Int) (g2 : Bool) (a2 : Option Addr) (n2 c2 : Nat) (q : Int) (h : Bj w g1 a1 n1 c1 p g2 a2 n2 c2 q) (hs : n2 < 35184372088829) (hb1 : n1 < 35184372088829) :
  Calls Tryz.prog 31 #[.agg #[.bool g1, .slice a1 n1 c1, .bool g2, .slice a2 n2 c2]] w fun e w' => e = .returned (.int .i64 (Br p 0)) ∧ Below w.heap.size w w' := by
 have HB := Ac w.heap.size w
 go_enter Tryz.func31, Tryz.ntmps31
 go_wp2_with fail
 refine (Ry _ _ _ _ _ _ _ _ _ _ _ (h.keep qF) hs hb1).mono ?_
 rintro e w1 ⟨rfl, hb⟩
 obtain ⟨hc, hf⟩ := Ax hb; have hz := hb.size; (try simp only [Aj, Ak] at hz)
 replace HB := zD w hb
 
 clear hc hf hb
 go_wp2_with fail
 refine (Lx _ _ _ _ _ _ (h.top.keep qF)).mono ?_
 exact qDc
end Go.Proofs.YtdamegaedmckbaaGreatDoor
end
