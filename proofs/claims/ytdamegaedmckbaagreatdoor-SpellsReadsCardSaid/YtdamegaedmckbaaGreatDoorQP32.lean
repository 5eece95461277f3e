/- The document's reader: factor (function 133), where letter 0 stands. -/
import Derived.Test.YtdamegaedmckbaaGreatDoorQP31
set_option linter.unusedSimpArgs false
set_option linter.unusedVariables false
set_option maxRecDepth 100000
set_option maxHeartbeats 4000000
section
namespace Go.Proofs.YtdamegaedmckbaaGreatDoor
open Go.RowKit
theorem Sm (w : World) (R B A : Nat) (L : List UInt8) (k K : Nat) (m0 : Bool) (h : Bh w R L k 0 m0) (hL : L.length < 1000000000) (t : Tm) (c : PC) (hF : FT w B A t c K) (hRB : R < B) (hBw : B ≤ w.heap.size) (hAw : A < w.heap.size) (st : TS) (hst : st.L = L.drop k) (hr : Ft st t c m0) (hx : A6 (L.drop k) 120 = true) :
  Calls Tryz.prog 133 #[.pointer (some ⟨R, 0, none⟩), t.val] w (Jp w R B A L k K st) := by
 go_enter Tryz.func133, Tryz.ntmps133
 go_wp2_with fail
 obtain ⟨W0, hW0⟩ : ∃ W0, W0 = ((w.alloc (.cells #[.bool t.g1, .slice t.a1 t.n1 t.c1, .bool t.g2, .slice t.a2 t.n2 t.c2, .int .u16 t.m0, .int .u16 t.m1, .int .u16 t.m2, .int .u16 t.m3] 68)).alloc (.cells #[.bool false, .slice none 0 0, .bool false, .slice none 0 0, .int .u16 0, .int .u16 0, .int .u16 0, .int .u16 0] 68)) := ⟨_, rfl⟩
 have hb0 : Below w.heap.size w W0 := by rw [hW0]; go_grown
 have hD0 := h.keep hb0
 have hF0 : Dw w W0 R t := Dw.start hW0
 have hRw : R < w.heap.size := by omega
 have hLE := Ae h.le
 have x0 : (⟨#[120, 121, 122, 116]⟩ : ByteArray)[0]'qC = (120 : UInt8) := rfl
 have x1 : (⟨#[120, 121, 122, 116]⟩ : ByteArray)[1]'qC = (121 : UInt8) := rfl
 have x2 : (⟨#[120, 121, 122, 116]⟩ : ByteArray)[2]'qC = (122 : UInt8) := rfl
 have x3 : (⟨#[120, 121, 122, 116]⟩ : ByteArray)[3]'qC = (116 : UInt8) := rfl
 go_loopw [5] (fun v5 wr => ∃ i : Int, 0 ≤ i ∧ i ≤ 0 ∧ v5 = .int .i64 i ∧ ∃ n, wr = W0.drewN n) (fun v5 _ => 4 - (intOf v5).toNat)
 case atStart => exact ⟨0, by omega, by omega, rfl, 0, by rw [← hW0]; rfl⟩
 case round =>
  obtain ⟨i, hi0, hi, rfl, n0, rfl⟩ := hrel
  clear hW0
  have hDr := hD0.drewN n0
  have hFr := hF0.drewN n0
  obtain rfl : i = 0 := by omega
  go_wp2_with fail
  refine (Ev _ R L k hLE.out 120 hDr.c0 hDr.c1 hL).mono ?_
  rintro e w1 ⟨rfl, n1, hw1⟩
  rw [hx]
  have D1 : Bh w1 R L k 0 m0 := by rw [hw1]; exact hDr.drewN n1
  have F1 : Dw w w1 R t := by rw [hw1]; exact hFr.drewN n1
  clear hw1 hDr hFr hD0 hF0 hb0 h
  have hk := E9 hx
  have hlet := Ae ((V4 hk).1 hx)
  have y1 := D1.c1
  have z1 := D1.f1
  go_wp2_with fail
  have D2 := D1.set1 (k + 1) hk
  have F2 := F1.next (Aw (o := 1) (.int .i64 ((k + 1 : Nat) : Int)) (Bc w1 (some R))) hRw
  rw [show ((k + 1 : Nat) : Int) = (k : Int) + 1 from rfl] at F2 D2
  clear D1 F1 y1 z1
  generalize w1.setCell ⟨R, 1, none⟩ (.int .i64 ((k : Int) + 1)) = w2 at *
  refine (Ev _ R L (k + 1) hk 94 D2.c0 D2.c1 hL).mono ?_
  rintro e w3 ⟨rfl, n3, hw3⟩
  have D3 : Bh w3 R L (k + 1) 0 m0 := by rw [hw3]; exact D2.drewN n3
  have F3 : Dw w w3 R t := by rw [hw3]; exact F2.drewN n3
  clear hw3 D2 F2
  cases h94 : A6 (L.drop (k + 1)) 94
  ·have hd : Hid (Fx L (Cp (L.drop (k + 1)) m0) (fun v => 1 = v) (k + 1) 0 m0) := Ae (by unfold Cp; rw [h94]; exact ⟨rfl, rfl, rfl, rfl⟩)
   have hkk := Ae (Nat.le_succ k)
   have hn1 : (1 : Nat) ≤ 1000 := by decide
   clear h94
   have zz := F3.sz
   have hk0 : w.heap.size < w3.heap.size := by have := F3.sz; omega
   have hk1 : w.heap.size + 1 < w3.heap.size := by have := F3.sz; omega
   have hkR : R < w3.heap.size := by omega
   have hkn : ¬ R = w.heap.size := by omega
   have hkm : ¬ R = w.heap.size + 1 := by omega
   obtain ⟨b0, b1, b2, b3, b4, b5, b6, b7⟩ := F3.tm
   simp only [Nat.zero_add] at b0 b1 b2 b3 b4 b5 b6 b7
   obtain ⟨a0, a1, a2, a3, a4, a5, a6, a7⟩ := F3.sm
   simp only [Nat.zero_add, zTm] at a0 a1 a2 a3 a4 a5 a6 a7
   obtain ⟨p0, p1, p2, p3, p4, p5, p6, p7⟩ := zC F3.tf
   obtain ⟨o0, o1, o2, o3, o4, o5, o6, o7⟩ := zC F3.sf
   go_wp2_with fail
   refine (I9 _ (t.m0 : Nat) (t.m1 : Nat) (t.m2 : Nat) (t.m3 : Nat) 1 0 0 0 (by have := hF.m0; exact ⟨by omega, by omega⟩) (by have := hF.m1; exact ⟨by omega, by omega⟩) (by have := hF.m2; exact ⟨by omega, by omega⟩) (by have := hF.m3; exact ⟨by omega, by omega⟩) ⟨by omega, by omega⟩ ⟨by omega, by omega⟩ ⟨by omega, by omega⟩ ⟨by omega, by omega⟩).mono ?_
   rintro e w5 ⟨hres, hb5⟩
   have hb45 := zD w3 hb5
   have D5 := D3.keep hb45
   have F5 := F3.next (Az hb45 _) hRw
   have zz5 := F5.sz
   clear hk0 hk1 hkR hkn hkm b0 b1 b2 b3 b4 b5 b6 b7 a0 a1 a2 a3 a4 a5 a6 a7 p0 p1 p2 p3 p4 p5 p6 p7 o0 o1 o2 o3 o4 o5 o6 o7
   clear hb45 hb5 zz
   have y3 := D5.c3
   have z3 := D5.f3
   rcases hres with ⟨hfit, rfl⟩ | ⟨hfit, rfl⟩
   ·have HFit := Ae hfit
    clear hfit
    obtain ⟨r0, hr0⟩ : ∃ r0 : Nat, r0 = (t.m0 + 1) := ⟨_, rfl⟩
    obtain ⟨r1, hr1⟩ : ∃ r1 : Nat, r1 = t.m1 := ⟨_, rfl⟩
    obtain ⟨r2, hr2⟩ : ∃ r2 : Nat, r2 = t.m2 := ⟨_, rfl⟩
    obtain ⟨r3, hr3⟩ : ∃ r3 : Nat, r3 = t.m3 := ⟨_, rfl⟩
    have HR := Ae (And.intro hr0 (And.intro hr1 (And.intro hr2 hr3)))
    clear hr0 hr1 hr2 hr3
    have HB : Hid (r0 < 65536 ∧ r1 < 65536 ∧ r2 < 65536 ∧ r3 < 65536) := Ae (by
     obtain ⟨s0, s1, s2, s3⟩ := HFit.out
     obtain ⟨e0, e1, e2, e3⟩ := HR.out
     have := hF.m0; have := hF.m1; have := hF.m2; have := hF.m3
     omega)
    have HX : Hid (Ca L (A7 st) (k + 1) 0 m0 { t with m0 := r0, m1 := r1, m2 := r2, m3 := r3 } c) := Ae (Cd hr hst (by decide : 0 < 4) hk hlet.out (n := 1) hd.out (Or.inl (by
     obtain ⟨s0, s1, s2, s3⟩ := HFit.out
     obtain ⟨e0, e1, e2, e3⟩ := HR.out
     refine ⟨by simp only [Tm.mN, Dn]; omega, rfl, fun j hj => ?_⟩
     rcases (by omega : j = 0 ∨ j = 1 ∨ j = 2 ∨ j = 3) with rfl | rfl | rfl | rfl <;> simp [Tm.mN, Dn, e0, e1, e2, e3])))
    exact qAf
   ·have HFit := Ae hfit
    clear hfit
    obtain ⟨r0, hr0⟩ : ∃ r0 : Nat, r0 = 0 := ⟨_, rfl⟩
    obtain ⟨r1, hr1⟩ : ∃ r1 : Nat, r1 = 0 := ⟨_, rfl⟩
    obtain ⟨r2, hr2⟩ : ∃ r2 : Nat, r2 = 0 := ⟨_, rfl⟩
    obtain ⟨r3, hr3⟩ : ∃ r3 : Nat, r3 = 0 := ⟨_, rfl⟩
    have HR := Ae (And.intro hr0 (And.intro hr1 (And.intro hr2 hr3)))
    clear hr0 hr1 hr2 hr3
    have HB : Hid (r0 < 65536 ∧ r1 < 65536 ∧ r2 < 65536 ∧ r3 < 65536) := Ae (by
     obtain ⟨e0, e1, e2, e3⟩ := HR.out
     omega)
    have HX : Hid (Ca L (A7 st) (k + 1) 0 true { t with m0 := r0, m1 := r1, m2 := r2, m3 := r3 } c) := Ae (Cd hr hst (by decide : 0 < 4) hk hlet.out (n := 1) hd.out (Or.inr (by
     have s := HFit.out
     unfold Ld at s
     have := hF.m0; have := hF.m1; have := hF.m2; have := hF.m3
     refine ⟨by simp only [Tm.mN, Dn]; omega, rfl⟩)))
    exact qAd
  ·have y1 := D3.c1
   have z1 := D3.f1
   have hk2 := E9 h94
   go_wp2_with fail
   have D4 := D3.set1 (k + 1 + 1) hk2
   have F4 := F3.next (Aw (o := 1) (.int .i64 ((k + 1 + 1 : Nat) : Int)) (Bc w3 (some R))) hRw
   rw [show ((k + 1 + 1 : Nat) : Int) = (k : Int) + 1 + 1 from rfl] at F4 D4
   clear D3 F3 y1 z1
   generalize w3.setCell ⟨R, 1, none⟩ (.int .i64 ((k : Int) + 1 + 1)) = w4 at *
   refine (Ig w4 R L (k + 1 + 1) m0 D4 hL).mono ?_
   rintro e wp ⟨n, kp, ep, mp, rfl, hn1, hkp, hgp, Dp, hres⟩
   have Fp := F4.next hgp hRw
   have hd : Hid (Fx L (Cp (L.drop (k + 1)) m0) (fun v => n = v) kp ep mp) := Ae (by rw [J5 _ h94, Gi]; exact hres)
   have hkk := Ae (show k ≤ kp by omega)
   clear hres hgp F4 D4 h94 hkp
   have zz := Fp.sz
   have hk0 : w.heap.size < wp.heap.size := by have := Fp.sz; omega
   have hk1 : w.heap.size + 1 < wp.heap.size := by have := Fp.sz; omega
   have hkR : R < wp.heap.size := by omega
   have hkn : ¬ R = w.heap.size := by omega
   have hkm : ¬ R = w.heap.size + 1 := by omega
   obtain ⟨b0, b1, b2, b3, b4, b5, b6, b7⟩ := Fp.tm
   simp only [Nat.zero_add] at b0 b1 b2 b3 b4 b5 b6 b7
   obtain ⟨a0, a1, a2, a3, a4, a5, a6, a7⟩ := Fp.sm
   simp only [Nat.zero_add, zTm] at a0 a1 a2 a3 a4 a5 a6 a7
   obtain ⟨p0, p1, p2, p3, p4, p5, p6, p7⟩ := zC Fp.tf
   obtain ⟨o0, o1, o2, o3, o4, o5, o6, o7⟩ := zC Fp.sf
   go_wp2_with fail
   refine (I9 _ (t.m0 : Nat) (t.m1 : Nat) (t.m2 : Nat) (t.m3 : Nat) (n : Nat) 0 0 0 (by have := hF.m0; exact ⟨by omega, by omega⟩) (by have := hF.m1; exact ⟨by omega, by omega⟩) (by have := hF.m2; exact ⟨by omega, by omega⟩) (by have := hF.m3; exact ⟨by omega, by omega⟩) ⟨by omega, by omega⟩ ⟨by omega, by omega⟩ ⟨by omega, by omega⟩ ⟨by omega, by omega⟩).mono ?_
   rintro e w5 ⟨hres, hb5⟩
   have hb45 := zD wp hb5
   have D5 := Dp.keep hb45
   have F5 := Fp.next (Az hb45 _) hRw
   have zz5 := F5.sz
   clear hk0 hk1 hkR hkn hkm b0 b1 b2 b3 b4 b5 b6 b7 a0 a1 a2 a3 a4 a5 a6 a7 p0 p1 p2 p3 p4 p5 p6 p7 o0 o1 o2 o3 o4 o5 o6 o7
   clear hb45 hb5 zz
   have y3 := D5.c3
   have z3 := D5.f3
   rcases hres with ⟨hfit, rfl⟩ | ⟨hfit, rfl⟩
   ·have HFit := Ae hfit
    clear hfit
    obtain ⟨r0, hr0⟩ : ∃ r0 : Nat, r0 = (t.m0 + n) := ⟨_, rfl⟩
    obtain ⟨r1, hr1⟩ : ∃ r1 : Nat, r1 = t.m1 := ⟨_, rfl⟩
    obtain ⟨r2, hr2⟩ : ∃ r2 : Nat, r2 = t.m2 := ⟨_, rfl⟩
    obtain ⟨r3, hr3⟩ : ∃ r3 : Nat, r3 = t.m3 := ⟨_, rfl⟩
    have HR := Ae (And.intro hr0 (And.intro hr1 (And.intro hr2 hr3)))
    clear hr0 hr1 hr2 hr3
    have HB : Hid (r0 < 65536 ∧ r1 < 65536 ∧ r2 < 65536 ∧ r3 < 65536) := Ae (by
     obtain ⟨s0, s1, s2, s3⟩ := HFit.out
     obtain ⟨e0, e1, e2, e3⟩ := HR.out
     have := hF.m0; have := hF.m1; have := hF.m2; have := hF.m3
     omega)
    have HX : Hid (Ca L (A7 st) kp ep mp { t with m0 := r0, m1 := r1, m2 := r2, m3 := r3 } c) := Ae (Cd hr hst (by decide : 0 < 4) hk hlet.out (n := n) hd.out (Or.inl (by
     obtain ⟨s0, s1, s2, s3⟩ := HFit.out
     obtain ⟨e0, e1, e2, e3⟩ := HR.out
     refine ⟨by simp only [Tm.mN, Dn]; omega, rfl, fun j hj => ?_⟩
     rcases (by omega : j = 0 ∨ j = 1 ∨ j = 2 ∨ j = 3) with rfl | rfl | rfl | rfl <;> simp [Tm.mN, Dn, e0, e1, e2, e3])))
    exact qAg
   ·have HFit := Ae hfit
    clear hfit
    obtain ⟨r0, hr0⟩ : ∃ r0 : Nat, r0 = 0 := ⟨_, rfl⟩
    obtain ⟨r1, hr1⟩ : ∃ r1 : Nat, r1 = 0 := ⟨_, rfl⟩
    obtain ⟨r2, hr2⟩ : ∃ r2 : Nat, r2 = 0 := ⟨_, rfl⟩
    obtain ⟨r3, hr3⟩ : ∃ r3 : Nat, r3 = 0 := ⟨_, rfl⟩
    have HR := Ae (And.intro hr0 (And.intro hr1 (And.intro hr2 hr3)))
    clear hr0 hr1 hr2 hr3
    have HB : Hid (r0 < 65536 ∧ r1 < 65536 ∧ r2 < 65536 ∧ r3 < 65536) := Ae (by
     obtain ⟨e0, e1, e2, e3⟩ := HR.out
     omega)
    have HX : Hid (Ca L (A7 st) kp ep true { t with m0 := r0, m1 := r1, m2 := r2, m3 := r3 } c) := Ae (Cd hr hst (by decide : 0 < 4) hk hlet.out (n := n) hd.out (Or.inr (by
     have s := HFit.out
     unfold Ld at s
     have := hF.m0; have := hF.m1; have := hF.m2; have := hF.m3
     refine ⟨by simp only [Tm.mN, Dn]; omega, rfl⟩)))
    exact qAe
end Go.Proofs.YtdamegaedmckbaaGreatDoor
end
