/- The document's reader: factor (function 133). No further condition. -/
import Derived.Test.YtdamegaedmckbaaGreatDoorQP32
import Derived.Test.YtdamegaedmckbaaGreatDoorQP33
import Derived.Test.YtdamegaedmckbaaGreatDoorQP34
import Derived.Test.YtdamegaedmckbaaGreatDoorQP35
import Derived.Test.YtdamegaedmckbaaGreatDoorQP36
set_option linter.unusedSimpArgs false
set_option linter.unusedVariables false
set_option maxRecDepth 100000
set_option maxHeartbeats 4000000
section
namespace Go.Proofs.YtdamegaedmckbaaGreatDoor
open Go.RowKit
theorem Sc (w : World) (R B A : Nat) (L : List UInt8) (k K : Nat) (m0 : Bool) (h : Bh w R L k 0 m0) (hL : L.length < 1000000000) (t : Tm) (c : PC) (hF : FT w B A t c K) (hRB : R < B) (hBw : B ≤ w.heap.size) (hAw : A < w.heap.size) (st : TS) (hst : st.L = L.drop k) (hr : Ft st t c m0) (hK : K ≤ 1000000000) :
  Calls Tryz.prog 133 #[.pointer (some ⟨R, 0, none⟩), t.val] w (Jp w R B A L k K st) := by
 cases hx0 : A6 (L.drop k) 120
 ·cases hx1 : A6 (L.drop k) 121
  ·cases hx2 : A6 (L.drop k) 122
   ·cases hx3 : A6 (L.drop k) 116
    ·exact Rk w R B A L k K m0 h hL t c hF hRB hBw hAw st hst hr hK hx0 hx1 hx2 hx3
    ·exact Ti w R B A L k K m0 h hL t c hF hRB hBw hAw st hst hr hx0 hx1 hx2 hx3
   ·exact Sl w R B A L k K m0 h hL t c hF hRB hBw hAw st hst hr hx0 hx1 hx2
  ·exact Tj w R B A L k K m0 h hL t c hF hRB hBw hAw st hst hr hx0 hx1
 ·exact Sm w R B A L k K m0 h hL t c hF hRB hBw hAw st hst hr hx0
theorem S7 (wo : World) (R : Nat) (L : List UInt8) (k : Nat) (m0 : Bool) (h : Bh wo R L k 0 m0) (hL : L.length ≤ 100000) :
  Calls Tryz.prog 50 #[.pointer (some ⟨R, 0, none⟩), .bool false] wo (Mb wo R L k m0 false) := by
 go_enter Tryz.func50, Tryz.ntmps50
 go_wp2_with fail
 refine (Vk _ 1 qB qB).mono ?_
 rintro e w1 ⟨g1, a1, n1, c1, g2, a2, n2, c2, rfl, hf1, hfe1, hff1, hb1⟩
 go_wp2_with fail
 obtain ⟨t0, ht0⟩ : ∃ t0 : Tm, t0 = ⟨g1, a1, n1, c1, [], g2, a2, n2, c2, [], 0, 0, 0, 0⟩ := ⟨_, rfl⟩
 obtain ⟨c0, hc0⟩ : ∃ c0 : PC, c0 = (1, 1) := ⟨_, rfl⟩
 refine Dv ?_
 intro wS hwS
 have DS : Bh wS R L k 0 m0 := by rw [hwS]; exact (h.keep hb1).allocR _
 have TS : Ht wS w1.heap.size t0 := by rw [hwS, ht0]; exact ⟨⟨by simp [go_sem], by simp [go_sem], by simp [go_sem], by simp [go_sem], by simp [go_sem], by simp [go_sem], by simp [go_sem], by simp [go_sem]⟩, fun i hi => by simp [go_sem], by simp⟩
 have FS : FT wS wo.heap.size w1.heap.size t0 c0 1 := by
  rw [hwS, ht0, hc0]
  have n1 : Nw wo.heap.size n1 a1 := Nw.mono (hfe1.newA hf1.top.rd) (Ad _)
  have n2 : Nw wo.heap.size n2 a2 := Nw.mono (hff1.newA hf1.low.rd) (Ad _)
  exact ⟨hf1.keep ((Ac _ _).alloc (Ad _) _), Lf false, ⟨n1, n2⟩, ⟨hf1.top.rd.ap_of (Ad _), hf1.low.rd.ap_of (Ad _)⟩, show (0 : Nat) < 65536 by decide, show (0 : Nat) < 65536 by decide, show (0 : Nat) < 65536 by decide, show (0 : Nat) < 65536 by decide⟩
 have GS : wo.grownBy wS (some R) := by rw [hwS]; exact Fm _ (Az hb1 _)
 have HR0 : Hid (Ft ⟨(if false then -1 else 1, 1), fun _ => 0, [], m0⟩ t0 c0 m0) := Ae (by rw [ht0, hc0]; exact ⟨by simp [Ez], fun _ => ⟨rfl, rfl, rfl, rfl, rfl⟩⟩)
 clear hwS ht0 hc0 hf1 hfe1 hff1
 have hRT : R < w1.heap.size := by have := h.lt; have := hb1.size; omega
 have hRo : R < wo.heap.size := h.lt
 obtain ⟨T, hT⟩ : ∃ T, T = w1.heap.size := ⟨_, rfl⟩
 have hTo : wo.heap.size ≤ T := by have := hb1.size; omega
 refine (Hq wS R L k DS.le DS.c0 DS.c1 DS.f1 qB).mono ?_
 rintro e w3 ⟨rfl, k3, hk3, hdk, hc3, hB3⟩
 rw [← hT] at TS FS
 rw [← hT]
 have hTR : T ≠ R := by omega
 have D3 := DS.but hB3 hc3 hk3
 have T3 := TS.next hB3.grown hTR
 have F3 := (FS.grown hB3.grown hRo).mono (show 1 ≤ 1 + k3 by omega)
 have G3 := GS.trans hB3.grown
 clear DS TS FS GS hB3 hc3 hT
 obtain ⟨X, hX⟩ : ∃ X, X = Bo ⟨(if false then -1 else 1, 1), fun _ => 0, skp (L.drop k), m0⟩ := ⟨_, rfl⟩
 have HX : Hid (Bu (L.drop k) m0 false = Kn X) := Ae (by rw [hX]; exact K8 _ _ _)
 have HX3 : Hid (X = Bo ⟨(if false then -1 else 1, 1), fun _ => 0, L.drop k3, m0⟩) := Ae (by rw [hX, hdk]; rfl)
 clear hX hdk
 go_wp2_with fail
 refine (Fi w3 R L k3 hk3 D3.c0 D3.c1 qB).mono ?_
 rintro e w4 ⟨rfl, n4, hw4⟩
 have D4 : Bh w4 R L k3 0 m0 := by rw [hw4]; exact D3.drewN n4
 have T4 : Ht w4 T t0 := by rw [hw4]; exact ⟨T3.tm.drewN n4, T3.tf, T3.lt⟩
 have F4 : FT w4 wo.heap.size T t0 c0 (1 + k3) := by rw [hw4]; exact F3.keep (Ay n4 (Ac _ _))
 have G4 : wo.grownBy w4 (some R) := by rw [hw4]; exact C3 G3 n4
 clear hw4 D3 T3 F3 G3
 cases hs : Bz (L.drop k3)
 ·have hX4 : X = none := by rw [HX3.out]; exact Kq hs
  have HZ : Hid (Cy L (Bu (L.drop k) m0 false) k3 4 m0 []) := Ae (by rw [HX.out, hX4]; exact ⟨rfl, rfl⟩)
  exact qBg
 ·have HR1 : Hid (Kz L X k3 0 m0 t0 c0) := Ae (by rw [HX3.out]; exact Kz.begin rfl (HR0.out.cut _) hs)
  clear HX3 HR0
  go_wp2_with fail
  go_loopw [] (fun wr => ∃ kk e m t c, DSt wo wr R T L X kk e m t c) (fun wr => Mw wr R L.length)
  case atStart => exact ⟨k3, 0, m0, t0, c0, D4, T4, F4, G4, HR1.out⟩
  case round =>
   clear D4 T4 F4 G4 HR1 hs
   obtain ⟨kk, e, m, t, c, HS⟩ := hrel
   have D6 := HS.doc
   have T6 := HS.box
   have F6 := HS.ft
   have G6 := HS.grown
   have HM := Ae (Hs HS.doc)
   rcases HS.rel with ⟨rfl, hXn⟩ | ⟨rfl, st, hst, hr, hcase⟩
   ·have HZ : Hid (Cy L (Bu (L.drop k) m0 false) kk 4 m []) := Ae (by rw [HX.out, hXn]; exact ⟨rfl, rfl⟩)
    exact qDa
   ·have y2 := D6.c2
    rcases hcase with ⟨hs2, hXr⟩ | ⟨hs2, hXd⟩
    ·exact qAl
    ·have HXd := Ae hXd
     clear hXd
     go_wp2_with fail
     refine (Fi wr R L kk D6.le D6.c0 D6.c1 qB).mono ?_
     rintro e w7 ⟨rfl, n7, hw7⟩
     rw [hs2]
     have D7 : Bh w7 R L kk 0 m := by rw [hw7]; exact D6.drewN n7
     have T7 : Ht w7 T t := by rw [hw7]; exact ⟨T6.tm.drewN n7, T6.tf, T6.lt⟩
     have F7 : FT w7 wo.heap.size T t c (1 + kk) := by rw [hw7]; exact F6.keep (Ay n7 (Ac _ _))
     have G7 : wo.grownBy w7 (some R) := by rw [hw7]; exact C3 G6 n7
     clear hw7 D6 T6 F6 G6 HS HM y2
     have y2 := D7.c2
     have y3 := D7.c3
     cases m
     ·obtain ⟨b0, b1, b2, b3, b4, b5, b6, b7⟩ := T7.tm
      simp only [Nat.zero_add] at b0 b1 b2 b3 b4 b5 b6 b7
      have hkk := D7.le
      have l1 : t.n1 < 35184372088829 := by have h1 := F7.few.1; have h2 := F7.fr.top.rd.len; omega
      have l2 : t.n2 < 35184372088829 := by have h1 := F7.few.2; have h2 := F7.fr.low.rd.len; omega
      by_cases hz : c.1 = 0
      ·have HZ : Hid (Cy L (Bu (L.drop k) m0 false) kk 0 false []) := Ae (by rw [HX.out, HXd.out]; exact Pc hst hr hz)
       exact qBy
      ·have HZ : Hid (Cy L (Bu (L.drop k) m0 false) kk 0 false [(Iy st.o, c)]) := Ae (by rw [HX.out, HXd.out]; exact Tb hst hr hz)
       exact qBa
     ·have HZ : Hid (Cy L (Bu (L.drop k) m0 false) kk 0 true []) := Ae (by rw [HX.out, HXd.out]; exact O7 hst hr)
      exact qDm
theorem So (wo : World) (R : Nat) (L : List UInt8) (k : Nat) (m0 : Bool) (h : Bh wo R L k 0 m0) (hL : L.length ≤ 100000) :
  Calls Tryz.prog 50 #[.pointer (some ⟨R, 0, none⟩), .bool true] wo (Mb wo R L k m0 true) := by
 go_enter Tryz.func50, Tryz.ntmps50
 go_wp2_with fail
 refine (Vk _ 1 qB qB).mono ?_
 rintro e w1 ⟨g1, a1, n1, c1, g2, a2, n2, c2, rfl, hf1, hfe1, hff1, hb1⟩
 go_wp2_with fail
 refine (Vk _ (-1) qB qB).mono ?_
 rintro e w2 ⟨g3, a3, n3, c3, g4, a4, n4, c4, rfl, hf2, hfe2, hff2, hb2⟩
 have hb12 := zD w1 hb2
 have hz2 : w1.heap.size < w2.heap.size := by have := hb2.size; simp only [Aj] at this; omega
 have TB2 : Ht w2 w1.heap.size ⟨g1, a1, n1, c1, [], g2, a2, n2, c2, [], 0, 0, 0, 0⟩ := by
  have : Ht (w1.alloc (.cells #[.bool g1, .slice a1 n1 c1, .bool g2, .slice a2 n2 c2, .int .u16 0, .int .u16 0, .int .u16 0, .int .u16 0] 68)) w1.heap.size ⟨g1, a1, n1, c1, [], g2, a2, n2, c2, [], 0, 0, 0, 0⟩ := ⟨⟨by simp [go_sem], by simp [go_sem], by simp [go_sem], by simp [go_sem], by simp [go_sem], by simp [go_sem], by simp [go_sem], by simp [go_sem]⟩, fun i hi => by simp [go_sem], by simp⟩
  exact this.keep hb2
 obtain ⟨b0, b1, b2, b3, b4, b5, b6, b7⟩ := TB2.tm
 simp only [Nat.zero_add] at b0 b1 b2 b3 b4 b5 b6 b7
 have p0 := TB2.tf 0 qC; have p1 := TB2.tf 1 qC; have p2 := TB2.tf 2 qC; have p3 := TB2.tf 3 qC
 go_wp2_with fail
 obtain ⟨t0, ht0⟩ : ∃ t0 : Tm, t0 = ⟨g3, a3, n3, c3, [], g4, a4, n4, c4, [], 0, 0, 0, 0⟩ := ⟨_, rfl⟩
 obtain ⟨c0, hc0⟩ : ∃ c0 : PC, c0 = (-1, 1) := ⟨_, rfl⟩
 refine Dv ?_
 intro wS hwS
 have hR1 : R < w1.heap.size := by have := h.lt; have := hb1.size; omega
 have hTlt : w1.heap.size < (w1.alloc (.cells #[.bool g1, .slice a1 n1 c1, .bool g2, .slice a2 n2 c2, .int .u16 0, .int .u16 0, .int .u16 0, .int .u16 0] 68)).heap.size := by simp
 have DS : Bh wS R L k 0 m0 := by rw [hwS]; exact ((h.keep hb1).keep hb12).setF _ qB _ _ _ _
 have TS : Ht wS w1.heap.size t0 := by
  rw [hwS, ht0]
  exact ⟨⟨by simp [go_sem, b0, p0], by simp [go_sem, b1, p1], by simp [go_sem, b2, p2], by simp [go_sem, b3, p3], by simp [go_sem, b4], by simp [go_sem, b5], by simp [go_sem, b6], by simp [go_sem, b7]⟩, fun i hi => by rw [← TB2.tf i hi]; simp [go_sem], by simpa using hz2⟩
 have FS : FT wS wo.heap.size w1.heap.size t0 c0 1 := by
  have hg := Hn w2 w1.heap.size (.bool g3) (.slice a3 n3 c3) (.bool g4) (.slice a4 n4 c4)
  rw [← hwS] at hg
  have m1 : Nw (w1.heap.size + 1) n3 a3 := Nw.mono (hfe2.newA hf2.top.rd) qH
  have m2 : Nw (w1.heap.size + 1) n4 a4 := Nw.mono (hff2.newA hf2.low.rd) qH
  have hfr := Km hf2 hfe2 hff2 hg hTlt
  rw [ht0, hc0]
  exact ⟨hfr, Lf true, ⟨m1.mono (by have := hb1.size; omega), m2.mono (by have := hb1.size; omega)⟩, ⟨m1.ap qB, m2.ap qB⟩, show (0 : Nat) < 65536 by decide, show (0 : Nat) < 65536 by decide, show (0 : Nat) < 65536 by decide, show (0 : Nat) < 65536 by decide⟩
 have GS : wo.grownBy wS (some R) := by
  have q := hb1.size
  rw [hwS]
  exact A5 _ (A5 _ (A5 _ (A5 _ ((Az hb1 _).trans (Az hb12 _)) q) q) q) q
 have HR0 : Hid (Ft ⟨(if true then -1 else 1, 1), fun _ => 0, [], m0⟩ t0 c0 m0) := Ae (by rw [ht0, hc0]; exact ⟨by simp [Ez], fun _ => ⟨rfl, rfl, rfl, rfl, rfl⟩⟩)
 clear hwS ht0 hc0 hf1 hfe1 hff1 hf2 hfe2 hff2 b0 b1 b2 b3 b4 b5 b6 b7 p0 p1 p2 p3 TB2 hTlt hb2 hb12 hz2 hR1
 have hRT : R < w1.heap.size := by have := h.lt; have := hb1.size; omega
 have hRo : R < wo.heap.size := h.lt
 obtain ⟨T, hT⟩ : ∃ T, T = w1.heap.size := ⟨_, rfl⟩
 have hTo : wo.heap.size ≤ T := by have := hb1.size; omega
 refine (Hq wS R L k DS.le DS.c0 DS.c1 DS.f1 qB).mono ?_
 rintro e w3 ⟨rfl, k3, hk3, hdk, hc3, hB3⟩
 rw [← hT] at TS FS
 rw [← hT]
 have hTR : T ≠ R := by omega
 have D3 := DS.but hB3 hc3 hk3
 have T3 := TS.next hB3.grown hTR
 have F3 := (FS.grown hB3.grown hRo).mono (show 1 ≤ 1 + k3 by omega)
 have G3 := GS.trans hB3.grown
 clear DS TS FS GS hB3 hc3 hT
 obtain ⟨X, hX⟩ : ∃ X, X = Bo ⟨(if true then -1 else 1, 1), fun _ => 0, skp (L.drop k), m0⟩ := ⟨_, rfl⟩
 have HX : Hid (Bu (L.drop k) m0 true = Kn X) := Ae (by rw [hX]; exact K8 _ _ _)
 have HX3 : Hid (X = Bo ⟨(if true then -1 else 1, 1), fun _ => 0, L.drop k3, m0⟩) := Ae (by rw [hX, hdk]; rfl)
 clear hX hdk
 go_wp2_with fail
 refine (Fi w3 R L k3 hk3 D3.c0 D3.c1 qB).mono ?_
 rintro e w4 ⟨rfl, n4, hw4⟩
 have D4 : Bh w4 R L k3 0 m0 := by rw [hw4]; exact D3.drewN n4
 have T4 : Ht w4 T t0 := by rw [hw4]; exact ⟨T3.tm.drewN n4, T3.tf, T3.lt⟩
 have F4 : FT w4 wo.heap.size T t0 c0 (1 + k3) := by rw [hw4]; exact F3.keep (Ay n4 (Ac _ _))
 have G4 : wo.grownBy w4 (some R) := by rw [hw4]; exact C3 G3 n4
 clear hw4 D3 T3 F3 G3
 cases hs : Bz (L.drop k3)
 ·have hX4 : X = none := by rw [HX3.out]; exact Kq hs
  have HZ : Hid (Cy L (Bu (L.drop k) m0 true) k3 4 m0 []) := Ae (by rw [HX.out, hX4]; exact ⟨rfl, rfl⟩)
  exact qBg
 ·have HR1 : Hid (Kz L X k3 0 m0 t0 c0) := Ae (by rw [HX3.out]; exact Kz.begin rfl (HR0.out.cut _) hs)
  clear HX3 HR0
  go_wp2_with fail
  go_loopw [] (fun wr => ∃ kk e m t c, DSt wo wr R T L X kk e m t c) (fun wr => Mw wr R L.length)
  case atStart => exact ⟨k3, 0, m0, t0, c0, D4, T4, F4, G4, HR1.out⟩
  case round =>
   clear D4 T4 F4 G4 HR1 hs
   obtain ⟨kk, e, m, t, c, HS⟩ := hrel
   have D6 := HS.doc
   have T6 := HS.box
   have F6 := HS.ft
   have G6 := HS.grown
   have HM := Ae (Hs HS.doc)
   rcases HS.rel with ⟨rfl, hXn⟩ | ⟨rfl, st, hst, hr, hcase⟩
   ·have HZ : Hid (Cy L (Bu (L.drop k) m0 true) kk 4 m []) := Ae (by rw [HX.out, hXn]; exact ⟨rfl, rfl⟩)
    exact qDa
   ·have y2 := D6.c2
    rcases hcase with ⟨hs2, hXr⟩ | ⟨hs2, hXd⟩
    ·exact qAl
    ·have HXd := Ae hXd
     clear hXd
     go_wp2_with fail
     refine (Fi wr R L kk D6.le D6.c0 D6.c1 qB).mono ?_
     rintro e w7 ⟨rfl, n7, hw7⟩
     rw [hs2]
     have D7 : Bh w7 R L kk 0 m := by rw [hw7]; exact D6.drewN n7
     have T7 : Ht w7 T t := by rw [hw7]; exact ⟨T6.tm.drewN n7, T6.tf, T6.lt⟩
     have F7 : FT w7 wo.heap.size T t c (1 + kk) := by rw [hw7]; exact F6.keep (Ay n7 (Ac _ _))
     have G7 : wo.grownBy w7 (some R) := by rw [hw7]; exact C3 G6 n7
     clear hw7 D6 T6 F6 G6 HS HM y2
     have y2 := D7.c2
     have y3 := D7.c3
     cases m
     ·obtain ⟨b0, b1, b2, b3, b4, b5, b6, b7⟩ := T7.tm
      simp only [Nat.zero_add] at b0 b1 b2 b3 b4 b5 b6 b7
      have hkk := D7.le
      have l1 : t.n1 < 35184372088829 := by have h1 := F7.few.1; have h2 := F7.fr.top.rd.len; omega
      have l2 : t.n2 < 35184372088829 := by have h1 := F7.few.2; have h2 := F7.fr.low.rd.len; omega
      by_cases hz : c.1 = 0
      ·have HZ : Hid (Cy L (Bu (L.drop k) m0 true) kk 0 false []) := Ae (by rw [HX.out, HXd.out]; exact Pc hst hr hz)
       exact qBy
      ·have HZ : Hid (Cy L (Bu (L.drop k) m0 true) kk 0 false [(Iy st.o, c)]) := Ae (by rw [HX.out, HXd.out]; exact Tb hst hr hz)
       exact qBa
     ·have HZ : Hid (Cy L (Bu (L.drop k) m0 true) kk 0 true []) := Ae (by rw [HX.out, HXd.out]; exact O7 hst hr)
      exact qDm
theorem Xy (x y : Int) : Br y x = -Br x y := by
 rcases Int.lt_trichotomy x y with h | h | h
 ·rw [Dm h, Ct h]; rfl
 ·rw [h, C9]; rfl
 ·rw [Ct h, Dm h]
theorem G2 (f g : Nat → Int) (k : Nat) (hk : k < 4) (h : ∀ j, j < k → f j = g j) (hne : f k ≠ g k) : Fk g f = -Fk f g := by
 rw [Mu hk (fun j hj => (h j hj).symm) (fun e => hne e.symm), Mu hk h hne, Xy]
theorem Yc (f g : Nat → Int) : Fk g f = -Fk f g := by
 by_cases h0 : f 0 = g 0
 ·by_cases h1 : f 1 = g 1
  ·by_cases h2 : f 2 = g 2
   ·have H : ∀ j, j < 3 → f j = g j := fun j hj => by
     match j, hj with
     | 0, _ => exact h0
     | 1, _ => exact h1
     | 2, _ => exact h2
    by_cases h3 : f 3 = g 3
    ·have H4 : ∀ j, j < 4 → f j = g j := fun j hj => by
      rcases Nat.lt_or_ge j 3 with h | h
      ·exact H j h
      ·obtain rfl : j = 3 := by omega
       exact h3
     rw [Mx (fun j hj => (H4 j hj).symm), Mx H4]; rfl
    ·exact G2 f g 3 qB H h3
   ·refine G2 f g 2 qB (fun j hj => ?_) h2
    match j, hj with
    | 0, _ => exact h0
    | 1, _ => exact h1
  ·refine G2 f g 1 qB (fun j hj => ?_) h1
   match j, hj with
   | 0, _ => exact h0
 ·exact G2 f g 0 qB (fun j hj => absurd hj (Nat.not_lt_zero _)) h0
theorem Wz (w : World) (a : Option Addr) (n c : Nat) (p : Nat → Tm) (hp : RdP w a n c p) (hsm : ∀ k, k < n → (p k).n1 ≤ 1000000 ∧ (p k).n2 ≤ 1000000) (r : Bool) (hr : POk p n ↔ r = true) :
  Calls Tryz.prog 118 #[.slice a n c] w fun e w' => e = .returned (.bool r) ∧ Below w.heap.size w w' := by
 have HB := Ac w.heap.size w
 have hn := hp.few
 have HR := Ae hr
 have HS := Ae hsm
 clear hr hsm
 go_enter Tryz.func118, Tryz.ntmps118
 go_wp2_with fail
 go_loopw [3] (fun v wr => ∃ k : Nat, k ≤ n ∧ v = .int .i64 k ∧ Below w.heap.size w wr ∧ Hid (POk p k)) (fun v _ => n - (intOf v).toNat)
 case atStart => exact ⟨0, Nat.zero_le _, rfl, HB, Ae (fun j hj => absurd hj (Nat.not_lt_zero _))⟩
 case round =>
  obtain ⟨k, hk, rfl, HBr, he⟩ := hrel
  clear HB
  by_cases hlt : k < n
  ·obtain ⟨b, o, rfl, hcl⟩ := hp.cell.resolve_left qB
   have hpr := hp.keep HBr
   have HT := hpr.tm k hlt
   obtain ⟨e0, e1, e2, e3, e4, e5, e6, e7⟩ := hpr.at hlt
   have hs := HS.out k hlt
   have HCL := Ae hcl
   clear hcl
   cases k with
   | zero =>
    obtain ⟨t, ht⟩ : ∃ t, t = p 0 := ⟨_, rfl⟩
    rw [← ht] at HT e0 e1 e2 e3 e4 e5 e6 e7 hs
    have HTK := Ae ht
    clear ht
    simp only [Nat.zero_mul, Nat.add_zero] at e0 e1 e2 e3 e4 e5 e6 e7
    have hszw := HBr.size
    go_wp2_with fail
    have hs1 : t.n1 < 35184372088829 := by omega
    have hs2 : t.n2 < 35184372088829 := by omega
    replace e0 := A8 e0
    replace e1 := A8 e1
    replace e2 := A8 e2
    replace e3 := A8 e3
    replace e4 := A8 e4
    replace e5 := A8 e5
    replace e6 := A8 e6
    replace e7 := A8 e7
    clear hpr
    by_cases hF0 : FOk t.g1 t.d1 t.g2 t.d2
    ·have hF := Ae hF0
     have HA := Jr HT.top HT.low hF0
     have hsz := Lt hF0.1
     generalize (if t.g1 then -(val t.d1 : Int) else (val t.d1 : Int)) = z at *
     clear hF0
     by_cases hz0 : z = 0
     ·have hd0 := Ae (hsz.1 hz0)
      have hz : Br z 0 = 0 := by rw [hz0]; exact C9 0
      have hr0 : r = false := by
       exact qCo
      subst hr0
      clear hz0 hsz
      (refine A9 qG qG ?_; (repeat (go_big_quiet_step (first | (go_at_call 186; exact Cz (Ge _ t.g1 t.a1 t.n1 t.c1 t.d1 (HT.top.keep (Subtype.property _)) t.g2 t.a2 t.n2 t.c2 t.d2 (HT.low.keep (Subtype.property _)) hs2 hs1 true ⟨fun _ => rfl, fun _ => hF.out⟩)) | (go_at_call 41; exact Cz (Fy _ _ _ _ _ _ _ _ _ _ _ (HA.keep (Subtype.property _)) hs2 hs1))))); refine wpQuiet_nil ?_; intro _ hw0; obtain ⟨nq, hw0⟩ := hw0; subst hw0)
      exact qCt
     ·have hd0 := Ae (fun e => hz0 (hsz.2 e))
      have hz : (Br z 0 == 0) = false := by rw [beq_eq_false_iff_ne]; exact fun e => hz0 (En.1 e)
      clear hz0 hsz
      (refine A9 qG qG ?_; (repeat (go_big_quiet_step (first | (go_at_call 186; exact Cz (Ge _ t.g1 t.a1 t.n1 t.c1 t.d1 (HT.top.keep (Subtype.property _)) t.g2 t.a2 t.n2 t.c2 t.d2 (HT.low.keep (Subtype.property _)) hs2 hs1 true ⟨fun _ => rfl, fun _ => hF.out⟩)) | (go_at_call 41; exact Cz (Fy _ _ _ _ _ _ _ _ _ _ _ (HA.keep (Subtype.property _)) hs2 hs1))))); refine wpQuiet_nil ?_; intro _ hw0; obtain ⟨nq, hw0⟩ := hw0; subst hw0)
      go_wp2_with fail
      go_roundw
      case rel => exact ⟨1, by omega, rfl, HBr.trans (nq.2.mono HBr.size), Ae (fun i hi => by have h0 : i = 0 := qB; subst h0; exact ⟨by rw [← HTK.out]; exact ⟨hF.out, hd0.out⟩, fun h => absurd h qB⟩)⟩
      case measure => simp [intOf]; omega
    ·exact qBn
   | succ j =>
    obtain ⟨t, ht⟩ : ∃ t, t = p (j + 1) := ⟨_, rfl⟩
    rw [← ht] at HT e0 e1 e2 e3 e4 e5 e6 e7 hs
    have HTK := Ae ht
    clear ht
    have hszw := HBr.size
    have hjn : j < n := by omega
    obtain ⟨_, _, _, _, q4, q5, q6, q7⟩ := hpr.at (show j < n by omega)
    have HU := hpr.tm j hjn
    obtain ⟨u, hu⟩ : ∃ u, u = p j := ⟨_, rfl⟩
    rw [← hu] at q4 q5 q6 q7 HU
    have HUK := Ae hu
    clear hu
    go_wp2_with fail
    have hs1 : t.n1 < 35184372088829 := by omega
    have hs2 : t.n2 < 35184372088829 := by omega
    have HT0 : Db t.m0 := ⟨by omega, by have := HT.s0; omega⟩
    have HT1 : Db t.m1 := ⟨by omega, by have := HT.s1; omega⟩
    have HT2 : Db t.m2 := ⟨by omega, by have := HT.s2; omega⟩
    have HT3 : Db t.m3 := ⟨by omega, by have := HT.s3; omega⟩
    have HU0 : Db u.m0 := ⟨by omega, by have := HU.s0; omega⟩
    have HU1 : Db u.m1 := ⟨by omega, by have := HU.s1; omega⟩
    have HU2 : Db u.m2 := ⟨by omega, by have := HU.s2; omega⟩
    have HU3 : Db u.m3 := ⟨by omega, by have := HU.s3; omega⟩
    replace e0 := A8 e0
    replace e1 := A8 e1
    replace e2 := A8 e2
    replace e3 := A8 e3
    replace e4 := A8 e4
    replace e5 := A8 e5
    replace e6 := A8 e6
    replace e7 := A8 e7
    replace q4 := A8 q4
    replace q5 := A8 q5
    replace q6 := A8 q6
    replace q7 := A8 q7
    clear hpr
    by_cases hF0 : FOk t.g1 t.d1 t.g2 t.d2
    ·have hF := Ae hF0
     have HA := Jr HT.top HT.low hF0
     have hsz := Lt hF0.1
     generalize (if t.g1 then -(val t.d1 : Int) else (val t.d1 : Int)) = z at *
     clear hF0
     by_cases hz0 : z = 0
     ·have hd0 := Ae (hsz.1 hz0)
      have hz : Br z 0 = 0 := by rw [hz0]; exact C9 0
      have hr0 : r = false := by
       exact qCo
      subst hr0
      clear hz0 hsz
      (refine A9 qG qG ?_; (repeat (go_big_quiet_step (first | (go_at_call 186; exact Cz (Ge _ t.g1 t.a1 t.n1 t.c1 t.d1 (HT.top.keep (Subtype.property _)) t.g2 t.a2 t.n2 t.c2 t.d2 (HT.low.keep (Subtype.property _)) hs2 hs1 true ⟨fun _ => rfl, fun _ => hF.out⟩)) | (go_at_call 41; exact Cz (Fy _ _ _ _ _ _ _ _ _ _ _ (HA.keep (Subtype.property _)) hs2 hs1)) | (go_at_call 134; exact Cz (Qx _ _ _ _ _ _ _ _ _ HU0 HU1 HU2 HU3 HT0 HT1 HT2 HT3))))); refine wpQuiet_nil ?_; intro _ hw0; obtain ⟨nq, hw0⟩ := hw0; subst hw0)
      exact qCt
     ·have hd0 := Ae (fun e => hz0 (hsz.2 e))
      have hz : (Br z 0 == 0) = false := by rw [beq_eq_false_iff_ne]; exact fun e => hz0 (En.1 e)
      clear hz0 hsz
      have hneg := Yc (Bw u.m0 u.m1 u.m2 u.m3) (Bw t.m0 t.m1 t.m2 t.m3)
      by_cases hl0 : Fk (Bw t.m0 t.m1 t.m2 t.m3) (Bw u.m0 u.m1 u.m2 u.m3) < 0
      ·have hl := Ae hl0
       have hl1 : decide (Fk (Bw u.m0 u.m1 u.m2 u.m3) (Bw t.m0 t.m1 t.m2 t.m3) ≤ 0) = false := by rw [decide_eq_false_iff_not]; omega
       clear hl0 hneg
       (refine A9 qG qG ?_; (repeat (go_big_quiet_step (first | (go_at_call 186; exact Cz (Ge _ t.g1 t.a1 t.n1 t.c1 t.d1 (HT.top.keep (Subtype.property _)) t.g2 t.a2 t.n2 t.c2 t.d2 (HT.low.keep (Subtype.property _)) hs2 hs1 true ⟨fun _ => rfl, fun _ => hF.out⟩)) | (go_at_call 41; exact Cz (Fy _ _ _ _ _ _ _ _ _ _ _ (HA.keep (Subtype.property _)) hs2 hs1)) | (go_at_call 134; exact Cz (Qx _ _ _ _ _ _ _ _ _ HU0 HU1 HU2 HU3 HT0 HT1 HT2 HT3))))); refine wpQuiet_nil ?_; intro _ hw0; obtain ⟨nq, hw0⟩ := hw0; subst hw0)
       go_wp2_with fail
       go_roundw
       case rel => exact ⟨j + 1 + 1, by omega, by simp, HBr.trans (nq.2.mono HBr.size), Ae (fun i hi => by
       rcases Nat.lt_or_ge i (j + 1) with h | h
       ·exact he.out i h
       ·obtain rfl : i = j + 1 := by omega
        exact ⟨by rw [← HTK.out]; exact ⟨hF.out, hd0.out⟩, fun _ => by rw [← HTK.out, Nat.add_sub_cancel, ← HUK.out]; exact hl.out⟩)⟩
       case measure => simp [intOf]; omega
      ·have hl1 : decide (Fk (Bw u.m0 u.m1 u.m2 u.m3) (Bw t.m0 t.m1 t.m2 t.m3) ≤ 0) = true := by rw [decide_eq_true_iff]; omega
       have hr0 : r = false := by
        exact qEg
       subst hr0
       clear hl0 hneg
       (refine A9 qG qG ?_; (repeat (go_big_quiet_step (first | (go_at_call 186; exact Cz (Ge _ t.g1 t.a1 t.n1 t.c1 t.d1 (HT.top.keep (Subtype.property _)) t.g2 t.a2 t.n2 t.c2 t.d2 (HT.low.keep (Subtype.property _)) hs2 hs1 true ⟨fun _ => rfl, fun _ => hF.out⟩)) | (go_at_call 41; exact Cz (Fy _ _ _ _ _ _ _ _ _ _ _ (HA.keep (Subtype.property _)) hs2 hs1)) | (go_at_call 134; exact Cz (Qx _ _ _ _ _ _ _ _ _ HU0 HU1 HU2 HU3 HT0 HT1 HT2 HT3))))); refine wpQuiet_nil ?_; intro _ hw0; obtain ⟨nq, hw0⟩ := hw0; subst hw0)
       exact qCt
    ·exact qBn
  ·exact qEl
theorem W9 (w : World) (a : Option Addr) (n c : Nat) (p : Nat → Tm) (hp : RdP w a n c p) (hsm : ∀ k, k < n → (p k).n1 ≤ 1000000 ∧ (p k).n2 ≤ 1000000) (hr : POk p n) :
  Calls Tryz.prog 40 #[.slice a n c] w fun e w' => e = .returned (.slice a n c) ∧ Below w.heap.size w w' := by
 have HR := Ae hr
 clear hr
 go_enter Tryz.func40, Tryz.ntmps40
 go_wp2_with fail
 refine (Wz _ _ _ _ p hp hsm true ⟨fun _ => rfl, fun _ => HR.out⟩).mono ?_
 rintro e w1 ⟨rfl, hb⟩
 go_wp2_with fail
 go_ret
 exact ⟨rfl, hb⟩
end Go.Proofs.YtdamegaedmckbaaGreatDoor
end
