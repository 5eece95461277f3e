/- The document's reader: factor (function 133), where no letter stands. -/
import Derived.Test.YtdamegaedmckbaaGreatDoorQP31
set_option linter.unusedSimpArgs false
set_option linter.unusedVariables false
set_option maxRecDepth 100000
set_option maxHeartbeats 4000000
section
namespace Go.Proofs.YtdamegaedmckbaaGreatDoor
open Go.RowKit
theorem Rk (w : World) (R B A : Nat) (L : List UInt8) (k K : Nat) (m0 : Bool) (h : Bh w R L k 0 m0) (hL : L.length < 1000000000) (t : Tm) (c : PC) (hF : FT w B A t c K) (hRB : R < B) (hBw : B ≤ w.heap.size) (hAw : A < w.heap.size) (st : TS) (hst : st.L = L.drop k) (hr : Ft st t c m0) (hK : K ≤ 1000000000) (hx0 : A6 (L.drop k) 120 = false) (hx1 : A6 (L.drop k) 121 = false) (hx2 : A6 (L.drop k) 122 = false) (hx3 : A6 (L.drop k) 116 = false) :
  Calls Tryz.prog 133 #[.pointer (some ⟨R, 0, none⟩), t.val] w (Jp w R B A L k K st) := by
 go_enter Tryz.func133, Tryz.ntmps133
 go_wp2_with fail
 obtain ⟨W0, hW0⟩ : ∃ W0, W0 = ((w.alloc (.cells #[.bool t.g1, .slice t.a1 t.n1 t.c1, .bool t.g2, .slice t.a2 t.n2 t.c2, .int .u16 t.m0, .int .u16 t.m1, .int .u16 t.m2, .int .u16 t.m3] 68)).alloc (.cells #[.bool false, .slice none 0 0, .bool false, .slice none 0 0, .int .u16 0, .int .u16 0, .int .u16 0, .int .u16 0] 68)) := ⟨_, rfl⟩
 have hb0 : Below w.heap.size w W0 := by rw [hW0]; go_grown
 have hD0 := h.keep hb0
 have hF0 : Dw w W0 R t := Dw.start hW0
 have hRw : R < w.heap.size := by omega
 have hLE := Ae h.le
 have x0 : (⟨#[120, 121, 122, 116]⟩ : ByteArray)[0]'qC = (120 : UInt8) := rfl
 have x1 : (⟨#[120, 121, 122, 116]⟩ : ByteArray)[1]'qC = (121 : UInt8) := rfl
 have x2 : (⟨#[120, 121, 122, 116]⟩ : ByteArray)[2]'qC = (122 : UInt8) := rfl
 have x3 : (⟨#[120, 121, 122, 116]⟩ : ByteArray)[3]'qC = (116 : UInt8) := rfl
 go_loopw [5] (fun v5 wr => ∃ i : Int, 0 ≤ i ∧ i ≤ 4 ∧ v5 = .int .i64 i ∧ ∃ n, wr = W0.drewN n) (fun v5 _ => 4 - (intOf v5).toNat)
 case atStart => exact ⟨0, by omega, by omega, rfl, 0, by rw [← hW0]; rfl⟩
 case round =>
  obtain ⟨i, hi0, hi, rfl, n0, rfl⟩ := hrel
  clear hW0
  have hDr := hD0.drewN n0
  have hFr := hF0.drewN n0
  rcases (by omega : i = 0 ∨ i = 1 ∨ i = 2 ∨ i = 3 ∨ i = 4) with rfl | rfl | rfl | rfl | rfl
  ·skip
   exact qBk
  ·skip
   exact qBw
  ·skip
   exact qCx
  ·skip
   go_wp2_with (first | (go_at_call 49; refine (Ev _ R L k hLE.out 116 hDr.c0 hDr.c1 hL).mono ?_; rintro e w1 ⟨rfl, n1, rfl⟩; rw [hx3]))
   go_roundw
   case rel => exact ⟨4, by omega, by omega, rfl, _, rfl⟩
   case measure => decide
  ·have D1 : Bh (W0.drewN n0) R L k 0 m0 := hDr
   have F1 : Dw w (W0.drewN n0) R t := hFr
   clear hDr hFr hD0 hF0 hb0 h
   generalize W0.drewN n0 = w1 at *
   have y1 := D1.c1
   have HNL : Hid (Rv L k) := Ae ⟨hx0, hx1, hx2, hx3⟩
   clear hx0 hx1 hx2 hx3
   go_wp2_with fail
   refine (Ji w1 R L k 0 m0 D1 hL).mono ?_
   rintro e w2 ⟨rfl, hg2, D2⟩
   have F2 := F1.next hg2 hRw
   clear D1 F1 hg2 y1
   obtain ⟨d1, hd1⟩ : ∃ d1, d1 = Bn L k := ⟨_, rfl⟩
   obtain ⟨k1, hk1⟩ : ∃ k1, k1 = k + d1.length := ⟨_, rfl⟩
   obtain ⟨m1, hm1⟩ : ∃ m1, m1 = (m0 || decide (200 < d1.length)) := ⟨_, rfl⟩
   rw [← hd1, ← hk1, ← hm1] at D2
   rw [← hd1]
   have HD1 := Ae (And.intro hd1 (And.intro hk1 hm1))
   have hkk1 : k ≤ k1 := by omega
   clear hd1 hk1 hm1
   go_wp2_with fail
   refine (Ev _ R L k1 D2.le 47 D2.c0 D2.c1 hL).mono ?_
   rintro e w3 ⟨rfl, n3, hw3⟩
   have D3 : Bh w3 R L k1 (if Bb d1 then 0 else 4) m1 := by rw [hw3]; exact D2.drewN n3
   have F3 : Dw w w3 R t := by rw [hw3]; exact F2.drewN n3
   clear hw3 D2 F2
   cases h47 : A6 (L.drop k1) 47
   ·have HA : Hid (∀ t' c', (Bb d1 = true → m1 = false → c' = Es c (Df (Bd d1) 1) ∧ t'.m0 = t.m0 ∧ t'.m1 = t.m1 ∧ t'.m2 = t.m2 ∧ t'.m3 = t.m3) → Ca L (A7 st) k1 (if Bb d1 then 0 else 4) m1 t' c') := Ae fun t' c' ht => by
     obtain ⟨e1, e2, e3⟩ := HD1.out
     rw [e1] at e2 e3
     rw [e1, e3] at ht
     rw [e2] at h47
     rw [e1, e2, e3]
     exact X7 hr hst HNL.out h47 ht
    clear h47
    cases hB1 : Bb d1
    ·have HX : Hid (Ca L (A7 st) k1 4 m1 t c) := Ae (by have := HA.out t c (fun h => by rw [hB1] at h; cases h); rw [hB1] at this; exact this)
     rw [hB1] at D3
     clear HA hB1
     simp only [Bool.false_eq_true, if_false] at D3
     have hk0 : w.heap.size < w3.heap.size := by have := F3.sz; omega
     have hk1 : w.heap.size + 1 < w3.heap.size := by have := F3.sz; omega
     have hkR : R < w3.heap.size := by omega
     have hkn : ¬ R = w.heap.size := by omega
     have hkm : ¬ R = w.heap.size + 1 := by omega
     obtain ⟨b0, b1, b2, b3, b4, b5, b6, b7⟩ := F3.tm
     simp only [Nat.zero_add] at b0 b1 b2 b3 b4 b5 b6 b7
     obtain ⟨a0, a1, a2, a3, a4, a5, a6, a7⟩ := F3.sm
     simp only [Nat.zero_add, zTm] at a0 a1 a2 a3 a4 a5 a6 a7
     obtain ⟨p0, p1, p2, p3, p4, p5, p6, p7⟩ := zC F3.tf
     obtain ⟨o0, o1, o2, o3, o4, o5, o6, o7⟩ := zC F3.sf
     have yy2 := D3.c2
     have yy3 := D3.c3
     go_wp2_with fail
     refine bodyPost_ret (v := t.val) (by simp [results, Tryz.results133, go_sem, a0, a1, a2, a3, a4, a5, a6, a7, o0, o1, o2, o3, o4, o5, o6, o7, hk1]) rfl ?_
     have hg9 := C7 F3.grown (w.heap.size + 1) qB (.bool t.g1) (.slice t.a1 t.n1 t.c1) (.bool t.g2) (.slice t.a2 t.n2 t.c2) (.int .u16 t.m0) (.int .u16 t.m1) (.int .u16 t.m2) (.int .u16 t.m3)
     exact ⟨t, c, k1, 4, m1, rfl, by omega, hg9, D3.setS _ qB _ _ _ _ _ _ _ _, (hF.grown hg9 hRB).mono qB, HX.out⟩
    ·rw [hB1] at D3
     simp only [if_true] at D3
     cases hM : m1
     ·rw [hM] at D3
      have HTx : Hid ((L.take k1).drop k = d1) := Ae (by obtain ⟨e1, e2, e3⟩ := HD1.out; rw [e2, e1]; exact Zf L k)
      have hC : ∀ W, Calls Tryz.prog 199 #[.string ⟨d1.toArray⟩] W (Qu W (Df (Bd d1) 1)) := fun W => R4 W d1 d1 rfl hB1 (by obtain ⟨e1, e2, e3⟩ := HD1.out; rw [hM] at e3; simp only [Bool.false_eq, Bool.or_eq_false_iff, decide_eq_false_iff_not] at e3; omega)
      have HAX : Hid (∀ t' c', (c' = Es c (Df (Bd d1) 1) ∧ t'.m0 = t.m0 ∧ t'.m1 = t.m1 ∧ t'.m2 = t.m2 ∧ t'.m3 = t.m3) → Ca L (A7 st) k1 0 false t' c') := Ae fun t' c' ht => by have := HA.out t' c' (fun _ _ => ht); rw [hB1, hM] at this; exact this
      have HFW : Hid (Cv (k1 - k) (Df (Bd d1) 1)) := Ae (by
       obtain ⟨e1, e2, e3⟩ := HD1.out
       have h1 := Eh hB1
       rw [hM] at e3
       simp only [Bool.false_eq, Bool.or_eq_false_iff, decide_eq_false_iff_not] at e3
       rw [Jt qB] at h1
       have h2 := (Eb hB1).2
       exact Le qB (by rw [Fd]; omega) qB)
      have HCW := Ae (My (Bd d1) 1)
      clear HA hB1 hM
      have q : ∀ W : World, (Instr.sliceAt 9 (.string ⟨L.toArray⟩) (some (.int .i64 (k : Int))) (some (.int .i64 (k1 : Int))) none).run Tryz.prog W = .ok (.string ⟨d1.toArray⟩) W := fun W => by
       rw [N4 W _ _ _ qB (by have := D3.le; show k1 ≤ L.toArray.size; simpa using this), I1, HTx.out]
      have yy0 := D3.c0
      have yy1 := D3.c1
      have yy2 := D3.c2
      have yy3 := D3.c3
      go_upto_region 24 with fail
      go_cut [11, 12] (fun v11 v12 wc => v12 = .int .i64 0 ∧ gO w w3 wc R L k1 t (Df (Bd d1) 1) v11)
      case first =>
       have hRW : R < w3.heap.size := D3.lt
       have hne1 : ¬ R = w3.heap.size := by omega
       have hne2 : ¬ w3.heap.size = R := by omega
       go_region_held3 (fun W => W.cell? ⟨R, 0, none⟩ = some (.string ⟨L.toArray⟩) ∧ W.cell? ⟨R, 1, none⟩ = some (.int .i64 k1)) (first | ((try dsimp only); (repeat' apply And.intro); all_goals (first | (with_reducible assumption) | (go_keep; done) | (simp [*, go_sem]; done)))) (first
        | (go_at_call 199; (with_reducible refine (hC (World.drew (World.alloc _ _))).mono ?_); rintro e w6 ⟨g1, a1, n1, c1, g2, a2, n2, c2, rfl, hfr, hfe, hff, hb6⟩; have HB6 := zD w3 hb6; replace yy0 := Au HB6 yy0; replace yy1 := Au HB6 yy1; replace yy2 := Au HB6 yy2; replace yy3 := Au HB6 yy3; have zc0 : w6.cell? ⟨w3.heap.size, 0, none⟩ = some (.bool false) := Au hb6 qJ; have zf0 : w6.frozen? ⟨w3.heap.size, 0, none⟩ = false := (Ab hb6 qJ).trans qJ; have zc1 : w6.cell? ⟨w3.heap.size, 1, none⟩ = some (.slice none 0 0) := Au hb6 qJ; have zf1 : w6.frozen? ⟨w3.heap.size, 1, none⟩ = false := (Ab hb6 qJ).trans qJ; have zc2 : w6.cell? ⟨w3.heap.size, 2, none⟩ = some (.bool false) := Au hb6 qJ; have zf2 : w6.frozen? ⟨w3.heap.size, 2, none⟩ = false := (Ab hb6 qJ).trans qJ; have zc3 : w6.cell? ⟨w3.heap.size, 3, none⟩ = some (.slice none 0 0) := Au hb6 qJ; have zf3 : w6.frozen? ⟨w3.heap.size, 3, none⟩ = false := (Ab hb6 qJ).trans qJ)
        | (go_at_call 199; (with_reducible refine (hC _).mono ?_); rintro e w6 ⟨g1, a1, n1, c1, g2, a2, n2, c2, rfl, hfr, hfe, hff, hb6⟩; have HB6 := zD w3 hb6; replace yy0 := Au HB6 yy0; replace yy1 := Au HB6 yy1; replace yy2 := Au HB6 yy2; replace yy3 := Au HB6 yy3))
       ·go_wp2_with fail
        go_meet
        case rel =>
         exact ⟨rfl, _, _, _, _, _, _, _, _, _, rfl, by simp [go_sem], by simp [go_sem], by simp [go_sem], by simp [go_sem], hfr.keep ((Ac _ _).alloc (Ad _) _), (D3.keep HB6).allocR _, (F3.next (Az HB6 _) hRw).alloc _ hRw⟩
       ·go_wp2_with fail
        go_meet
        case rel =>
         have hT1 : w3.heap.size < (World.drew (World.alloc w3 (Obj.cells #[Value.bool false, Value.slice none 0 0, Value.bool false, Value.slice none 0 0] 64))).heap.size := by simp
         exact ⟨rfl, _, _, _, _, _, _, _, _, _, rfl, by simp [go_sem, zc0, zf0], by simp [go_sem, zc1, zf1], by simp [go_sem, zc2, zf2], by simp [go_sem, zc3, zf3], Km hfr hfe hff (Hn w6 _ _ _ _ _) hT1, (D3.keep HB6).setF _ hne2 _ _ _ _, F3.next (A5 _ (A5 _ (A5 _ (A5 _ (Az HB6 _) (Ad _)) (Ad _)) (Ad _)) (Ad _)) hRw⟩
      case rest =>
       obtain ⟨rfl, b, g1, ax1, n1, c1, g2, ax2, n2, c2, rfl, k0, k1, k2, k3, hfr, Dc, Fc⟩ := hcut
       clear q hC yy0 yy1 yy2 yy3 D3 F3
       have hFc := hF.grown Fc.grown hRB
       have hkb : b < wc.heap.size := Aa _ _ k0
       have hkxl := Dc.le
       have l1 : t.n1 ≤ 1000000000 := by have h1 := hFc.few.1; have h2 := hFc.fr.top.rd.len; omega
       have l2 : t.n2 ≤ 1000000000 := by have h1 := hFc.few.2; have h2 := hFc.fr.low.rd.len; omega
       have l3 : n1 ≤ 1000000000 := by have h1 := HFW.out.1; have h2 := hfr.top.rd.len; omega
       have l4 : n2 ≤ 1000000000 := by have h1 := HFW.out.2; have h2 := hfr.low.rd.len; omega
       have hk0 : w.heap.size < wc.heap.size := by have := Fc.sz; omega
       have hk1 : w.heap.size + 1 < wc.heap.size := by have := Fc.sz; omega
       have hkR : R < wc.heap.size := by omega
       have hkn : ¬ R = w.heap.size := by omega
       have hkm : ¬ R = w.heap.size + 1 := by omega
       obtain ⟨b0, b1, b2, b3, b4, b5, b6, b7⟩ := Fc.tm
       simp only [Nat.zero_add] at b0 b1 b2 b3 b4 b5 b6 b7
       obtain ⟨a0, a1, a2, a3, a4, a5, a6, a7⟩ := Fc.sm
       simp only [Nat.zero_add, zTm] at a0 a1 a2 a3 a4 a5 a6 a7
       obtain ⟨p0, p1, p2, p3, p4, p5, p6, p7⟩ := zC Fc.tf
       obtain ⟨o0, o1, o2, o3, o4, o5, o6, o7⟩ := zC Fc.sf
       go_wp2_with fail
       clear hk0 hk1 hkR hkn hkm b0 b1 b2 b3 b4 b5 b6 b7 a0 a1 a2 a3 a4 a5 a6 a7 p0 p1 p2 p3 p4 p5 p6 p7 o0 o1 o2 o3 o4 o5 o6 o7
       clear k0 k1 k2 k3
       refine (V6 wc t.g1 t.a1 t.n1 t.c1 c.1 t.g2 t.a2 t.n2 t.c2 c.2 hFc.fr g1 ax1 n1 c1 _ g2 ax2 n2 c2 _ hfr l1 l2 l3 l4).mono ?_
       rintro e w7 ⟨gx, ax, nx, cx, gy, ay, ny, cy, rfl, hfx, hfx1, hfx2, hb7⟩
       have D7 := Dc.keep hb7
       have F7 := Fc.next (Az hb7 _) hRw
       have kx : Nw wc.heap.size nx ax := Nw.mono (hfx1.newA hfx.top.rd) (Ad _)
       have ky : Nw wc.heap.size ny ay := Nw.mono (hfx2.newA hfx.low.rd) (Ad _)
       have hszc := Fc.sz
       clear Dc Fc hFc hfr hfx1 hfx2 hb7 l1 l2 l3 l4
       have hk0 : w.heap.size < w7.heap.size := by have := F7.sz; omega
       have hk1 : w.heap.size + 1 < w7.heap.size := by have := F7.sz; omega
       have hkR : R < w7.heap.size := by omega
       have hkn : ¬ R = w.heap.size := by omega
       have hkm : ¬ R = w.heap.size + 1 := by omega
       obtain ⟨b0, b1, b2, b3, b4, b5, b6, b7⟩ := F7.tm
       simp only [Nat.zero_add] at b0 b1 b2 b3 b4 b5 b6 b7
       obtain ⟨a0, a1, a2, a3, a4, a5, a6, a7⟩ := F7.sm
       simp only [Nat.zero_add, zTm] at a0 a1 a2 a3 a4 a5 a6 a7
       obtain ⟨p0, p1, p2, p3, p4, p5, p6, p7⟩ := zC F7.tf
       obtain ⟨o0, o1, o2, o3, o4, o5, o6, o7⟩ := zC F7.sf
       go_upto_region 26 with fail
       clear hk0 hk1 hkR hkn hkm b0 b1 b2 b3 b4 b5 b6 b7 a0 a1 a2 a3 a4 a5 a6 a7 p0 p1 p2 p3 p4 p5 p6 p7 o0 o1 o2 o3 o4 o5 o6 o7
       have D8 := D7.setF w.heap.size qB (.bool gx) (.slice ax nx cx) (.bool gy) (.slice ay ny cy)
       have F8 := F7.setC gx ax nx cx (dg (Es c (Df (Bd d1) 1)).1.natAbs) gy ay ny cy (dg (Es c (Df (Bd d1) 1)).2.natAbs)
       have hg78 := Hn w7 w.heap.size (.bool gx) (.slice ax nx cx) (.bool gy) (.slice ay ny cy)
       clear D7 F7
       generalize (((w7.setCell ⟨w.heap.size, 0, none⟩ (.bool gx)).setCell ⟨w.heap.size, 1, none⟩ (.slice ax nx cx)).setCell ⟨w.heap.size, 2, none⟩ (.bool gy)).setCell ⟨w.heap.size, 3, none⟩ (.slice ay ny cy) = w8 at *
       have hfx8 := hfx.butR kx ky hg78 (fun k hk => by cases hk; omega)
       clear hfx hg78
       obtain ⟨t', ht'⟩ : ∃ t' : Tm, t' = ⟨gx, ax, nx, cx, dg (Es c (Df (Bd d1) 1)).1.natAbs, gy, ay, ny, cy, dg (Es c (Df (Bd d1) 1)).2.natAbs, t.m0, t.m1, t.m2, t.m3⟩ := ⟨_, rfl⟩
       rw [← ht'] at F8
       have HX : Hid (Ca L (A7 st) k1 0 false t' (Es c (Df (Bd d1) 1))) := Ae (HAX.out t' _ ⟨rfl, by rw [ht'], by rw [ht'], by rw [ht'], by rw [ht']⟩)
       have HFT : Hid (FT w8 B A t' (Es c (Df (Bd d1) 1)) (K + (k1 - k)) ∧ NwT wc.heap.size t') := Ae (by
        rw [ht']
        exact ⟨⟨hfx8, Cv.mul ⟨hF.fr.pos, hF.fr.red⟩ HCW.out hF.few HFW.out, ⟨kx.mono qB, ky.mono qB⟩, ⟨kx.ap qB, ky.ap qB⟩, hF.m0, hF.m1, hF.m2, hF.m3⟩, ⟨kx, ky⟩⟩)
       clear ht' hfx8 kx ky HAX
       have hk0 : w.heap.size < w8.heap.size := by have := F8.sz; omega
       have hk1 : w.heap.size + 1 < w8.heap.size := by have := F8.sz; omega
       have hkR : R < w8.heap.size := by omega
       have hkn : ¬ R = w.heap.size := by omega
       have hkm : ¬ R = w.heap.size + 1 := by omega
       obtain ⟨b0, b1, b2, b3, b4, b5, b6, b7⟩ := F8.tm
       simp only [Nat.zero_add] at b0 b1 b2 b3 b4 b5 b6 b7
       obtain ⟨a0, a1, a2, a3, a4, a5, a6, a7⟩ := F8.sm
       simp only [Nat.zero_add, zTm] at a0 a1 a2 a3 a4 a5 a6 a7
       obtain ⟨p0, p1, p2, p3, p4, p5, p6, p7⟩ := zC F8.tf
       obtain ⟨o0, o1, o2, o3, o4, o5, o6, o7⟩ := zC F8.sf
       go_wp2_with fail
       refine bodyPost_ret (v := t'.val) (by simp [results, Tryz.results133, go_sem, a0, a1, a2, a3, a4, a5, a6, a7, o0, o1, o2, o3, o4, o5, o6, o7, hk1]) rfl ?_
       have hg9 := C7 F8.grown (w.heap.size + 1) qB (.bool t'.g1) (.slice t'.a1 t'.n1 t'.c1) (.bool t'.g2) (.slice t'.a2 t'.n2 t'.c2) (.int .u16 t'.m0) (.int .u16 t'.m1) (.int .u16 t'.m2) (.int .u16 t'.m3)
       have hg8 := Jb w8 (w.heap.size + 1) (.bool t'.g1) (.slice t'.a1 t'.n1 t'.c1) (.bool t'.g2) (.slice t'.a2 t'.n2 t'.c2) (.int .u16 t'.m0) (.int .u16 t'.m1) (.int .u16 t'.m2) (.int .u16 t'.m3)
       have hfin := FT.over HFT.out.1 HFT.out.2 hg8 qB
       exact ⟨t', Es c (Df (Bd d1) 1), k1, 0, false, rfl, by omega, hg9, D8.setS _ qB _ _ _ _ _ _ _ _, hfin, HX.out⟩
     ·rw [hM] at D3
      have HX : Hid (Ca L (A7 st) k1 0 true t c) := Ae (by have := HA.out t c (fun _ h => by rw [hM] at h; cases h); rw [hB1, hM] at this; exact this)
      clear HA hB1 hM
      have hk0 : w.heap.size < w3.heap.size := by have := F3.sz; omega
      have hk1 : w.heap.size + 1 < w3.heap.size := by have := F3.sz; omega
      have hkR : R < w3.heap.size := by omega
      have hkn : ¬ R = w.heap.size := by omega
      have hkm : ¬ R = w.heap.size + 1 := by omega
      obtain ⟨b0, b1, b2, b3, b4, b5, b6, b7⟩ := F3.tm
      simp only [Nat.zero_add] at b0 b1 b2 b3 b4 b5 b6 b7
      obtain ⟨a0, a1, a2, a3, a4, a5, a6, a7⟩ := F3.sm
      simp only [Nat.zero_add, zTm] at a0 a1 a2 a3 a4 a5 a6 a7
      obtain ⟨p0, p1, p2, p3, p4, p5, p6, p7⟩ := zC F3.tf
      obtain ⟨o0, o1, o2, o3, o4, o5, o6, o7⟩ := zC F3.sf
      have yy2 := D3.c2
      have yy3 := D3.c3
      go_wp2_with fail
      refine bodyPost_ret (v := t.val) (by simp [results, Tryz.results133, go_sem, a0, a1, a2, a3, a4, a5, a6, a7, o0, o1, o2, o3, o4, o5, o6, o7, hk1]) rfl ?_
      have hg9 := C7 F3.grown (w.heap.size + 1) qB (.bool t.g1) (.slice t.a1 t.n1 t.c1) (.bool t.g2) (.slice t.a2 t.n2 t.c2) (.int .u16 t.m0) (.int .u16 t.m1) (.int .u16 t.m2) (.int .u16 t.m3)
      exact ⟨t, c, k1, 0, true, rfl, by omega, hg9, D3.setS _ qB _ _ _ _ _ _ _ _, (hF.grown hg9 hRB).mono qB, HX.out⟩
   ·have y1 := D3.c1
    have z1 := D3.f1
    have hlt := E9 h47
    go_wp2_with fail
    have D4 := D3.set1 (k1 + 1) hlt
    have F4 := F3.next (Aw (o := 1) (.int .i64 ((k1 + 1 : Nat) : Int)) (Bc w3 (some R))) hRw
    rw [show ((k1 + 1 : Nat) : Int) = (k1 : Int) + 1 from rfl] at F4 D4
    clear D3 F3 y1 z1
    generalize w3.setCell ⟨R, 1, none⟩ (.int .i64 ((k1 : Int) + 1)) = w4 at *
    refine (Ji w4 R L (k1 + 1) _ m1 D4 hL).mono ?_
    rintro e w5 ⟨rfl, hg5, D5⟩
    have F5 := F4.next hg5 hRw
    clear D4 F4 hg5
    obtain ⟨d2, hd2⟩ : ∃ d2, d2 = Bn L (k1 + 1) := ⟨_, rfl⟩
    obtain ⟨k2, hk2⟩ : ∃ k2, k2 = k1 + 1 + d2.length := ⟨_, rfl⟩
    obtain ⟨m2, hm2⟩ : ∃ m2, m2 = (m1 || decide (200 < d2.length)) := ⟨_, rfl⟩
    rw [← hd2, ← hk2, ← hm2] at D5
    rw [← hd2]
    have HD2 := Ae (And.intro hd2 (And.intro hk2 hm2))
    have hkk2 : k ≤ k2 := by omega
    have HTx : Hid ((L.take k2).drop k = d1 ++ 47 :: d2) := Ae (by rw [hk2]; exact X6 HD1.out.1 HD1.out.2.1 hd2 h47)
    have HA : Hid (∀ t' c', (Bb d1 = true → Bb d2 = true → d2 ≠ [48] → m2 = false → c' = Es c (Df (Bd d1) (Bd d2)) ∧ t'.m0 = t.m0 ∧ t'.m1 = t.m1 ∧ t'.m2 = t.m2 ∧ t'.m3 = t.m3) → Ca L (A7 st) k2 (if d2 = [48] then 4 else if Bb d2 then (if Bb d1 then 0 else 4) else 4) m2 t' c') := Ae fun t' c' ht => by
     rw [hm2, HD1.out.2.2] at ht ⊢
     rw [hk2]
     exact Xp hr hst HNL.out HD1.out.1 HD1.out.2.1 hd2 h47 ht
    clear hd2 hk2 hm2 h47 hlt
    have yy9 := D5.f2
    have yy8 := D5.c2
    by_cases h48 : d2 = [48]
    ·have hq : (d2 == [48]) = true := by simp [h48]
     have HX : Hid (Ca L (A7 st) k2 4 m2 t c) := Ae (by have := HA.out t c (fun _ _ h => absurd h48 h); rw [if_pos h48] at this; exact this)
     clear HA h48
     go_upto_region 23 with fail
     have D6 := D5.set2 4
     have F6 := F5.next (Aw (o := 2) (.int .i64 4) (Bc w5 (some R))) hRw
     clear D5 F5 yy8 yy9
     generalize w5.setCell ⟨R, 2, none⟩ (.int .i64 4) = w6 at *
     have hk0 : w.heap.size < w6.heap.size := by have := F6.sz; omega
     have hk1 : w.heap.size + 1 < w6.heap.size := by have := F6.sz; omega
     have hkR : R < w6.heap.size := by omega
     have hkn : ¬ R = w.heap.size := by omega
     have hkm : ¬ R = w.heap.size + 1 := by omega
     obtain ⟨b0, b1, b2, b3, b4, b5, b6, b7⟩ := F6.tm
     simp only [Nat.zero_add] at b0 b1 b2 b3 b4 b5 b6 b7
     obtain ⟨a0, a1, a2, a3, a4, a5, a6, a7⟩ := F6.sm
     simp only [Nat.zero_add, zTm] at a0 a1 a2 a3 a4 a5 a6 a7
     obtain ⟨p0, p1, p2, p3, p4, p5, p6, p7⟩ := zC F6.tf
     obtain ⟨o0, o1, o2, o3, o4, o5, o6, o7⟩ := zC F6.sf
     have yy2 := D6.c2
     have yy3 := D6.c3
     go_wp2_with fail
     refine bodyPost_ret (v := t.val) (by simp [results, Tryz.results133, go_sem, a0, a1, a2, a3, a4, a5, a6, a7, o0, o1, o2, o3, o4, o5, o6, o7, hk1]) rfl ?_
     have hg9 := C7 F6.grown (w.heap.size + 1) qB (.bool t.g1) (.slice t.a1 t.n1 t.c1) (.bool t.g2) (.slice t.a2 t.n2 t.c2) (.int .u16 t.m0) (.int .u16 t.m1) (.int .u16 t.m2) (.int .u16 t.m3)
     exact ⟨t, c, k2, 4, m2, rfl, by omega, hg9, D6.setS _ qB _ _ _ _ _ _ _ _, (hF.grown hg9 hRB).mono qB, HX.out⟩
    ·have hq : (d2 == [48]) = false := by simp [h48]
     clear yy8 yy9
     have h48' := Ae h48
     rw [if_neg h48] at HA
     clear h48
     cases hB2 : Bb d2
     ·have HX : Hid (Ca L (A7 st) k2 4 m2 t c) := Ae (by have := HA.out t c (fun _ h => by rw [hB2] at h; cases h); rw [hB2] at this; exact this)
      rw [hB2] at D5
      simp only [Bool.false_eq_true, if_false] at D5
      clear HA hB2
      exact qAz
     ·rw [hB2] at D5
      simp only [if_true] at D5
      cases hB1 : Bb d1
      ·have HX : Hid (Ca L (A7 st) k2 4 m2 t c) := Ae (by have := HA.out t c (fun h => by rw [hB1] at h; cases h); rw [hB2, hB1] at this; exact this)
       rw [hB1] at D5
       simp only [Bool.false_eq_true, if_false] at D5
       clear HA hB2 hB1
       exact qAz
      ·rw [hB1] at D5
       simp only [if_true] at D5
       cases hM : m2
       ·rw [hM] at D5
        obtain ⟨T, hT⟩ : ∃ T, T = d1 ++ 47 :: d2 := ⟨_, rfl⟩
        have hlen : Hid (d1.length ≤ 200 ∧ d2.length ≤ 200) := Ae (by
         obtain ⟨e1, e2, e3⟩ := HD1.out
         obtain ⟨q1, q2, q3⟩ := HD2.out
         rw [hM, e3] at q3
         have := q3.symm
         simp only [Bool.or_eq_false_iff, decide_eq_false_iff_not] at this
         omega)
        have hC : ∀ W, Calls Tryz.prog 199 #[.string ⟨T.toArray⟩] W (Qu W (Df (Bd d1) (Bd d2))) := fun W => Sj W T d1 d2 hT hB1 hlen.out.1 hB2 hlen.out.2 h48'.out
        have HAX : Hid (∀ t' c', (c' = Es c (Df (Bd d1) (Bd d2)) ∧ t'.m0 = t.m0 ∧ t'.m1 = t.m1 ∧ t'.m2 = t.m2 ∧ t'.m3 = t.m3) → Ca L (A7 st) k2 0 false t' c') := Ae fun t' c' ht => by have := HA.out t' c' (fun _ _ _ _ => ht); rw [hB1, hB2, hM] at this; exact this
        have HFW : Hid (Cv (k2 - k) (Df (Bd d1) (Bd d2))) := Ae (by
         obtain ⟨e1, e2, e3⟩ := HD1.out
         obtain ⟨q1, q2, q3⟩ := HD2.out
         have h1 := Eh hB1
         have h2 := Eh hB2
         rw [Jt hlen.out.1] at h1
         rw [Jt hlen.out.2] at h2
         exact Le qB qB qB)
        have HCW := Ae (My (Bd d1) (Bd d2))
        rw [← hT] at HTx
        clear HA hB1 hM hB2 hT
        have q : ∀ W : World, (Instr.sliceAt 9 (.string ⟨L.toArray⟩) (some (.int .i64 (k : Int))) (some (.int .i64 (k2 : Int))) none).run Tryz.prog W = .ok (.string ⟨T.toArray⟩) W := fun W => by
         rw [N4 W _ _ _ qB (by have := D5.le; show k2 ≤ L.toArray.size; simpa using this), I1, HTx.out]
        have yy0 := D5.c0
        have yy1 := D5.c1
        have yy2 := D5.c2
        have yy3 := D5.c3
        go_upto_region 24 with fail
        go_cut [11, 12] (fun v11 v12 wc => v12 = .int .i64 0 ∧ gO w w5 wc R L k2 t (Df (Bd d1) (Bd d2)) v11)
        case first =>
         have hRW : R < w5.heap.size := D5.lt
         have hne1 : ¬ R = w5.heap.size := by omega
         have hne2 : ¬ w5.heap.size = R := by omega
         go_region_held3 (fun W => W.cell? ⟨R, 0, none⟩ = some (.string ⟨L.toArray⟩) ∧ W.cell? ⟨R, 1, none⟩ = some (.int .i64 k2)) (first | ((try dsimp only); (repeat' apply And.intro); all_goals (first | (with_reducible assumption) | (go_keep; done) | (simp [*, go_sem]; done)))) (first
          | (go_at_call 199; (with_reducible refine (hC (World.drew (World.alloc _ _))).mono ?_); rintro e w6 ⟨g1, a1, n1, c1, g2, a2, n2, c2, rfl, hfr, hfe, hff, hb6⟩; have HB6 := zD w5 hb6; replace yy0 := Au HB6 yy0; replace yy1 := Au HB6 yy1; replace yy2 := Au HB6 yy2; replace yy3 := Au HB6 yy3; have zc0 : w6.cell? ⟨w5.heap.size, 0, none⟩ = some (.bool false) := Au hb6 qJ; have zf0 : w6.frozen? ⟨w5.heap.size, 0, none⟩ = false := (Ab hb6 qJ).trans qJ; have zc1 : w6.cell? ⟨w5.heap.size, 1, none⟩ = some (.slice none 0 0) := Au hb6 qJ; have zf1 : w6.frozen? ⟨w5.heap.size, 1, none⟩ = false := (Ab hb6 qJ).trans qJ; have zc2 : w6.cell? ⟨w5.heap.size, 2, none⟩ = some (.bool false) := Au hb6 qJ; have zf2 : w6.frozen? ⟨w5.heap.size, 2, none⟩ = false := (Ab hb6 qJ).trans qJ; have zc3 : w6.cell? ⟨w5.heap.size, 3, none⟩ = some (.slice none 0 0) := Au hb6 qJ; have zf3 : w6.frozen? ⟨w5.heap.size, 3, none⟩ = false := (Ab hb6 qJ).trans qJ)
          | (go_at_call 199; (with_reducible refine (hC _).mono ?_); rintro e w6 ⟨g1, a1, n1, c1, g2, a2, n2, c2, rfl, hfr, hfe, hff, hb6⟩; have HB6 := zD w5 hb6; replace yy0 := Au HB6 yy0; replace yy1 := Au HB6 yy1; replace yy2 := Au HB6 yy2; replace yy3 := Au HB6 yy3))
         ·go_wp2_with fail
          go_meet
          case rel =>
           exact ⟨rfl, _, _, _, _, _, _, _, _, _, rfl, by simp [go_sem], by simp [go_sem], by simp [go_sem], by simp [go_sem], hfr.keep ((Ac _ _).alloc (Ad _) _), (D5.keep HB6).allocR _, (F5.next (Az HB6 _) hRw).alloc _ hRw⟩
         ·go_wp2_with fail
          go_meet
          case rel =>
           have hT1 : w5.heap.size < (World.drew (World.alloc w5 (Obj.cells #[Value.bool false, Value.slice none 0 0, Value.bool false, Value.slice none 0 0] 64))).heap.size := by simp
           exact ⟨rfl, _, _, _, _, _, _, _, _, _, rfl, by simp [go_sem, zc0, zf0], by simp [go_sem, zc1, zf1], by simp [go_sem, zc2, zf2], by simp [go_sem, zc3, zf3], Km hfr hfe hff (Hn w6 _ _ _ _ _) hT1, (D5.keep HB6).setF _ hne2 _ _ _ _, F5.next (A5 _ (A5 _ (A5 _ (A5 _ (Az HB6 _) (Ad _)) (Ad _)) (Ad _)) (Ad _)) hRw⟩
        case rest =>
         obtain ⟨rfl, b, g1, ax1, n1, c1, g2, ax2, n2, c2, rfl, k0, k1, k2, k3, hfr, Dc, Fc⟩ := hcut
         clear q hC yy0 yy1 yy2 yy3 D5 F5
         have hFc := hF.grown Fc.grown hRB
         have hkb : b < wc.heap.size := Aa _ _ k0
         have hkxl := Dc.le
         have l1 : t.n1 ≤ 1000000000 := by have h1 := hFc.few.1; have h2 := hFc.fr.top.rd.len; omega
         have l2 : t.n2 ≤ 1000000000 := by have h1 := hFc.few.2; have h2 := hFc.fr.low.rd.len; omega
         have l3 : n1 ≤ 1000000000 := by have h1 := HFW.out.1; have h2 := hfr.top.rd.len; omega
         have l4 : n2 ≤ 1000000000 := by have h1 := HFW.out.2; have h2 := hfr.low.rd.len; omega
         have hk0 : w.heap.size < wc.heap.size := by have := Fc.sz; omega
         have hk1 : w.heap.size + 1 < wc.heap.size := by have := Fc.sz; omega
         have hkR : R < wc.heap.size := by omega
         have hkn : ¬ R = w.heap.size := by omega
         have hkm : ¬ R = w.heap.size + 1 := by omega
         obtain ⟨b0, b1, b2, b3, b4, b5, b6, b7⟩ := Fc.tm
         simp only [Nat.zero_add] at b0 b1 b2 b3 b4 b5 b6 b7
         obtain ⟨a0, a1, a2, a3, a4, a5, a6, a7⟩ := Fc.sm
         simp only [Nat.zero_add, zTm] at a0 a1 a2 a3 a4 a5 a6 a7
         obtain ⟨p0, p1, p2, p3, p4, p5, p6, p7⟩ := zC Fc.tf
         obtain ⟨o0, o1, o2, o3, o4, o5, o6, o7⟩ := zC Fc.sf
         go_wp2_with fail
         clear hk0 hk1 hkR hkn hkm b0 b1 b2 b3 b4 b5 b6 b7 a0 a1 a2 a3 a4 a5 a6 a7 p0 p1 p2 p3 p4 p5 p6 p7 o0 o1 o2 o3 o4 o5 o6 o7
         clear k0 k1 k2 k3
         refine (V6 wc t.g1 t.a1 t.n1 t.c1 c.1 t.g2 t.a2 t.n2 t.c2 c.2 hFc.fr g1 ax1 n1 c1 _ g2 ax2 n2 c2 _ hfr l1 l2 l3 l4).mono ?_
         rintro e w7 ⟨gx, ax, nx, cx, gy, ay, ny, cy, rfl, hfx, hfx1, hfx2, hb7⟩
         have D7 := Dc.keep hb7
         have F7 := Fc.next (Az hb7 _) hRw
         have kx : Nw wc.heap.size nx ax := Nw.mono (hfx1.newA hfx.top.rd) (Ad _)
         have ky : Nw wc.heap.size ny ay := Nw.mono (hfx2.newA hfx.low.rd) (Ad _)
         have hszc := Fc.sz
         clear Dc Fc hFc hfr hfx1 hfx2 hb7 l1 l2 l3 l4
         have hk0 : w.heap.size < w7.heap.size := by have := F7.sz; omega
         have hk1 : w.heap.size + 1 < w7.heap.size := by have := F7.sz; omega
         have hkR : R < w7.heap.size := by omega
         have hkn : ¬ R = w.heap.size := by omega
         have hkm : ¬ R = w.heap.size + 1 := by omega
         obtain ⟨b0, b1, b2, b3, b4, b5, b6, b7⟩ := F7.tm
         simp only [Nat.zero_add] at b0 b1 b2 b3 b4 b5 b6 b7
         obtain ⟨a0, a1, a2, a3, a4, a5, a6, a7⟩ := F7.sm
         simp only [Nat.zero_add, zTm] at a0 a1 a2 a3 a4 a5 a6 a7
         obtain ⟨p0, p1, p2, p3, p4, p5, p6, p7⟩ := zC F7.tf
         obtain ⟨o0, o1, o2, o3, o4, o5, o6, o7⟩ := zC F7.sf
         go_upto_region 26 with fail
         clear hk0 hk1 hkR hkn hkm b0 b1 b2 b3 b4 b5 b6 b7 a0 a1 a2 a3 a4 a5 a6 a7 p0 p1 p2 p3 p4 p5 p6 p7 o0 o1 o2 o3 o4 o5 o6 o7
         have D8 := D7.setF w.heap.size qB (.bool gx) (.slice ax nx cx) (.bool gy) (.slice ay ny cy)
         have F8 := F7.setC gx ax nx cx (dg (Es c (Df (Bd d1) (Bd d2))).1.natAbs) gy ay ny cy (dg (Es c (Df (Bd d1) (Bd d2))).2.natAbs)
         have hg78 := Hn w7 w.heap.size (.bool gx) (.slice ax nx cx) (.bool gy) (.slice ay ny cy)
         clear D7 F7
         generalize (((w7.setCell ⟨w.heap.size, 0, none⟩ (.bool gx)).setCell ⟨w.heap.size, 1, none⟩ (.slice ax nx cx)).setCell ⟨w.heap.size, 2, none⟩ (.bool gy)).setCell ⟨w.heap.size, 3, none⟩ (.slice ay ny cy) = w8 at *
         have hfx8 := hfx.butR kx ky hg78 (fun k hk => by cases hk; omega)
         clear hfx hg78
         obtain ⟨t', ht'⟩ : ∃ t' : Tm, t' = ⟨gx, ax, nx, cx, dg (Es c (Df (Bd d1) (Bd d2))).1.natAbs, gy, ay, ny, cy, dg (Es c (Df (Bd d1) (Bd d2))).2.natAbs, t.m0, t.m1, t.m2, t.m3⟩ := ⟨_, rfl⟩
         rw [← ht'] at F8
         have HX : Hid (Ca L (A7 st) k2 0 false t' (Es c (Df (Bd d1) (Bd d2)))) := Ae (HAX.out t' _ ⟨rfl, by rw [ht'], by rw [ht'], by rw [ht'], by rw [ht']⟩)
         have HFT : Hid (FT w8 B A t' (Es c (Df (Bd d1) (Bd d2))) (K + (k2 - k)) ∧ NwT wc.heap.size t') := Ae (by
          rw [ht']
          exact ⟨⟨hfx8, Cv.mul ⟨hF.fr.pos, hF.fr.red⟩ HCW.out hF.few HFW.out, ⟨kx.mono qB, ky.mono qB⟩, ⟨kx.ap qB, ky.ap qB⟩, hF.m0, hF.m1, hF.m2, hF.m3⟩, ⟨kx, ky⟩⟩)
         clear ht' hfx8 kx ky HAX
         have hk0 : w.heap.size < w8.heap.size := by have := F8.sz; omega
         have hk1 : w.heap.size + 1 < w8.heap.size := by have := F8.sz; omega
         have hkR : R < w8.heap.size := by omega
         have hkn : ¬ R = w.heap.size := by omega
         have hkm : ¬ R = w.heap.size + 1 := by omega
         obtain ⟨b0, b1, b2, b3, b4, b5, b6, b7⟩ := F8.tm
         simp only [Nat.zero_add] at b0 b1 b2 b3 b4 b5 b6 b7
         obtain ⟨a0, a1, a2, a3, a4, a5, a6, a7⟩ := F8.sm
         simp only [Nat.zero_add, zTm] at a0 a1 a2 a3 a4 a5 a6 a7
         obtain ⟨p0, p1, p2, p3, p4, p5, p6, p7⟩ := zC F8.tf
         obtain ⟨o0, o1, o2, o3, o4, o5, o6, o7⟩ := zC F8.sf
         go_wp2_with fail
         refine bodyPost_ret (v := t'.val) (by simp [results, Tryz.results133, go_sem, a0, a1, a2, a3, a4, a5, a6, a7, o0, o1, o2, o3, o4, o5, o6, o7, hk1]) rfl ?_
         have hg9 := C7 F8.grown (w.heap.size + 1) qB (.bool t'.g1) (.slice t'.a1 t'.n1 t'.c1) (.bool t'.g2) (.slice t'.a2 t'.n2 t'.c2) (.int .u16 t'.m0) (.int .u16 t'.m1) (.int .u16 t'.m2) (.int .u16 t'.m3)
         have hg8 := Jb w8 (w.heap.size + 1) (.bool t'.g1) (.slice t'.a1 t'.n1 t'.c1) (.bool t'.g2) (.slice t'.a2 t'.n2 t'.c2) (.int .u16 t'.m0) (.int .u16 t'.m1) (.int .u16 t'.m2) (.int .u16 t'.m3)
         have hfin := FT.over HFT.out.1 HFT.out.2 hg8 qB
         exact ⟨t', Es c (Df (Bd d1) (Bd d2)), k2, 0, false, rfl, by omega, hg9, D8.setS _ qB _ _ _ _ _ _ _ _, hfin, HX.out⟩
       ·rw [hM] at D5
        have HX : Hid (Ca L (A7 st) k2 0 true t c) := Ae (by have := HA.out t c (fun _ _ _ h => by rw [hM] at h; cases h); rw [hB1, hB2, hM] at this; exact this)
        clear HA hB1 hM hB2
        have hk0 : w.heap.size < w5.heap.size := by have := F5.sz; omega
        have hk1 : w.heap.size + 1 < w5.heap.size := by have := F5.sz; omega
        have hkR : R < w5.heap.size := by omega
        have hkn : ¬ R = w.heap.size := by omega
        have hkm : ¬ R = w.heap.size + 1 := by omega
        obtain ⟨b0, b1, b2, b3, b4, b5, b6, b7⟩ := F5.tm
        simp only [Nat.zero_add] at b0 b1 b2 b3 b4 b5 b6 b7
        obtain ⟨a0, a1, a2, a3, a4, a5, a6, a7⟩ := F5.sm
        simp only [Nat.zero_add, zTm] at a0 a1 a2 a3 a4 a5 a6 a7
        obtain ⟨p0, p1, p2, p3, p4, p5, p6, p7⟩ := zC F5.tf
        obtain ⟨o0, o1, o2, o3, o4, o5, o6, o7⟩ := zC F5.sf
        have yy2 := D5.c2
        have yy3 := D5.c3
        go_wp2_with fail
        refine bodyPost_ret (v := t.val) (by simp [results, Tryz.results133, go_sem, a0, a1, a2, a3, a4, a5, a6, a7, o0, o1, o2, o3, o4, o5, o6, o7, hk1]) rfl ?_
        have hg9 := C7 F5.grown (w.heap.size + 1) qB (.bool t.g1) (.slice t.a1 t.n1 t.c1) (.bool t.g2) (.slice t.a2 t.n2 t.c2) (.int .u16 t.m0) (.int .u16 t.m1) (.int .u16 t.m2) (.int .u16 t.m3)
        exact ⟨t, c, k2, 0, true, rfl, by omega, hg9, D5.setS _ qB _ _ _ _ _ _ _ _, (hF.grown hg9 hRB).mono qB, HX.out⟩
end Go.Proofs.YtdamegaedmckbaaGreatDoor
end
