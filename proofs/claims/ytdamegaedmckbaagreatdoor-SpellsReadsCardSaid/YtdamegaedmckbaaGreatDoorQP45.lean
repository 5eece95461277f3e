/- A book: its lists of terms are made longer. -/
import Derived.Test.YtdamegaedmckbaaGreatDoorQP44
set_option linter.unusedSimpArgs false
set_option linter.unusedVariables false
set_option maxRecDepth 100000
set_option maxHeartbeats 4000000
section
namespace Go.Proofs.YtdamegaedmckbaaGreatDoor
open Go.RowKit
theorem Vq (w : World) (B0 B : Nat) (Rt : List (Hl × Value)) (hhl : ∀ p ∈ Rt, Cx w 68 8 B0 B p.1) (hal : Rt.Pairwise C6) (hF : ∀ p ∈ Rt, C0 w 8 mkT p.1.b p.1.n p.1.m) (hz : ∀ p ∈ Rt, p.2 = .slice none 0 0) (hm : ∀ p ∈ Rt, p.1.m < 1000000000) (hk : Rt.length < 1000000000)
  (vl : Value) (hc2 : w.cell? ⟨B, 6, none⟩ = some vl) (hown : w.ownsRow (B + 1) 139 3 vl Rt.length (Cw Rt)) :
  Calls Tryz.prog 72 #[.pointer (some ⟨B, 0, none⟩)] w fun e w' => e = .returned (.tuple #[]) ∧ ∃ R' : List (Hl × Value), R'.map (·.1) = Rt.map (·.1) ∧ w'.ownsRow (B + 1) 139 3 vl Rt.length (Cw R') ∧ (∀ p ∈ R', E5 w' 8 mkT w.heap.size p.1 p.2) ∧ Dd (fun g => inR Rt g ∨ vl.ownBlock = some g) w w' := by
 have HZ := Ae hz
 have HM := Ae hm
 have HFF := Ae hF
 have HBH := Ae hhl
 have HBA := Ae hal
 have hBw : B < w.heap.size := Aa _ _ hc2
 have hgt := I0 hown
 obtain ⟨ao, co, rfl⟩ := Hg hown
 obtain ⟨i0, hi', hz0, hz1, hz2⟩ := info_parts Og
 clear hz hm hF hhl hal
 go_enter Tryz.func72, Tryz.ntmps72
 go_wp2_with fail
 go_loopw [2] (fun v2 wr => ∃ (i : Nat) (R' : List (Hl × Value)), i ≤ Rt.length ∧ v2 = .int .i64 i ∧ Hid (R'.map (·.1) = (Rt.take i).map (·.1)) ∧ wr.ownsRow (B + 1) 139 3 (.slice ao Rt.length co) Rt.length (Cw (R' ++ Rt.drop i)) ∧ Hid (∀ p ∈ R', E5 wr 8 mkT w.heap.size p.1 p.2) ∧ Dd (fun g => inR (Rt.take i) g ∨ (Value.slice ao Rt.length co).ownBlock = some g) w wr) (fun v2 _ => Rt.length - (intOf v2).toNat)
 case atStart => exact ⟨0, [], by omega, rfl, Ae qH, by simpa using hown, Ae qH, Ey qF _⟩
 case round =>
  obtain ⟨i, R', hi, rfl, hMp, hownr, hGr, hS⟩ := hrel
  have c2 : wr.cell? ⟨B, 6, none⟩ = some (.slice ao Rt.length co) := (Af (a := ⟨B, 6, none⟩) (hS.block B hBw (fun e => e.elim (fun ⟨p, hp, hpc, he⟩ => by have := (HBH.out p (List.mem_of_mem_take hp)).lt hpc; omega) (fun e => by have := hgt _ e; omega)))).trans hc2
  by_cases hlt : i < Rt.length
  ·obtain ⟨⟨⟨a, b, n, c, m⟩, v⟩, hq⟩ : ∃ q, Rt[i]? = some q := ⟨_, Ai hlt⟩
   have hqm := List.mem_of_getElem? hq
   obtain rfl : v = .slice none 0 0 := HZ.out _ hqm
   have hmm : m < 1000000000 := HM.out _ hqm
   have hRl := K4 hMp.out hi
   have hRlen : (R' ++ Rt.drop i).length = Rt.length := by rw [List.length_append, List.length_drop]; omega
   obtain ⟨g, cap, hv, hg, hcl⟩ := Gd (R := R' ++ Rt.drop i) (by rw [hRlen]; exact hownr) (by intro e; rw [e] at hRlen; simp at hRlen; omega)
   simp only [Value.slice.injEq] at hv
   obtain ⟨rfl, -, rfl⟩ := hv
   obtain ⟨e0, e1, e2⟩ := hcl i (⟨a, b, n, c, m⟩, .slice none 0 0) (by rw [List.getElem?_append_right qB, hRl, Nat.sub_self, Jy hq]; rfl)
   have hnS : c ≠ 0 → ¬ (inR (Rt.take i) b ∨ (Value.slice (some ⟨g, 0, none⟩) Rt.length co).ownBlock = some b) := fun hc0 e => by
    exact qDg
   have hblt : c ≠ 0 → b < w.heap.size := fun hc0 => by have : b < B := (HBH.out _ hqm).lt hc0; omega
   have hh0 := (HBH.out _ hqm).kept fun hc0 => hS.block b (hblt hc0) (hnS hc0)
   have hle : n ≤ c := hh0.le
   have hfw : n ≤ 1000000 := hh0.few
   have hF0 : C0 wr 8 mkT b n m := (HFF.out _ hqm).congr (by
    by_cases hc0 : c = 0
    ·exact .inl (show n = 0 by omega)
    ·exact .inr (hS.block b (hblt hc0) (hnS hc0)))
   have HH := Ae hh0
   have HF0 := Ae hF0
   have HNS := Ae hnS
   have hbB : c ≠ 0 → b < B := fun hc0 => hh0.lt hc0
   have HbB := Ae hbB
   have hwr := hS.size
   have HRl := Ae hRl
   clear hcl hh0 hF0 hnS hblt hbB hRlen hRl
   simp only at e0 e1 e2
   go_wp2_with fail
   refine Ck ?_
   intro w2 hw2
   have hb2 : Below wr.heap.size wr w2 := by rw [hw2]; go_grown
   have b0 : w2.cell? ⟨wr.heap.size, 0, none⟩ = some (.slice a n c) := by rw [hw2]; simp [*, go_sem]
   have b2 : w2.cell? ⟨wr.heap.size, 2, none⟩ = some (.int .i64 (m : Nat)) := by rw [hw2]; simp [*, go_sem]
   clear hw2
   have hS2 := Em hS hb2
   have hown2 := Bm hownr hb2
   have hF2 : C0 w2 8 mkT b n m := HF0.out.keep hb2 (by simp [mkT]) qB
   have hh2 := HH.out.keep hb2
   have hcame := hh2.came (mk := mkT) rfl qB hF2
   have c22 := Au hb2 c2
   have fz2 := hown2.frozenAt (i * 3 + 1)
   have e12 := Au hb2 e1
   have hGr2 : Hid (∀ p ∈ R', E5 w2 8 mkT w.heap.size p.1 p.2) := Ae fun p hp => by
    exact qDk
   have hgw : g < w.heap.size := by
    exact qCz
   have hHlt : wr.heap.size < w2.heap.size := Aa _ _ b0
   have hW2 := hb2.size
   have HHb := Ae (show c ≠ 0 → wr.heap.size ≠ b from fun hc0 => by have := HbB.out hc0; omega)
   clear hGr hownr hS c2 e0 e1 e2 hb2 hh2
   generalize wr.heap.size = H at *
   go_loopw [4, 5] (fun v4 v5 wi => ∃ (k r : Nat), k ≤ 40 ∧ v5 = .int .i64 k ∧ (∃ a' c', v4 = .slice a' (n + k) c') ∧ Upon w2 68 8 a b 0 n c (Cm mkT m n) wi v4 k (Cm mkT m k) r ∧ wi.cell? ⟨H, 2, none⟩ = some (.int .i64 (m : Nat))) (fun _ v5 _ => 40 - (intOf v5).toNat)
   case atStart => exact ⟨0, 0, by omega, rfl, ⟨_, _, rfl⟩, by simpa [Cm] using Upon.start hcame, b2⟩
   case round =>
    obtain ⟨k, r, hk40, rfl, ⟨a', c', rfl⟩, hU, d2⟩ := hrel
    by_cases hkl : k < 40
    ·go_wp2_with (first | (go_at_call 144; refine (M6 _ m hmm).mono ?_; rintro e w5 ⟨rfl, hb5⟩; have HB5 := zD wr hb5) | (at_builtin; refine wpList_append_upon _ rfl _ _ 22 22 rfl hcame i0 (.agg #[.bool false, .slice none 0 0, .bool false, .slice none 0 0, .int .u16 0, .int .u16 0, .int .u16 0, .int .u16 0]) 72 Tryz.underlying22 hi' hz0 hz1 hz2 rfl rfl (Ou hU hcame (HB5.alloc HB5.size _)) (.slice (some ⟨w5.heap.size, 0, none⟩) 1 1) 1 [.bool false, .slice none 0 0, .bool false, .slice none 0 0, .int .u16 (1 + (m : Int) % 60000), .int .u16 ((m : Int) / 60000), .int .u16 0, .int .u16 0] rfl (Src.ofSlice _ Tryz.underlying22 ⟨w5.heap.size, 0, none⟩ 1 1 [.bool false, .slice none 0 0, .bool false, .slice none 0 0, .int .u16 (1 + (m : Int) % 60000), .int .u16 ((m : Int) / 60000), .int .u16 0, .int .u16 0] rfl (Ep w5 [.bool false, .slice none 0 0, .bool false, .slice none 0 0, .int .u16 (1 + (m : Int) % 60000), .int .u16 ((m : Int) / 60000), .int .u16 0, .int .u16 0] 68) (by simp [Value.oneCell'])) qO qB ?_; intro v6 w6 hU6))
     have hU7 : Upon w2 68 8 a b 0 n c (Cm mkT m n) w6 v6 (k + 1) (Cm mkT m (k + 1)) (Upon.next n c 8 k r 1) := by rw [Iq, show Cm mkT m 1 = [.bool false, .slice none 0 0, .bool false, .slice none 0 0, .int .u16 (1 + (m : Int) % 60000), .int .u16 ((m : Int) / 60000), .int .u16 0, .int .u16 0] by simp [Cm, mkT]]; exact hU6
     exact qDb
    ·obtain rfl : k = 40 := by omega
     have c23 := I6 hU c22 (fun hc0 => by have := HbB.out hc0; omega)
     have e13 := I6 hU e12 (fun hc0 => by have := HbB.out hc0; omega)
     have fz3 : wr.frozen? ⟨g, i * 3 + 1, none⟩ = false := (hU.frozen ⟨g, i * 3 + 1, none⟩ (by show g < _; omega)).trans fz2
     have hS3 := Ow hU
     have hown3 : wr.ownsRow (B + 1) 139 3 (.slice (some ⟨g, 0, none⟩) Rt.length co) Rt.length (Cw (R' ++ Rt.drop i)) := Ju hown2 hS3 (fun x hx e => by have := HbB.out e.1; have := e.2; omega)
     have hGn := Ae (Kb (W := w2) (s := 8) (h := ⟨a, b, n, c, m⟩) (H := w.heap.size) rfl qB hcame hF2 hU qB (fun h0 => by show 0 < c; have : 0 < n := h0; omega))
     have hst := Ae (hown3.stored (i * 3 + 1) (.slice a' (n + 40) c'))
     clear hU d2 hown3
     go_wp2_with fail
     have hS4 : Dd (fun x => (c ≠ 0 ∧ x = b) ∨ x = g) w2 (wr.setCell ⟨g, i * 3 + 1, none⟩ (.slice a' (n + 40) c')) := Dk (hS3.wide fun x hx => .inl hx) g _ _ (.inr rfl)
     have hS5 : Dd (fun x => (c ≠ 0 ∧ x = b) ∨ x = g) wr (wr.setCell ⟨g, i * 3 + 1, none⟩ (.slice a' (n + 40) c')) := Dk (Fg _ _) g _ _ (.inr rfl)
     have hMp' := Ae (Sw hMp.out hq (.slice a' (n + 40) c'))
     have hGr' : Hid (∀ p ∈ R' ++ [((⟨a, b, n, c, m⟩ : Hl), Value.slice a' (n + 40) c')], E5 (wr.setCell ⟨g, i * 3 + 1, none⟩ (.slice a' (n + 40) c')) 8 mkT w.heap.size p.1 p.2) := Ae fun p hp => by
      exact qBi
     have hown4 : (wr.setCell ⟨g, i * 3 + 1, none⟩ (.slice a' (n + 40) c')).ownsRow (B + 1) 139 3 (.slice (some ⟨g, 0, none⟩) Rt.length co) Rt.length (Cw ((R' ++ [((⟨a, b, n, c, m⟩ : Hl), Value.slice a' (n + 40) c')]) ++ Rt.drop (i + 1))) := by
      have h1 := hst.out.1
      have h2 := Pi R' (Rt.drop (i + 1)) ⟨a, b, n, c, m⟩ (.slice none 0 0) (.slice a' (n + 40) c')
      rw [HRl.out] at h2
      rw [Jy hq, h2] at h1
      rw [List.append_assoc]
      exact h1
     have hS6 : Dd (fun x => inR (Rt.take (i + 1)) x ∨ (Value.slice (some ⟨g, 0, none⟩) Rt.length co).ownBlock = some x) w (wr.setCell ⟨g, i * 3 + 1, none⟩ (.slice a' (n + 40) c')) := by
      exact qCj
     exact qDj
  ·obtain rfl : i = Rt.length := by omega
   have hMp2 := hMp.out
   rw [As (Ad _)] at hMp2 hS
   rw [List.drop_of_length_le (Ad _), List.append_nil] at hownr
   have HM2 := Ae hMp2
   clear hMp2 hMp
   go_wp2_with fail
   exact bodyPost_end (v := .tuple #[]) (by simp [results, Tryz.results72, go_sem]) rfl ⟨rfl, R', HM2.out, hownr, (fun a b h => hGr.out (a, b) h), hS⟩
theorem Z4 (w : World) (m : Nat) (hm : m < 1000000000) : Calls Tryz.prog 152 #[.int .u32 (1000 + (m : Int)), .int .i64 (m : Nat)] w fun e w' => e = .returned (.bool true) ∧ Below w.heap.size w w' := by
 go_enter Tryz.func152, Tryz.ntmps152
 go_wp2_with fail
 go_ret
 exact ⟨by simp, Ac _ _⟩
structure Tx (w : World) (s : Nat) (mk : Nat → List Value) (h : Hl) (g c : Nat) : Prop where
 few : h.n ≤ 1000000
 a : h.n = 0 ∨ h.a = some ⟨h.b, 0, none⟩
 m : h.m < 1000000000
 short : C0 w s mk h.b h.n h.m
 long : C0 w s mk g (h.n + 40) h.m
theorem Vo (w : World) (B k : Nat) (vl : Value) (R : List (Hl × Value)) (hc2 : w.cell? ⟨B, 2, none⟩ = some vl) (hown : w.ownsRow (B + 1) 144 3 vl R.length (Cw R)) (hk : R.length < 1000000000)
  (hR : ∀ p ∈ R, ∃ g c, p.2 = .slice (some ⟨g, 0, none⟩) (p.1.n + 40) c ∧ Tx w 1 mkL p.1 g c) :
  Calls Tryz.prog 80 #[.pointer (some ⟨B, 0, none⟩)] w fun e w' => e = .returned (.bool true) ∧ Below w.heap.size w w' := by
 have HR := Ae hR
 obtain ⟨ao, co, rfl⟩ := Hg hown
 clear hR
 go_enter Tryz.func80, Tryz.ntmps80
 go_wp2_with fail
 go_loopw [3] (fun v3 wr => ∃ i : Nat, i ≤ R.length ∧ v3 = .int .i64 i ∧ Below w.heap.size w wr) (fun v3 _ => R.length - (intOf v3).toNat)
 case atStart => exact ⟨0, by omega, rfl, by go_grown⟩
 case round =>
  obtain ⟨i, hi, rfl, HB⟩ := hrel
  have c2 := Au HB hc2
  by_cases hlt : i < R.length
  ·obtain ⟨⟨⟨a, b, n, c, m⟩, v⟩, hq⟩ : ∃ q, R[i]? = some q := ⟨_, Ai hlt⟩
   obtain ⟨gl, cl, hv, hL⟩ := HR.out _ (List.mem_of_getElem? hq)
   obtain rfl : v = .slice (some ⟨gl, 0, none⟩) (n + 40) cl := hv
   obtain ⟨g, cap, hv, hg, hcl⟩ := Gd hown (by intro e; rw [e] at hlt; simp at hlt)
   simp only [Value.slice.injEq, true_and] at hv
   obtain ⟨rfl, rfl⟩ := hv
   obtain ⟨e0, e1, e2⟩ := hcl i _ hq
   replace e0 := Au HB e0
   replace e1 := Au HB e1
   replace e2 := Au HB e2
   have hn6 : n ≤ 1000000 := hL.few
   have hmm : m < 1000000000 := hL.m
   have HL := Ae hL
   have HZ := HB.size
   clear hcl hL
   simp only at e0 e1 e2
   go_wp2_with fail
   refine Ck ?_
   intro w2 hw2
   have hb2 : Below w.heap.size w w2 := by rw [hw2]; go_grown
   have b0 : w2.cell? ⟨wr.heap.size, 0, none⟩ = some (.slice a n c) := by rw [hw2]; simp [*, go_sem]
   have b1 : w2.cell? ⟨wr.heap.size, 1, none⟩ = some (.slice (some ⟨gl, 0, none⟩) (n + 40) cl) := by rw [hw2]; simp [*, go_sem]
   have b2 : w2.cell? ⟨wr.heap.size, 2, none⟩ = some (.int .i64 (m : Nat)) := by rw [hw2]; simp [*, go_sem]
   clear hw2 HB c2 e0 e1 e2
   generalize wr.heap.size = H at *
   go_loopw [5] (fun v5 wi => ∃ k : Nat, k ≤ n + 40 ∧ v5 = .int .i64 k ∧ Below w.heap.size w wi ∧ wi.cell? ⟨H, 0, none⟩ = some (.slice a n c) ∧ wi.cell? ⟨H, 1, none⟩ = some (.slice (some ⟨gl, 0, none⟩) (n + 40) cl) ∧ wi.cell? ⟨H, 2, none⟩ = some (.int .i64 (m : Nat))) (fun v5 _ => n + 40 - (intOf v5).toNat)
   case atStart => exact ⟨0, by omega, rfl, hb2, b0, b1, b2⟩
   case round =>
    clear hb2 b0 b1 b2
    obtain ⟨k, hk40, rfl, HB, b0, b1, b2⟩ := hrel
    by_cases hkl : k < n + 40
    ·have x1 : wr.cell? ⟨gl, k, none⟩ = some (.int .u32 (1000 + (m : Int))) := by
      have := HL.out.long k hkl 0 qB
      rw [Nat.mul_one, Nat.add_zero] at this
      refine Au HB (this.trans ?_)
      simp [mkL]
     have k0 := A8 b0
     have k1 := A8 b1
     have k2 := A8 b2
     have k3 := A8 x1
     have hI := fun W => Z4 W m hmm
     by_cases hkn : k < n
     ·obtain rfl : a = some ⟨b, 0, none⟩ := HL.out.a.resolve_left (by show ¬ n = 0; omega)
      have x2 : wr.cell? ⟨b, k, none⟩ = some (.int .u32 (1000 + (m : Int))) := by
       have := HL.out.short k hkn 0 qB
       rw [Nat.mul_one, Nat.add_zero] at this
       refine Au HB (this.trans ?_)
       simp [mkL]
      have k4 := A8 x2
      have hkn' : (k : Int) < (n : Int) := by omega
      go_wp2_with fail
      (refine A9 qG qG ?_; (repeat (go_big_quiet_step (first | (go_at_call 152; exact Cz (hI _))))); refine wpQuiet_nil ?_; intro _ hw0; obtain ⟨nq, hw0⟩ := hw0; subst hw0)
      clear k4 x2
      exact qFd
     ·have hkn' : ¬ (k : Int) < (n : Int) := by omega
      go_wp2_with fail
      (refine A9 qG qG ?_; (repeat (go_big_quiet_step (first | (go_at_call 152; exact Cz (hI _))))); refine wpQuiet_nil ?_; intro _ hw0; obtain ⟨nq, hw0⟩ := hw0; subst hw0)
      exact qFd
    ·exact qDn
  ·obtain rfl : i = R.length := by omega
   clear hlt
   go_wp2_with fail
   go_ret
   exact ⟨rfl, HB⟩
theorem bC (w : World) (m : Nat) (hm : m < 1000000000) : Calls Tryz.prog 156 #[.agg #[.bool false, .slice none 0 0, .bool false, .slice none 0 0, .int .u16 (1 + (m : Int) % 60000), .int .u16 ((m : Int) / 60000), .int .u16 0, .int .u16 0], .int .i64 (m : Nat)] w fun e w' => e = .returned (.bool true) ∧ Below w.heap.size w w' := by
 go_enter Tryz.func156, Tryz.ntmps156
 go_wp2_with fail
 go_ret
 exact ⟨by simp, by go_grown⟩
theorem Uo (w : World) (B k : Nat) (vl : Value) (R : List (Hl × Value)) (hc2 : w.cell? ⟨B, 6, none⟩ = some vl) (hown : w.ownsRow (B + 1) 139 3 vl R.length (Cw R)) (hk : R.length < 1000000000)
  (hR : ∀ p ∈ R, ∃ g c, p.2 = .slice (some ⟨g, 0, none⟩) (p.1.n + 40) c ∧ Tx w 8 mkT p.1 g c) :
  Calls Tryz.prog 84 #[.pointer (some ⟨B, 0, none⟩)] w fun e w' => e = .returned (.bool true) ∧ Below w.heap.size w w' := by
 have HR := Ae hR
 obtain ⟨ao, co, rfl⟩ := Hg hown
 clear hR
 go_enter Tryz.func84, Tryz.ntmps84
 go_wp2_with fail
 go_loopw [3] (fun v3 wr => ∃ i : Nat, i ≤ R.length ∧ v3 = .int .i64 i ∧ Below w.heap.size w wr) (fun v3 _ => R.length - (intOf v3).toNat)
 case atStart => exact ⟨0, by omega, rfl, by go_grown⟩
 case round =>
  obtain ⟨i, hi, rfl, HB⟩ := hrel
  have c2 := Au HB hc2
  by_cases hlt : i < R.length
  ·obtain ⟨⟨⟨a, b, n, c, m⟩, v⟩, hq⟩ : ∃ q, R[i]? = some q := ⟨_, Ai hlt⟩
   obtain ⟨gl, cl, hv, hL⟩ := HR.out _ (List.mem_of_getElem? hq)
   obtain rfl : v = .slice (some ⟨gl, 0, none⟩) (n + 40) cl := hv
   obtain ⟨g, cap, hv, hg, hcl⟩ := Gd hown (by intro e; rw [e] at hlt; simp at hlt)
   simp only [Value.slice.injEq, true_and] at hv
   obtain ⟨rfl, rfl⟩ := hv
   obtain ⟨e0, e1, e2⟩ := hcl i _ hq
   replace e0 := Au HB e0
   replace e1 := Au HB e1
   replace e2 := Au HB e2
   have hn6 : n ≤ 1000000 := hL.few
   have hmm : m < 1000000000 := hL.m
   have HL := Ae hL
   have HZ := HB.size
   clear hcl hL
   simp only at e0 e1 e2
   go_wp2_with fail
   refine Ck ?_
   intro w2 hw2
   have hb2 : Below w.heap.size w w2 := by rw [hw2]; go_grown
   have b0 : w2.cell? ⟨wr.heap.size, 0, none⟩ = some (.slice a n c) := by rw [hw2]; simp [*, go_sem]
   have b1 : w2.cell? ⟨wr.heap.size, 1, none⟩ = some (.slice (some ⟨gl, 0, none⟩) (n + 40) cl) := by rw [hw2]; simp [*, go_sem]
   have b2 : w2.cell? ⟨wr.heap.size, 2, none⟩ = some (.int .i64 (m : Nat)) := by rw [hw2]; simp [*, go_sem]
   clear hw2 HB c2 e0 e1 e2
   generalize wr.heap.size = H at *
   go_loopw [5] (fun v5 wi => ∃ k : Nat, k ≤ n + 40 ∧ v5 = .int .i64 k ∧ Below w.heap.size w wi ∧ wi.cell? ⟨H, 0, none⟩ = some (.slice a n c) ∧ wi.cell? ⟨H, 1, none⟩ = some (.slice (some ⟨gl, 0, none⟩) (n + 40) cl) ∧ wi.cell? ⟨H, 2, none⟩ = some (.int .i64 (m : Nat))) (fun v5 _ => n + 40 - (intOf v5).toNat)
   case atStart => exact ⟨0, by omega, rfl, hb2, b0, b1, b2⟩
   case round =>
    clear hb2 b0 b1 b2
    obtain ⟨k, hk40, rfl, HB, b0, b1, b2⟩ := hrel
    by_cases hkl : k < n + 40
    ·have x0 : wr.cell? ⟨gl, k * 8, none⟩ = some (.bool false) := Au HB ((HL.out.long k hkl 0 qB).trans (by simp [mkT]))
     have x1 : wr.cell? ⟨gl, k * 8 + 1, none⟩ = some (.slice none 0 0) := Au HB ((HL.out.long k hkl 1 qB).trans (by simp [mkT]))
     have x2 : wr.cell? ⟨gl, k * 8 + 2, none⟩ = some (.bool false) := Au HB ((HL.out.long k hkl 2 qB).trans (by simp [mkT]))
     have x3 : wr.cell? ⟨gl, k * 8 + 3, none⟩ = some (.slice none 0 0) := Au HB ((HL.out.long k hkl 3 qB).trans (by simp [mkT]))
     have x4 : wr.cell? ⟨gl, k * 8 + 4, none⟩ = some (.int .u16 (1 + (m : Int) % 60000)) := Au HB ((HL.out.long k hkl 4 qB).trans (by simp [mkT]))
     have x5 : wr.cell? ⟨gl, k * 8 + 5, none⟩ = some (.int .u16 ((m : Int) / 60000)) := Au HB ((HL.out.long k hkl 5 qB).trans (by simp [mkT]))
     have x6 : wr.cell? ⟨gl, k * 8 + 6, none⟩ = some (.int .u16 0) := Au HB ((HL.out.long k hkl 6 qB).trans (by simp [mkT]))
     have x7 : wr.cell? ⟨gl, k * 8 + 7, none⟩ = some (.int .u16 0) := Au HB ((HL.out.long k hkl 7 qB).trans (by simp [mkT]))
     have k0 := A8 b0
     have k1 := A8 b1
     have k2 := A8 b2
     have kx0 := A8 x0
     have kx1 := A8 x1
     have kx2 := A8 x2
     have kx3 := A8 x3
     have kx4 := A8 x4
     have kx5 := A8 x5
     have kx6 := A8 x6
     have kx7 := A8 x7
     have hI := fun W => bC W m hmm
     by_cases hkn : k < n
     ·obtain rfl : a = some ⟨b, 0, none⟩ := HL.out.a.resolve_left (by show ¬ n = 0; omega)
      have y0 : wr.cell? ⟨b, k * 8, none⟩ = some (.bool false) := Au HB ((HL.out.short k hkn 0 qB).trans (by simp [mkT]))
      have y1 : wr.cell? ⟨b, k * 8 + 1, none⟩ = some (.slice none 0 0) := Au HB ((HL.out.short k hkn 1 qB).trans (by simp [mkT]))
      have y2 : wr.cell? ⟨b, k * 8 + 2, none⟩ = some (.bool false) := Au HB ((HL.out.short k hkn 2 qB).trans (by simp [mkT]))
      have y3 : wr.cell? ⟨b, k * 8 + 3, none⟩ = some (.slice none 0 0) := Au HB ((HL.out.short k hkn 3 qB).trans (by simp [mkT]))
      have y4 : wr.cell? ⟨b, k * 8 + 4, none⟩ = some (.int .u16 (1 + (m : Int) % 60000)) := Au HB ((HL.out.short k hkn 4 qB).trans (by simp [mkT]))
      have y5 : wr.cell? ⟨b, k * 8 + 5, none⟩ = some (.int .u16 ((m : Int) / 60000)) := Au HB ((HL.out.short k hkn 5 qB).trans (by simp [mkT]))
      have y6 : wr.cell? ⟨b, k * 8 + 6, none⟩ = some (.int .u16 0) := Au HB ((HL.out.short k hkn 6 qB).trans (by simp [mkT]))
      have y7 : wr.cell? ⟨b, k * 8 + 7, none⟩ = some (.int .u16 0) := Au HB ((HL.out.short k hkn 7 qB).trans (by simp [mkT]))
      have ky0 := A8 y0
      have ky1 := A8 y1
      have ky2 := A8 y2
      have ky3 := A8 y3
      have ky4 := A8 y4
      have ky5 := A8 y5
      have ky6 := A8 y6
      have ky7 := A8 y7
      have hkn' : (k : Int) < (n : Int) := by omega
      go_wp2_with fail
      (refine A9 qG qG ?_; (repeat (go_big_quiet_step (first | (go_at_call 156; exact Cz (hI _))))); refine wpQuiet_nil ?_; intro _ hw0; obtain ⟨nq, hw0⟩ := hw0; subst hw0)
      clear ky0 y0 ky1 y1 ky2 y2 ky3 y3 ky4 y4 ky5 y5 ky6 y6 ky7 y7
      exact qEy
     ·have hkn' : ¬ (k : Int) < (n : Int) := by omega
      go_wp2_with fail
      (refine A9 qG qG ?_; (repeat (go_big_quiet_step (first | (go_at_call 156; exact Cz (hI _))))); refine wpQuiet_nil ?_; intro _ hw0; obtain ⟨nq, hw0⟩ := hw0; subst hw0)
      exact qEy
    ·exact qDn
  ·obtain rfl : i = R.length := by omega
   clear hlt
   go_wp2_with fail
   go_ret
   exact ⟨rfl, HB⟩
end Go.Proofs.YtdamegaedmckbaaGreatDoor
end
