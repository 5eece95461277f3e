/- reckonerlaw01's looks at twins: they are as they were. No condition. -/
import Derived.Test.YtdamegaedmckbaaGreatDoorS1
import Derived.StillTailTactics
set_option linter.unusedSimpArgs false
set_option linter.unusedVariables false
namespace Go.Proofs.YtdamegaedmckbaaGreatDoor
open Go.RowKit

def RetTrue (w : World) (e : Ending) (w' : World) : Prop := e = .returned (.bool true) ∧ Below w.heap.size w w'

theorem below_drewN {B : Nat} {w w' : World} (k : Nat) (h : Below B w w') : Below B w (w'.drewN k) := h.trans ⟨rfl, rfl, rfl, Nat.le_refl _, fun _ _ => rfl⟩

set_option maxHeartbeats 400000 in
theorem LeftLimbs_c (w : World) (a : Option Addr) (n c : Nat) (a' : Option Addr) (c' : Nat) (d : List Nat) (ht : RdL w a (n + 1) c (d ++ [77])) (hd : RdL w a' n c' d) :
    Calls Tryz.prog 236 #[.slice a n c, .slice a' n c'] w (RetTrue w) := by
  have hcap := ht.cap
  have htop := ht.top
  have hlen := hd.len
  obtain ⟨b, o, rfl, _⟩ := ht.cell.resolve_left (by omega)
  go_enter Tryz.func236, Tryz.ntmps236
  go_wp2
  go_loopw [5] (fun v5 wr => ∃ k : Nat, k ≤ n ∧ v5 = .int .i64 k ∧ Below w.heap.size w wr) (fun v5 _ => n - (intOf v5).toNat)
  case atStart => exact ⟨0, Nat.zero_le _, rfl, Below.refl _ _⟩
  case round =>
    obtain ⟨k, hk, rfl, HB⟩ := hrel
    by_cases hlt : k < n
    · have c1 := (ht.keep HB).at (i := k) (by omega)
      rw [lim_append_lt _ _ _ (by omega)] at c1
      obtain ⟨b', o', rfl, _⟩ := hd.cell.resolve_left (by omega)
      have c2 := (hd.keep HB).at hlt
      clear ht hd
      go_wp2_with fail
      go_quiet (fail)
      go_wp2_with fail
      go_roundw
      case rel => exact ⟨k + 1, by omega, by go_num, below_drewN _ HB⟩
      case measure => simp [intOf]; omega
    · obtain rfl : k = n := by omega
      have c1 := (ht.keep HB).at (i := k) (by omega)
      have hl := lim_append_eq d 77
      rw [hlen] at hl
      rw [hl] at c1
      clear ht hd hl
      go_wp2_with fail
      go_ret
      exact ⟨rfl, HB⟩

theorem LeftNum_c (w : World) (g : Bool) (a : Option Addr) (n c : Nat) (a' : Option Addr) (c' : Nat) (d : List Nat) (ht : RdL w a (n + 1) c (d ++ [77])) (hd : RdL w a' n c' d) :
    Calls Tryz.prog 190 #[.agg #[.bool g, .slice a n c], .agg #[.bool g, .slice a' n c']] w (RetTrue w) := by
  have HB := Below.refl w.heap.size w
  go_enter Tryz.func190, Tryz.ntmps190
  go_wp2_with (go_at_call 236; refine (LeftLimbs_c _ _ _ _ _ _ d (ht.keep (by go_grown)) (hd.keep (by go_grown))).mono ?_; rintro e w' ⟨rfl, hb⟩; obtain ⟨hc, hf⟩ := bcell hb; have hz := hb.size; replace HB : Below w.heap.size w w' := Below.trans (by go_grown) (hb.mono (by go_size)); have HBz := HB.size)
  go_ret
  exact ⟨rfl, HB⟩

theorem LeftFrac_c (w : World) (s t : Tm) (h : TwinTm w 0 t s) (ht : RdTm w t) :
    Calls Tryz.prog 126 #[.agg #[.bool s.g1, .slice s.a1 s.n1 s.c1, .bool s.g2, .slice s.a2 s.n2 s.c2], .agg #[.bool t.g1, .slice t.a1 t.n1 t.c1, .bool t.g2, .slice t.a2 t.n2 t.c2]] w (RetTrue w) := by
  have HB := Below.refl w.heap.size w
  obtain ⟨g1, n1, d1, g2, n2, d2, m0, m1, m2, m3⟩ := h.alike
  have h1 := h.top
  have h2 := h.low
  have k1 := ht.top
  have k2 := ht.low
  rw [g1, g2, n1, n2]
  rw [n1, d1] at h1
  rw [n2, d2] at h2
  clear g1 g2 n1 n2 d1 d2 m0 m1 m2 m3 h ht
  go_enter Tryz.func126, Tryz.ntmps126
  go_wp2_with fail
  refine (LeftNum_c _ _ _ _ _ _ _ t.d1 (h1.keep (by go_grown)) (k1.keep (by go_grown))).mono ?_
  rintro e w1 ⟨rfl, hb⟩; obtain ⟨hc, hf⟩ := bcell hb; have hz := hb.size
  replace HB : Below w.heap.size w w1 := Below.trans (by go_grown) (hb.mono (by go_size))
  go_wp2_with fail
  refine (LeftNum_c _ _ _ _ _ _ _ t.d2 (h2.keep (by go_grown)) (k2.keep (by go_grown))).mono ?_
  rintro e w2 ⟨rfl, hb2⟩
  replace HB : Below w.heap.size w w2 := Below.trans HB (hb2.mono HB.size)
  go_wp2_with fail
  go_ret
  exact ⟨rfl, HB⟩

theorem LeftTerm_c (w : World) (s t : Tm) (h : TwinTm w 0 t s) (ht : RdTm w t) :
    Calls Tryz.prog 45 #[s.val, t.val] w (RetTrue w) := by
  have HB := Below.refl w.heap.size w
  have m0 := h.alike.m0
  have m1 := h.alike.m1
  have m2 := h.alike.m2
  have m3 := h.alike.m3
  unfold Tm.val
  rw [m0, m1, m2, m3]
  clear m0 m1 m2 m3
  go_enter Tryz.func45, Tryz.ntmps45
  go_wp2_with fail
  refine (LeftFrac_c _ s t (h.keep (by go_grown)) (ht.keep (by go_grown))).mono ?_
  rintro e w1 ⟨rfl, hb⟩; obtain ⟨hc, hf⟩ := bcell hb; have hz := hb.size
  replace HB : Below w.heap.size w w1 := Below.trans (by go_grown) (hb.mono (by go_size))
  go_wp2_with fail
  go_ret
  exact ⟨rfl, HB⟩

set_option maxRecDepth 100000 in
set_option maxHeartbeats 1000000 in
theorem LeftPoly_c (w : World) (a : Option Addr) (n c : Nat) (a' : Option Addr) (c' : Nat) (p s : Nat → Tm) (ht : TwinP w 0 a n c p s) (hp : RdP w a' n c' p) (hn : n ≤ 1000000) :
    Calls Tryz.prog 16 #[.slice a n c, .slice a' n c'] w (RetTrue w) := by
  obtain ⟨b, rfl, _, hcap, htop, htw, hm⟩ := ht
  have hdc : decide (c ≤ n) = false := by simp; omega
  go_enter Tryz.func16, Tryz.ntmps16
  go_wp2
  go_loopw [5] (fun v5 wr => ∃ k : Nat, k ≤ n ∧ v5 = .int .i64 k ∧ Below w.heap.size w wr) (fun v5 _ => n - (intOf v5).toNat)
  case atStart => exact ⟨0, Nat.zero_le _, rfl, Below.refl _ _⟩
  case round =>
    obtain ⟨k, hk, rfl, HB⟩ := hrel
    by_cases hlt : k < n
    · obtain ⟨b', o', rfl, _⟩ := hp.cell.resolve_left (by omega)
      obtain ⟨e0, e1, e2, e3, e4, e5, e6, e7⟩ := (hp.keep HB).at hlt
      have htk := (hp.keep HB).tm k hlt
      obtain ⟨f0, f1, f2, f3, f4, f5, f6, f7⟩ := ((htw k hlt).1).keep HB
      have htwk := ((htw k hlt).2).keep HB
      simp only [Nat.zero_add] at f0 f1 f2 f3 f4 f5 f6 f7
      clear hm
      have HT := Lib.hid htw
      clear htw
      go_wp2_with fail
      go_still_tail 8, (by kernel_rfl)
      have HB2 : Below w.heap.size w wr.drew := HB.drew
      have htk2 := htk.keep (Below.drew (Below.refl _ _))
      have htw2 := htwk.keep (Below.drew (Below.refl _ _))
      clear HB htk htwk e0 e1 e2 e3 e4 e5 e6 e7 f0 f1 f2 f3 f4 f5 f6 f7
      change wpList _ _ _ _ _ wr.drew
      generalize wr.drew = w2 at *
      go_wp2_with fail
      refine (LeftTerm_c _ (s k) (p k) htw2 htk2).mono ?_
      rintro e w3 ⟨rfl, hb⟩
      replace HB2 : Below w.heap.size w w3 := Below.trans HB2 (hb.mono HB2.size)
      go_wp2_with fail
      go_roundw
      case rel => exact ⟨k + 1, by omega, by go_num, HB2⟩
      case measure => simp [intOf]; omega
    · obtain rfl : k = n := by omega
      obtain ⟨f0, f1, f2, f3, f4, f5, f6, f7⟩ := hm.keep HB
      simp only [Nat.zero_add, mark] at f0 f1 f2 f3 f4 f5 f6 f7
      clear hm htw
      have hz := HB.size
      go_wp2_with fail
      go_ret
      exact ⟨rfl, by go_grown⟩
end Go.Proofs.YtdamegaedmckbaaGreatDoor
