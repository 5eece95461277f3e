/- The sizes that reckonerlaw01 counts. No condition. The laws' SamePoly: two sums that are the same. No further condition. The laws' SamePoly: two sums that are the same. No further condition. -/
import Derived.Test.YtdamegaedmckbaaGreatDoorX0
import Derived.Test.YtdamegaedmckbaaGreatDoorX20
import Derived.Test.YtdamegaedmckbaaGreatDoorX15
import Derived.Test.YtdamegaedmckbaaGreatDoorX7
import Derived.Test.YtdamegaedmckbaaGreatDoorX16
set_option linter.unusedSimpArgs false
set_option linter.unusedVariables false
section
namespace Go.Proofs.YtdamegaedmckbaaGreatDoor
open Go.RowKit

theorem LimbsSize_c (w : World) (a : Option Addr) (n c : Nat) :
    Calls Tryz.prog 283 #[.slice a n c] w fun e w' => e = .returned (.int .i64 n) ∧ w = w' := by
  go_enter Tryz.func283, Tryz.ntmps283
  go_wp2
  go_ret
  exact ⟨rfl, rfl⟩
theorem NumSize_c (w : World) (g : Bool) (a : Option Addr) (n c : Nat) (hn : n ≤ 35184372088832) :
    Calls Tryz.prog 230 #[.agg #[.bool g, .slice a n c]] w fun e w' => e = .returned (.int .i64 (1 + n)) ∧ Below w.heap.size w w' := by
  go_enter Tryz.func230, Tryz.ntmps230
  go_wp2_with (go_at_call 283; refine (LimbsSize_c _ _ _ _).mono ?_; rintro e w' ⟨rfl, rfl⟩)
  go_ret
  exact ⟨rfl, (Below.refl _ _).alloc (Nat.le_refl _) _⟩
def SizeIn (w : World) (lo hi : Int) (e : Ending) (w' : World) : Prop := ∃ k : Int, lo ≤ k ∧ k ≤ hi ∧ e = .returned (.int .i64 k) ∧ Below w.heap.size w w'
theorem FracSize_c (w : World) (g g' : Bool) (a a' : Option Addr) (n c n' c' : Nat) (hn : n ≤ 35184372088832) (hn' : n' ≤ 35184372088832) :
    Calls Tryz.prog 182 #[.agg #[.bool g, .slice a n c, .bool g', .slice a' n' c']] w (SizeIn w 2 70368744177667) := by
  have HB := Below.refl w.heap.size w
  go_enter Tryz.func182, Tryz.ntmps182
  go_wp2_with (go_at_call 230; refine (NumSize_c _ _ _ _ _ (by omega)).mono ?_; rintro e w' ⟨rfl, hb⟩; obtain ⟨hc, hf⟩ := bcell hb; have hz := hb.size; replace HB : Below w.heap.size w w' := Below.trans (by go_grown) (hb.mono (by go_size)); have HBz := HB.size)
  all_goals go_ret
  all_goals exact ⟨_, by omega, by omega, rfl, HB⟩
theorem TermSize_c (w : World) (g g' : Bool) (a a' : Option Addr) (n c n' c' : Nat) (m0 m1 m2 m3 : Int) (hn : n ≤ 35184372088832) (hn' : n' ≤ 35184372088832) :
    Calls Tryz.prog 113 #[.agg #[.bool g, .slice a n c, .bool g', .slice a' n' c', .int .u16 m0, .int .u16 m1, .int .u16 m2, .int .u16 m3]] w (SizeIn w 3 70368744177668) := by
  have HB := Below.refl w.heap.size w
  go_enter Tryz.func113, Tryz.ntmps113
  go_wp2_with (go_at_call 182; refine (FracSize_c _ _ _ _ _ _ _ _ _ (by omega) (by omega)).mono ?_; rintro e w' ⟨k, h1, h2, rfl, hb⟩; obtain ⟨hc, hf⟩ := bcell hb; have hz := hb.size; replace HB : Below w.heap.size w w' := Below.trans (by go_grown) (hb.mono (by go_size)); have HBz := HB.size)
  all_goals go_ret
  all_goals exact ⟨_, by omega, by omega, rfl, HB⟩
set_option maxHeartbeats 400000 in
theorem PolySize_some (w : World) (b o n c : Nat) (p : Nat → Tm) (hp : RdP w (some ⟨b, o, none⟩) n c p) :
    Calls Tryz.prog 35 #[.slice (some ⟨b, o, none⟩) n c] w (SizeIn w n 105553117315076) := by
  have hn : n ≤ 35184372088832 := hp.few
  go_enter Tryz.func35, Tryz.ntmps35
  go_wp2
  go_loopw [3, 4] (fun v3 v4 wr => ∃ (k : Nat) (s : Int), k ≤ n ∧ v4 = .int .i64 k ∧ v3 = .int .i64 s ∧ (n : Int) ≤ s ∧ s ≤ 105553117315076 ∧ Below w.heap.size w wr) (fun _ v4 _ => n - (intOf v4).toNat)
  case atStart => exact ⟨0, n, Nat.zero_le _, rfl, rfl, by omega, by omega, Below.refl _ _⟩
  case round =>
    obtain ⟨k, s, hk, rfl, rfl, hs1, hs2, HB⟩ := hrel
    have hpr := hp.keep HB
    have hz0 := HB.size
    by_cases hlt : k < n
    · by_cases hle : s ≤ 1048576
      · obtain ⟨e0, e1, e2, e3, e4, e5, e6, e7⟩ := hpr.at hlt
        have hn1 := (hpr.tm k hlt).top.few
        have hn2 := (hpr.tm k hlt).low.few
        go_wp2_with (go_at_call 113; refine (TermSize_c _ _ _ _ _ _ _ _ _ _ _ _ _ hn1 hn2).mono ?_; rintro e w' ⟨q, h1, h2, rfl, hb⟩; obtain ⟨hc, hf⟩ := bcell hb; have hz := hb.size; replace HB : Below w.heap.size w w' := Below.trans (by go_grown) (hb.mono (by go_size)); have HBz := HB.size)
        go_roundw
        case rel => exact ⟨k + 1, _, by omega, by go_num, rfl, by omega, by omega, HB⟩
        case measure => simp [intOf]; omega
      · have hle' : 1048576 < s := by omega
        go_wp2_with fail
        go_ret
        exact ⟨s, hs1, hs2, rfl, HB⟩
    · have hkn : n ≤ k := by omega
      go_wp2_with fail
      go_ret
      exact ⟨s, hs1, hs2, rfl, HB⟩
theorem PolySize_none (w : World) (a : Option Addr) (c : Nat) :
    Calls Tryz.prog 35 #[.slice a 0 c] w (SizeIn w 0 0) := by
  go_enter Tryz.func35, Tryz.ntmps35
  go_wp2
  go_rounds 1
  go_ret
  exact ⟨0, by omega, by omega, rfl, Below.refl _ _⟩
theorem PolySize_c (w : World) (a : Option Addr) (n c : Nat) (p : Nat → Tm) (hp : RdP w a n c p) :
    Calls Tryz.prog 35 #[.slice a n c] w (SizeIn w 0 105553117315076) := by
  rcases Nat.eq_zero_or_pos n with rfl | h
  · exact (PolySize_none w a c).mono fun e w' ⟨k, h1, h2, h3, h4⟩ => ⟨k, by omega, by omega, h3, h4⟩
  · obtain ⟨b, o, rfl, _⟩ := hp.cell.resolve_left (by omega)
    exact (PolySize_some w b o n c p hp).mono fun e w' ⟨k, h1, h2, h3, h4⟩ => ⟨k, by omega, h2, h3, h4⟩
/-- What 'Great' answers: if false, the terms are few, and their numbers of few parts. -/
def GreatRet (w : World) (most : Nat) (n : Nat) (p : Nat → Tm) (e : Ending) (w' : World) : Prop :=
  ∃ r : Bool, e = .returned (.bool r) ∧ (r = false → n ≤ most ∧ ∀ k, k < n → (p k).n1 ≤ 4 ∧ (p k).n2 ≤ 1) ∧ Below w.heap.size w w'
set_option maxHeartbeats 1000000 in
theorem Great_c (w : World) (B most : Nat) (a : Option Addr) (n c : Nat) (p : Nat → Tm) (hm : most ≤ 60) (hl : w.cell? ⟨B, 0, none⟩ = some (.slice a n c)) (hp : RdP w a n c p) :
    Calls Tryz.prog 12 #[.int .i64 most, .slice (some ⟨B, 0, none⟩) 1 1] w (GreatRet w most n p) := by
  have HB := Below.refl w.heap.size w
  have hn := hp.few
  have hB := World.block_lt_of_cell? w _ hl
  by_cases h1 : most < n
  · go_enter Tryz.func12, Tryz.ntmps12
    go_wp2_with fail
    refine wp_loop_rounds 2 ?_
    rw [rounds_succ]
    go_wp2_with fail
    go_ret
    exact ⟨true, rfl, (fun h => by cases h), HB⟩
  · have h1' : n ≤ most := by omega
    go_enter Tryz.func12, Tryz.ntmps12
    go_wp2_with fail
    refine wp_loop_rounds 2 ?_
    rw [rounds_succ]
    go_wp2_with fail
    refine (PolySize_c _ _ _ _ p (hp.keep HB)).mono ?_
    rintro e w1 ⟨q, _, _, rfl, hb⟩
    have hl' := cell_keep hb hl
    have hp' := hp.keep hb
    clear hl hp
    go_wp2_with fail
    · go_ret
      exact ⟨true, rfl, (fun h => by cases h), hb⟩
    · go_loop [6] (fun v6 => ∃ k : Nat, k ≤ n ∧ v6 = .int .i64 k ∧ (∀ j, j < k → (p j).n1 ≤ 4 ∧ (p j).n2 ≤ 1)) (fun v6 => n - (intOf v6).toNat)
      case atStart => exact ⟨0, Nat.zero_le _, rfl, fun j hj => absurd hj (Nat.not_lt_zero _)⟩
      case round =>
        obtain ⟨k, hk, rfl, hall⟩ := hrel
        have HA := Lib.hid hall
        clear hall
        by_cases hlt : k < n
        · obtain ⟨b, o, rfl, _⟩ := hp'.cell.resolve_left (by omega)
          obtain ⟨e0, e1, e2, e3, e4, e5, e6, e7⟩ := hp'.at hlt
          by_cases h4 : 4 < (p k).n1
          · go_wp2_with fail
            go_ret
            exact ⟨true, rfl, (fun h => by cases h), hb⟩
          · have h4' : (p k).n1 ≤ 4 := by omega
            by_cases h5 : 1 < (p k).n2
            · go_wp2_with fail
              go_ret
              exact ⟨true, rfl, (fun h => by cases h), hb⟩
            · have h5' : (p k).n2 ≤ 1 := by omega
              go_wp2_with fail
              go_round
              case rel =>
                refine ⟨k + 1, by omega, by go_num, fun j hj => ?_⟩
                rcases Nat.lt_succ_iff_lt_or_eq.1 hj with h | rfl
                · exact HA.out j h
                · exact ⟨h4', h5'⟩
              case measure => simp [intOf]; omega
        · have hkn : n ≤ k := by omega
          go_wp2_with fail
          rw [rounds_succ]
          go_wp2_with fail
          go_ret
          exact ⟨false, rfl, (fun _ => ⟨h1', fun j hj => HA.out j (by omega)⟩), hb⟩
end Go.Proofs.YtdamegaedmckbaaGreatDoor
end
section
namespace Go.Proofs.YtdamegaedmckbaaGreatDoor
open Go.RowKit

set_option maxRecDepth 100000 in
set_option maxHeartbeats 4000000 in
theorem sameLimbs_c (w : World) (a : Option Addr) (n c : Nat) (d : List Nat) (hd : RdL w a n c d) (a' : Option Addr) (c' : Nat) (hd' : RdL w a' n c' d) :
    Calls Tryz.prog 254 #[.slice a n c, .slice a' n c'] w fun e w' => e = .returned (.bool true) ∧ Below w.heap.size w w' := by
  have HB := Below.refl w.heap.size w
  have hfew := hd.few
  go_enter Tryz.func254, Tryz.ntmps254
  go_wp2_with fail
  go_loopw [5] (fun v wr => ∃ k : Nat, k ≤ n ∧ v = .int .i64 k ∧ Below w.heap.size w wr) (fun v _ => n - (intOf v).toNat)
  case atStart => exact ⟨0, by omega, rfl, HB⟩
  case round =>
    obtain ⟨k, hk, rfl, HB⟩ := hrel
    by_cases hlt : k < n
    · obtain ⟨b, o, rfl, hc⟩ := (hd.keep HB).at' hlt
      obtain ⟨b', o', rfl, hc'⟩ := (hd'.keep HB).at' hlt
      generalize lim d k = x at *
      go_wp2_with fail
      go_quiet (fail)
      go_wp2_with fail
      go_roundw
      case rel => exact ⟨k + 1, by omega, by go_num, below_drewN _ HB⟩
      case measure => (first | (simp [intOf]; omega) | (simp [intOf]; done))
    · obtain rfl : k = n := by omega
      go_wp2_with fail
      go_ret
      exact ⟨rfl, by first | assumption | go_grown⟩
set_option maxRecDepth 100000 in
set_option maxHeartbeats 4000000 in
theorem sameNum_c (w : World) (g : Bool) (a : Option Addr) (n c : Nat) (d : List Nat) (hd : RdL w a n c d) (a' : Option Addr) (c' : Nat) (hd' : RdL w a' n c' d) :
    Calls Tryz.prog 205 #[.agg #[.bool g, .slice a n c], .agg #[.bool g, .slice a' n c']] w fun e w' => e = .returned (.bool true) ∧ Below w.heap.size w w' := by
  have HB := Below.refl w.heap.size w
  go_enter Tryz.func205, Tryz.ntmps205
  go_wp2_with (first | (go_at_call 254; refine (sameLimbs_c _ a n c d (hd.keep (by go_grown)) a' c' (hd'.keep (by go_grown))).mono ?_; rintro e w1 ⟨rfl, hb⟩; have HB1 : Below w.heap.size w w1 := Below.trans (by go_grown) (hb.mono (by go_size))))
  go_ret
  exact ⟨rfl, by first | assumption | go_grown⟩
end Go.Proofs.YtdamegaedmckbaaGreatDoor
end
section
namespace Go.Proofs.YtdamegaedmckbaaGreatDoor
open Go.RowKit
set_option maxRecDepth 100000 in
set_option maxHeartbeats 4000000 in
theorem sameFrac_c (w : World) (g1 : Bool) (a1 : Option Addr) (n1 c1 : Nat) (d1 : List Nat) (h1 : RdL w a1 n1 c1 d1) (g2 : Bool) (a2 : Option Addr) (n2 c2 : Nat) (d2 : List Nat) (h2 : RdL w a2 n2 c2 d2) (a3 : Option Addr) (c3 : Nat) (h3 : RdL w a3 n1 c3 d1) (a4 : Option Addr) (c4 : Nat) (h4 : RdL w a4 n2 c4 d2) :
    Calls Tryz.prog 137 #[.agg #[.bool g1, .slice a1 n1 c1, .bool g2, .slice a2 n2 c2], .agg #[.bool g1, .slice a3 n1 c3, .bool g2, .slice a4 n2 c4]] w fun e w' => e = .returned (.bool true) ∧ Below w.heap.size w w' := by
  go_enter Tryz.func137, Tryz.ntmps137
  go_wp2_with fail
  refine calls_name ?_
  intro W0 hW0
  have hb0 : Below w.heap.size w W0 := by rw [hW0]; go_grown
  have s2 : W0.cell? ⟨w.heap.size, 2, none⟩ = some (.bool g2) := by rw [hW0]; simp [go_sem]
  have s3 : W0.cell? ⟨w.heap.size, 3, none⟩ = some (.slice a2 n2 c2) := by rw [hW0]; simp [go_sem]
  have s6 : W0.cell? ⟨w.heap.size + 1, 2, none⟩ = some (.bool g2) := by rw [hW0]; simp [go_sem]
  have s7 : W0.cell? ⟨w.heap.size + 1, 3, none⟩ = some (.slice a4 n2 c4) := by rw [hW0]; simp [go_sem]
  clear hW0
  refine (sameNum_c W0 g1 a1 n1 c1 d1 (h1.keep hb0) a3 c3 (h3.keep hb0)).mono ?_
  rintro e w1 ⟨rfl, hb1⟩
  replace s2 := cell_keep hb1 s2; replace s3 := cell_keep hb1 s3; replace s6 := cell_keep hb1 s6; replace s7 := cell_keep hb1 s7
  have hb01 := hb0.trans (hb1.mono hb0.size)
  go_wp2_with fail
  refine (sameNum_c w1 g2 a2 n2 c2 d2 (h2.keep hb01) a4 c4 (h4.keep hb01)).mono ?_
  rintro e w2 ⟨rfl, hb2⟩
  go_wp2_with fail
  go_ret
  exact ⟨rfl, hb01.trans (hb2.mono hb01.size)⟩
set_option maxRecDepth 100000 in
set_option maxHeartbeats 4000000 in
theorem sameTerm_c (w : World) (s t : Tm) (hs : RdTm w s) (ht : RdTm w t) (e1 : s.g1 = t.g1) (e2 : s.d1 = t.d1) (e3 : s.g2 = t.g2) (e4 : s.d2 = t.d2) (q0 : s.m0 = t.m0) (q1 : s.m1 = t.m1) (q2 : s.m2 = t.m2) (q3 : s.m3 = t.m3) :
    Calls Tryz.prog 52 #[s.val, t.val] w fun e w' => e = .returned (.bool true) ∧ Below w.heap.size w w' := by
  obtain ⟨g1, a1, n1, c1, d1, g2, a2, n2, c2, d2, m0, m1, m2, m3⟩ := s
  obtain ⟨g1', a1', n1', c1', d1', g2', a2', n2', c2', d2', m0', m1', m2', m3'⟩ := t
  simp only at e1 e2 e3 e4 q0 q1 q2 q3
  subst e1 e2 e3 e4 q0 q1 q2 q3
  have h1 := hs.top
  have h2 := hs.low
  have h3 := ht.top
  have h4 := ht.low
  simp only at h1 h2 h3 h4
  obtain rfl : n1 = n1' := h1.len.symm.trans h3.len
  obtain rfl : n2 = n2' := h2.len.symm.trans h4.len
  show Calls Tryz.prog 52 #[.agg #[.bool g1, .slice a1 n1 c1, .bool g2, .slice a2 n2 c2, .int .u16 m0, .int .u16 m1, .int .u16 m2, .int .u16 m3], .agg #[.bool g1, .slice a1' n1 c1', .bool g2, .slice a2' n2 c2', .int .u16 m0, .int .u16 m1, .int .u16 m2, .int .u16 m3]] w _
  clear hs ht
  go_enter Tryz.func52, Tryz.ntmps52
  go_wp2_with fail
  refine calls_name ?_
  intro W0 hW0
  have hb0 : Below w.heap.size w W0 := by rw [hW0]; go_grown
  have s0 : W0.cell? ⟨w.heap.size, 4, none⟩ = some (.int .u16 m0) := by rw [hW0]; simp [go_sem]
  have t0 : W0.cell? ⟨w.heap.size + 1, 4, none⟩ = some (.int .u16 m0) := by rw [hW0]; simp [go_sem]
  have s1 : W0.cell? ⟨w.heap.size, 5, none⟩ = some (.int .u16 m1) := by rw [hW0]; simp [go_sem]
  have t1 : W0.cell? ⟨w.heap.size + 1, 5, none⟩ = some (.int .u16 m1) := by rw [hW0]; simp [go_sem]
  have s2 : W0.cell? ⟨w.heap.size, 6, none⟩ = some (.int .u16 m2) := by rw [hW0]; simp [go_sem]
  have t2 : W0.cell? ⟨w.heap.size + 1, 6, none⟩ = some (.int .u16 m2) := by rw [hW0]; simp [go_sem]
  have s3 : W0.cell? ⟨w.heap.size, 7, none⟩ = some (.int .u16 m3) := by rw [hW0]; simp [go_sem]
  have t3 : W0.cell? ⟨w.heap.size + 1, 7, none⟩ = some (.int .u16 m3) := by rw [hW0]; simp [go_sem]
  clear hW0
  refine (sameFrac_c W0 g1 a1 n1 c1 d1 (h1.keep hb0) g2 a2 n2 c2 d2 (h2.keep hb0) a1' c1' (h3.keep hb0) a2' c2' (h4.keep hb0)).mono ?_
  rintro e w1 ⟨rfl, hb1⟩
  replace s0 := cell_keep hb1 s0; replace t0 := cell_keep hb1 t0; replace s1 := cell_keep hb1 s1; replace t1 := cell_keep hb1 t1; replace s2 := cell_keep hb1 s2; replace t2 := cell_keep hb1 t2; replace s3 := cell_keep hb1 s3; replace t3 := cell_keep hb1 t3
  have hb01 := hb0.trans (hb1.mono hb0.size)
  go_wp2_with fail
  go_ret
  exact ⟨by simp, hb01⟩
theorem tmIs_same {s t : Tm} {x : PT} {w : World} (hs : TmIs s x) (ht : TmIs t x) (rs : RdTm w s) (rt : RdTm w t) : s.g1 = t.g1 ∧ s.d1 = t.d1 ∧ s.g2 = t.g2 ∧ s.d2 = t.d2 ∧ s.m0 = t.m0 ∧ s.m1 = t.m1 ∧ s.m2 = t.m2 ∧ s.m3 = t.m3 :=
  ⟨hs.g1.trans ht.g1.symm, hs.d1.trans ht.d1.symm, hs.g2.trans ht.g2.symm, hs.d2.trans ht.d2.symm, key4_inj rs.s0 rs.s1 rs.s2 rs.s3 rt.s0 rt.s1 rt.s2 rt.s3 (hs.key.trans ht.key.symm)⟩
set_option maxRecDepth 100000 in
set_option maxHeartbeats 4000000 in
theorem samePoly_c (w : World) (B : Nat) (a : Option Addr) (n c : Nat) (l : List PT) (h : PolyAt w B a n c l) (B' : Nat) (a' : Option Addr) (n' c' : Nat) (h' : PolyAt w B' a' n' c' l) :
    Calls Tryz.prog 19 #[.slice a n c, .slice a' n' c'] w fun e w' => e = .returned (.bool true) ∧ Below w.heap.size w w' := by
  have HB := Below.refl w.heap.size w
  obtain rfl : n = n' := h.len.symm.trans h'.len
  obtain ⟨p, hp, hpx⟩ := h.ts
  obtain ⟨q, hq, hqx⟩ := h'.ts
  have hl := h.len
  have hfew := hp.few
  have HS : Hid (∀ k, k < n → (p k).g1 = (q k).g1 ∧ (p k).d1 = (q k).d1 ∧ (p k).g2 = (q k).g2 ∧ (p k).d2 = (q k).d2 ∧ (p k).m0 = (q k).m0 ∧ (p k).m1 = (q k).m1 ∧ (p k).m2 = (q k).m2 ∧ (p k).m3 = (q k).m3) := Lib.hid fun k hk => by
    obtain ⟨x, hx⟩ : ∃ x, l[k]? = some x := ⟨_, List.getElem?_eq_getElem (by omega)⟩
    exact tmIs_same (hpx k x hx).1 (hqx k x hx).1 (hp.tm k hk) (hq.tm k hk)
  clear hpx hqx h h' hl
  go_enter Tryz.func19, Tryz.ntmps19
  go_wp2_with fail
  go_loopw [5] (fun v wr => ∃ k : Nat, k ≤ n ∧ v = .int .i64 k ∧ Below w.heap.size w wr) (fun v _ => n - (intOf v).toNat)
  case atStart => exact ⟨0, by omega, rfl, HB⟩
  case round =>
    obtain ⟨k, hk, rfl, HB⟩ := hrel
    by_cases hlt : k < n
    · obtain ⟨b, o, rfl, _⟩ := hp.cell.resolve_left (by omega)
      obtain ⟨b', o', rfl, _⟩ := hq.cell.resolve_left (by omega)
      obtain ⟨e0, e1, e2, e3, e4, e5, e6, e7⟩ := (hp.keep HB).at hlt
      obtain ⟨i0, i1, i2, i3, i4, i5, i6, i7⟩ := (hq.keep HB).at hlt
      have hC := fun W (hW : Below w.heap.size w W) => sameTerm_c W (p k) (q k) ((hp.tm k hlt).keep hW) ((hq.tm k hlt).keep hW) (HS.out k hlt).1 (HS.out k hlt).2.1 (HS.out k hlt).2.2.1 (HS.out k hlt).2.2.2.1 (HS.out k hlt).2.2.2.2.1 (HS.out k hlt).2.2.2.2.2.1 (HS.out k hlt).2.2.2.2.2.2.1 (HS.out k hlt).2.2.2.2.2.2.2
      have HC := Lib.hid hC
      clear hC
      go_wp2_with fail
      replace e0 := growC e0; replace i0 := growC i0; replace e1 := growC e1; replace i1 := growC i1; replace e2 := growC e2; replace i2 := growC i2; replace e3 := growC e3; replace i3 := growC i3; replace e4 := growC e4; replace i4 := growC i4; replace e5 := growC e5; replace i5 := growC i5; replace e6 := growC e6; replace i6 := growC i6; replace e7 := growC e7; replace i7 := growC i7
      (refine wp_region_grow (by kernel_rfl) (by kernel_rfl) ?_; (repeat (go_big_quiet_step (first | (go_at_call 52; exact growL (HC.out _ (HB.trans (Below.mono (Subtype.property _) HB.size))))))); refine wpQuiet_nil ?_; intro _ hw0; obtain ⟨nq, hw0⟩ := hw0; subst hw0)
      obtain ⟨w3, hb3⟩ := nq
      try dsimp only
      go_wp2_with fail
      go_roundw
      case rel => exact ⟨k + 1, by omega, by go_num, HB.trans (hb3.mono HB.size)⟩
      case measure => (first | (simp [intOf]; omega) | (simp [intOf]; done))
    · obtain rfl : k = n := by omega
      go_wp2_with fail
      go_ret
      exact ⟨rfl, by first | assumption | go_grown⟩
end Go.Proofs.YtdamegaedmckbaaGreatDoor
end
