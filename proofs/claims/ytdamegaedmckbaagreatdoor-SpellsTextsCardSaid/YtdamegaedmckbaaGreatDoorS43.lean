/- The sizes that reckonerlaw01 counts. No condition. SpellsTexts: the law's own walk. -/
import Derived.Test.YtdamegaedmckbaaGreatDoorS0
import Derived.Test.YtdamegaedmckbaaGreatDoorS42
set_option linter.unusedSimpArgs false
set_option linter.unusedVariables false
section
namespace Go.Proofs.YtdamegaedmckbaaGreatDoor
open Go.RowKit

theorem LimbsSize_c (w : World) (a : Option Addr) (n c : Nat) :
    Calls Tryz.prog 283 #[.slice a n c] w fun e w' => e = .returned (.int .i64 n) ∧ w = w' := by
  go_enter Tryz.func283, Tryz.ntmps283
  go_wp2
  go_ret
  exact ⟨rfl, rfl⟩

theorem NumSize_c (w : World) (g : Bool) (a : Option Addr) (n c : Nat) (hn : n ≤ 35184372088832) :
    Calls Tryz.prog 230 #[.agg #[.bool g, .slice a n c]] w fun e w' => e = .returned (.int .i64 (1 + n)) ∧ Below w.heap.size w w' := by
  go_enter Tryz.func230, Tryz.ntmps230
  go_wp2_with (go_at_call 283; refine (LimbsSize_c _ _ _ _).mono ?_; rintro e w' ⟨rfl, rfl⟩)
  go_ret
  exact ⟨rfl, (Below.refl _ _).alloc (Nat.le_refl _) _⟩

def SizeIn (w : World) (lo hi : Int) (e : Ending) (w' : World) : Prop := ∃ k : Int, lo ≤ k ∧ k ≤ hi ∧ e = .returned (.int .i64 k) ∧ Below w.heap.size w w'

theorem FracSize_c (w : World) (g g' : Bool) (a a' : Option Addr) (n c n' c' : Nat) (hn : n ≤ 35184372088832) (hn' : n' ≤ 35184372088832) :
    Calls Tryz.prog 182 #[.agg #[.bool g, .slice a n c, .bool g', .slice a' n' c']] w (SizeIn w 2 70368744177667) := by
  have HB := Below.refl w.heap.size w
  go_enter Tryz.func182, Tryz.ntmps182
  go_wp2_with (go_at_call 230; refine (NumSize_c _ _ _ _ _ (by omega)).mono ?_; rintro e w' ⟨rfl, hb⟩; obtain ⟨hc, hf⟩ := bcell hb; have hz := hb.size; replace HB : Below w.heap.size w w' := Below.trans (by go_grown) (hb.mono (by go_size)); have HBz := HB.size)
  all_goals go_ret
  all_goals exact ⟨_, by omega, by omega, rfl, HB⟩

theorem TermSize_c (w : World) (g g' : Bool) (a a' : Option Addr) (n c n' c' : Nat) (m0 m1 m2 m3 : Int) (hn : n ≤ 35184372088832) (hn' : n' ≤ 35184372088832) :
    Calls Tryz.prog 113 #[.agg #[.bool g, .slice a n c, .bool g', .slice a' n' c', .int .u16 m0, .int .u16 m1, .int .u16 m2, .int .u16 m3]] w (SizeIn w 3 70368744177668) := by
  have HB := Below.refl w.heap.size w
  go_enter Tryz.func113, Tryz.ntmps113
  go_wp2_with (go_at_call 182; refine (FracSize_c _ _ _ _ _ _ _ _ _ (by omega) (by omega)).mono ?_; rintro e w' ⟨k, h1, h2, rfl, hb⟩; obtain ⟨hc, hf⟩ := bcell hb; have hz := hb.size; replace HB : Below w.heap.size w w' := Below.trans (by go_grown) (hb.mono (by go_size)); have HBz := HB.size)
  all_goals go_ret
  all_goals exact ⟨_, by omega, by omega, rfl, HB⟩

set_option maxHeartbeats 400000 in
theorem PolySize_some (w : World) (b o n c : Nat) (p : Nat → Tm) (hp : RdP w (some ⟨b, o, none⟩) n c p) :
    Calls Tryz.prog 35 #[.slice (some ⟨b, o, none⟩) n c] w (SizeIn w n 105553117315076) := by
  have hn : n ≤ 35184372088832 := hp.few
  go_enter Tryz.func35, Tryz.ntmps35
  go_wp2
  go_loopw [3, 4] (fun v3 v4 wr => ∃ (k : Nat) (s : Int), k ≤ n ∧ v4 = .int .i64 k ∧ v3 = .int .i64 s ∧ (n : Int) ≤ s ∧ s ≤ 105553117315076 ∧ Below w.heap.size w wr) (fun _ v4 _ => n - (intOf v4).toNat)
  case atStart => exact ⟨0, n, Nat.zero_le _, rfl, rfl, by omega, by omega, Below.refl _ _⟩
  case round =>
    obtain ⟨k, s, hk, rfl, rfl, hs1, hs2, HB⟩ := hrel
    have hpr := hp.keep HB
    have hz0 := HB.size
    by_cases hlt : k < n
    · by_cases hle : s ≤ 1048576
      · obtain ⟨e0, e1, e2, e3, e4, e5, e6, e7⟩ := hpr.at hlt
        have hn1 := (hpr.tm k hlt).top.few
        have hn2 := (hpr.tm k hlt).low.few
        go_wp2_with (go_at_call 113; refine (TermSize_c _ _ _ _ _ _ _ _ _ _ _ _ _ hn1 hn2).mono ?_; rintro e w' ⟨q, h1, h2, rfl, hb⟩; obtain ⟨hc, hf⟩ := bcell hb; have hz := hb.size; replace HB : Below w.heap.size w w' := Below.trans (by go_grown) (hb.mono (by go_size)); have HBz := HB.size)
        go_roundw
        case rel => exact ⟨k + 1, _, by omega, by go_num, rfl, by omega, by omega, HB⟩
        case measure => simp [intOf]; omega
      · have hle' : 1048576 < s := by omega
        go_wp2_with fail
        go_ret
        exact ⟨s, hs1, hs2, rfl, HB⟩
    · have hkn : n ≤ k := by omega
      go_wp2_with fail
      go_ret
      exact ⟨s, hs1, hs2, rfl, HB⟩

theorem PolySize_none (w : World) (a : Option Addr) (c : Nat) :
    Calls Tryz.prog 35 #[.slice a 0 c] w (SizeIn w 0 0) := by
  go_enter Tryz.func35, Tryz.ntmps35
  go_wp2
  go_rounds 1
  go_ret
  exact ⟨0, by omega, by omega, rfl, Below.refl _ _⟩

theorem PolySize_c (w : World) (a : Option Addr) (n c : Nat) (p : Nat → Tm) (hp : RdP w a n c p) :
    Calls Tryz.prog 35 #[.slice a n c] w (SizeIn w 0 105553117315076) := by
  rcases Nat.eq_zero_or_pos n with rfl | h
  · exact (PolySize_none w a c).mono fun e w' ⟨k, h1, h2, h3, h4⟩ => ⟨k, by omega, by omega, h3, h4⟩
  · obtain ⟨b, o, rfl, _⟩ := hp.cell.resolve_left (by omega)
    exact (PolySize_some w b o n c p hp).mono fun e w' ⟨k, h1, h2, h3, h4⟩ => ⟨k, by omega, h2, h3, h4⟩

/-- What 'Great' answers: if false, the terms are few, and their numbers of few parts. -/
def GreatRet (w : World) (most : Nat) (n : Nat) (p : Nat → Tm) (e : Ending) (w' : World) : Prop :=
  ∃ r : Bool, e = .returned (.bool r) ∧ (r = false → n ≤ most ∧ ∀ k, k < n → (p k).n1 ≤ 4 ∧ (p k).n2 ≤ 1) ∧ Below w.heap.size w w'

set_option maxHeartbeats 1000000 in
theorem Great_c (w : World) (B most : Nat) (a : Option Addr) (n c : Nat) (p : Nat → Tm) (hm : most ≤ 60) (hl : w.cell? ⟨B, 0, none⟩ = some (.slice a n c)) (hp : RdP w a n c p) :
    Calls Tryz.prog 12 #[.int .i64 most, .slice (some ⟨B, 0, none⟩) 1 1] w (GreatRet w most n p) := by
  have HB := Below.refl w.heap.size w
  have hn := hp.few
  have hB := World.block_lt_of_cell? w _ hl
  by_cases h1 : most < n
  · go_enter Tryz.func12, Tryz.ntmps12
    go_wp2_with fail
    refine wp_loop_rounds 2 ?_
    rw [rounds_succ]
    go_wp2_with fail
    go_ret
    exact ⟨true, rfl, (fun h => by cases h), HB⟩
  · have h1' : n ≤ most := by omega
    go_enter Tryz.func12, Tryz.ntmps12
    go_wp2_with fail
    refine wp_loop_rounds 2 ?_
    rw [rounds_succ]
    go_wp2_with fail
    refine (PolySize_c _ _ _ _ p (hp.keep HB)).mono ?_
    rintro e w1 ⟨q, _, _, rfl, hb⟩
    have hl' := cell_keep hb hl
    have hp' := hp.keep hb
    clear hl hp
    go_wp2_with fail
    · go_ret
      exact ⟨true, rfl, (fun h => by cases h), hb⟩
    · go_loop [6] (fun v6 => ∃ k : Nat, k ≤ n ∧ v6 = .int .i64 k ∧ (∀ j, j < k → (p j).n1 ≤ 4 ∧ (p j).n2 ≤ 1)) (fun v6 => n - (intOf v6).toNat)
      case atStart => exact ⟨0, Nat.zero_le _, rfl, fun j hj => absurd hj (Nat.not_lt_zero _)⟩
      case round =>
        obtain ⟨k, hk, rfl, hall⟩ := hrel
        have HA := Lib.hid hall
        clear hall
        by_cases hlt : k < n
        · obtain ⟨b, o, rfl, _⟩ := hp'.cell.resolve_left (by omega)
          obtain ⟨e0, e1, e2, e3, e4, e5, e6, e7⟩ := hp'.at hlt
          by_cases h4 : 4 < (p k).n1
          · go_wp2_with fail
            go_ret
            exact ⟨true, rfl, (fun h => by cases h), hb⟩
          · have h4' : (p k).n1 ≤ 4 := by omega
            by_cases h5 : 1 < (p k).n2
            · go_wp2_with fail
              go_ret
              exact ⟨true, rfl, (fun h => by cases h), hb⟩
            · have h5' : (p k).n2 ≤ 1 := by omega
              go_wp2_with fail
              go_round
              case rel =>
                refine ⟨k + 1, by omega, by go_num, fun j hj => ?_⟩
                rcases Nat.lt_succ_iff_lt_or_eq.1 hj with h | rfl
                · exact HA.out j h
                · exact ⟨h4', h5'⟩
              case measure => simp [intOf]; omega
        · have hkn : n ≤ k := by omega
          go_wp2_with fail
          rw [rounds_succ]
          go_wp2_with fail
          go_ret
          exact ⟨false, rfl, (fun _ => ⟨h1', fun j hj => HA.out j (by omega)⟩), hb⟩
end Go.Proofs.YtdamegaedmckbaaGreatDoor
end
section
set_option linter.unusedSimpArgs false
set_option linter.unusedVariables false
namespace Go.Proofs.YtdamegaedmckbaaGreatDoor
open Go.RowKit

theorem RdL.front {w : World} {a : Option Addr} {n c : Nat} {d : List Nat} (h : RdL w a (n + 1) c (d ++ [77])) : RdL w a n c d := by
  have hl : d.length = n := by have := h.len; simp at this; omega
  refine ⟨hl, by have := h.cap; omega, by have := h.few; omega, h.top, fun i => ?_, ?_⟩
  · by_cases hi : i < d.length
    · have := h.small i
      rwa [lim_append_lt _ _ _ hi] at this
    · rw [lim_out (by omega)]; omega
  · obtain ⟨b, o, ha, hc⟩ := h.cell.resolve_left (by omega)
    refine .inr ⟨b, o, ha, fun i hi => ?_⟩
    have := hc i (by omega)
    rwa [lim_append_lt _ _ _ (by omega)] at this

theorem TwinP.rd {w : World} {B : Nat} {a : Option Addr} {n c : Nat} {p s : Nat → Tm} (h : TwinP w B a n c p s) (hs : ∀ j, j < n → (p j).m0 < 65536 ∧ (p j).m1 < 65536 ∧ (p j).m2 < 65536 ∧ (p j).m3 < 65536) : RdP w a n c s := by
  obtain ⟨b, rfl, hb, hnc, hc, hall, hm⟩ := h
  refine ⟨by omega, by omega, by omega, fun j hj => ?_, .inr ⟨b, 0, rfl, fun j hj => (hall j hj).1⟩⟩
  obtain ⟨_, ht⟩ := hall j hj
  have hk := hs j hj
  exact ⟨ht.top.front, ht.low.front, by rw [ht.alike.m0]; exact hk.1, by rw [ht.alike.m1]; exact hk.2.1, by rw [ht.alike.m2]; exact hk.2.2.1, by rw [ht.alike.m3]; exact hk.2.2.2⟩

theorem alike_small {p s : Nat → Tm} {n : Nat} (h : ∀ j, j < n → Alike (s j) (p j)) (hp : SmallP p n) : SmallP s n := fun j hj => by
  rw [(h j hj).n1, (h j hj).n2]; exact hp j hj

theorem alike_mono {s t : Tm} (h : Alike s t) : s.mono = t.mono := by
  unfold Tm.mono
  rw [h.m0, h.m1, h.m2, h.m3]

theorem alike_ok {p s : Nat → Tm} {n : Nat} (h : ∀ j, j < n → Alike (s j) (p j)) : POk s n ↔ POk p n := by
  have key : ∀ j, j < n → (okAt s j ↔ okAt p j) := fun j hj => by
    have h1 := h j hj
    unfold okAt TOk
    rw [h1.g1, h1.d1, h1.g2, h1.d2, alike_mono h1]
    constructor
    · rintro ⟨a, b⟩
      refine ⟨a, fun h0 => ?_⟩
      have := b h0
      rwa [alike_mono (h (j - 1) (by omega))] at this
    · rintro ⟨a, b⟩
      refine ⟨a, fun h0 => ?_⟩
      rw [alike_mono (h (j - 1) (by omega))]
      exact b h0
  exact ⟨fun H j hj => (key j hj).1 (H j hj), fun H j hj => (key j hj).2 (H j hj)⟩

theorem alike_allS {p s : Nat → Tm} {n : Nat} (h : ∀ j, j < n → Alike (s j) (p j)) : ∀ k, k ≤ n → allS (pNeg s) (pTxt s) (pMon s) k = allS (pNeg p) (pTxt p) (pMon p) k := by
  intro k
  induction k with
  | zero => intro _; rfl
  | succ k ih =>
    intro hk
    have h1 := h k (by omega)
    rw [allS, allS, ih (by omega)]
    have e1 : pNeg s k = pNeg p k := h1.g1
    have e2 : pTxt s k = pTxt p k := by unfold pTxt; rw [h1.d1, h1.d2]
    have e3 : pMon s k = pMon p k := by unfold pMon; rw [h1.m0, h1.m1, h1.m2, h1.m3]
    rw [e1, e2, e3]

theorem alike_text {p s : Nat → Tm} {n : Nat} (h : ∀ j, j < n → Alike (s j) (p j)) : bothText s n = bothText p n := by
  unfold bothText
  by_cases hr : POk p n
  · rw [if_pos hr, if_pos ((alike_ok h).2 hr), stext, stext, alike_allS h n (Nat.le_refl _)]
  · rw [if_neg hr, if_neg (fun e => hr ((alike_ok h).1 e))]

theorem TwinP.keep {w w' : World} {B : Nat} {a : Option Addr} {n c : Nat} {p s : Nat → Tm} (h : TwinP w B a n c p s) (hb : Below w.heap.size w w') : TwinP w' B a n c p s := by
  obtain ⟨b, ha, hB, hnc, hc, hall, hm⟩ := h
  exact ⟨b, ha, hB, hnc, hc, fun j hj => ⟨(hall j hj).1.keep hb, (hall j hj).2.keep hb⟩, hm.keep hb⟩

theorem TwinP.mono {w : World} {B B' : Nat} {a : Option Addr} {n c : Nat} {p s : Nat → Tm} (h : TwinP w B a n c p s) (hB : B' ≤ B) : TwinP w B' a n c p s := by
  obtain ⟨b, ha, hb, hnc, hc, hall, hm⟩ := h
  exact ⟨b, ha, Nat.le_trans hB hb, hnc, hc, fun j hj => ⟨(hall j hj).1, (hall j hj).2.mono hB⟩, hm⟩

set_option maxRecDepth 100000 in
set_option maxHeartbeats 2000000 in
theorem SpellsTexts_c (w : World) (a : Option Addr) (n c : Nat) (p : Nat → Tm) (hp : RdP w a n c p) (hT : Tab w) :
    Calls Tryz.prog 3 #[.slice a n c] w (RetTrue w) := by
  have HB := Below.refl w.heap.size w
  go_enter Tryz.func3, Tryz.ntmps3
  go_wp2_with fail
  refine (Great_c _ w.heap.size 60 a n c p (by omega) (by simp [go_sem]) (hp.keep (by go_grown))).mono ?_
  rintro e w1 ⟨r, rfl, hr, hb1⟩
  have HB1 : Below w.heap.size w w1 := Below.trans (by go_grown) (hb1.mono (by simp))
  cases r
  · obtain ⟨hn, hsm⟩ := hr rfl
    have HS := Lib.hid hsm
    clear hr hsm
    go_wp2_with fail
    refine (TwinPoly_c _ _ _ _ p (hp.keep HB1) (by omega) (fun j hj => ⟨by have := (HS.out j hj).1; omega, by have := (HS.out j hj).2; omega⟩)).mono ?_
    rintro e w2 ⟨a2, c2, s, rfl, htw, hb2⟩
    have HB2 := HB1.trans (hb2.mono HB1.size)
    have hal : Hid (∀ j, j < n → Alike (s j) (p j)) := Lib.hid (by
      obtain ⟨b, _, _, _, _, hall, _⟩ := htw
      exact fun j hj => (hall j hj).2.alike)
    have hs2 := htw.rd (fun j hj => ⟨(hp.tm j hj).s0, (hp.tm j hj).s1, (hp.tm j hj).s2, (hp.tm j hj).s3⟩)
    go_wp2_with fail
    refine (sText_c w2 a2 n c2 s hs2 (alike_small hal.out HS.out) (by omega) (hT.keep HB2)).mono ?_
    rintro e w3 ⟨rfl, hb3⟩
    have HB3 := HB2.trans (hb3.mono HB2.size)
    rw [alike_text hal.out]
    go_wp2_with fail
    refine (rText15_c w3 a n c p (hp.keep HB3) HS.out (by omega)).mono ?_
    rintro e w4 ⟨rfl, hb4⟩
    have HB4 := HB3.trans (hb4.mono HB3.size)
    generalize bothText p n = S at *
    go_wp2_with fail
    refine (LeftPoly_c w4 a2 n c2 a c p s (((htw.keep hb3).keep hb4).mono (Nat.zero_le _)) (hp.keep HB4) (by omega)).mono ?_
    rintro e w5 ⟨rfl, hb5⟩
    have HB5 := HB4.trans (hb5.mono HB4.size)
    go_wp2_with fail
    go_ret
    exact ⟨by first | rfl | simp, HB5⟩
  · go_wp2_with fail
    go_ret
    exact ⟨rfl, HB1⟩
end Go.Proofs.YtdamegaedmckbaaGreatDoor
end
