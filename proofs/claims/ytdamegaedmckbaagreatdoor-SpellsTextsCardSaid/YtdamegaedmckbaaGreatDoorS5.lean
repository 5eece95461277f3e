/- Package limbs: Check, of, Cmp, Sign. No condition. -/
import Derived.Test.YtdamegaedmckbaaGreatDoorS4
set_option linter.unusedSimpArgs false
set_option linter.unusedVariables false
namespace Go.Proofs.YtdamegaedmckbaaGreatDoor
open Go.RowKit

theorem Check1_c (x : Int) (w : World) (r : Bool) (hr : decide (1000000000 ≤ x) = r) : Calls Tryz.prog 209 #[.int .u32 x] w fun e w' => e = .returned (.bool r) ∧ w = w' := by
  cases r
  · have h : x < 1000000000 := by simpa using hr
    clear hr
    go_enter Tryz.func209, Tryz.ntmps209
    go_wp2
    go_ret
    exact ⟨by first | (simp; done) | (simp; omega), rfl⟩
  · have h : 1000000000 ≤ x := by simpa using hr
    clear hr
    go_enter Tryz.func209, Tryz.ntmps209
    go_wp2
    go_ret
    exact ⟨by first | (simp; done) | (simp; omega), rfl⟩

/-- Is one of the parts too great? -/
def Big (n : Nat) (d : List Nat) : Prop := ∃ i, i < n ∧ 1000000000 ≤ lim d i

def RetIdx (w : World) (n : Nat) (d : List Nat) (e : Ending) (w' : World) : Prop := ∃ r : Int, e = .returned (.int .i64 r) ∧ (0 ≤ r ↔ Big n d) ∧ Below w.heap.size w w'

set_option maxHeartbeats 400000 in
theorem IndexFunc_c (w : World) (a : Option Addr) (n c : Nat) (d : List Nat) (hd : RdL w a n c d) :
    Calls Tryz.prog 256 #[.slice a n c, .func (.func 209) #[] #[]] w (RetIdx w n d) := by
  have hn := hd.few
  go_enter Tryz.func256, Tryz.ntmps256
  go_wp2
  go_loopw [5, 8] (fun _ v8 wr => ∃ k : Nat, k ≤ n ∧ v8 = .int .i64 k ∧ (∀ j, j < k → lim d j < 1000000000) ∧ Below w.heap.size w wr) (fun _ v8 _ => n - (intOf v8).toNat)
  case atStart => exact ⟨0, Nat.zero_le _, rfl, fun j hj => absurd hj (Nat.not_lt_zero _), Below.refl _ _⟩
  case round =>
    obtain ⟨k, hk, rfl, hall, HB⟩ := hrel
    have HA := Lib.hid hall
    clear hall
    by_cases hlt : k < n
    · obtain ⟨b, o, rfl, c1⟩ := (hd.keep HB).at' hlt
      by_cases hb : 1000000000 ≤ lim d k
      · go_wp2_with (go_at_call 209; refine (Check1_c _ _ true (by simpa using hb)).mono ?_; rintro e w' ⟨rfl, rfl⟩)
        go_ret
        exact ⟨k, rfl, ⟨fun _ => ⟨k, hlt, hb⟩, fun _ => by omega⟩, HB⟩
      · go_wp2_with (go_at_call 209; refine (Check1_c _ _ false (by simpa using hb)).mono ?_; rintro e w' ⟨rfl, rfl⟩)
        go_roundw
        case rel =>
          refine ⟨k + 1, by omega, by go_num, fun j hj => ?_, HB⟩
          rcases Nat.lt_succ_iff_lt_or_eq.1 hj with h | rfl
          · exact HA.out j h
          · omega
        case measure => (first | (simp [intOf]; omega) | (simp [intOf]; done))
    · have hkn : n ≤ k := by omega
      go_wp2_with fail
      go_ret
      refine ⟨-1, rfl, ⟨fun h => by omega, fun ⟨i, hi, hb⟩ => ?_⟩, HB⟩
      have := HA.out i (by omega)
      omega

theorem ContainsFunc_c (w : World) (a : Option Addr) (n c : Nat) (d : List Nat) (hd : RdL w a n c d) (r : Bool) (hr : Big n d ↔ r = true) :
    Calls Tryz.prog 208 #[.slice a n c, .func (.func 209) #[] #[]] w fun e w' => e = .returned (.bool r) ∧ Below w.heap.size w w' := by
  cases r
  · have hr' := Lib.hid hr
    clear hr
    go_enter Tryz.func208, Tryz.ntmps208
    go_wp2_with fail
    refine (IndexFunc_c _ _ _ _ d hd).mono ?_
    rintro e w1 ⟨r, rfl, hi, hb⟩
    have hneg : r < 0 := by
      have := hr'.out
      rcases Int.lt_or_le r 0 with h | h
      · exact h
      · exact absurd (this.1 (hi.1 h)) (by simp)
    clear hi
    go_wp2_with fail
    go_ret
    exact ⟨by first | (simp; done) | (simp; omega), hb⟩
  · have hr' := Lib.hid hr
    clear hr
    go_enter Tryz.func208, Tryz.ntmps208
    go_wp2_with fail
    refine (IndexFunc_c _ _ _ _ d hd).mono ?_
    rintro e w1 ⟨r, rfl, hi, hb⟩
    have hneg : 0 ≤ r := hi.2 (hr'.out.2 (by simp))
    clear hi
    go_wp2_with fail
    go_ret
    exact ⟨by first | (simp; done) | (simp; omega), hb⟩

/-- May a number be? -/
def Okay (g : Bool) (d : List Nat) : Prop := Canon d ∧ (d = [] → g = false)

theorem big_of_not_canon {n : Nat} {d : List Nat} (hl : d.length = n) : Big n d ↔ ¬ ∀ x ∈ d, x < 1000000000 := by
  constructor
  · rintro ⟨i, hi, hb⟩ h
    have := h d[i] (List.getElem_mem (by omega))
    simp only [lim, List.getD, List.getElem?_eq_getElem (show i < d.length by omega), Option.getD_some] at hb
    omega
  · intro h
    simp only [Classical.not_forall] at h
    obtain ⟨x, hx, hx2⟩ := h
    obtain ⟨i, hi, rfl⟩ := List.getElem_of_mem hx
    refine ⟨i, by omega, ?_⟩
    simp only [lim, List.getD, List.getElem?_eq_getElem hi, Option.getD_some]
    omega

theorem canon_last {d : List Nat} (hlt : ∀ x ∈ d, x < 1000000000) (hp : 0 < d.length) : Canon d ↔ lim d (d.length - 1) ≠ 0 := by
  have hne : d ≠ [] := by intro e; rw [e] at hp; simp at hp
  have e : d.getLast? = some (d.getD (d.length - 1) 0) := by
    rw [List.getLast?_eq_getElem?, List.getD, List.getElem?_eq_getElem (by omega)]; rfl
  unfold Canon
  rw [e, lim_eq]
  constructor
  · rintro ⟨_, h | h⟩ h2
    · exact hne h
    · exact h (by rw [show d.getD (d.length - 1) 0 = 0 by omega])
  · intro h
    exact ⟨hlt, .inr fun h2 => h (by simp only [Option.some.injEq] at h2; omega)⟩

set_option maxHeartbeats 400000 in
theorem Check_c (w : World) (g : Bool) (a : Option Addr) (n c : Nat) (d : List Nat) (hd : RdL w a n c d) (r : Bool) (hr : Okay g d ↔ r = true) :
    Calls Tryz.prog 163 #[.agg #[.bool g, .slice a n c]] w fun e w' => e = .returned (.bool r) ∧ Below w.heap.size w w' := by
  have HB := Below.refl w.heap.size w
  have hl := hd.len
  have hn := hd.few
  by_cases hall : ∀ x ∈ d, x < 1000000000
  · have hbig : Big n d ↔ false = true := by rw [big_of_not_canon hl]; simpa using hall
    rcases Nat.eq_zero_or_pos n with rfl | hp
    · have hdn : d = [] := List.eq_nil_of_length_eq_zero hl
      have hrg : r = !g := by
        have : Okay g d ↔ g = false := by
          unfold Okay Canon
          rw [hdn]
          simp
        rw [this] at hr
        cases r <;> cases g <;> simp_all
      subst hrg
      clear hr hdn hl hall
      have HBig := Lib.hid hbig
      clear hbig
      cases g
      all_goals
        go_enter Tryz.func163, Tryz.ntmps163
        go_wp2_with (go_at_call 208; refine (ContainsFunc_c _ _ _ _ d (hd.keep (by go_grown)) false HBig.out).mono ?_; rintro e w' ⟨rfl, hb⟩; obtain ⟨hc, hf⟩ := bcell hb; have hz := hb.size; replace HB : Below w.heap.size w w' := Below.trans (by go_grown) (hb.mono (by go_size)); have HBz := HB.size)
        go_ret
        exact ⟨rfl, HB⟩
    · have hc := canon_last hall (by omega)
      rw [hl] at hc
      have hr2 : (lim d (n - 1) != 0) = r := by
        have : Okay g d ↔ Canon d := ⟨fun h => h.1, fun h => ⟨h, fun e => by rw [e] at hl; simp at hl; omega⟩⟩
        rw [this, hc] at hr
        cases r <;> simp_all
      have HBig := Lib.hid hbig
      clear hbig hr hl hall hc
      obtain ⟨b, o, rfl, c1⟩ := (hd.at' (i := n - 1) (by omega))
      have c2 := fun (W : World) (h : Below w.heap.size w W) => cell_keep h c1
      have C2 := Lib.hid c2
      clear c2 c1
      have hpn : 0 < n := hp
      have hr3 := Lib.hid hr2
      clear hr2
      go_enter Tryz.func163, Tryz.ntmps163
      go_wp2_with fail
      refine (ContainsFunc_c _ _ _ _ d (hd.keep (by go_grown)) false HBig.out).mono ?_
      rintro e w1 ⟨rfl, hb⟩; obtain ⟨hc, hf⟩ := bcell hb; have hz := hb.size
      replace HB : Below w.heap.size w w1 := Below.trans (by go_grown) (hb.mono (by go_size))
      have c1 := C2.out w1 HB
      have hn1 : ((n : Int) - 1).toNat = n - 1 := by omega
      go_wp2_with fail
      go_ret
      exact ⟨by rw [hr3.out]; rfl, HB⟩
  · have hbig : Big n d ↔ true = true := by rw [big_of_not_canon hl]; simpa using hall
    have hrf : r = false := by
      cases r
      · rfl
      · exact absurd (hr.2 rfl).1.1 hall
    subst hrf
    have HBig := Lib.hid hbig
    clear hbig hr hl hall
    go_enter Tryz.func163, Tryz.ntmps163
    go_wp2_with (go_at_call 208; refine (ContainsFunc_c _ _ _ _ d (hd.keep (by go_grown)) true HBig.out).mono ?_; rintro e w' ⟨rfl, hb⟩; obtain ⟨hc, hf⟩ := bcell hb; have hz := hb.size; replace HB : Below w.heap.size w w' := Below.trans (by go_grown) (hb.mono (by go_size)); have HBz := HB.size)
    go_ret
    exact ⟨rfl, HB⟩
end Go.Proofs.YtdamegaedmckbaaGreatDoor
