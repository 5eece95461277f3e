/- The document's answer, layer 1: Check, Fit, Sign, num. -/
import Derived.Test.YtdamegaedmckbaaGreatDoorS12
set_option linter.unusedSimpArgs false
set_option linter.unusedVariables false
set_option linter.unusedSimpArgs false
namespace Go.Proofs.YtdamegaedmckbaaGreatDoor
open Go.RowKit

theorem lt_of_lim {d : List Nat} (h : ∀ i, i < d.length → lim d i < 1000000000) : ∀ x ∈ d, x < 1000000000 := by
  intro x hx
  obtain ⟨i, hi, rfl⟩ := List.getElem_of_mem hx
  have := h i hi
  simp only [lim, List.getD, List.getElem?_eq_getElem hi, Option.getD_some] at this
  omega

theorem lim_of_lt {d : List Nat} (h : ∀ x ∈ d, x < 1000000000) (i : Nat) : lim d i < 1000000000 := by
  by_cases hi : i < d.length
  · have := h _ (List.getElem_mem hi)
    simp only [lim, List.getD, List.getElem?_eq_getElem hi, Option.getD_some]
    omega
  · rw [lim_out (by omega)]; omega

set_option maxRecDepth 100000 in
set_option maxHeartbeats 1000000 in
theorem rCheck_c (w : World) (g : Bool) (a : Option Addr) (n c : Nat) (d : List Nat) (hd : RdL w a n c d) (r : Bool) (hr : Okay g d ↔ r = true) :
    Calls Tryz.prog 234 #[.agg #[.bool g, .slice a n c]] w fun e w' => e = .returned (.bool r) ∧ Below w.heap.size w w' := by
  have HB := Below.refl w.heap.size w
  have hl := hd.len
  have hn := hd.few
  have HR := Lib.hid hr
  clear hr
  go_enter Tryz.func234, Tryz.ntmps234
  go_wp2_with fail
  go_loop [3] (fun v3 => ∃ k : Nat, k ≤ n ∧ v3 = .int .i64 k ∧ Hid (∀ j, j < k → lim d j < 1000000000)) (fun v3 => n - (intOf v3).toNat)
  case atStart => exact ⟨0, Nat.zero_le _, rfl, Lib.hid (fun j hj => absurd hj (Nat.not_lt_zero _))⟩
  case round =>
    obtain ⟨k, hk, rfl, hall⟩ := hrel
    by_cases hlt : k < n
    · obtain ⟨b, o, rfl, c1⟩ := hd.at' hlt
      have c1' := cell_keep (show Below w.heap.size w (w.alloc (.cells #[.bool g, .slice (some ⟨b, o, none⟩) n c] 59)) by go_grown) c1
      clear c1
      by_cases hb : 1000000000 ≤ lim d k
      · have hrf : r = false := by
          cases r
          · rfl
          · have := lim_of_lt (HR.out.2 rfl).1.1 k
            omega
        subst hrf
        go_wp2_with fail
        go_ret
        exact ⟨rfl, by go_grown⟩
      · have hb' : decide (1000000000 ≤ lim d k) = false := by rw [decide_eq_false_iff_not]; exact hb
        clear hb
        go_wp2_with fail
        go_round
        case rel =>
          refine ⟨k + 1, by omega, by go_num, Lib.hid (fun j hj => ?_)⟩
          rcases Nat.lt_succ_iff_lt_or_eq.1 hj with h | rfl
          · exact hall.out j h
          · have := of_decide_eq_false hb'
            omega
        case measure => (first | (simp [intOf]; omega) | (simp [intOf]; done))
    · obtain rfl : k = n := by omega
      have HL := Lib.hid (lt_of_lim (d := d) (fun i hi => hall.out i (by omega)))
      rcases Nat.eq_zero_or_pos k with rfl | hp
      · have hdn : d = [] := List.eq_nil_of_length_eq_zero hl
        have hrg : r = !g := by
          have h1 : Okay g d ↔ g = false := by
            unfold Okay Canon
            rw [hdn]
            simp
          have h2 := HR.out
          rw [h1] at h2
          cases r <;> cases g <;> simp_all
        subst hrg
        clear hdn
        cases g
        all_goals
          go_wp2_with fail
          go_ret
          exact ⟨rfl, by go_grown⟩
      · have hc := canon_last HL.out (by omega)
        rw [hl] at hc
        have hr2 : (lim d (k - 1) != 0) = r := by
          have h1 : Okay g d ↔ Canon d := ⟨fun h => h.1, fun h => ⟨h, fun e => by rw [e] at hl; simp at hl; omega⟩⟩
          have h2 := HR.out
          rw [h1, hc] at h2
          cases r <;> simp_all
        have hr3 := Lib.hid hr2
        obtain ⟨b, o, rfl, c1⟩ := (hd.at' (i := k - 1) (by omega))
        have c1' := cell_keep (show Below w.heap.size w (w.alloc (.cells #[.bool g, .slice (some ⟨b, o, none⟩) k c] 59)) by go_grown) c1
        have hn1 : ((k : Int) - 1).toNat = k - 1 := by omega
        clear c1 hc hr2
        go_wp2_with fail
        go_ret
        exact ⟨by rw [hr3.out]; rfl, by go_grown⟩

theorem rFit_c (w : World) (g : Bool) (a : Option Addr) (n c : Nat) (z : Int) (h : NumAt w g a n c z) :
    Calls Tryz.prog 187 #[.agg #[.bool g, .slice a n c]] w (RetSame w g a n c) := by
  have HB := Below.refl w.heap.size w
  have ho := Lib.hid h.okay
  go_enter Tryz.func187, Tryz.ntmps187
  go_wp2_with fail
  refine (rCheck_c _ _ _ _ _ (dg z.natAbs) (h.rd.keep (by go_grown)) true ⟨fun _ => rfl, fun _ => ho.out⟩).mono ?_
  rintro e w1 ⟨rfl, hb⟩
  obtain ⟨hc, hf⟩ := bcell hb; have hz := hb.size; (try simp only [World.size_alloc, World.size_drew] at hz)
  replace HB : Below w.heap.size w w1 := Below.trans (by go_grown) (hb.mono (by go_size))
  have s0_0 : w1.cell? ⟨w.heap.size, 0, none⟩ = some (.bool g) := (hc _ _ (by go_size)).trans (by first | assumption | (simp [go_sem]; done)); have s0_1 : w1.cell? ⟨w.heap.size, 1, none⟩ = some (.slice a n c) := (hc _ _ (by go_size)).trans (by first | assumption | (simp [go_sem]; done)); have s1_0 : w1.cell? ⟨w.heap.size + 1, 0, none⟩ = some (.bool false) := (hc _ _ (by go_size)).trans (by first | assumption | (simp [go_sem]; done)); have s1_1 : w1.cell? ⟨w.heap.size + 1, 1, none⟩ = some (.slice none 0 0) := (hc _ _ (by go_size)).trans (by first | assumption | (simp [go_sem]; done)); have f1_0 : w1.frozen? ⟨w.heap.size + 1, 0, none⟩ = false := (hf _ _ (by go_size)).trans (by first | assumption | (simp [go_sem]; done)); have f1_1 : w1.frozen? ⟨w.heap.size + 1, 1, none⟩ = false := (hf _ _ (by go_size)).trans (by first | assumption | (simp [go_sem]; done))
  go_wp2_with fail
  refine bodyPost_ret (v := .agg #[.bool g, .slice a n c]) (by simp [results, Tryz.results187, go_sem, s1_0, s1_1]) rfl ?_
  exact ⟨rfl, by go_grown⟩

theorem cmpI_zero_of {z : Int} {n : Nat} (h : (dg z.natAbs).length = n) (hz : ¬ z < 0) : cmpI z 0 = if 0 < n then 1 else 0 := by
  by_cases h0 : z = 0
  · subst h0
    rw [show (0 : Int).natAbs = 0 from rfl, dg_zero] at h
    simp at h
    rw [← h]; rfl
  · rw [cmpI_gt (by omega), if_pos]
    rw [dg_pos (by omega)] at h
    simp at h
    omega

theorem rSign_c (w : World) (g : Bool) (a : Option Addr) (n c : Nat) (z : Int) (h : NumAt w g a n c z) :
    Calls Tryz.prog 119 #[.agg #[.bool g, .slice a n c]] w fun e w' => e = .returned (.int .i64 (cmpI z 0)) ∧ Below w.heap.size w w' := by
  have HB := Below.refl w.heap.size w
  have hg := h.neg
  have hl := h.rd.len
  cases g
  · have hz : ¬ z < 0 := by simpa using hg.symm
    have hr := cmpI_zero_of hl hz
    clear hg hl hz
    by_cases hn : 0 < n
    · rw [if_pos hn] at hr
      have HR := Lib.hid hr
      clear hr
      go_enter Tryz.func119, Tryz.ntmps119
      go_wp2_with fail
      refine (rFit_c _ _ _ _ _ _ (h.keep (by go_grown))).mono ?_
      rintro e w1 ⟨rfl, hb⟩
      obtain ⟨hc, hf⟩ := bcell hb; have hz := hb.size; (try simp only [World.size_alloc, World.size_drew] at hz)
      replace HB : Below w.heap.size w w1 := Below.trans (by go_grown) (hb.mono (by go_size))
      have s0_0 : w1.cell? ⟨w.heap.size, 0, none⟩ = some (.bool false) := (hc _ _ (by go_size)).trans (by first | assumption | (simp [go_sem]; done)); have s0_1 : w1.cell? ⟨w.heap.size, 1, none⟩ = some (.slice a n c) := (hc _ _ (by go_size)).trans (by first | assumption | (simp [go_sem]; done))
      have f0_0 : w1.frozen? ⟨w.heap.size, 0, none⟩ = false := (hf _ _ (by go_size)).trans (by simp [go_sem])
      have f0_1 : w1.frozen? ⟨w.heap.size, 1, none⟩ = false := (hf _ _ (by go_size)).trans (by simp [go_sem])
      clear hc hf
      go_wp2_with fail
      go_ret
      exact ⟨by rw [HR.out]; rfl, by go_grown⟩
    · obtain rfl : n = 0 := by omega
      rw [if_neg hn] at hr
      have HR := Lib.hid hr
      clear hr hn
      go_enter Tryz.func119, Tryz.ntmps119
      go_wp2_with fail
      refine (rFit_c _ _ _ _ _ _ (h.keep (by go_grown))).mono ?_
      rintro e w1 ⟨rfl, hb⟩
      obtain ⟨hc, hf⟩ := bcell hb; have hz := hb.size; (try simp only [World.size_alloc, World.size_drew] at hz)
      replace HB : Below w.heap.size w w1 := Below.trans (by go_grown) (hb.mono (by go_size))
      have s0_0 : w1.cell? ⟨w.heap.size, 0, none⟩ = some (.bool false) := (hc _ _ (by go_size)).trans (by first | assumption | (simp [go_sem]; done)); have s0_1 : w1.cell? ⟨w.heap.size, 1, none⟩ = some (.slice a 0 c) := (hc _ _ (by go_size)).trans (by first | assumption | (simp [go_sem]; done))
      have f0_0 : w1.frozen? ⟨w.heap.size, 0, none⟩ = false := (hf _ _ (by go_size)).trans (by simp [go_sem])
      have f0_1 : w1.frozen? ⟨w.heap.size, 1, none⟩ = false := (hf _ _ (by go_size)).trans (by simp [go_sem])
      clear hc hf
      go_wp2_with fail
      go_ret
      exact ⟨by rw [HR.out]; rfl, by go_grown⟩
  · have hz : z < 0 := by simpa using hg.symm
    have HR := Lib.hid (show cmpI z 0 = -1 from cmpI_lt hz)
    clear hg hl hz
    go_enter Tryz.func119, Tryz.ntmps119
    go_wp2_with fail
    refine (rFit_c _ _ _ _ _ _ (h.keep (by go_grown))).mono ?_
    rintro e w1 ⟨rfl, hb⟩
    obtain ⟨hc, hf⟩ := bcell hb; have hz := hb.size; (try simp only [World.size_alloc, World.size_drew] at hz)
    replace HB : Below w.heap.size w w1 := Below.trans (by go_grown) (hb.mono (by go_size))
    have s0_0 : w1.cell? ⟨w.heap.size, 0, none⟩ = some (.bool true) := (hc _ _ (by go_size)).trans (by first | assumption | (simp [go_sem]; done)); have s0_1 : w1.cell? ⟨w.heap.size, 1, none⟩ = some (.slice a n c) := (hc _ _ (by go_size)).trans (by first | assumption | (simp [go_sem]; done))
    have f0_0 : w1.frozen? ⟨w.heap.size, 0, none⟩ = false := (hf _ _ (by go_size)).trans (by simp [go_sem])
    have f0_1 : w1.frozen? ⟨w.heap.size, 1, none⟩ = false := (hf _ _ (by go_size)).trans (by simp [go_sem])
    clear hc hf
    go_wp2_with fail
    go_ret
    exact ⟨by rw [HR.out]; rfl, by go_grown⟩

theorem RdL.recap {w : World} {a : Option Addr} {n c c' : Nat} {d : List Nat} (h : RdL w a n c d) (h1 : n ≤ c') (h2 : c' ≤ 9223372036854775807) : RdL w a n c' d :=
  ⟨h.len, h1, h.few, h2, h.small, h.cell⟩

def lenOf : Value → Nat
  | .slice _ n _ => n
  | _ => 0

/-- What 'num' answers: the same memory, its needless parts cut off. -/
def RetNumS (w : World) (g : Bool) (a : Option Addr) (c : Nat) (d : List Nat) (e : Ending) (w' : World) : Prop :=
  ∃ g' n', e = .returned (.agg #[.bool g', .slice a n' c]) ∧ n' ≤ d.length ∧ NumAt w' g' a n' c (sgn g (val d)) ∧ Below w.heap.size w w'

theorem num_end {w w' : World} {g g' : Bool} {a : Option Addr} {n c k : Nat} {d : List Nat} (hd : RdL w a n c d) (hlt : ∀ x ∈ d, x < 1000000000) (hk : k ≤ n) (hz : ∀ i, k ≤ i → lim d i = 0) (hl : k = 0 ∨ lim d (k - 1) ≠ 0) (hb : Below w.heap.size w w') (hg : g' = (g && decide (0 < k))) :
    NumAt w' g' a k c (sgn g (val d)) := by
  have h := cut_end hd hlt hk hz hl hb hg
  exact ⟨h.neg, h.rd.recap (Nat.le_trans hk hd.cap) hd.top⟩

set_option maxRecDepth 100000 in
set_option maxHeartbeats 1000000 in
theorem rnum_c (w : World) (g : Bool) (a : Option Addr) (n c : Nat) (d : List Nat) (hd : RdL w a n c d) (hlt : ∀ x ∈ d, x < 1000000000) :
    Calls Tryz.prog 188 #[.bool g, .slice a n c] w (RetNumS w g a c d) := by
  have hlen := hd.len
  have hcap := hd.cap
  have hn := hd.few
  have htop := hd.top
  have HB := Below.refl w.heap.size w
  have HL := Lib.hid hlt
  clear hlt
  go_enter Tryz.func188, Tryz.ntmps188
  go_wp2_with fail
  go_loop [1] (fun v3 => ∃ k : Nat, k ≤ n ∧ v3 = .slice a k c ∧ Hid (∀ i, k ≤ i → lim d i = 0)) (fun v3 => lenOf v3)
  case atStart => exact ⟨n, Nat.le_refl _, rfl, Lib.hid (fun i hi => by simp [lim, List.getElem?_eq_none (show d.length ≤ i by omega)])⟩
  case round =>
    obtain ⟨k, hk, rfl, HZ⟩ := hrel
    match k with
    | 0 =>
      cases g
      all_goals
        go_wp2_with fail
        refine bodyPost_ret (v := .agg #[.bool false, .slice a 0 c]) (by simp [results, Tryz.results188, go_sem]) rfl ?_
        exact ⟨_, 0, rfl, by omega, num_end hd HL.out hk HZ.out (.inl rfl) (by go_grown) (by simp), by go_grown⟩
    | j + 1 =>
      obtain ⟨b, o, rfl, c1⟩ := hd.at' (i := j) (by omega)
      have hbl : b < w.heap.size := World.block_lt_of_cell? w _ c1
      have hj1 : (((j + 1 : Nat) : Int) - 1).toNat = j := by omega
      by_cases h0 : lim d j = 0
      · have h0' : (lim d j == 0) = true := by simp [h0]
        have H0 := Lib.hid h0
        clear h0
        go_wp2_with fail
        go_round
        case rel =>
          refine ⟨j, by omega, rfl, Lib.hid (fun i hi => ?_)⟩
          rcases Nat.lt_or_ge j i with h | h
          · exact HZ.out i h
          · obtain rfl : i = j := by omega
            exact H0.out
        case measure => simp [lenOf]
      · have h0' : (lim d j == 0) = false := by simp [h0]
        have H0 := Lib.hid h0
        clear h0
        cases g
        · go_wp2_with fail
          refine bodyPost_ret (v := .agg #[.bool false, .slice (some ⟨b, o, none⟩) (j + 1) c]) (by simp [results, Tryz.results188, go_sem]) rfl ?_
          exact ⟨_, j + 1, rfl, by omega, num_end hd HL.out hk HZ.out (.inr H0.out) (by go_grown) (by simp), by go_grown⟩
        · go_wp2_with fail
          refine bodyPost_ret (v := .agg #[.bool true, .slice (some ⟨b, o, none⟩) (j + 1) c]) (by simp [results, Tryz.results188, go_sem]) rfl ?_
          exact ⟨_, j + 1, rfl, by omega, num_end hd HL.out hk HZ.out (.inr H0.out) (by go_grown) (by simp), by go_grown⟩
end Go.Proofs.YtdamegaedmckbaaGreatDoor
