/- The document's answer, layer 2: one, Check, Fit, Sign, Neg, Text. -/
import Derived.Test.YtdamegaedmckbaaGreatDoorS34
import Derived.Test.YtdamegaedmckbaaGreatDoorS35
import Derived.Test.YtdamegaedmckbaaGreatDoorS20
set_option linter.unusedSimpArgs false
set_option linter.unusedVariables false
set_option linter.unusedSimpArgs false
set_option linter.unusedVariables false
namespace Go.Proofs.YtdamegaedmckbaaGreatDoor
open Go.RowKit

theorem dg_one : dg 1 = [1] := by rw [dg_pos (by omega), show 1 / 1000000000 = 0 from rfl, dg_zero]

set_option maxRecDepth 100000 in
set_option maxHeartbeats 1000000 in
theorem rOne_c (w : World) (g : Bool) (a : Option Addr) (n c : Nat) (z : Int) (h : NumAt w g a n c z) :
    Calls Tryz.prog 123 #[.agg #[.bool g, .slice a n c]] w fun e w' => e = .returned (.bool (decide (z = 1))) ∧ Below w.heap.size w w' := by
  have hl := h.rd.len
  have hg := h.neg
  cases g
  · have hz : ¬ z < 0 := by simpa using hg.symm
    by_cases hn : n = 1
    · subst hn
      obtain ⟨b, o, rfl, c1⟩ := h.rd.at' (i := 0) (by omega)
      obtain ⟨x, hx⟩ : ∃ x, dg z.natAbs = [x] := List.length_eq_one_iff.1 hl
      have hv := val_dg z.natAbs
      rw [hx] at c1 hv
      rw [show lim [x] 0 = (x : Int) from rfl, Nat.add_zero] at c1
      have hxz : (x : Int) = z := by simp [val] at hv; omega
      have hxl := dg_lt z.natAbs x (by rw [hx]; simp)
      by_cases hz1 : z = 1
      · have HR := Lib.hid (show decide (z = 1) = true from decide_eq_true hz1)
        obtain rfl : x = 1 := by omega
        clear hxz hz1 hv hx hg hl
        have c1' := cell_keep (show Below w.heap.size w (w.alloc (.cells #[.bool false, .slice (some ⟨b, o, none⟩) 1 c] 59)) by go_grown) c1
        go_enter Tryz.func123, Tryz.ntmps123
        go_wp2_with fail
        go_ret
        exact ⟨by rw [HR.out]; rfl, by go_grown⟩
      · have HR := Lib.hid (show decide (z = 1) = false from decide_eq_false hz1)
        have hx1 : ((x : Int) == 1) = false := by rw [beq_eq_false_iff_ne]; omega
        clear hxz hz1 hv hx hg hl
        have c1' := cell_keep (show Below w.heap.size w (w.alloc (.cells #[.bool false, .slice (some ⟨b, o, none⟩) 1 c] 59)) by go_grown) c1
        go_enter Tryz.func123, Tryz.ntmps123
        go_wp2_with fail
        go_ret
        exact ⟨by rw [HR.out]; rfl, by go_grown⟩
    · have hz1 : z ≠ 1 := by
        intro e
        rw [e, show (1 : Int).natAbs = 1 from rfl, dg_one] at hl
        exact hn hl.symm
      have HR := Lib.hid (show decide (z = 1) = false from decide_eq_false hz1)
      have hn1 : ((n : Int) == 1) = false := by rw [beq_eq_false_iff_ne]; omega
      clear hz1 hg hl hn
      go_enter Tryz.func123, Tryz.ntmps123
      go_wp2_with fail
      go_ret
      exact ⟨by rw [HR.out]; rfl, by go_grown⟩
  · have hz : z < 0 := by simpa using hg.symm
    have HR := Lib.hid (show decide (z = 1) = false from decide_eq_false (by omega))
    clear hg hl
    go_enter Tryz.func123, Tryz.ntmps123
    go_wp2_with fail
    go_ret
    exact ⟨by rw [HR.out]; rfl, by go_grown⟩

/-- CHECK -/
theorem rf_mark : True := trivial
set_option maxRecDepth 100000 in
set_option maxHeartbeats 1000000 in
theorem rfCheck_c (w : World) (g1 : Bool) (a1 : Option Addr) (n1 c1 : Nat) (d1 : List Nat) (h1 : RdL w a1 n1 c1 d1) (g2 : Bool) (a2 : Option Addr) (n2 c2 : Nat) (d2 : List Nat) (h2 : RdL w a2 n2 c2 d2) (hs : n2 ≤ 1) (hb1 : n1 < 35184372088830) (r : Bool) (hr : FOk g1 d1 g2 d2 ↔ r = true) :
    Calls Tryz.prog 186 #[.agg #[.bool g1, .slice a1 n1 c1, .bool g2, .slice a2 n2 c2]] w fun e w' => e = .returned (.bool r) ∧ Below w.heap.size w w' := by
  have HB := Below.refl w.heap.size w
  by_cases o1 : Okay g1 d1
  · by_cases o2 : Okay g2 d2
    · have N1 := numAt_of_okay h1 o1
      have N2 := numAt_of_okay h2 o2
      have hlow := okay_low o2
      have hgcd := @FOk.gcd g1 d1 g2 d2
      generalize (if g1 then -(val d1 : Int) else (val d1 : Int)) = z1 at *
      generalize (if g2 then -(val d2 : Int) else (val d2 : Int)) = z2 at *
      have O1 := Lib.hid o1
      have O2 := Lib.hid o2
      clear o1 o2
      by_cases hp : 0 < z2
      · have hsg : cmpI z2 0 = 1 := cmpI_gt hp
        have HP := Lib.hid (hlow.1 hp)
        clear hlow
        have HR := Lib.hid hr
        have HG := Lib.hid hgcd
        clear hr hgcd
        go_enter Tryz.func186, Tryz.ntmps186
        go_wp2_with fail
        refine (rCheck_c _ _ _ _ _ d1 (h1.keep (by go_grown)) true ⟨fun _ => rfl, fun _ => O1.out⟩).mono ?_
        rintro e w1 ⟨rfl, hb⟩
        obtain ⟨hc, hf⟩ := bcell hb; have hz := hb.size; (try simp only [World.size_alloc, World.size_drew] at hz)
        replace HB : Below w.heap.size w w1 := Below.trans (by go_grown) (hb.mono (by go_size))
        have s0_0 : w1.cell? ⟨w.heap.size, 0, none⟩ = some (.bool g1) := (hc _ _ (by go_size)).trans (by first | assumption | (simp [go_sem]; done)); have s0_1 : w1.cell? ⟨w.heap.size, 1, none⟩ = some (.slice a1 n1 c1) := (hc _ _ (by go_size)).trans (by first | assumption | (simp [go_sem]; done)); have s0_2 : w1.cell? ⟨w.heap.size, 2, none⟩ = some (.bool g2) := (hc _ _ (by go_size)).trans (by first | assumption | (simp [go_sem]; done)); have s0_3 : w1.cell? ⟨w.heap.size, 3, none⟩ = some (.slice a2 n2 c2) := (hc _ _ (by go_size)).trans (by first | assumption | (simp [go_sem]; done))
        clear hc hf hb
        go_wp2_with fail
        refine (rCheck_c _ _ _ _ _ d2 (h2.keep (by go_grown)) true ⟨fun _ => rfl, fun _ => O2.out⟩).mono ?_
        rintro e w2 ⟨rfl, hb⟩
        obtain ⟨hc, hf⟩ := bcell hb; have hz := hb.size; (try simp only [World.size_alloc, World.size_drew] at hz)
        replace HB : Below w.heap.size w w2 := Below.trans (by go_grown) (hb.mono (by go_size))
        have s0_0 : w2.cell? ⟨w.heap.size, 0, none⟩ = some (.bool g1) := (hc _ _ (by go_size)).trans (by first | assumption | (simp [go_sem]; done)); have s0_1 : w2.cell? ⟨w.heap.size, 1, none⟩ = some (.slice a1 n1 c1) := (hc _ _ (by go_size)).trans (by first | assumption | (simp [go_sem]; done)); have s0_2 : w2.cell? ⟨w.heap.size, 2, none⟩ = some (.bool g2) := (hc _ _ (by go_size)).trans (by first | assumption | (simp [go_sem]; done)); have s0_3 : w2.cell? ⟨w.heap.size, 3, none⟩ = some (.slice a2 n2 c2) := (hc _ _ (by go_size)).trans (by first | assumption | (simp [go_sem]; done))
        clear hc hf hb
        go_wp2_with fail
        refine (rSign_c _ _ _ _ _ z2 (N2.keep (by go_grown))).mono ?_
        rintro e w3 ⟨rfl, hb⟩
        obtain ⟨hc, hf⟩ := bcell hb; have hz := hb.size; (try simp only [World.size_alloc, World.size_drew] at hz)
        replace HB : Below w.heap.size w w3 := Below.trans (by go_grown) (hb.mono (by go_size))
        have s0_0 : w3.cell? ⟨w.heap.size, 0, none⟩ = some (.bool g1) := (hc _ _ (by go_size)).trans (by first | assumption | (simp [go_sem]; done)); have s0_1 : w3.cell? ⟨w.heap.size, 1, none⟩ = some (.slice a1 n1 c1) := (hc _ _ (by go_size)).trans (by first | assumption | (simp [go_sem]; done)); have s0_2 : w3.cell? ⟨w.heap.size, 2, none⟩ = some (.bool g2) := (hc _ _ (by go_size)).trans (by first | assumption | (simp [go_sem]; done)); have s0_3 : w3.cell? ⟨w.heap.size, 3, none⟩ = some (.slice a2 n2 c2) := (hc _ _ (by go_size)).trans (by first | assumption | (simp [go_sem]; done))
        clear hc hf hb
        rw [hsg]
        go_wp2_with fail
        refine (rOne_c _ _ _ _ _ z2 (N2.keep (by go_grown))).mono ?_
        rintro e w3 ⟨rfl, hb⟩
        obtain ⟨hc, hf⟩ := bcell hb; have hz := hb.size; (try simp only [World.size_alloc, World.size_drew] at hz)
        replace HB : Below w.heap.size w w3 := Below.trans (by go_grown) (hb.mono (by go_size))
        have s0_0 : w3.cell? ⟨w.heap.size, 0, none⟩ = some (.bool g1) := (hc _ _ (by go_size)).trans (by first | assumption | (simp [go_sem]; done)); have s0_1 : w3.cell? ⟨w.heap.size, 1, none⟩ = some (.slice a1 n1 c1) := (hc _ _ (by go_size)).trans (by first | assumption | (simp [go_sem]; done)); have s0_2 : w3.cell? ⟨w.heap.size, 2, none⟩ = some (.bool g2) := (hc _ _ (by go_size)).trans (by first | assumption | (simp [go_sem]; done)); have s0_3 : w3.cell? ⟨w.heap.size, 3, none⟩ = some (.slice a2 n2 c2) := (hc _ _ (by go_size)).trans (by first | assumption | (simp [go_sem]; done))
        clear hc hf hb
        by_cases h20 : z2 = 1
        · have H21 := Lib.hid h20
          rw [decide_eq_true h20]
          clear h20
          go_wp2_with fail
          go_ret
          refine ⟨?_, HB⟩
          have hr := HR.out
          have e1 : FOk g1 d1 g2 d2 ↔ ((z1.gcd z2 : Nat) : Int) = 1 := by
            rw [HG.out]
            constructor
            · intro h; have := h.2.2.2.2; omega
            · intro h; exact ⟨O1.out, O2.out, HP.out.1, HP.out.2, by omega⟩
          have := hr.1 (e1.2 (by rw [H21.out, Int.gcd_one]; rfl))
          rw [this]; rfl
        rw [decide_eq_false h20]
        clear h20
        go_wp2_with fail
        refine (rGcd_c _ _ _ _ _ z1 (N1.keep (by go_grown)) _ _ _ _ z2 (N2.keep (by go_grown)) hp hs hb1).mono ?_
        rintro e w4 ⟨g3, a3, n3, c3, rfl, hn3, _, hb⟩
        obtain ⟨hc, hf⟩ := bcell hb; have hz := hb.size; (try simp only [World.size_alloc, World.size_drew] at hz)
        replace HB : Below w.heap.size w w4 := Below.trans (by go_grown) (hb.mono (by go_size))
        have s0_0 : w4.cell? ⟨w.heap.size, 0, none⟩ = some (.bool g1) := (hc _ _ (by go_size)).trans (by first | assumption | (simp [go_sem]; done)); have s0_1 : w4.cell? ⟨w.heap.size, 1, none⟩ = some (.slice a1 n1 c1) := (hc _ _ (by go_size)).trans (by first | assumption | (simp [go_sem]; done)); have s0_2 : w4.cell? ⟨w.heap.size, 2, none⟩ = some (.bool g2) := (hc _ _ (by go_size)).trans (by first | assumption | (simp [go_sem]; done)); have s0_3 : w4.cell? ⟨w.heap.size, 3, none⟩ = some (.slice a2 n2 c2) := (hc _ _ (by go_size)).trans (by first | assumption | (simp [go_sem]; done))
        clear hc hf hb
        go_wp2_with fail
        refine (rOne_c _ _ _ _ _ _ hn3).mono ?_
        rintro e w5 ⟨rfl, hb⟩
        obtain ⟨hc, hf⟩ := bcell hb; have hz := hb.size; (try simp only [World.size_alloc, World.size_drew] at hz)
        replace HB : Below w.heap.size w w5 := Below.trans (by go_grown) (hb.mono (by go_size))
        have s0_0 : w5.cell? ⟨w.heap.size, 0, none⟩ = some (.bool g1) := (hc _ _ (by go_size)).trans (by first | assumption | (simp [go_sem]; done)); have s0_1 : w5.cell? ⟨w.heap.size, 1, none⟩ = some (.slice a1 n1 c1) := (hc _ _ (by go_size)).trans (by first | assumption | (simp [go_sem]; done)); have s0_2 : w5.cell? ⟨w.heap.size, 2, none⟩ = some (.bool g2) := (hc _ _ (by go_size)).trans (by first | assumption | (simp [go_sem]; done)); have s0_3 : w5.cell? ⟨w.heap.size, 3, none⟩ = some (.slice a2 n2 c2) := (hc _ _ (by go_size)).trans (by first | assumption | (simp [go_sem]; done))
        clear hc hf hb
        go_wp2_with fail
        go_ret
        refine ⟨?_, HB⟩
        have hr := HR.out
        have e1 : FOk g1 d1 g2 d2 ↔ ((z1.gcd z2 : Nat) : Int) = 1 := by
          rw [HG.out]
          constructor
          · intro h; have := h.2.2.2.2; omega
          · intro h; exact ⟨O1.out, O2.out, HP.out.1, HP.out.2, by omega⟩
        by_cases h3 : ((z1.gcd z2 : Nat) : Int) = 1
        · have := hr.1 (e1.2 h3)
          rw [this]
          show Ending.returned (.bool (decide (((z1.gcd z2 : Nat) : Int) = 1))) = _
          rw [decide_eq_true h3]
        · have h4 : r = false := by
            cases r
            · rfl
            · exact absurd (e1.1 (hr.2 rfl)) h3
          rw [h4]
          show Ending.returned (.bool (decide (((z1.gcd z2 : Nat) : Int) = 1))) = _
          rw [decide_eq_false h3]
      · have hsg : decide (0 < cmpI z2 0) = false := by rw [decide_eq_false_iff_not, cmpI_pos]; exact hp
        have hr0 : r = false := by
          cases r
          · rfl
          · have := hr.2 rfl
            exact absurd (hlow.2 ⟨this.2.2.1, this.2.2.2.1⟩) hp
        subst hr0
        clear hr hlow hgcd hp
        go_enter Tryz.func186, Tryz.ntmps186
        go_wp2_with fail
        refine (rCheck_c _ _ _ _ _ d1 (h1.keep (by go_grown)) true ⟨fun _ => rfl, fun _ => O1.out⟩).mono ?_
        rintro e w1 ⟨rfl, hb⟩
        obtain ⟨hc, hf⟩ := bcell hb; have hz := hb.size; (try simp only [World.size_alloc, World.size_drew] at hz)
        replace HB : Below w.heap.size w w1 := Below.trans (by go_grown) (hb.mono (by go_size))
        have s0_0 : w1.cell? ⟨w.heap.size, 0, none⟩ = some (.bool g1) := (hc _ _ (by go_size)).trans (by first | assumption | (simp [go_sem]; done)); have s0_1 : w1.cell? ⟨w.heap.size, 1, none⟩ = some (.slice a1 n1 c1) := (hc _ _ (by go_size)).trans (by first | assumption | (simp [go_sem]; done)); have s0_2 : w1.cell? ⟨w.heap.size, 2, none⟩ = some (.bool g2) := (hc _ _ (by go_size)).trans (by first | assumption | (simp [go_sem]; done)); have s0_3 : w1.cell? ⟨w.heap.size, 3, none⟩ = some (.slice a2 n2 c2) := (hc _ _ (by go_size)).trans (by first | assumption | (simp [go_sem]; done))
        clear hc hf hb
        go_wp2_with fail
        refine (rCheck_c _ _ _ _ _ d2 (h2.keep (by go_grown)) true ⟨fun _ => rfl, fun _ => O2.out⟩).mono ?_
        rintro e w2 ⟨rfl, hb⟩
        obtain ⟨hc, hf⟩ := bcell hb; have hz := hb.size; (try simp only [World.size_alloc, World.size_drew] at hz)
        replace HB : Below w.heap.size w w2 := Below.trans (by go_grown) (hb.mono (by go_size))
        have s0_0 : w2.cell? ⟨w.heap.size, 0, none⟩ = some (.bool g1) := (hc _ _ (by go_size)).trans (by first | assumption | (simp [go_sem]; done)); have s0_1 : w2.cell? ⟨w.heap.size, 1, none⟩ = some (.slice a1 n1 c1) := (hc _ _ (by go_size)).trans (by first | assumption | (simp [go_sem]; done)); have s0_2 : w2.cell? ⟨w.heap.size, 2, none⟩ = some (.bool g2) := (hc _ _ (by go_size)).trans (by first | assumption | (simp [go_sem]; done)); have s0_3 : w2.cell? ⟨w.heap.size, 3, none⟩ = some (.slice a2 n2 c2) := (hc _ _ (by go_size)).trans (by first | assumption | (simp [go_sem]; done))
        clear hc hf hb
        go_wp2_with fail
        refine (rSign_c _ _ _ _ _ z2 (N2.keep (by go_grown))).mono ?_
        rintro e w3 ⟨rfl, hb⟩
        obtain ⟨hc, hf⟩ := bcell hb; have hz := hb.size; (try simp only [World.size_alloc, World.size_drew] at hz)
        replace HB : Below w.heap.size w w3 := Below.trans (by go_grown) (hb.mono (by go_size))
        have s0_0 : w3.cell? ⟨w.heap.size, 0, none⟩ = some (.bool g1) := (hc _ _ (by go_size)).trans (by first | assumption | (simp [go_sem]; done)); have s0_1 : w3.cell? ⟨w.heap.size, 1, none⟩ = some (.slice a1 n1 c1) := (hc _ _ (by go_size)).trans (by first | assumption | (simp [go_sem]; done)); have s0_2 : w3.cell? ⟨w.heap.size, 2, none⟩ = some (.bool g2) := (hc _ _ (by go_size)).trans (by first | assumption | (simp [go_sem]; done)); have s0_3 : w3.cell? ⟨w.heap.size, 3, none⟩ = some (.slice a2 n2 c2) := (hc _ _ (by go_size)).trans (by first | assumption | (simp [go_sem]; done))
        clear hc hf hb
        go_wp2_with fail
        go_ret
        exact ⟨by first | rfl | simp, HB⟩
    · have hr0 : r = false := by
        cases r
        · rfl
        · exact absurd (hr.2 rfl).2.1 o2
      subst hr0
      have O1 := Lib.hid o1
      have O2 := Lib.hid o2
      clear hr o1 o2
      go_enter Tryz.func186, Tryz.ntmps186
      go_wp2_with fail
      refine (rCheck_c _ _ _ _ _ d1 (h1.keep (by go_grown)) true ⟨fun _ => rfl, fun _ => O1.out⟩).mono ?_
      rintro e w1 ⟨rfl, hb⟩
      obtain ⟨hc, hf⟩ := bcell hb; have hz := hb.size; (try simp only [World.size_alloc, World.size_drew] at hz)
      replace HB : Below w.heap.size w w1 := Below.trans (by go_grown) (hb.mono (by go_size))
      have s0_0 : w1.cell? ⟨w.heap.size, 0, none⟩ = some (.bool g1) := (hc _ _ (by go_size)).trans (by first | assumption | (simp [go_sem]; done)); have s0_1 : w1.cell? ⟨w.heap.size, 1, none⟩ = some (.slice a1 n1 c1) := (hc _ _ (by go_size)).trans (by first | assumption | (simp [go_sem]; done)); have s0_2 : w1.cell? ⟨w.heap.size, 2, none⟩ = some (.bool g2) := (hc _ _ (by go_size)).trans (by first | assumption | (simp [go_sem]; done)); have s0_3 : w1.cell? ⟨w.heap.size, 3, none⟩ = some (.slice a2 n2 c2) := (hc _ _ (by go_size)).trans (by first | assumption | (simp [go_sem]; done))
      clear hc hf hb
      go_wp2_with fail
      refine (rCheck_c _ _ _ _ _ d2 (h2.keep (by go_grown)) false ⟨fun e => absurd e O2.out, fun e => (by cases e)⟩).mono ?_
      rintro e w2 ⟨rfl, hb⟩
      obtain ⟨hc, hf⟩ := bcell hb; have hz := hb.size; (try simp only [World.size_alloc, World.size_drew] at hz)
      replace HB : Below w.heap.size w w2 := Below.trans (by go_grown) (hb.mono (by go_size))
      have s0_0 : w2.cell? ⟨w.heap.size, 0, none⟩ = some (.bool g1) := (hc _ _ (by go_size)).trans (by first | assumption | (simp [go_sem]; done)); have s0_1 : w2.cell? ⟨w.heap.size, 1, none⟩ = some (.slice a1 n1 c1) := (hc _ _ (by go_size)).trans (by first | assumption | (simp [go_sem]; done)); have s0_2 : w2.cell? ⟨w.heap.size, 2, none⟩ = some (.bool g2) := (hc _ _ (by go_size)).trans (by first | assumption | (simp [go_sem]; done)); have s0_3 : w2.cell? ⟨w.heap.size, 3, none⟩ = some (.slice a2 n2 c2) := (hc _ _ (by go_size)).trans (by first | assumption | (simp [go_sem]; done))
      clear hc hf hb
      go_wp2_with fail
      go_ret
      exact ⟨by first | rfl | simp, HB⟩
  · have hr0 : r = false := by
      cases r
      · rfl
      · exact absurd (hr.2 rfl).1 o1
    subst hr0
    have O1 := Lib.hid o1
    clear hr o1
    go_enter Tryz.func186, Tryz.ntmps186
    go_wp2_with fail
    refine (rCheck_c _ _ _ _ _ d1 (h1.keep (by go_grown)) false ⟨fun e => absurd e O1.out, fun e => (by cases e)⟩).mono ?_
    rintro e w1 ⟨rfl, hb⟩
    obtain ⟨hc, hf⟩ := bcell hb; have hz := hb.size; (try simp only [World.size_alloc, World.size_drew] at hz)
    replace HB : Below w.heap.size w w1 := Below.trans (by go_grown) (hb.mono (by go_size))
    have s0_0 : w1.cell? ⟨w.heap.size, 0, none⟩ = some (.bool g1) := (hc _ _ (by go_size)).trans (by first | assumption | (simp [go_sem]; done)); have s0_1 : w1.cell? ⟨w.heap.size, 1, none⟩ = some (.slice a1 n1 c1) := (hc _ _ (by go_size)).trans (by first | assumption | (simp [go_sem]; done)); have s0_2 : w1.cell? ⟨w.heap.size, 2, none⟩ = some (.bool g2) := (hc _ _ (by go_size)).trans (by first | assumption | (simp [go_sem]; done)); have s0_3 : w1.cell? ⟨w.heap.size, 3, none⟩ = some (.slice a2 n2 c2) := (hc _ _ (by go_size)).trans (by first | assumption | (simp [go_sem]; done))
    clear hc hf hb
    go_wp2_with fail
    go_ret
    exact ⟨by first | rfl | simp, HB⟩

set_option maxRecDepth 100000 in
/-- of, of a fraction: it. -/
theorem rfFit_c (w : World) (g1 : Bool) (a1 : Option Addr) (n1 c1 : Nat) (p : Int) (g2 : Bool) (a2 : Option Addr) (n2 c2 : Nat) (q : Int) (h : FracAt w g1 a1 n1 c1 p g2 a2 n2 c2 q) (hs : n2 ≤ 1) (hb1 : n1 < 35184372088830) :
    Calls Tryz.prog 120 #[.agg #[.bool g1, .slice a1 n1 c1, .bool g2, .slice a2 n2 c2]] w fun e w' => e = .returned (.agg #[.bool g1, .slice a1 n1 c1, .bool g2, .slice a2 n2 c2]) ∧ Below w.heap.size w w' := by
  have HB := Below.refl w.heap.size w
  have HO := Lib.hid h.ok
  go_enter Tryz.func120, Tryz.ntmps120
  go_wp2_with fail
  refine (rfCheck_c _ _ _ _ _ _ (h.top.rd.keep (by go_grown)) _ _ _ _ _ (h.low.rd.keep (by go_grown)) hs hb1 true ⟨fun _ => rfl, fun _ => HO.out⟩).mono ?_
  rintro e w1 ⟨rfl, hb⟩
  obtain ⟨hc, hf⟩ := bcell hb; have hz := hb.size; (try simp only [World.size_alloc, World.size_drew] at hz)
  replace HB : Below w.heap.size w w1 := Below.trans (by go_grown) (hb.mono (by go_size))
  have s0_0 : w1.cell? ⟨w.heap.size, 0, none⟩ = some (.bool g1) := (hc _ _ (by go_size)).trans (by first | assumption | (simp [go_sem]; done)); have s0_1 : w1.cell? ⟨w.heap.size, 1, none⟩ = some (.slice a1 n1 c1) := (hc _ _ (by go_size)).trans (by first | assumption | (simp [go_sem]; done)); have s0_2 : w1.cell? ⟨w.heap.size, 2, none⟩ = some (.bool g2) := (hc _ _ (by go_size)).trans (by first | assumption | (simp [go_sem]; done)); have s0_3 : w1.cell? ⟨w.heap.size, 3, none⟩ = some (.slice a2 n2 c2) := (hc _ _ (by go_size)).trans (by first | assumption | (simp [go_sem]; done)); have s1_0 : w1.cell? ⟨w.heap.size + 1, 0, none⟩ = some (.bool false) := (hc _ _ (by go_size)).trans (by first | assumption | (simp [go_sem]; done)); have s1_1 : w1.cell? ⟨w.heap.size + 1, 1, none⟩ = some (.slice none 0 0) := (hc _ _ (by go_size)).trans (by first | assumption | (simp [go_sem]; done)); have s1_2 : w1.cell? ⟨w.heap.size + 1, 2, none⟩ = some (.bool false) := (hc _ _ (by go_size)).trans (by first | assumption | (simp [go_sem]; done)); have s1_3 : w1.cell? ⟨w.heap.size + 1, 3, none⟩ = some (.slice none 0 0) := (hc _ _ (by go_size)).trans (by first | assumption | (simp [go_sem]; done)); have s1_0 : w1.cell? ⟨w.heap.size + 1, 0, none⟩ = some (.bool false) := (hc _ _ (by go_size)).trans (by first | assumption | (simp [go_sem]; done)); have s1_1 : w1.cell? ⟨w.heap.size + 1, 1, none⟩ = some (.slice none 0 0) := (hc _ _ (by go_size)).trans (by first | assumption | (simp [go_sem]; done)); have s1_2 : w1.cell? ⟨w.heap.size + 1, 2, none⟩ = some (.bool false) := (hc _ _ (by go_size)).trans (by first | assumption | (simp [go_sem]; done)); have s1_3 : w1.cell? ⟨w.heap.size + 1, 3, none⟩ = some (.slice none 0 0) := (hc _ _ (by go_size)).trans (by first | assumption | (simp [go_sem]; done)); have f1_0 : w1.frozen? ⟨w.heap.size + 1, 0, none⟩ = false := (hf _ _ (by go_size)).trans (by first | assumption | (simp [go_sem]; done)); have f1_1 : w1.frozen? ⟨w.heap.size + 1, 1, none⟩ = false := (hf _ _ (by go_size)).trans (by first | assumption | (simp [go_sem]; done)); have f1_2 : w1.frozen? ⟨w.heap.size + 1, 2, none⟩ = false := (hf _ _ (by go_size)).trans (by first | assumption | (simp [go_sem]; done)); have f1_3 : w1.frozen? ⟨w.heap.size + 1, 3, none⟩ = false := (hf _ _ (by go_size)).trans (by first | assumption | (simp [go_sem]; done))
  have hk0 : w.heap.size < w1.heap.size := by omega
  have hk1 : w.heap.size + 1 < w1.heap.size := by omega
  clear hc hf hb
  go_wp2_with fail
  refine bodyPost_ret (v := .agg #[.bool g1, .slice a1 n1 c1, .bool g2, .slice a2 n2 c2]) (by simp [results, Tryz.results120, go_sem, s1_0, s1_1, s1_2, s1_3]) rfl ?_
  exact ⟨rfl, by go_grown⟩

set_option maxRecDepth 100000 in
/-- Sign, of a fraction. -/
theorem rfSign_c (w : World) (g1 : Bool) (a1 : Option Addr) (n1 c1 : Nat) (p : Int) (g2 : Bool) (a2 : Option Addr) (n2 c2 : Nat) (q : Int) (h : FracAt w g1 a1 n1 c1 p g2 a2 n2 c2 q) (hs : n2 ≤ 1) (hb1 : n1 < 35184372088830) :
    Calls Tryz.prog 41 #[.agg #[.bool g1, .slice a1 n1 c1, .bool g2, .slice a2 n2 c2]] w fun e w' => e = .returned (.int .i64 (cmpI p 0)) ∧ Below w.heap.size w w' := by
  have HB := Below.refl w.heap.size w
  go_enter Tryz.func41, Tryz.ntmps41
  go_wp2_with fail
  refine (rfFit_c _ _ _ _ _ _ _ _ _ _ _ (h.keep (by go_grown)) hs hb1).mono ?_
  rintro e w1 ⟨rfl, hb⟩
  obtain ⟨hc, hf⟩ := bcell hb; have hz := hb.size; (try simp only [World.size_alloc, World.size_drew] at hz)
  replace HB : Below w.heap.size w w1 := Below.trans (by go_grown) (hb.mono (by go_size))
  
  clear hc hf hb
  go_wp2_with fail
  refine (rSign_c _ _ _ _ _ _ (h.top.keep (by go_grown))).mono ?_
  rintro e w2 ⟨rfl, hb⟩
  obtain ⟨hc, hf⟩ := bcell hb; have hz := hb.size; (try simp only [World.size_alloc, World.size_drew] at hz)
  replace HB : Below w.heap.size w w2 := Below.trans (by go_grown) (hb.mono (by go_size))
  
  clear hc hf hb
  go_wp2_with fail
  go_ret
  exact ⟨rfl, HB⟩


end Go.Proofs.YtdamegaedmckbaaGreatDoor
