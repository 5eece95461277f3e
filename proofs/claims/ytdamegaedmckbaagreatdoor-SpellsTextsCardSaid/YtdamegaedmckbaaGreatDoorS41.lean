/- The document's answer, layer 6: Text of a sum. -/
import Derived.Test.YtdamegaedmckbaaGreatDoorS40
import Derived.Deep.CutBlock
set_option linter.unusedSimpArgs false
set_option linter.unusedVariables false
set_option linter.unusedSimpArgs false
set_option linter.unusedVariables false
namespace Go.Proofs.YtdamegaedmckbaaGreatDoor
open Go.RowKit

/-- A sum's three texts, term by term: its sign, its amount, its counts. -/
def pNeg (p : Nat → Tm) (k : Nat) : Bool := (p k).g1
def pTxt (p : Nat → Tm) (k : Nat) : List UInt8 := ftext (val (p k).d1) (val (p k).d2)
def pMon (p : Nat → Tm) (k : Nat) : Nat → Nat := quadN (p k).m0 (p k).m1 (p k).m2 (p k).m3

/-- A sum's text. -/
def stext (p : Nat → Tm) (n : Nat) : List UInt8 := if n = 0 then [48] else allS (pNeg p) (pTxt p) (pMon p) n

def SmallP (p : Nat → Tm) (n : Nat) : Prop := ∀ k, k < n → (p k).n1 ≤ 4 ∧ (p k).n2 ≤ 1

theorem ftext_len {w : World} {g1 : Bool} {a1 : Option Addr} {n1 c1 : Nat} {p : Int} {g2 : Bool} {a2 : Option Addr} {n2 c2 : Nat} {q : Int} (h : FracAt w g1 a1 n1 c1 p g2 a2 n2 c2 q) : (ftext p q).length ≤ 9 * n1 + 9 * n2 + 5 := by
  have h1 := itoa_len h.top
  have h2 := itoa_len h.low
  rw [ftext, List.length_append]
  split
  · simp only [List.length_nil]; omega
  · simp only [List.length_cons]; omega

theorem ftext_ne (p q : Int) : ftext p q ≠ [] := by
  rw [ftext]
  intro e
  exact itoa_ne p (List.append_eq_nil_iff.1 e).1

theorem letsS_len (m : Nat → Nat) (hm : ∀ k, k < 4 → m k < 65536) : ∀ k, k ≤ 4 → (letsS m k).length ≤ 8 * k := by
  intro k
  induction k with
  | zero => intro _; rw [letsS_zero]; simp
  | succ k ih =>
    intro hk
    have h1 := ih (by omega)
    by_cases h : 0 < m k
    · have h2 : (letterL k (m k)).length ≤ 7 := by
        have := itoa_small (m k) (hm k (by omega))
        rw [letterL]
        split
        · simp only [List.length_cons]; omega
        · simp
      rw [letsS_succ m k h]
      split
      · omega
      · simp only [List.length_append, List.length_cons]; omega
    · rw [letsS_skip m k h]; omega

theorem bodyL_len (t l : List UInt8) : (bodyL t l).length ≤ t.length + l.length + 1 := by
  unfold bodyL
  split
  · omega
  · split
    · omega
    · simp only [List.length_append, List.length_cons]; omega

set_option maxRecDepth 100000 in
set_option maxHeartbeats 4000000 in
theorem rText_yes (wo : World) (a : Option Addr) (n c : Nat) (p : Nat → Tm) (hp : RdP wo a n c p) (hsm : SmallP p n) (hn : n ≤ 1000000) (hr : POk p n) :
    Calls Tryz.prog 15 #[.slice a n c] wo (RetStr wo (stext p n)) := by
  have HR := Lib.hid hr
  have HS := Lib.hid hsm
  clear hr hsm
  go_enter Tryz.func15, Tryz.ntmps15
  go_wp2_with fail
  refine (rpFit_yes wo a n c p hp HS.out HR.out).mono ?_
  rintro e w1 ⟨rfl, hb1⟩
  have hp1 := hp.keep hb1
  clear hp
  go_wp2_with fail
  go_loopw [3, 4] (fun v3 v4 w => ∃ k : Nat, k ≤ n ∧ v4 = .int .i64 k ∧ v3 = .string ⟨(allS (pNeg p) (pTxt p) (pMon p) k).toArray⟩ ∧ (allS (pNeg p) (pTxt p) (pMon p) k).length ≤ 200 * k ∧ Below w1.heap.size w1 w) (fun _ v4 _ => n - (intOf v4).toNat)
  case atStart => exact ⟨0, by omega, rfl, rfl, by simp [allS], Below.refl _ _⟩
  case round =>
    obtain ⟨k, hk, rfl, rfl, hlen, hBr⟩ := hrel
    obtain ⟨w, rfl⟩ : ∃ w : World, w = wr := ⟨_, rfl⟩
    have HBo : Below wo.heap.size wo w := hb1.trans (hBr.mono hb1.size)
    have HB := Below.refl w.heap.size w
    by_cases hlt : k < n
    · obtain ⟨b, o, rfl, hcl⟩ := hp1.cell.resolve_left (by omega)
      have hpr := hp1.keep hBr
      have HT := hpr.tm k hlt
      obtain ⟨e0, e1, e2, e3, e4, e5, e6, e7⟩ := hpr.at hlt
      have hs := HS.out k hlt
      have hF := (HR.out k hlt).1.1
      have HSTEP := Lib.hid (show allS (pNeg p) (pTxt p) (pMon p) (k + 1) = allS (pNeg p) (pTxt p) (pMon p) k ++ (if k = 0 then (if (p k).g1 then [45] else []) else (if (p k).g1 then [32, 45, 32] else [32, 43, 32])) ++ bodyL (ftext (val (p k).d1) (val (p k).d2)) (letsS (quadN (p k).m0 (p k).m1 (p k).m2 (p k).m3) 4) from rfl)
      have HS0 := Lib.hid (show k = 0 → allS (pNeg p) (pTxt p) (pMon p) k = [] from fun h => by rw [h]; rfl)
      have hd1 := (HR.out k hlt).1.2
      generalize p k = t at *
      generalize allS (pNeg p) (pTxt p) (pMon p) k = S at *
      have HCL := Lib.hid hcl
      clear hcl hpr
      have HA := fracAt_of HT.top HT.low hF
      have hvp : 0 < val t.d1 := val_pos_of_canon hF.1.1 hd1
      have HE := Lib.hid (fun (W : World) (hW : Below w.heap.size w W) => (⟨cell_keep hW e4, cell_keep hW e5, cell_keep hW e6, cell_keep hW e7⟩ : W.cell? ⟨b, o + k * 8 + 4, none⟩ = some (.int .u16 t.m0) ∧ W.cell? ⟨b, o + k * 8 + 5, none⟩ = some (.int .u16 t.m1) ∧ W.cell? ⟨b, o + k * 8 + 6, none⟩ = some (.int .u16 t.m2) ∧ W.cell? ⟨b, o + k * 8 + 7, none⟩ = some (.int .u16 t.m3)))
      have hll := letsS_len (quadN t.m0 t.m1 t.m2 t.m3) (fun j hj => by
        match j, hj with
        | 0, _ => exact HT.s0
        | 1, _ => exact HT.s1
        | 2, _ => exact HT.s2
        | 3, _ => exact HT.s3) 4 (by omega)
      have u0 := HT.s0
      have u1 := HT.s1
      have u2 := HT.s2
      have u3 := HT.s3
      clear e4 e5 e6 e7 hd1
      cases hg : t.g1
      · skip
        rw [hg] at e0 HA HSTEP
        simp only [Bool.false_eq_true, if_false] at HA HSTEP
        have hcm : decide (cmpI ((val t.d1 : Nat) : Int) 0 < 0) = false := by rw [decide_eq_false_iff_not]; exact fun h => absurd (cmpI_neg.1 h) (by omega)
        have htl : (ftext ((val t.d1 : Nat) : Int) (val t.d2)).length ≤ 9 * t.n1 + 9 * t.n2 + 5 := ftext_len HA
        have htn := ftext_ne ((val t.d1 : Nat) : Int) (val t.d2)
        generalize htt : ftext ((val t.d1 : Nat) : Int) (val t.d2) = T at *
        have HTT := Lib.hid htt
        clear htt hg
        go_wp2_with fail
        refine (rfSign_c _ _ _ _ _ _ _ _ _ _ _ (HA.keep (by go_grown)) hs.2 (by omega)).mono ?_
        rintro e w2 ⟨rfl, hb⟩
        obtain ⟨hc, hf⟩ := bcell hb; have hz := hb.size; (try simp only [World.size_alloc, World.size_drew] at hz)
        replace HB : Below w.heap.size w w2 := Below.trans (by go_grown) (hb.mono (by go_size))
        have s0_0 : w2.cell? ⟨w.heap.size, 0, none⟩ = some (.bool false) := (hc _ _ (by go_size)).trans (by first | assumption | (simp [go_sem]; done) | (simp [*, go_sem]; done)); have s0_1 : w2.cell? ⟨w.heap.size, 1, none⟩ = some (.slice t.a1 t.n1 t.c1) := (hc _ _ (by go_size)).trans (by first | assumption | (simp [go_sem]; done) | (simp [*, go_sem]; done)); have s0_2 : w2.cell? ⟨w.heap.size, 2, none⟩ = some (.bool t.g2) := (hc _ _ (by go_size)).trans (by first | assumption | (simp [go_sem]; done) | (simp [*, go_sem]; done)); have s0_3 : w2.cell? ⟨w.heap.size, 3, none⟩ = some (.slice t.a2 t.n2 t.c2) := (hc _ _ (by go_size)).trans (by first | assumption | (simp [go_sem]; done) | (simp [*, go_sem]; done)); have f0_0 : w2.frozen? ⟨w.heap.size, 0, none⟩ = false := (hf _ _ (by go_size)).trans (by first | assumption | (simp [go_sem]; done) | (simp [*, go_sem]; done)); have f0_1 : w2.frozen? ⟨w.heap.size, 1, none⟩ = false := (hf _ _ (by go_size)).trans (by first | assumption | (simp [go_sem]; done) | (simp [*, go_sem]; done)); have f0_2 : w2.frozen? ⟨w.heap.size, 2, none⟩ = false := (hf _ _ (by go_size)).trans (by first | assumption | (simp [go_sem]; done) | (simp [*, go_sem]; done)); have f0_3 : w2.frozen? ⟨w.heap.size, 3, none⟩ = false := (hf _ _ (by go_size)).trans (by first | assumption | (simp [go_sem]; done) | (simp [*, go_sem]; done))
        have hk2 : w.heap.size < w2.heap.size := by omega
        clear hc hf hb hz
        by_cases hk0 : k = 0
        · subst hk0
          obtain rfl := HS0.out rfl
          have HAX := HA.keep HB
          have hsx := hs.2
          have hnx : t.n1 ≤ 1000000 := by omega
          have HBX := HB
          go_wp2_with fail
          refine (rfText_c _ _ _ _ _ _ _ _ _ _ _ HAX hsx hnx).mono ?_
          rintro e w5 ⟨rfl, hb5⟩
          rw [HTT.out]
          have HB5 := HBX.trans (hb5.mono HBX.size)
          obtain ⟨e4, e5, e6, e7⟩ := HE.out _ HB5
          go_wp2_with fail
          refine (letters_c _ _ _ _ _ u0 u1 u2 u3).mono ?_
          rintro e w6 ⟨rfl, hb6⟩
          have hB6 : Below w1.heap.size w1 w6 := hBr.trans ((HB5.trans (hb6.mono HB5.size)).mono hBr.size)
          go_wp2_with fail
          all_goals
            go_roundw
            case rel =>
              refine ⟨0 + 1, by omega, by go_num, congrArg Value.string ?_, ?_, hB6⟩
              · rw [HSTEP.out]; apply ByteArray.ext; simp_all [bodyL]
              · rw [HSTEP.out]
                have hbl := bodyL_len T (letsS (quadN t.m0 t.m1 t.m2 t.m3) 4)
                simp only [List.length_append]
                simp; omega
            case measure => simp [intOf]; omega
        · have HK0 := Lib.hid hk0
          have hkp : 0 < k := by omega
          have hkz : ((k : Int) == 0) = false := by rw [beq_eq_false_iff_ne]; omega
          clear hk0
          have HAX := HA.keep HB
          have hsx := hs.2
          have hnx : t.n1 ≤ 1000000 := by omega
          have HBX := HB
          go_wp2_with fail
          refine (rfText_c _ _ _ _ _ _ _ _ _ _ _ HAX hsx hnx).mono ?_
          rintro e w5 ⟨rfl, hb5⟩
          rw [HTT.out]
          have HB5 := HBX.trans (hb5.mono HBX.size)
          obtain ⟨e4, e5, e6, e7⟩ := HE.out _ HB5
          go_wp2_with fail
          refine (letters_c _ _ _ _ _ u0 u1 u2 u3).mono ?_
          rintro e w6 ⟨rfl, hb6⟩
          have hB6 : Below w1.heap.size w1 w6 := hBr.trans ((HB5.trans (hb6.mono HB5.size)).mono hBr.size)
          go_wp2_with fail
          all_goals
            go_roundw
            case rel =>
              refine ⟨k + 1, by omega, by go_num, congrArg Value.string ?_, ?_, hB6⟩
              · rw [HSTEP.out]; apply ByteArray.ext; simp_all [bodyL]
              · rw [HSTEP.out]
                have hbl := bodyL_len T (letsS (quadN t.m0 t.m1 t.m2 t.m3) 4)
                simp only [List.length_append]
                rw [if_neg HK0.out]; simp; omega
            case measure => simp [intOf]; omega
      · skip
        rw [hg] at e0 HA HSTEP
        simp only [if_true] at HA HSTEP
        have hcm : decide (cmpI (-((val t.d1 : Nat) : Int)) 0 < 0) = true := by rw [decide_eq_true_iff]; exact cmpI_neg.2 (by omega)
        have htl : (ftext ((val t.d1 : Nat) : Int) (val t.d2)).length ≤ 9 * t.n1 + 9 * t.n2 + 5 := by have h1 := HA.top.abs; rw [Int.natAbs_neg, Int.natAbs_natCast] at h1; exact ftext_len (w := w) ⟨h1, HA.low, HA.pos, by have := HA.red; simpa [Int.gcd] using this⟩
        have htn := ftext_ne ((val t.d1 : Nat) : Int) (val t.d2)
        generalize htt : ftext ((val t.d1 : Nat) : Int) (val t.d2) = T at *
        have HTT := Lib.hid htt
        clear htt hg
        go_wp2_with fail
        refine (rfSign_c _ _ _ _ _ _ _ _ _ _ _ (HA.keep (by go_grown)) hs.2 (by omega)).mono ?_
        rintro e w2 ⟨rfl, hb⟩
        obtain ⟨hc, hf⟩ := bcell hb; have hz := hb.size; (try simp only [World.size_alloc, World.size_drew] at hz)
        replace HB : Below w.heap.size w w2 := Below.trans (by go_grown) (hb.mono (by go_size))
        have s0_0 : w2.cell? ⟨w.heap.size, 0, none⟩ = some (.bool true) := (hc _ _ (by go_size)).trans (by first | assumption | (simp [go_sem]; done) | (simp [*, go_sem]; done)); have s0_1 : w2.cell? ⟨w.heap.size, 1, none⟩ = some (.slice t.a1 t.n1 t.c1) := (hc _ _ (by go_size)).trans (by first | assumption | (simp [go_sem]; done) | (simp [*, go_sem]; done)); have s0_2 : w2.cell? ⟨w.heap.size, 2, none⟩ = some (.bool t.g2) := (hc _ _ (by go_size)).trans (by first | assumption | (simp [go_sem]; done) | (simp [*, go_sem]; done)); have s0_3 : w2.cell? ⟨w.heap.size, 3, none⟩ = some (.slice t.a2 t.n2 t.c2) := (hc _ _ (by go_size)).trans (by first | assumption | (simp [go_sem]; done) | (simp [*, go_sem]; done)); have f0_0 : w2.frozen? ⟨w.heap.size, 0, none⟩ = false := (hf _ _ (by go_size)).trans (by first | assumption | (simp [go_sem]; done) | (simp [*, go_sem]; done)); have f0_1 : w2.frozen? ⟨w.heap.size, 1, none⟩ = false := (hf _ _ (by go_size)).trans (by first | assumption | (simp [go_sem]; done) | (simp [*, go_sem]; done)); have f0_2 : w2.frozen? ⟨w.heap.size, 2, none⟩ = false := (hf _ _ (by go_size)).trans (by first | assumption | (simp [go_sem]; done) | (simp [*, go_sem]; done)); have f0_3 : w2.frozen? ⟨w.heap.size, 3, none⟩ = false := (hf _ _ (by go_size)).trans (by first | assumption | (simp [go_sem]; done) | (simp [*, go_sem]; done))
        have hk2 : w.heap.size < w2.heap.size := by omega
        clear hc hf hb hz
        by_cases hk0 : k = 0
        · subst hk0
          obtain rfl := HS0.out rfl
          go_wp2_with fail
          refine (rfNeg_c _ _ _ _ _ _ _ _ _ _ _ (HA.keep HB) hs.2 (by omega)).mono ?_
          rintro e w3 ⟨g3, a3, n3, c3, g4, a4, n4, c4, rfl, hA3, hfr3, hfr4, hb⟩
          obtain ⟨hc, hf⟩ := bcell hb; have hz := hb.size; (try simp only [World.size_alloc, World.size_drew] at hz)
          replace HB : Below w.heap.size w w3 := Below.trans (by go_grown) (hb.mono (by go_size))
          have s0_0 : w3.cell? ⟨w.heap.size, 0, none⟩ = some (.bool true) := (hc _ _ (by go_size)).trans (by first | assumption | (simp [go_sem]; done) | (simp [*, go_sem]; done)); have s0_1 : w3.cell? ⟨w.heap.size, 1, none⟩ = some (.slice t.a1 t.n1 t.c1) := (hc _ _ (by go_size)).trans (by first | assumption | (simp [go_sem]; done) | (simp [*, go_sem]; done)); have s0_2 : w3.cell? ⟨w.heap.size, 2, none⟩ = some (.bool t.g2) := (hc _ _ (by go_size)).trans (by first | assumption | (simp [go_sem]; done) | (simp [*, go_sem]; done)); have s0_3 : w3.cell? ⟨w.heap.size, 3, none⟩ = some (.slice t.a2 t.n2 t.c2) := (hc _ _ (by go_size)).trans (by first | assumption | (simp [go_sem]; done) | (simp [*, go_sem]; done)); have f0_0 : w3.frozen? ⟨w.heap.size, 0, none⟩ = false := (hf _ _ (by go_size)).trans (by first | assumption | (simp [go_sem]; done) | (simp [*, go_sem]; done)); have f0_1 : w3.frozen? ⟨w.heap.size, 1, none⟩ = false := (hf _ _ (by go_size)).trans (by first | assumption | (simp [go_sem]; done) | (simp [*, go_sem]; done)); have f0_2 : w3.frozen? ⟨w.heap.size, 2, none⟩ = false := (hf _ _ (by go_size)).trans (by first | assumption | (simp [go_sem]; done) | (simp [*, go_sem]; done)); have f0_3 : w3.frozen? ⟨w.heap.size, 3, none⟩ = false := (hf _ _ (by go_size)).trans (by first | assumption | (simp [go_sem]; done) | (simp [*, go_sem]; done))
          have hk1 : w.heap.size < w3.heap.size := by omega
          clear hc hf hb hz
          go_wp2_with fail
          have HBX : Below w.heap.size w ((((w3.setCell ⟨w.heap.size, 0, none⟩ (.bool g3)).setCell ⟨w.heap.size, 1, none⟩ (.slice a3 n3 c3)).setCell ⟨w.heap.size, 2, none⟩ (.bool g4)).setCell ⟨w.heap.size, 3, none⟩ (.slice a4 n4 c4)) := by go_grown
          rw [Int.neg_neg] at hA3
          have hsx : n4 ≤ 1 := by have h1 := hA3.low.rd.len; have h2 := HA.low.rd.len; omega
          have hnx : n3 ≤ 1000000 := by have h1 := hA3.top.rd.len; have h2 := HA.top.rd.len; rw [Int.natAbs_neg] at h2; omega
          have HAX : FracAt ((((w3.setCell ⟨w.heap.size, 0, none⟩ (.bool g3)).setCell ⟨w.heap.size, 1, none⟩ (.slice a3 n3 c3)).setCell ⟨w.heap.size, 2, none⟩ (.bool g4)).setCell ⟨w.heap.size, 3, none⟩ (.slice a4 n4 c4)) g3 a3 n3 c3 ((val t.d1 : Nat) : Int) g4 a4 n4 c4 (val t.d2) := ⟨hA3.top.set4 hfr3 ⟨w.heap.size, 0, none⟩ ⟨w.heap.size, 1, none⟩ ⟨w.heap.size, 2, none⟩ ⟨w.heap.size, 3, none⟩ _ _ _ _ hk2 hk2 hk2 hk2, hA3.low.set4 hfr4 ⟨w.heap.size, 0, none⟩ ⟨w.heap.size, 1, none⟩ ⟨w.heap.size, 2, none⟩ ⟨w.heap.size, 3, none⟩ _ _ _ _ hk2 hk2 hk2 hk2, hA3.pos, hA3.red⟩
          clear hA3 hfr3 hfr4
          refine (rfText_c _ _ _ _ _ _ _ _ _ _ _ HAX hsx hnx).mono ?_
          rintro e w5 ⟨rfl, hb5⟩
          rw [HTT.out]
          have HB5 := HBX.trans (hb5.mono HBX.size)
          obtain ⟨e4, e5, e6, e7⟩ := HE.out _ HB5
          go_wp2_with fail
          refine (letters_c _ _ _ _ _ u0 u1 u2 u3).mono ?_
          rintro e w6 ⟨rfl, hb6⟩
          have hB6 : Below w1.heap.size w1 w6 := hBr.trans ((HB5.trans (hb6.mono HB5.size)).mono hBr.size)
          go_wp2_with fail
          all_goals
            go_roundw
            case rel =>
              refine ⟨0 + 1, by omega, by go_num, congrArg Value.string ?_, ?_, hB6⟩
              · rw [HSTEP.out]; apply ByteArray.ext; simp_all [bodyL]
              · rw [HSTEP.out]
                have hbl := bodyL_len T (letsS (quadN t.m0 t.m1 t.m2 t.m3) 4)
                simp only [List.length_append]
                simp; omega
            case measure => simp [intOf]; omega
        · have HK0 := Lib.hid hk0
          have hkp : 0 < k := by omega
          have hkz : ((k : Int) == 0) = false := by rw [beq_eq_false_iff_ne]; omega
          clear hk0
          go_wp2_with fail
          refine (rfNeg_c _ _ _ _ _ _ _ _ _ _ _ (HA.keep HB) hs.2 (by omega)).mono ?_
          rintro e w3 ⟨g3, a3, n3, c3, g4, a4, n4, c4, rfl, hA3, hfr3, hfr4, hb⟩
          obtain ⟨hc, hf⟩ := bcell hb; have hz := hb.size; (try simp only [World.size_alloc, World.size_drew] at hz)
          replace HB : Below w.heap.size w w3 := Below.trans (by go_grown) (hb.mono (by go_size))
          have s0_0 : w3.cell? ⟨w.heap.size, 0, none⟩ = some (.bool true) := (hc _ _ (by go_size)).trans (by first | assumption | (simp [go_sem]; done) | (simp [*, go_sem]; done)); have s0_1 : w3.cell? ⟨w.heap.size, 1, none⟩ = some (.slice t.a1 t.n1 t.c1) := (hc _ _ (by go_size)).trans (by first | assumption | (simp [go_sem]; done) | (simp [*, go_sem]; done)); have s0_2 : w3.cell? ⟨w.heap.size, 2, none⟩ = some (.bool t.g2) := (hc _ _ (by go_size)).trans (by first | assumption | (simp [go_sem]; done) | (simp [*, go_sem]; done)); have s0_3 : w3.cell? ⟨w.heap.size, 3, none⟩ = some (.slice t.a2 t.n2 t.c2) := (hc _ _ (by go_size)).trans (by first | assumption | (simp [go_sem]; done) | (simp [*, go_sem]; done)); have f0_0 : w3.frozen? ⟨w.heap.size, 0, none⟩ = false := (hf _ _ (by go_size)).trans (by first | assumption | (simp [go_sem]; done) | (simp [*, go_sem]; done)); have f0_1 : w3.frozen? ⟨w.heap.size, 1, none⟩ = false := (hf _ _ (by go_size)).trans (by first | assumption | (simp [go_sem]; done) | (simp [*, go_sem]; done)); have f0_2 : w3.frozen? ⟨w.heap.size, 2, none⟩ = false := (hf _ _ (by go_size)).trans (by first | assumption | (simp [go_sem]; done) | (simp [*, go_sem]; done)); have f0_3 : w3.frozen? ⟨w.heap.size, 3, none⟩ = false := (hf _ _ (by go_size)).trans (by first | assumption | (simp [go_sem]; done) | (simp [*, go_sem]; done))
          have hk1 : w.heap.size < w3.heap.size := by omega
          clear hc hf hb hz
          go_wp2_with fail
          have HBX : Below w.heap.size w ((((w3.setCell ⟨w.heap.size, 0, none⟩ (.bool g3)).setCell ⟨w.heap.size, 1, none⟩ (.slice a3 n3 c3)).setCell ⟨w.heap.size, 2, none⟩ (.bool g4)).setCell ⟨w.heap.size, 3, none⟩ (.slice a4 n4 c4)) := by go_grown
          rw [Int.neg_neg] at hA3
          have hsx : n4 ≤ 1 := by have h1 := hA3.low.rd.len; have h2 := HA.low.rd.len; omega
          have hnx : n3 ≤ 1000000 := by have h1 := hA3.top.rd.len; have h2 := HA.top.rd.len; rw [Int.natAbs_neg] at h2; omega
          have HAX : FracAt ((((w3.setCell ⟨w.heap.size, 0, none⟩ (.bool g3)).setCell ⟨w.heap.size, 1, none⟩ (.slice a3 n3 c3)).setCell ⟨w.heap.size, 2, none⟩ (.bool g4)).setCell ⟨w.heap.size, 3, none⟩ (.slice a4 n4 c4)) g3 a3 n3 c3 ((val t.d1 : Nat) : Int) g4 a4 n4 c4 (val t.d2) := ⟨hA3.top.set4 hfr3 ⟨w.heap.size, 0, none⟩ ⟨w.heap.size, 1, none⟩ ⟨w.heap.size, 2, none⟩ ⟨w.heap.size, 3, none⟩ _ _ _ _ hk2 hk2 hk2 hk2, hA3.low.set4 hfr4 ⟨w.heap.size, 0, none⟩ ⟨w.heap.size, 1, none⟩ ⟨w.heap.size, 2, none⟩ ⟨w.heap.size, 3, none⟩ _ _ _ _ hk2 hk2 hk2 hk2, hA3.pos, hA3.red⟩
          clear hA3 hfr3 hfr4
          refine (rfText_c _ _ _ _ _ _ _ _ _ _ _ HAX hsx hnx).mono ?_
          rintro e w5 ⟨rfl, hb5⟩
          rw [HTT.out]
          have HB5 := HBX.trans (hb5.mono HBX.size)
          obtain ⟨e4, e5, e6, e7⟩ := HE.out _ HB5
          go_wp2_with fail
          refine (letters_c _ _ _ _ _ u0 u1 u2 u3).mono ?_
          rintro e w6 ⟨rfl, hb6⟩
          have hB6 : Below w1.heap.size w1 w6 := hBr.trans ((HB5.trans (hb6.mono HB5.size)).mono hBr.size)
          go_wp2_with fail
          all_goals
            go_roundw
            case rel =>
              refine ⟨k + 1, by omega, by go_num, congrArg Value.string ?_, ?_, hB6⟩
              · rw [HSTEP.out]; apply ByteArray.ext; simp_all [bodyL]
              · rw [HSTEP.out]
                have hbl := bodyL_len T (letsS (quadN t.m0 t.m1 t.m2 t.m3) 4)
                simp only [List.length_append]
                rw [if_neg HK0.out]; simp; omega
            case measure => simp [intOf]; omega
    · obtain rfl : k = n := by omega
      rcases Nat.eq_zero_or_pos k with rfl | hkp
      · have hz : allS (pNeg p) (pTxt p) (pMon p) 0 = [] := rfl
        rw [hz]
        go_wp2_with fail
        go_ret
        exact ⟨by rw [stext, if_pos rfl]; rfl, HBo⟩
      · have hne := allS_ne (pNeg p) (pTxt p) (pMon p) (fun k => ftext_ne _ _) hkp
        have HST := Lib.hid (show stext p k = allS (pNeg p) (pTxt p) (pMon p) k by rw [stext, if_neg (by omega)])
        generalize allS (pNeg p) (pTxt p) (pMon p) k = S at *
        obtain ⟨c0, t0, rfl⟩ := List.exists_cons_of_ne_nil hne
        clear hne
        go_wp2_with fail
        go_ret
        exact ⟨by rw [HST.out]; rfl, HBo⟩

set_option maxRecDepth 100000 in
theorem rText_no (w : World) (a : Option Addr) (n c : Nat) (p : Nat → Tm) (hp : RdP w a n c p) (hsm : SmallP p n) (hr : ¬ POk p n) :
    Calls Tryz.prog 15 #[.slice a n c] w (RetStr w [48]) := by
  have HR := Lib.hid hr
  clear hr
  go_enter Tryz.func15, Tryz.ntmps15
  go_wp2_with fail
  refine (rpFit_no w a n c p hp hsm HR.out).mono ?_
  rintro e w1 ⟨rfl, hb1⟩
  go_wp2_with fail
  go_rounds 1
  all_goals go_wp2_with fail
  all_goals go_ret
  all_goals exact ⟨rfl, hb1⟩
end Go.Proofs.YtdamegaedmckbaaGreatDoor
