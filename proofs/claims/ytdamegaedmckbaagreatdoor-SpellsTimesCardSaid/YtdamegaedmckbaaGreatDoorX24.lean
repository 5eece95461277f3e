/- Package spells: Text of a sum. -/
import Derived.Test.YtdamegaedmckbaaGreatDoorX22
import Derived.Test.YtdamegaedmckbaaGreatDoorX5
import Derived.Deep.CutBlock
import Derived.Deep.AppendLies
set_option linter.unusedSimpArgs false
set_option linter.unusedVariables false
section
namespace Go.Proofs.YtdamegaedmckbaaGreatDoor
open Go.RowKit

theorem join_c (w : World) (base : Nat) (L : List (List UInt8)) (g n c : Nat) (hown : w.ownsRow base 9 1 (.slice (some ⟨g, 0, none⟩) n c) n (svals L)) (hn : 0 < n) (hn1 : n ≤ 1000000000) (hlen : (Lib.join L [32]).length ≤ 140737488355328) :
    Calls Tryz.prog 39 #[.slice (some ⟨g, 0, none⟩) n c, .string ⟨#[32]⟩] w (RetStr w (Lib.join L [32])) := by
  have hl : L.length = n := by have := hown.1; rw [svals_length] at this; omega
  have hm : (L.map fun t => (⟨t.toArray⟩ : ByteArray)).map (fun x : ByteArray => x.data.toList) = L := by
    rw [List.map_map]
    have : ((fun x : ByteArray => x.data.toList) ∘ fun t : List UInt8 => (⟨t.toArray⟩ : ByteArray)) = id := by funext t; simp
    rw [this, List.map_id]
  have hcap : n ≤ c := by
    rcases hown.2 with ⟨h', _⟩ | ⟨g', cap', cur, h', _, _, hnc, _⟩
    · simp at h'
    · simp only [Value.slice.injEq] at h'; omega
  have hj := Tryz.strings_Join g 0 c (L.map fun t => (⟨t.toArray⟩ : ByteArray)) ⟨#[32]⟩ w (fun j x hx => by
      have hjl : j < L.length := by
        rcases Nat.lt_or_ge j L.length with h1 | h1
        · exact h1
        · rw [List.getElem?_eq_none (by rw [List.length_map]; exact h1)] at hx; cases hx
      rw [Nat.zero_add, hown.cellAt j (by omega)]
      rw [List.getElem?_map, List.getElem?_eq_getElem hjl] at hx
      simp only [Option.map_some, Option.some.injEq] at hx
      rw [svals, List.getElem?_map, List.getElem?_eq_getElem hjl, ← hx]
      rfl) ((hown.lt g rfl).2) (by rw [List.length_map]; omega) (by rw [List.length_map]; omega) (by rw [hm]; exact hlen)
  rw [hm, List.length_map, hl] at hj
  exact hj
theorem allS_len (neg : Nat → Bool) (t : Nat → List UInt8) (m : Nat → Nat → Nat) (k : Nat) (ht : ∀ j, j < k → (t j).length ≤ 190000) (hm : ∀ j, j < k → (letsS (m j) 4).length ≤ 32) : (allS neg t m k).length ≤ 200000 * k := by
  induction k with
  | zero => simp [allS]
  | succ k ih =>
    have h1 := ih (fun j hj => ht j (by omega)) (fun j hj => hm j (by omega))
    have h2 := bodyL_len (t k) (letsS (m k) 4)
    have h3 := ht k (by omega)
    have h4 := hm k (by omega)
    rw [allS]
    simp only [List.length_append]
    have h5 : (if k = 0 then (if neg k then [45] else []) else (if neg k then [32, 45, 32] else ([32, 43, 32] : List UInt8))).length ≤ 3 := by
      split <;> split <;> simp
    show _ + _ + (bodyL (t k) (letsS (m k) 4)).length ≤ _
    omega
theorem wordsL_len (t : List UInt8) (m : Nat → Nat) : 0 < (wordsL t m).length ∧ (wordsL t m).length ≤ 5 := by
  have h1 := lets_len m 4
  obtain ⟨x, l, e⟩ := words_cons t m
  refine ⟨by rw [e]; simp, ?_⟩
  unfold wordsL
  split
  · simp only [List.length_cons]; omega
  · omega
theorem signed_len (neg : Bool) (l : List (List UInt8)) : (signed neg l).length = l.length := by cases l <;> rfl
theorem allW_len (neg : Nat → Bool) (t : Nat → List UInt8) (m : Nat → Nat → Nat) (k : Nat) : (allW neg t m k).length ≤ 6 * k := by
  induction k with
  | zero => simp [allW]
  | succ k ih =>
    have h1 := wordsL_len (t 0) (m 0)
    have h2 := wordsL_len (t k) (m k)
    rw [allW]
    split
    · rw [signed_len]; omega
    · simp only [List.length_append, List.length_singleton]; omega
theorem head_len {t : List UInt8} {m : Nat → Nat} {x : List UInt8} {l : List (List UInt8)} (h : wordsL t m = x :: l) (hm : ∀ k, k < 4 → m k < 65536) : x.length ≤ t.length + 7 := by
  have key : ∀ k, k ≤ 4 → ∀ y ∈ lets m k, y.length ≤ 7 := by
    intro k
    induction k with
    | zero => intro _ y hy; cases hy
    | succ k ih =>
      intro hk y hy
      rw [lets, List.mem_append] at hy
      rcases hy with hy | hy
      · exact ih (by omega) y hy
      · split at hy
        · rw [List.mem_singleton] at hy
          subst hy
          have := itoa_small (m k) (hm k (by omega))
          rw [letterL]
          split
          · simp only [List.length_cons]; omega
          · simp
        · cases hy
  unfold wordsL at h
  split at h
  · rw [List.cons.injEq] at h; rw [← h.1]; omega
  · have := key 4 (by omega) x (by rw [h]; exact List.mem_cons_self ..)
    omega
theorem signed_false (l : List (List UInt8)) : signed false l = l := by cases l <;> rfl
theorem FracAt.abs {w : World} {g1 : Bool} {a1 : Option Addr} {n1 c1 : Nat} {p : Int} {g2 : Bool} {a2 : Option Addr} {n2 c2 : Nat} {q : Int} (h : FracAt w g1 a1 n1 c1 p g2 a2 n2 c2 q) : FracAt w false a1 n1 c1 ((p.natAbs : Nat) : Int) g2 a2 n2 c2 q :=
  ⟨h.top.abs, h.low, h.pos, by have := h.red; simpa [Int.gcd] using this⟩
set_option maxRecDepth 100000 in
set_option maxHeartbeats 4000000 in
theorem sText_yes (wo : World) (a : Option Addr) (n c : Nat) (p : Nat → Tm) (hp : RdP wo a n c p) (hsm : SmallP p n) (hn : n ≤ 1000000) (hr : POk p n) (hT : Tab wo) (hn0 : 0 < n) :
    Calls Tryz.prog 14 #[.slice a n c] wo (RetStr wo (stext p n)) := by
  obtain ⟨i0, hi, hz0, hz1, hz2⟩ := info_parts info9
  have HR := Lib.hid hr
  have HS := Lib.hid hsm
  clear hr hsm
  have hnz : ((n : Int) == 0) = false := by rw [beq_eq_false_iff_ne]; omega
  go_enter Tryz.func14, Tryz.ntmps14
  go_wp2_with fail
  refine (pCheck_c wo a n c p hp (SmallP.few HS.out) true ⟨fun _ => rfl, fun _ => HR.out⟩).mono ?_
  rintro e w1 ⟨rfl, hb1⟩
  have hp1 := hp.keep hb1
  have hT1 := hT.keep hb1
  clear hp
  go_wp2_with fail
  go_loopw [3, 20] (fun v3 v20 w => ∃ k : Nat, k ≤ n ∧ v20 = .int .i64 k ∧ w.ownsRow w1.heap.size 9 1 v3 (allW (pNeg p) (pTxt p) (pMon p) k).length (svals (allW (pNeg p) (pTxt p) (pMon p) k)) ∧ (k = 0 → v3 = .slice none 0 0) ∧ Below w1.heap.size w1 w) (fun _ v20 _ => n - (intOf v20).toNat)
  case atStart => exact ⟨0, by omega, rfl, World.ownsRow_nil _ _ _ _, fun _ => rfl, Below.refl _ _⟩
  case round =>
    obtain ⟨k, hk, rfl, hown, hnil, hBr⟩ := hrel
    obtain ⟨w, rfl⟩ : ∃ w : World, w = wr := ⟨_, rfl⟩
    have HBo : Below wo.heap.size wo w := hb1.trans (hBr.mono hb1.size)
    have HB := Below.refl w.heap.size w
    by_cases hlt : k < n
    · obtain ⟨b, o, rfl, hcl⟩ := hp1.cell.resolve_left (by omega)
      have hpr := hp1.keep hBr
      have HT := hpr.tm k hlt
      obtain ⟨e0, e1, e2, e3, e4, e5, e6, e7⟩ := hpr.at hlt
      have hs := HS.out k hlt
      have hF := (HR.out k hlt).1.1
      have HSTEP := Lib.hid (show allW (pNeg p) (pTxt p) (pMon p) (k + 1) = if k = 0 then signed (pNeg p 0) (wordsL (pTxt p 0) (pMon p 0)) else allW (pNeg p) (pTxt p) (pMon p) k ++ [if (p k).g1 then [45] else [43]] ++ wordsL (ftext (val (p k).d1) (val (p k).d2)) (quadN (p k).m0 (p k).m1 (p k).m2 (p k).m3) from rfl)
      have HST0 := Lib.hid (show k = 0 → allW (pNeg p) (pTxt p) (pMon p) (k + 1) = signed (p k).g1 (wordsL (ftext (val (p k).d1) (val (p k).d2)) (quadN (p k).m0 (p k).m1 (p k).m2 (p k).m3)) from fun h => by subst h; rfl)
      have HST1 := Lib.hid (show k ≠ 0 → allW (pNeg p) (pTxt p) (pMon p) (k + 1) = allW (pNeg p) (pTxt p) (pMon p) k ++ [if (p k).g1 then [45] else [43]] ++ wordsL (ftext (val (p k).d1) (val (p k).d2)) (quadN (p k).m0 (p k).m1 (p k).m2 (p k).m3) from fun h => by rw [HSTEP.out, if_neg h])
      have hll := allW_len (pNeg p) (pTxt p) (pMon p) k
      have hwl := wordsL_len (ftext (val (p k).d1) (val (p k).d2)) (quadN (p k).m0 (p k).m1 (p k).m2 (p k).m3)
      have HA := (fracAt_of HT.top HT.low hF).abs
      rw [show ((if (p k).g1 then -(val (p k).d1 : Int) else (val (p k).d1 : Int)).natAbs) = val (p k).d1 by split <;> simp] at HA
      obtain ⟨WL, hWL⟩ : ∃ WL, WL = wordsL (ftext (val (p k).d1) (val (p k).d2)) (quadN (p k).m0 (p k).m1 (p k).m2 (p k).m3) := ⟨_, rfl⟩
      have HWL := Lib.hid hWL
      rw [← hWL] at HST0 HST1 hwl
      clear hWL HSTEP
      generalize allW (pNeg p) (pTxt p) (pMon p) k = L at *
      generalize p k = t at *
      have HCL := Lib.hid hcl
      clear hcl hpr
      have HNIL := Lib.hid hnil
      clear hnil
      have u0 := HT.s0
      have u1 := HT.s1
      have u2 := HT.s2
      have u3 := HT.s3
      have hTw : Tab w := hT1.keep hBr
      cases hg : t.g1
      · skip
        rw [hg] at e0 HST0 HST1
        clear hg
        go_wp2_with fail
        refine (amount_c _ _ _ _ _ _ _ _ _).mono ?_
        rintro e w2 ⟨rfl, hb⟩
        obtain ⟨hc, hf⟩ := bcell hb; have hz := hb.size; (try simp only [World.size_alloc, World.size_drew] at hz)
        replace HB : Below w.heap.size w w2 := Below.trans (by go_grown) (hb.mono (by go_size))
        have s0_0 : w2.cell? ⟨w.heap.size, 0, none⟩ = some (.bool false) := (hc _ _ (by go_size)).trans (by first | assumption | (simp [go_sem]; done) | (simp [*, go_sem]; done)); have s0_1 : w2.cell? ⟨w.heap.size, 1, none⟩ = some (.slice t.a1 t.n1 t.c1) := (hc _ _ (by go_size)).trans (by first | assumption | (simp [go_sem]; done) | (simp [*, go_sem]; done)); have s0_2 : w2.cell? ⟨w.heap.size, 2, none⟩ = some (.bool t.g2) := (hc _ _ (by go_size)).trans (by first | assumption | (simp [go_sem]; done) | (simp [*, go_sem]; done)); have s0_3 : w2.cell? ⟨w.heap.size, 3, none⟩ = some (.slice t.a2 t.n2 t.c2) := (hc _ _ (by go_size)).trans (by first | assumption | (simp [go_sem]; done) | (simp [*, go_sem]; done)); have s0_4 : w2.cell? ⟨w.heap.size, 4, none⟩ = some (.int .u16 t.m0) := (hc _ _ (by go_size)).trans (by first | assumption | (simp [go_sem]; done) | (simp [*, go_sem]; done)); have s0_5 : w2.cell? ⟨w.heap.size, 5, none⟩ = some (.int .u16 t.m1) := (hc _ _ (by go_size)).trans (by first | assumption | (simp [go_sem]; done) | (simp [*, go_sem]; done)); have s0_6 : w2.cell? ⟨w.heap.size, 6, none⟩ = some (.int .u16 t.m2) := (hc _ _ (by go_size)).trans (by first | assumption | (simp [go_sem]; done) | (simp [*, go_sem]; done)); have s0_7 : w2.cell? ⟨w.heap.size, 7, none⟩ = some (.int .u16 t.m3) := (hc _ _ (by go_size)).trans (by first | assumption | (simp [go_sem]; done) | (simp [*, go_sem]; done))
        have hk0 : w.heap.size < w2.heap.size := by omega
        clear hc hf hb hz
        go_wp2_with fail
        refine (words_c _ _ _ _ _ _ _ _ _ _ _ (HA.keep (by go_grown)) (by omega) (by omega) (hTw.keep (by go_grown)) _ _ _ _ u0 u1 u2 u3).mono ?_
        rintro e w3 ⟨v, rfl, hownw, hb3⟩
        rw [← HWL.out] at hownw
        have HB3 : Below w.heap.size w w3 := Below.trans (by go_grown) (hb3.mono (by go_size))
        have hk3 : w2.heap.size < w3.heap.size := by have := hb3.size; simp at this; omega
        have hown3 := ownsRow_keep hown HB3
        have hownw := ownsRow_base hownw (show w.heap.size + 1 ≤ _ by simp; omega)
        obtain ⟨g, cap, rfl, hgb, hgc⟩ := hownw.form hwl.1
        have hv3 := Lib.hid (fun k hk => (hown.lt k hk).2)
        clear hown s0_0 s0_1 s0_2 s0_3 s0_4 s0_5 s0_6 s0_7
        have hB3 : Below w1.heap.size w1 w3 := hBr.trans (HB3.mono hBr.size)
        have hzw := hBr.size
        by_cases hk0 : k = 0
        · subst hk0
          obtain rfl := HNIL.out rfl
          obtain ⟨hL, _⟩ : L.length = 0 ∧ True := by
            rcases hown3.2 with ⟨_, h0⟩ | ⟨g', cap', cur, h', _⟩
            · exact ⟨h0, trivial⟩
            · simp at h'
          obtain rfl : L = [] := List.eq_nil_of_length_eq_zero hL
          clear hL
          have HST := Lib.hid (HST0.out rfl)
          have HCS := Lib.hid (owns_cells hownw)
          go_wp2_with (at_builtin; refine wpList_append_own _ rfl _ _ 53 rfl w1.heap.size 9 i0 (.string ⟨#[]⟩) 1 16 Tryz.underlying53 hi hz0 hz1 hz2 rfl (by decide) _ _ _ rfl hown3 ⟨g, 0, none⟩ WL.length cap (svals WL) rfl (by rw [svals_length]; omega) HCS.out (svals_one _) (by unfold maxLen; omega) (by omega) (by omega) ?_; intro v5 w5 hown5 hgrow5 _)
          go_roundw
          case rel =>
            refine ⟨1, by omega, by go_num, ?_, fun h => by omega, hB3.grown hgrow5 hB3.size (fun k hk => (hown3.lt k hk).1)⟩
            rw [HST.out, signed_false]
            simpa [svals] using hown5
          case measure => simp [intOf]; omega
        · have HST := Lib.hid (HST1.out hk0)
          have hkp : 0 < k := by omega
          clear hk0
          go_upto_region 16 with (at_builtin; refine wpList_append_own _ rfl _ _ 53 rfl w1.heap.size 9 i0 (.string ⟨#[]⟩) 1 16 Tryz.underlying53 hi hz0 hz1 hz2 rfl (by decide) _ _ _ rfl (hown3.alloc (.cells #[.string ⟨#[43]⟩] 9)) ⟨w3.heap.size, 0, none⟩ 1 1 [.string ⟨#[43]⟩] rfl rfl (cell_one_new _ _ _) (by simp [Value.oneCell']) (by unfold maxLen; omega) (by omega) (by go_size) ?_; intro v4 w4 hown4 hgrow4 _)
          have hownw4 := (hownw.alloc (.cells #[.string ⟨#[43]⟩] 9)).kept hgrow4 (.inr (fun e => by have := hv3.out g e.symm; omega))
          have hB4 : Below w1.heap.size w1 w4 := (hB3.alloc (by omega) _).grown hgrow4 (by go_size) (fun k hk => (hown3.lt k hk).1)
          have hz4 := hB4.size
          have HCS := Lib.hid (owns_cells hownw4)
          clear hownw hownw4 hown3
          go_wp2_with (at_builtin; refine wpList_append_own _ rfl _ _ 53 rfl w1.heap.size 9 i0 (.string ⟨#[]⟩) 1 16 Tryz.underlying53 hi hz0 hz1 hz2 rfl (by decide) _ _ _ rfl hown4 ⟨g, 0, none⟩ WL.length cap (svals WL) rfl (by rw [svals_length]; omega) HCS.out (svals_one _) (by unfold maxLen; omega) (by omega) (by omega) ?_; intro v5 w5 hown5 hgrow5 _)
          go_roundw
          case rel =>
            refine ⟨k + 1, by omega, by go_num, ?_, fun h => by omega, hB4.grown hgrow5 hB4.size (fun k hk => (hown4.lt k hk).1)⟩
            rw [HST.out, svals_append, svals_append, List.length_append, List.length_append]
            exact hown5
          case measure => simp [intOf]; omega
      · skip
        rw [hg] at e0 HST0 HST1
        clear hg
        go_wp2_with fail
        refine (amount_c _ _ _ _ _ _ _ _ _).mono ?_
        rintro e w2 ⟨rfl, hb⟩
        obtain ⟨hc, hf⟩ := bcell hb; have hz := hb.size; (try simp only [World.size_alloc, World.size_drew] at hz)
        replace HB : Below w.heap.size w w2 := Below.trans (by go_grown) (hb.mono (by go_size))
        have s0_0 : w2.cell? ⟨w.heap.size, 0, none⟩ = some (.bool true) := (hc _ _ (by go_size)).trans (by first | assumption | (simp [go_sem]; done) | (simp [*, go_sem]; done)); have s0_1 : w2.cell? ⟨w.heap.size, 1, none⟩ = some (.slice t.a1 t.n1 t.c1) := (hc _ _ (by go_size)).trans (by first | assumption | (simp [go_sem]; done) | (simp [*, go_sem]; done)); have s0_2 : w2.cell? ⟨w.heap.size, 2, none⟩ = some (.bool t.g2) := (hc _ _ (by go_size)).trans (by first | assumption | (simp [go_sem]; done) | (simp [*, go_sem]; done)); have s0_3 : w2.cell? ⟨w.heap.size, 3, none⟩ = some (.slice t.a2 t.n2 t.c2) := (hc _ _ (by go_size)).trans (by first | assumption | (simp [go_sem]; done) | (simp [*, go_sem]; done)); have s0_4 : w2.cell? ⟨w.heap.size, 4, none⟩ = some (.int .u16 t.m0) := (hc _ _ (by go_size)).trans (by first | assumption | (simp [go_sem]; done) | (simp [*, go_sem]; done)); have s0_5 : w2.cell? ⟨w.heap.size, 5, none⟩ = some (.int .u16 t.m1) := (hc _ _ (by go_size)).trans (by first | assumption | (simp [go_sem]; done) | (simp [*, go_sem]; done)); have s0_6 : w2.cell? ⟨w.heap.size, 6, none⟩ = some (.int .u16 t.m2) := (hc _ _ (by go_size)).trans (by first | assumption | (simp [go_sem]; done) | (simp [*, go_sem]; done)); have s0_7 : w2.cell? ⟨w.heap.size, 7, none⟩ = some (.int .u16 t.m3) := (hc _ _ (by go_size)).trans (by first | assumption | (simp [go_sem]; done) | (simp [*, go_sem]; done))
        have hk0 : w.heap.size < w2.heap.size := by omega
        clear hc hf hb hz
        go_wp2_with fail
        refine (words_c _ _ _ _ _ _ _ _ _ _ _ (HA.keep (by go_grown)) (by omega) (by omega) (hTw.keep (by go_grown)) _ _ _ _ u0 u1 u2 u3).mono ?_
        rintro e w3 ⟨v, rfl, hownw, hb3⟩
        rw [← HWL.out] at hownw
        have HB3 : Below w.heap.size w w3 := Below.trans (by go_grown) (hb3.mono (by go_size))
        have hk3 : w2.heap.size < w3.heap.size := by have := hb3.size; simp at this; omega
        have hown3 := ownsRow_keep hown HB3
        have hownw := ownsRow_base hownw (show w.heap.size + 1 ≤ _ by simp; omega)
        obtain ⟨g, cap, rfl, hgb, hgc⟩ := hownw.form hwl.1
        have hv3 := Lib.hid (fun k hk => (hown.lt k hk).2)
        clear hown s0_0 s0_1 s0_2 s0_3 s0_4 s0_5 s0_6 s0_7
        have hB3 : Below w1.heap.size w1 w3 := hBr.trans (HB3.mono hBr.size)
        have hzw := hBr.size
        by_cases hk0 : k = 0
        · subst hk0
          obtain rfl := HNIL.out rfl
          obtain ⟨hL, _⟩ : L.length = 0 ∧ True := by
            rcases hown3.2 with ⟨_, h0⟩ | ⟨g', cap', cur, h', _⟩
            · exact ⟨h0, trivial⟩
            · simp at h'
          obtain rfl : L = [] := List.eq_nil_of_length_eq_zero hL
          clear hL
          have HST := Lib.hid (HST0.out rfl)
          obtain ⟨x, l, hxl⟩ := words_cons (ftext (val t.d1) (val t.d2)) (quadN t.m0 t.m1 t.m2 t.m3)
          have hxlen := head_len hxl (fun j hj => by
            match j, hj with
            | 0, _ => exact u0
            | 1, _ => exact u1
            | 2, _ => exact u2
            | 3, _ => exact u3)
          have hft := ftext_len HA
          rw [← HWL.out] at hxl
          subst hxl
          have hx0 : w3.cell? ⟨g, 0, none⟩ = some (.string ⟨x.toArray⟩) := by rw [hownw.cellAt 0 (by simp)]; rfl
          have hf0 := hownw.frozenAt 0
          have hcat : (⟨#[45]⟩ : ByteArray).size + (⟨x.toArray⟩ : ByteArray).size ≤ 9223372036854775807 := by show 1 + x.length ≤ _; omega
          have happ : ((⟨#[45]⟩ : ByteArray) ++ (⟨x.toArray⟩ : ByteArray)) = ⟨(45 :: x).toArray⟩ := ba_app [45] x
          have hlc : (x :: l).length = l.length + 1 := rfl
          have hst := hownw.stored 0 (.string ⟨(45 :: x).toArray⟩)
          have hown6 : (w3.setCell ⟨g, 0, none⟩ (.string ⟨(45 :: x).toArray⟩)).ownsRow (w.heap.size + 1) 9 1 (.slice (some ⟨g, 0, none⟩) (l.length + 1) cap) (l.length + 1) (svals ((45 :: x) :: l)) := hst.1
          have hB6 : Below w1.heap.size w1 (w3.setCell ⟨g, 0, none⟩ (.string ⟨(45 :: x).toArray⟩)) := hB3.grown hst.2 hB3.size (fun k hk => by cases hk; omega)
          go_upto_region 16 with fail
          clear hx0 hf0 hst hownw hown3
          generalize (w3.setCell ⟨g, 0, none⟩ (.string ⟨(45 :: x).toArray⟩)) = w6 at *
          have HCS := Lib.hid (owns_cells hown6)
          have hz6 := hB6.size
          clear hcat happ
          go_wp2_with (at_builtin; refine wpList_append_own _ rfl _ _ 53 rfl w1.heap.size 9 i0 (.string ⟨#[]⟩) 1 16 Tryz.underlying53 hi hz0 hz1 hz2 rfl (by decide) _ _ _ rfl (World.ownsRow_nil _ _ _ _) ⟨g, 0, none⟩ (l.length + 1) cap (svals ((45 :: x) :: l)) rfl (by rw [svals_length]; simp) HCS.out (svals_one _) (by unfold maxLen; omega) (by omega) (by omega) ?_; intro v5 w5 hown5 hgrow5 _)
          go_roundw
          case rel =>
            refine ⟨1, by omega, by go_num, ?_, fun h => by omega, hB6.grown hgrow5 hB6.size (fun k hk => by cases hk)⟩
            rw [HST.out]
            simpa [svals, signed] using hown5
          case measure => simp [intOf]; omega
        · have HST := Lib.hid (HST1.out hk0)
          have hkp : 0 < k := by omega
          clear hk0
          go_upto_region 16 with (at_builtin; refine wpList_append_own _ rfl _ _ 53 rfl w1.heap.size 9 i0 (.string ⟨#[]⟩) 1 16 Tryz.underlying53 hi hz0 hz1 hz2 rfl (by decide) _ _ _ rfl (hown3.alloc (.cells #[.string ⟨#[45]⟩] 9)) ⟨w3.heap.size, 0, none⟩ 1 1 [.string ⟨#[45]⟩] rfl rfl (cell_one_new _ _ _) (by simp [Value.oneCell']) (by unfold maxLen; omega) (by omega) (by go_size) ?_; intro v4 w4 hown4 hgrow4 _)
          have hownw4 := (hownw.alloc (.cells #[.string ⟨#[45]⟩] 9)).kept hgrow4 (.inr (fun e => by have := hv3.out g e.symm; omega))
          have hB4 : Below w1.heap.size w1 w4 := (hB3.alloc (by omega) _).grown hgrow4 (by go_size) (fun k hk => (hown3.lt k hk).1)
          have hz4 := hB4.size
          have HCS := Lib.hid (owns_cells hownw4)
          clear hownw hownw4 hown3
          go_wp2_with (at_builtin; refine wpList_append_own _ rfl _ _ 53 rfl w1.heap.size 9 i0 (.string ⟨#[]⟩) 1 16 Tryz.underlying53 hi hz0 hz1 hz2 rfl (by decide) _ _ _ rfl hown4 ⟨g, 0, none⟩ WL.length cap (svals WL) rfl (by rw [svals_length]; omega) HCS.out (svals_one _) (by unfold maxLen; omega) (by omega) (by omega) ?_; intro v5 w5 hown5 hgrow5 _)
          go_roundw
          case rel =>
            refine ⟨k + 1, by omega, by go_num, ?_, fun h => by omega, hB4.grown hgrow5 hB4.size (fun k hk => (hown4.lt k hk).1)⟩
            rw [HST.out, svals_append, svals_append, List.length_append, List.length_append]
            exact hown5
          case measure => simp [intOf]; omega
    · obtain rfl : k = n := by omega
      have hj := join_all (pNeg p) (pTxt p) (pMon p) k
      have HST := Lib.hid (show stext p k = Lib.join (allW (pNeg p) (pTxt p) (pMon p) k) [32] by rw [stext, if_neg (by omega), hj])
      have hjl : (Lib.join (allW (pNeg p) (pTxt p) (pMon p) k) [32]).length ≤ 200000 * k := by
        rw [hj]
        refine allS_len _ _ _ _ (fun j hj => ?_) (fun j hj => ?_)
        · have h1 := (fracAt_of (hp1.tm j hj).top (hp1.tm j hj).low (HR.out j hj).1.1).abs
          rw [show ((if (p j).g1 then -(val (p j).d1 : Int) else (val (p j).d1 : Int)).natAbs) = val (p j).d1 by split <;> simp] at h1
          have h2 := ftext_len h1
          have h3 := HS.out j hj
          show (ftext _ _).length ≤ 190000
          omega
        · have h1 := hp1.tm j hj
          exact letsS_len _ (fun i hi => by
            match i, hi with
            | 0, _ => exact h1.s0
            | 1, _ => exact h1.s1
            | 2, _ => exact h1.s2
            | 3, _ => exact h1.s3) 4 (by omega)
      have hlp : 0 < (allW (pNeg p) (pTxt p) (pMon p) k).length := List.length_pos_iff.2 (allW_ne _ _ _ hn0)
      have hll := allW_len (pNeg p) (pTxt p) (pMon p) k
      clear hj
      generalize allW (pNeg p) (pTxt p) (pMon p) k = L at *
      obtain ⟨g, cap, rfl, hgb, hgc⟩ := hown.form hlp
      go_wp2_with fail
      refine (join_c _ _ L g _ cap hown hlp (by omega) (by omega)).mono ?_
      rintro e w2 ⟨rfl, hb2⟩
      go_wp2_with fail
      go_ret
      exact ⟨by rw [HST.out]; rfl, HBo.trans (hb2.mono HBo.size)⟩
set_option maxRecDepth 100000 in
theorem sText_no (w : World) (a : Option Addr) (n c : Nat) (p : Nat → Tm) (hp : RdP w a n c p) (hsm : SmallP p n) (hr : ¬ POk p n) :
    Calls Tryz.prog 14 #[.slice a n c] w (RetStr w [48]) := by
  have HR := Lib.hid hr
  clear hr
  go_enter Tryz.func14, Tryz.ntmps14
  go_wp2_with fail
  refine (pCheck_c w a n c p hp (hsm.few) false ⟨fun h => absurd h HR.out, fun e => (by cases e)⟩).mono ?_
  rintro e w1 ⟨rfl, hb1⟩
  go_wp2_with fail
  go_ret
  exact ⟨rfl, hb1⟩
set_option maxRecDepth 100000 in
theorem sText_nil (w : World) (a : Option Addr) (c : Nat) (p : Nat → Tm) (hp : RdP w a 0 c p) :
    Calls Tryz.prog 14 #[.slice a 0 c] w (RetStr w [48]) := by
  go_enter Tryz.func14, Tryz.ntmps14
  go_wp2_with fail
  refine (pCheck_c w a 0 c p hp (fun k hk => absurd hk (Nat.not_lt_zero _)) true ⟨fun _ => rfl, fun _ => fun j hj => absurd hj (Nat.not_lt_zero _)⟩).mono ?_
  rintro e w1 ⟨rfl, hb1⟩
  go_wp2_with fail
  go_ret
  exact ⟨rfl, hb1⟩
/-- What both texts are. -/
noncomputable def bothText (p : Nat → Tm) (n : Nat) : List UInt8 := @ite _ (POk p n) (Classical.propDecidable _) (stext p n) [48]
theorem sText_c (w : World) (a : Option Addr) (n c : Nat) (p : Nat → Tm) (hp : RdP w a n c p) (hsm : SmallP p n) (hn : n ≤ 1000000) (hT : Tab w) :
    Calls Tryz.prog 14 #[.slice a n c] w (RetStr w (bothText p n)) := by
  unfold bothText
  by_cases hr : POk p n
  · rw [if_pos hr]
    rcases Nat.eq_zero_or_pos n with rfl | h
    · rw [stext, if_pos rfl]; exact sText_nil w a c p hp
    · exact sText_yes w a n c p hp hsm hn hr hT h
  · rw [if_neg hr]
    exact sText_no w a n c p hp hsm hr
end Go.Proofs.YtdamegaedmckbaaGreatDoor
end
