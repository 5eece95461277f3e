/- The document's answer, layer 6: count, letters. -/
import Derived.Test.YtdamegaedmckbaaGreatDoorS25
import Derived.Test.YtdamegaedmckbaaGreatDoorS39
set_option linter.unusedSimpArgs false
set_option linter.unusedVariables false
set_option linter.unusedSimpArgs false
set_option linter.unusedVariables false
namespace Go.Proofs.YtdamegaedmckbaaGreatDoor
open Go.RowKit

theorem count_c (w : World) (n : Int) (h0 : 0 ≤ n) (h1 : n ≤ 1000000) : Calls Tryz.prog 125 #[.int .i64 n] w (RetStr w (Lib.itoa n)) := by
  go_enter Tryz.func125, Tryz.ntmps125
  go_wp2_with fail
  refine (rOf_c _ n (by omega) (by omega)).mono ?_
  rintro e w1 ⟨g1, a1, n1, c1, rfl, hn1, hfr1, hb1⟩
  have hl : n1 ≤ 1000000 := by
    have h2 := hn1.rd.len
    have h3 := dg_length_mono (a := n.natAbs) (b := 1000000) (by omega)
    rw [dg_pos (n := 1000000) (by omega), show 1000000 / 1000000000 = 0 from rfl, dg_zero] at h3
    simp at h3
    omega
  go_wp2_with fail
  refine (rText_c _ _ _ _ _ n hn1 hl).mono ?_
  rintro e w2 ⟨rfl, hb2⟩
  go_wp2_with fail
  go_ret
  exact ⟨rfl, hb1.trans (hb2.mono hb1.size)⟩

def letsS (m : Nat → Nat) (k : Nat) : List UInt8 := Lib.join (lets m k) [32]

theorem letsS_zero (m : Nat → Nat) : letsS m 0 = [] := rfl
theorem letsS_skip (m : Nat → Nat) (k : Nat) (h : ¬ 0 < m k) : letsS m (k + 1) = letsS m k := by rw [letsS, lets, if_neg h, List.append_nil]; rfl
theorem letsS_succ (m : Nat → Nat) (k : Nat) (h : 0 < m k) : letsS m (k + 1) = if letsS m k = [] then letterL k (m k) else letsS m k ++ 32 :: letterL k (m k) := by
  rw [letsS, lets, if_pos h]
  by_cases hl : lets m k = []
  · rw [if_pos (by rw [letsS, hl]; rfl), hl, List.nil_append, Lib.join_one]
  · rw [if_neg (show ¬ letsS m k = [] from fun e => hl ((join_nil_iff (lets_ne k)).1 e)), join_append hl (by simp), Lib.join_one]; rfl

theorem xyzt_cut (k : Nat) (h : k < 4) : (⟨#[120, 121, 122, 116]⟩ : ByteArray).extract k (k + 1) = ⟨#[xyzt k]⟩ := by
  match k, h with
  | 0, _ => rfl
  | 1, _ => rfl
  | 2, _ => rfl
  | 3, _ => rfl

set_option maxRecDepth 100000 in
set_option maxHeartbeats 2000000 in
theorem letters_c (w : World) (m0 m1 m2 m3 : Nat) (h0 : m0 < 65536) (h1 : m1 < 65536) (h2 : m2 < 65536) (h3 : m3 < 65536) :
    Calls Tryz.prog 44 #[.agg #[.int .u16 m0, .int .u16 m1, .int .u16 m2, .int .u16 m3]] w (RetStr w (letsS (quadN m0 m1 m2 m3) 4)) := by
  go_enter Tryz.func44, Tryz.ntmps44
  go_wp2_with fail
  have HC : Hid (∀ k, k < 4 → (w.alloc (.cells #[.int .u16 m0, .int .u16 m1, .int .u16 m2, .int .u16 m3] 66)).cell? ⟨w.heap.size, k, none⟩ = some (.int .u16 (quadN m0 m1 m2 m3 k : Nat))) := Lib.hid (fun k hk => by
    match k, hk with
    | 0, _ => simp [go_sem, quadN]
    | 1, _ => simp [go_sem, quadN]
    | 2, _ => simp [go_sem, quadN]
    | 3, _ => simp [go_sem, quadN])
  have HM : Hid (∀ k, k < 4 → quadN m0 m1 m2 m3 k < 65536) := Lib.hid (fun k hk => by
    match k, hk with
    | 0, _ => exact h0
    | 1, _ => exact h1
    | 2, _ => exact h2
    | 3, _ => exact h3)
  have HB : Below w.heap.size w (w.alloc (.cells #[.int .u16 m0, .int .u16 m1, .int .u16 m2, .int .u16 m3] 66)) := by go_grown
  clear h0 h1 h2 h3
  generalize hmm : quadN m0 m1 m2 m3 = m at *
  clear hmm
  generalize (w.alloc (.cells #[.int .u16 m0, .int .u16 m1, .int .u16 m2, .int .u16 m3] 66)) = w1 at *
  go_loopw [3, 4] (fun v3 v4 wr => ∃ k : Nat, k ≤ 4 ∧ v4 = .int .i64 k ∧ v3 = .string ⟨(letsS m k).toArray⟩ ∧ (letsS m k).length ≤ 8 * k ∧ Below w1.heap.size w1 wr) (fun _ v4 _ => 4 - (intOf v4).toNat)
  case atStart => exact ⟨0, by omega, rfl, rfl, by rw [letsS_zero]; simp, Below.refl _ _⟩
  case round =>
    obtain ⟨k, hk, rfl, rfl, hlen, hBr⟩ := hrel
    by_cases hlt : k < 4
    · have c1 := cell_keep hBr (HC.out k hlt)
      obtain ⟨x, hx⟩ : ∃ x, x = m k := ⟨_, rfl⟩
      have hxl : x < 65536 := by rw [hx]; exact HM.out k hlt
      have hil := itoa_small x hxl
      rw [← hx] at c1
      have HX := Lib.hid hx
      clear hx
      by_cases hp : 0 < x
      · have hex := xyzt_cut k hlt
        obtain ⟨ch, hch⟩ : ∃ ch, ch = xyzt k := ⟨_, rfl⟩
        rw [← hch] at hex
        have HCH := Lib.hid hch
        clear hch
        have hxz : ((x : Int) == 0) = false := by rw [beq_eq_false_iff_ne]; omega
        by_cases hne : letsS m k = []
        · have HNE := Lib.hid hne
          rw [hne]
          clear hne hlen
          by_cases h1 : 1 < x
          · skip
            obtain ⟨S2, hS2⟩ : ∃ S2 : List UInt8, S2 = [ch] := ⟨_, rfl⟩
            have happ2 : ((⟨#[]⟩ : ByteArray) ++ (⟨#[ch]⟩ : ByteArray)) = ⟨S2.toArray⟩ := by rw [hS2]; exact ba_app [] [ch]
            have hlen2 : S2.length = 1 := by rw [hS2]; rfl
            have hcat2 : (⟨#[]⟩ : ByteArray).size + (⟨#[ch]⟩ : ByteArray).size ≤ 9223372036854775807 := by show 0 + 1 ≤ _; omega
            obtain ⟨S3, hS3⟩ : ∃ S3 : List UInt8, S3 = S2 ++ [94] := ⟨_, rfl⟩
            have happ3 : ((⟨(S2).toArray⟩ : ByteArray) ++ (⟨#[94]⟩ : ByteArray)) = ⟨S3.toArray⟩ := by rw [hS3]; exact ba_app _ [94]
            have hlen3 : S3.length = (S2).length + 1 := by rw [hS3, List.length_append]; rfl
            have hcat3 : (⟨(S2).toArray⟩ : ByteArray).size + (⟨#[94]⟩ : ByteArray).size ≤ 9223372036854775807 := by show (S2).length + 1 ≤ _; omega
            obtain ⟨S4, hS4⟩ : ∃ S4 : List UInt8, S4 = S3 ++ Lib.itoa (x : Int) := ⟨_, rfl⟩
            have happ4 : ((⟨(S3).toArray⟩ : ByteArray) ++ (⟨(Lib.itoa (x : Int)).toArray⟩ : ByteArray)) = ⟨S4.toArray⟩ := by rw [hS4]; exact ba_app _ _
            have hlen4 : S4.length = (S3).length + (Lib.itoa (x : Int)).length := by rw [hS4, List.length_append]
            have hcat4 : (⟨(S3).toArray⟩ : ByteArray).size + (⟨(Lib.itoa (x : Int)).toArray⟩ : ByteArray).size ≤ 9223372036854775807 := by rw [ba_size, ba_size]; omega
            have HF : Hid (S4 = letsS m (k + 1)) := Lib.hid (by
              rw [letsS_succ m k (by rw [← HX.out]; omega), if_pos HNE.out, ← HX.out, letterL, if_pos (by omega), ← HCH.out, hS4, hS3, hS2]
              all_goals simp)
            have hfl : S4.length ≤ 8 * (k + 1) := by omega
            clear hS2 hS3 hS4
            go_wp2_with fail
            go_wp2_with fail
            refine (count_c _ x (by omega) (by omega)).mono ?_
            rintro e w2 ⟨rfl, hb2⟩
            have hB2 := hBr.trans (hb2.mono hBr.size)
            go_wp2_with fail
            go_roundw
            case rel => exact ⟨k + 1, by omega, by go_num, by rw [HF.out], by rw [← HF.out]; exact hfl, hB2⟩
            case measure => simp [intOf]; omega
          · skip
            obtain ⟨S2, hS2⟩ : ∃ S2 : List UInt8, S2 = [ch] := ⟨_, rfl⟩
            have happ2 : ((⟨#[]⟩ : ByteArray) ++ (⟨#[ch]⟩ : ByteArray)) = ⟨S2.toArray⟩ := by rw [hS2]; exact ba_app [] [ch]
            have hlen2 : S2.length = 1 := by rw [hS2]; rfl
            have hcat2 : (⟨#[]⟩ : ByteArray).size + (⟨#[ch]⟩ : ByteArray).size ≤ 9223372036854775807 := by show 0 + 1 ≤ _; omega
            have HF : Hid (S2 = letsS m (k + 1)) := Lib.hid (by
              rw [letsS_succ m k (by rw [← HX.out]; omega), if_pos HNE.out, ← HX.out, letterL, if_neg (by omega), ← HCH.out, hS2]
              all_goals simp)
            have hfl : S2.length ≤ 8 * (k + 1) := by omega
            clear hS2
            go_wp2_with fail
            go_roundw
            case rel => exact ⟨k + 1, by omega, by go_num, by rw [HF.out], by rw [← HF.out]; exact hfl, hBr⟩
            case measure => simp [intOf]; omega
        · have HNE := Lib.hid hne
          obtain ⟨c0, t0, hS0⟩ := List.exists_cons_of_ne_nil hne
          rw [hS0] at hlen ⊢
          have HS0 := Lib.hid hS0
          clear hne hS0
          simp only [List.length_cons] at hlen
          have hc0 : (c0 :: t0).length = t0.length + 1 := rfl
          by_cases h1 : 1 < x
          · skip
            obtain ⟨S1, hS1⟩ : ∃ S1 : List UInt8, S1 = c0 :: t0 ++ [32] := ⟨_, rfl⟩
            have happ1 : ((⟨(c0 :: t0).toArray⟩ : ByteArray) ++ (⟨#[32]⟩ : ByteArray)) = ⟨S1.toArray⟩ := by rw [hS1]; exact ba_app _ [32]
            have hlen1 : S1.length = (c0 :: t0).length + 1 := by rw [hS1, List.length_append]; rfl
            have hcat1 : (⟨(c0 :: t0).toArray⟩ : ByteArray).size + (⟨#[32]⟩ : ByteArray).size ≤ 9223372036854775807 := by show (c0 :: t0).length + 1 ≤ _; omega
            obtain ⟨S2, hS2⟩ : ∃ S2 : List UInt8, S2 = S1 ++ [ch] := ⟨_, rfl⟩
            have happ2 : ((⟨(S1).toArray⟩ : ByteArray) ++ (⟨#[ch]⟩ : ByteArray)) = ⟨S2.toArray⟩ := by rw [hS2]; exact ba_app _ [ch]
            have hlen2 : S2.length = (S1).length + 1 := by rw [hS2, List.length_append]; rfl
            have hcat2 : (⟨(S1).toArray⟩ : ByteArray).size + (⟨#[ch]⟩ : ByteArray).size ≤ 9223372036854775807 := by show (S1).length + 1 ≤ _; omega
            obtain ⟨S3, hS3⟩ : ∃ S3 : List UInt8, S3 = S2 ++ [94] := ⟨_, rfl⟩
            have happ3 : ((⟨(S2).toArray⟩ : ByteArray) ++ (⟨#[94]⟩ : ByteArray)) = ⟨S3.toArray⟩ := by rw [hS3]; exact ba_app _ [94]
            have hlen3 : S3.length = (S2).length + 1 := by rw [hS3, List.length_append]; rfl
            have hcat3 : (⟨(S2).toArray⟩ : ByteArray).size + (⟨#[94]⟩ : ByteArray).size ≤ 9223372036854775807 := by show (S2).length + 1 ≤ _; omega
            obtain ⟨S4, hS4⟩ : ∃ S4 : List UInt8, S4 = S3 ++ Lib.itoa (x : Int) := ⟨_, rfl⟩
            have happ4 : ((⟨(S3).toArray⟩ : ByteArray) ++ (⟨(Lib.itoa (x : Int)).toArray⟩ : ByteArray)) = ⟨S4.toArray⟩ := by rw [hS4]; exact ba_app _ _
            have hlen4 : S4.length = (S3).length + (Lib.itoa (x : Int)).length := by rw [hS4, List.length_append]
            have hcat4 : (⟨(S3).toArray⟩ : ByteArray).size + (⟨(Lib.itoa (x : Int)).toArray⟩ : ByteArray).size ≤ 9223372036854775807 := by rw [ba_size, ba_size]; omega
            have HF : Hid (S4 = letsS m (k + 1)) := Lib.hid (by
              rw [letsS_succ m k (by rw [← HX.out]; omega), if_neg HNE.out, HS0.out, ← HX.out, letterL, if_pos (by omega), ← HCH.out, hS4, hS3, hS2, hS1]
              all_goals simp)
            have hfl : S4.length ≤ 8 * (k + 1) := by omega
            clear hS1 hS2 hS3 hS4
            go_wp2_with fail
            go_wp2_with fail
            refine (count_c _ x (by omega) (by omega)).mono ?_
            rintro e w2 ⟨rfl, hb2⟩
            have hB2 := hBr.trans (hb2.mono hBr.size)
            go_wp2_with fail
            go_roundw
            case rel => exact ⟨k + 1, by omega, by go_num, by rw [HF.out], by rw [← HF.out]; exact hfl, hB2⟩
            case measure => simp [intOf]; omega
          · skip
            obtain ⟨S1, hS1⟩ : ∃ S1 : List UInt8, S1 = c0 :: t0 ++ [32] := ⟨_, rfl⟩
            have happ1 : ((⟨(c0 :: t0).toArray⟩ : ByteArray) ++ (⟨#[32]⟩ : ByteArray)) = ⟨S1.toArray⟩ := by rw [hS1]; exact ba_app _ [32]
            have hlen1 : S1.length = (c0 :: t0).length + 1 := by rw [hS1, List.length_append]; rfl
            have hcat1 : (⟨(c0 :: t0).toArray⟩ : ByteArray).size + (⟨#[32]⟩ : ByteArray).size ≤ 9223372036854775807 := by show (c0 :: t0).length + 1 ≤ _; omega
            obtain ⟨S2, hS2⟩ : ∃ S2 : List UInt8, S2 = S1 ++ [ch] := ⟨_, rfl⟩
            have happ2 : ((⟨(S1).toArray⟩ : ByteArray) ++ (⟨#[ch]⟩ : ByteArray)) = ⟨S2.toArray⟩ := by rw [hS2]; exact ba_app _ [ch]
            have hlen2 : S2.length = (S1).length + 1 := by rw [hS2, List.length_append]; rfl
            have hcat2 : (⟨(S1).toArray⟩ : ByteArray).size + (⟨#[ch]⟩ : ByteArray).size ≤ 9223372036854775807 := by show (S1).length + 1 ≤ _; omega
            have HF : Hid (S2 = letsS m (k + 1)) := Lib.hid (by
              rw [letsS_succ m k (by rw [← HX.out]; omega), if_neg HNE.out, HS0.out, ← HX.out, letterL, if_neg (by omega), ← HCH.out, hS2, hS1]
              all_goals simp)
            have hfl : S2.length ≤ 8 * (k + 1) := by omega
            clear hS1 hS2
            go_wp2_with fail
            go_roundw
            case rel => exact ⟨k + 1, by omega, by go_num, by rw [HF.out], by rw [← HF.out]; exact hfl, hBr⟩
            case measure => simp [intOf]; omega
      · obtain rfl : x = 0 := by omega
        have hsk := Lib.hid (letsS_skip m k (by rw [← HX.out]; omega))
        go_wp2_with fail
        go_roundw
        case rel => exact ⟨k + 1, by omega, by go_num, by rw [hsk.out], by rw [hsk.out]; omega, hBr⟩
        case measure => simp [intOf]; omega
    · obtain rfl : k = 4 := by omega
      go_wp2_with fail
      go_ret
      exact ⟨rfl, HB.trans (hBr.mono HB.size)⟩
end Go.Proofs.YtdamegaedmckbaaGreatDoor
