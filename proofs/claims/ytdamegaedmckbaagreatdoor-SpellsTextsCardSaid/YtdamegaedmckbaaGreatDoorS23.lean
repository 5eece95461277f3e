/- Package spells: letter, amount. -/
import Derived.Test.YtdamegaedmckbaaGreatDoorS22
set_option linter.unusedSimpArgs false
set_option linter.unusedVariables false
set_option linter.unusedSimpArgs false
namespace Go.Proofs.YtdamegaedmckbaaGreatDoor
open Go.RowKit

theorem Itoa_c (n : Int) (h0 : -9223372036854775808 ≤ n) (h1 : n ≤ 9223372036854775807) (w : World) (hT : Tab w) :
    Calls Tryz.prog 184 #[.int .i64 n] w (RetStr w (Lib.itoa n)) :=
  (Tryz.strconv_Itoa n h0 h1 w hT).mono fun _ _ ⟨h, k, os, hw⟩ => ⟨h, by rw [hw]; exact below_grow _ _ _ (Nat.le_refl _)⟩

/-- The four letters. -/
def xyzt : Nat → UInt8
  | 0 => 120
  | 1 => 121
  | 2 => 122
  | _ => 116

def letterL (i n : Nat) : List UInt8 := xyzt i :: (if 1 < n then 94 :: Lib.itoa (n : Int) else [])

theorem itoa_small (n : Nat) (h : n < 65536) : (Lib.itoa (n : Int)).length ≤ 5 := by
  rw [Lib.itoa, if_neg (by omega), Int.toNat_natCast]
  exact (padD_eq 4 n (by omega)).2

set_option maxRecDepth 100000 in
set_option maxHeartbeats 1000000 in
theorem letter_0 (w : World) (n : Nat) (hn : n < 65536) (hT : Tab w) :
    Calls Tryz.prog 115 #[.int .i64 0, .int .u16 n] w (RetStr w (letterL 0 n)) := by
  have hl := itoa_small n hn
  have hcat1 : (⟨#[94]⟩ : ByteArray).size + (⟨(Lib.itoa (n : Int)).toArray⟩ : ByteArray).size ≤ 9223372036854775807 := by show 1 + (Lib.itoa (n : Int)).length ≤ _; omega
  have happ1 : ((⟨#[94]⟩ : ByteArray) ++ (⟨(Lib.itoa (n : Int)).toArray⟩ : ByteArray)) = ⟨(94 :: Lib.itoa (n : Int)).toArray⟩ := ba_app [94] _
  have hnw : IntKind.i64.wrap (n : Int) = n := IntWalk.i64_in _ (by omega)
  have hex : (⟨#[120, 121, 122, 116]⟩ : ByteArray).extract 0 1 = ⟨#[120]⟩ := by rfl
  by_cases h1 : 1 < n
  · have hcat2 : (⟨#[120]⟩ : ByteArray).size + (⟨(94 :: Lib.itoa (n : Int)).toArray⟩ : ByteArray).size ≤ 9223372036854775807 := by show 1 + (94 :: Lib.itoa (n : Int)).length ≤ _; simp only [List.length_cons]; omega
    have happ2 : ((⟨#[120]⟩ : ByteArray) ++ (⟨(94 :: Lib.itoa (n : Int)).toArray⟩ : ByteArray)) = ⟨(120 :: 94 :: Lib.itoa (n : Int)).toArray⟩ := ba_app [120] _
    go_enter Tryz.func115, Tryz.ntmps115
    go_wp2_with fail
    refine (Itoa_c _ (by omega) (by omega) _ hT).mono ?_
    rintro e w1 ⟨rfl, hb⟩
    go_wp2_with fail
    go_ret
    exact ⟨by rw [letterL, if_pos h1]; rfl, hb⟩
  · go_enter Tryz.func115, Tryz.ntmps115
    go_wp2_with fail
    go_ret
    exact ⟨by rw [letterL, if_neg h1]; rfl, Below.refl _ _⟩

set_option maxRecDepth 100000 in
set_option maxHeartbeats 1000000 in
theorem letter_1 (w : World) (n : Nat) (hn : n < 65536) (hT : Tab w) :
    Calls Tryz.prog 115 #[.int .i64 1, .int .u16 n] w (RetStr w (letterL 1 n)) := by
  have hl := itoa_small n hn
  have hcat1 : (⟨#[94]⟩ : ByteArray).size + (⟨(Lib.itoa (n : Int)).toArray⟩ : ByteArray).size ≤ 9223372036854775807 := by show 1 + (Lib.itoa (n : Int)).length ≤ _; omega
  have happ1 : ((⟨#[94]⟩ : ByteArray) ++ (⟨(Lib.itoa (n : Int)).toArray⟩ : ByteArray)) = ⟨(94 :: Lib.itoa (n : Int)).toArray⟩ := ba_app [94] _
  have hnw : IntKind.i64.wrap (n : Int) = n := IntWalk.i64_in _ (by omega)
  have hex : (⟨#[120, 121, 122, 116]⟩ : ByteArray).extract 1 2 = ⟨#[121]⟩ := by rfl
  by_cases h1 : 1 < n
  · have hcat2 : (⟨#[121]⟩ : ByteArray).size + (⟨(94 :: Lib.itoa (n : Int)).toArray⟩ : ByteArray).size ≤ 9223372036854775807 := by show 1 + (94 :: Lib.itoa (n : Int)).length ≤ _; simp only [List.length_cons]; omega
    have happ2 : ((⟨#[121]⟩ : ByteArray) ++ (⟨(94 :: Lib.itoa (n : Int)).toArray⟩ : ByteArray)) = ⟨(121 :: 94 :: Lib.itoa (n : Int)).toArray⟩ := ba_app [121] _
    go_enter Tryz.func115, Tryz.ntmps115
    go_wp2_with fail
    refine (Itoa_c _ (by omega) (by omega) _ hT).mono ?_
    rintro e w1 ⟨rfl, hb⟩
    go_wp2_with fail
    go_ret
    exact ⟨by rw [letterL, if_pos h1]; rfl, hb⟩
  · go_enter Tryz.func115, Tryz.ntmps115
    go_wp2_with fail
    go_ret
    exact ⟨by rw [letterL, if_neg h1]; rfl, Below.refl _ _⟩

set_option maxRecDepth 100000 in
set_option maxHeartbeats 1000000 in
theorem letter_2 (w : World) (n : Nat) (hn : n < 65536) (hT : Tab w) :
    Calls Tryz.prog 115 #[.int .i64 2, .int .u16 n] w (RetStr w (letterL 2 n)) := by
  have hl := itoa_small n hn
  have hcat1 : (⟨#[94]⟩ : ByteArray).size + (⟨(Lib.itoa (n : Int)).toArray⟩ : ByteArray).size ≤ 9223372036854775807 := by show 1 + (Lib.itoa (n : Int)).length ≤ _; omega
  have happ1 : ((⟨#[94]⟩ : ByteArray) ++ (⟨(Lib.itoa (n : Int)).toArray⟩ : ByteArray)) = ⟨(94 :: Lib.itoa (n : Int)).toArray⟩ := ba_app [94] _
  have hnw : IntKind.i64.wrap (n : Int) = n := IntWalk.i64_in _ (by omega)
  have hex : (⟨#[120, 121, 122, 116]⟩ : ByteArray).extract 2 3 = ⟨#[122]⟩ := by rfl
  by_cases h1 : 1 < n
  · have hcat2 : (⟨#[122]⟩ : ByteArray).size + (⟨(94 :: Lib.itoa (n : Int)).toArray⟩ : ByteArray).size ≤ 9223372036854775807 := by show 1 + (94 :: Lib.itoa (n : Int)).length ≤ _; simp only [List.length_cons]; omega
    have happ2 : ((⟨#[122]⟩ : ByteArray) ++ (⟨(94 :: Lib.itoa (n : Int)).toArray⟩ : ByteArray)) = ⟨(122 :: 94 :: Lib.itoa (n : Int)).toArray⟩ := ba_app [122] _
    go_enter Tryz.func115, Tryz.ntmps115
    go_wp2_with fail
    refine (Itoa_c _ (by omega) (by omega) _ hT).mono ?_
    rintro e w1 ⟨rfl, hb⟩
    go_wp2_with fail
    go_ret
    exact ⟨by rw [letterL, if_pos h1]; rfl, hb⟩
  · go_enter Tryz.func115, Tryz.ntmps115
    go_wp2_with fail
    go_ret
    exact ⟨by rw [letterL, if_neg h1]; rfl, Below.refl _ _⟩

set_option maxRecDepth 100000 in
set_option maxHeartbeats 1000000 in
theorem letter_3 (w : World) (n : Nat) (hn : n < 65536) (hT : Tab w) :
    Calls Tryz.prog 115 #[.int .i64 3, .int .u16 n] w (RetStr w (letterL 3 n)) := by
  have hl := itoa_small n hn
  have hcat1 : (⟨#[94]⟩ : ByteArray).size + (⟨(Lib.itoa (n : Int)).toArray⟩ : ByteArray).size ≤ 9223372036854775807 := by show 1 + (Lib.itoa (n : Int)).length ≤ _; omega
  have happ1 : ((⟨#[94]⟩ : ByteArray) ++ (⟨(Lib.itoa (n : Int)).toArray⟩ : ByteArray)) = ⟨(94 :: Lib.itoa (n : Int)).toArray⟩ := ba_app [94] _
  have hnw : IntKind.i64.wrap (n : Int) = n := IntWalk.i64_in _ (by omega)
  have hex : (⟨#[120, 121, 122, 116]⟩ : ByteArray).extract 3 4 = ⟨#[116]⟩ := by rfl
  by_cases h1 : 1 < n
  · have hcat2 : (⟨#[116]⟩ : ByteArray).size + (⟨(94 :: Lib.itoa (n : Int)).toArray⟩ : ByteArray).size ≤ 9223372036854775807 := by show 1 + (94 :: Lib.itoa (n : Int)).length ≤ _; simp only [List.length_cons]; omega
    have happ2 : ((⟨#[116]⟩ : ByteArray) ++ (⟨(94 :: Lib.itoa (n : Int)).toArray⟩ : ByteArray)) = ⟨(116 :: 94 :: Lib.itoa (n : Int)).toArray⟩ := ba_app [116] _
    go_enter Tryz.func115, Tryz.ntmps115
    go_wp2_with fail
    refine (Itoa_c _ (by omega) (by omega) _ hT).mono ?_
    rintro e w1 ⟨rfl, hb⟩
    go_wp2_with fail
    go_ret
    exact ⟨by rw [letterL, if_pos h1]; rfl, hb⟩
  · go_enter Tryz.func115, Tryz.ntmps115
    go_wp2_with fail
    go_ret
    exact ⟨by rw [letterL, if_neg h1]; rfl, Below.refl _ _⟩

theorem letter_c (w : World) (i n : Nat) (hi : i < 4) (hn : n < 65536) (hT : Tab w) :
    Calls Tryz.prog 115 #[.int .i64 i, .int .u16 n] w (RetStr w (letterL i n)) := by
  match i, hi with
  | 0, _ => exact letter_0 w n hn hT
  | 1, _ => exact letter_1 w n hn hT
  | 2, _ => exact letter_2 w n hn hT
  | 3, _ => exact letter_3 w n hn hT

set_option maxRecDepth 100000 in
/-- amount: the number above without its sign; whether it has one. -/
theorem amount_c (w : World) (g1 : Bool) (a1 : Option Addr) (n1 c1 : Nat) (g2 : Bool) (a2 : Option Addr) (n2 c2 : Nat) :
    Calls Tryz.prog 37 #[.agg #[.bool g1, .slice a1 n1 c1, .bool g2, .slice a2 n2 c2]] w fun e w' => e = .returned (.tuple #[.agg #[.bool false, .slice a1 n1 c1, .bool g2, .slice a2 n2 c2], .bool g1]) ∧ Below w.heap.size w w' := by
  have HB := Below.refl w.heap.size w
  go_enter Tryz.func37, Tryz.ntmps37
  go_wp2_with fail
  refine bodyPost_ret (v := .tuple #[.agg #[.bool false, .slice a1 n1 c1, .bool g2, .slice a2 n2 c2], .bool g1]) (by simp [results, Tryz.results37, go_sem]) rfl ?_
  exact ⟨rfl, by go_grown⟩
end Go.Proofs.YtdamegaedmckbaaGreatDoor
