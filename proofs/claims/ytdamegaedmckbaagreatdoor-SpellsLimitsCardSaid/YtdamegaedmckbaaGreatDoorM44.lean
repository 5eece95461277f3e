/- Plain: numbers of many digits, great powers, read. No condition. polys.Degree of a sum of one term, a power of the first letter. No further condition. SpellsLimits: the law's own walk. Conditions: the variables that strconv asks. -/
import Derived.Test.YtdamegaedmckbaaGreatDoorM28
import Derived.Test.YtdamegaedmckbaaGreatDoorM30
import Derived.Test.YtdamegaedmckbaaGreatDoorM24
import Derived.Test.YtdamegaedmckbaaGreatDoorM43
import Derived.Test.YtdamegaedmckbaaGreatDoorM6
import Derived.Test.YtdamegaedmckbaaGreatDoorM16
set_option linter.unusedSimpArgs false
set_option linter.unusedVariables false
section
namespace Go.Proofs.YtdamegaedmckbaaGreatDoor
open Go.RowKit

theorem digitsB_of_snoc {a : List UInt8} {c : UInt8} (h : digitsB (a ++ [c]) = true) (ha : a ≠ []) : digitsB a = true ∧ a ≠ [48] ∧ isDig c = true := by
  cases a with
  | nil => exact absurd rfl ha
  | cons b r =>
    simp only [List.cons_append, digitsB, Bool.and_eq_true, Bool.or_eq_true] at h
    obtain ⟨h1, h2⟩ := h
    rw [← List.cons_append, List.all_append, Bool.and_eq_true] at h1
    have h3 : ¬ ((b.toNat : Int) = 48) := by
      rcases h2 with h2 | h2
      · simp at h2
      · simpa using h2
    refine ⟨?_, ?_, by simpa using h1.2⟩
    · simp only [digitsB, Bool.and_eq_true, Bool.or_eq_true]
      exact ⟨h1.1, .inr (by simpa using h3)⟩
    · intro e
      cases e
      exact h3 rfl
theorem isDig_val {c : UInt8} (h : isDig c = true) : c.toNat - 48 < 10 ∧ UInt8.ofNat (48 + (c.toNat - 48)) = c := by
  unfold isDig at h
  rw [decide_eq_true_eq] at h
  refine ⟨by omega, ?_⟩
  apply UInt8.toNat_inj.1
  rw [UInt8.toNat_ofNat']
  omega
theorem numN_pos {a : List UInt8} (h : digitsB a = true) (h0 : a ≠ [48]) : 0 < numN a := by
  cases a with
  | nil => cases h
  | cons b r =>
    simp only [digitsB, Bool.and_eq_true, Bool.or_eq_true] at h
    have hb : isDig b = true := by have := h.1; simp only [List.all_cons, Bool.and_eq_true] at this; exact this.1
    have h3 : ¬ ((b.toNat : Int) = 48) := by
      rcases h.2 with h2 | h2
      · have hr : r = [] := by simpa using h2
        subst hr
        intro e
        apply h0
        have : b.toNat = (48 : UInt8).toNat := by show b.toNat = 48; omega
        rw [UInt8.toNat_inj.1 this]
      · simpa using h2
    unfold isDig at hb
    rw [decide_eq_true_eq] at hb
    have e : numN (b :: r) = (10 * 0 + (b.toNat - 48)) * 10 ^ r.length + numN r := by
      rw [← numN_from]; rfl
    have hp : 0 < 10 ^ r.length := Nat.pow_pos (by omega)
    have : 0 < (10 * 0 + (b.toNat - 48)) * 10 ^ r.length := Nat.mul_pos (by omega) hp
    omega
/-- Digits are written as they were read. -/
theorem dec_of : ∀ (n : Nat) {d : List UInt8}, d.length = n → digitsB d = true → Lib.decDigits (numN d) = d
  | 0, d, hn, h => by
    have : d = [] := List.eq_nil_of_length_eq_zero hn
    subst this; cases h
  | n + 1, d, hn, h => by
    obtain ⟨a, c, rfl⟩ : ∃ a c, d = a ++ [c] := ⟨_, _, (List.dropLast_concat_getLast (by intro e; subst e; simp at hn)).symm⟩
    rw [List.length_append, List.length_singleton] at hn
    rw [numN_snoc]
    by_cases ha : a = []
    · subst ha
      have hc : isDig c = true := by simpa [digitsB] using h
      obtain ⟨h1, h2⟩ := isDig_val hc
      rw [show numN [] = 0 from rfl, Nat.mul_zero, Nat.zero_add, Lib.decDigits, dif_pos h1, h2]
      rfl
    · obtain ⟨h1, h2, h3⟩ := digitsB_of_snoc h ha
      obtain ⟨h4, h5⟩ := isDig_val h3
      have hp := numN_pos h1 h2
      rw [Lib.decDigits, dif_neg (by omega), show (10 * numN a + (c.toNat - 48)) / 10 = numN a by omega, show (10 * numN a + (c.toNat - 48)) % 10 = c.toNat - 48 by omega, h5, dec_of n (by omega) h1]
/-- So many sevens. -/
def sev (n : Nat) : List UInt8 := List.replicate n 55
theorem sev_digits {n : Nat} (h : 0 < n) : digitsB (sev n) = true := by
  obtain ⟨k, rfl⟩ : ∃ k, n = k + 1 := ⟨n - 1, by omega⟩
  unfold sev
  rw [List.replicate_succ]
  simp only [digitsB, Bool.and_eq_true, Bool.or_eq_true]
  refine ⟨?_, .inr (by decide)⟩
  rw [← List.replicate_succ, List.all_replicate]
  simp
  decide
theorem sev_dec {n : Nat} (h : 0 < n) : Lib.decDigits (numN (sev n)) = sev n := dec_of n (by simp [sev]) (sev_digits h)
theorem sev_big {n : Nat} (h : 0 < n) : 1 < numN (sev n) := by
  obtain ⟨k, rfl⟩ : ∃ k, n = k + 1 := ⟨n - 1, by omega⟩
  have e : sev (k + 1) = sev k ++ [55] := by unfold sev; rw [List.replicate_succ']
  rw [e, numN_snoc]
  have : (55 : UInt8).toNat = 55 := rfl
  omega
theorem expo_zero (i : Nat) : expo 0 i = 0 := by
  unfold expo quadN
  split <;> rfl
theorem fine_num {p q : Nat} (hp : 0 < p) (hf : (Fa.nu p q).ok) : FineT (0, (p : Int), (q : Int)) := by
  obtain ⟨h1, h2, h3, h4⟩ := hf
  refine ⟨⟨by show (0 : Int) < (q : Int); omega, ?_⟩, by show ¬ (p : Int) = 0; omega, h3, h4, fun i _ => by show expo 0 i ≤ 1000; rw [expo_zero]; omega⟩
  show Int.gcd (p : Int) (q : Int) = 1
  simpa [Int.gcd] using h2
theorem txt_num (p q : Nat) : sumW [32] [32] [(0, (p : Int), (q : Int))] = ftext p q := by
  have hl : lets (expo (0, (p : Int), (q : Int)).1) 4 = [] := by
    show lets (expo 0) 4 = []
    simp [lets, expo_zero]
  rw [sumW]
  have : sgB (0, (p : Int), (q : Int)) = false := by unfold sgB; rw [decide_eq_false_iff_not]; show ¬ (p : Int) < 0; omega
  rw [this]
  simp only [Bool.false_eq_true, if_false, List.nil_append]
  unfold bodyW
  rw [facs_text]
  unfold wordsL
  rw [if_pos (.inr hl), hl]
  simp [tailW, tailG, Lib.join_one]
/-- A number that is not too great, read. -/
theorem read_num {p q : Nat} (hp : 0 < p) (hf : (Fa.nu p q).ok) : rdText (ftext p q) = ([(0, (p : Int), (q : Int))], 0) := by
  obtain ⟨h1, h2, h3, h4⟩ := hf
  have h := sum_read (l := [(0, (p : Int), (q : Int))]) (s := [32]) (b := [32]) (b0 := []) (e := []) (by simp) (fun x hx => by
    simp only [List.mem_singleton] at hx; subst hx; exact fine_num hp ⟨h1, h2, h3, h4⟩) (.inl ⟨rfl, by simp⟩) rfl rfl rfl
  rw [txt_num] at h
  simp only [List.nil_append, List.append_nil] at h
  refine rdText_of ?_ h
  unfold ftext
  rw [itoa_nat, itoa_nat, List.length_append]
  split <;> simp <;> omega
theorem sev_read {n : Nat} (h : 0 < n) (h2 : n ≤ 200) : rdText (sev n) = ([(0, (numN (sev n) : Int), 1)], 0) := by
  have h1 := read_num (p := numN (sev n)) (q := 1) (by have := sev_big h; omega) ⟨by omega, by simp, by rw [sev_dec h]; simp [sev]; omega, by rw [Lib.decDigits]; simp⟩
  have e : ftext (numN (sev n) : Nat) ((1 : Nat) : Int) = sev n := by
    unfold ftext
    rw [if_pos (by rfl), itoa_nat, sev_dec h, List.append_nil]
  rw [e] at h1
  exact h1
theorem sev_low {n : Nat} (h : 0 < n) (h2 : n ≤ 200) : (rdText (49 :: 47 :: sev n)).2 = 0 := by
  have h1 := read_num (p := 1) (q := numN (sev n)) (by omega) ⟨by have := sev_big h; omega, by simp, by rw [Lib.decDigits]; simp, by rw [sev_dec h]; simp [sev]; omega⟩
  have e : ftext ((1 : Nat) : Int) (numN (sev n) : Nat) = 49 :: 47 :: sev n := by
    unfold ftext
    rw [if_neg (by have := sev_big h; omega), itoa_nat, itoa_nat, sev_dec h, Lib.decDigits]
    rfl
  rw [e] at h1
  rw [h1]
/-- One factor alone. -/
theorem one_factor {L : List UInt8} (hs : startsL L = true) {c : PC} {o : Nat → Nat} {m : Bool} (h : rdFactor ⟨(1, 1), fun _ => 0, L, false⟩ = some ⟨c, o, [], m⟩) : rdSum L = some (oneT (keyO o) c, m || over o) := by
  unfold rdSum
  rw [skp_starts hs, starts_not hs (.inr rfl)]
  simp only [Bool.false_eq_true, if_false]
  unfold rdTerm
  rw [skp_starts hs, rdLoop_eq]
  simp only [Bool.false_eq_true, if_false]
  rw [if_pos hs, h]
  simp only
  rw [show skp [] = [] from rfl, if_neg (by decide), if_neg (by decide)]
  simp only
  rw [rdMore]
theorem nodig_nil : NoDig [] := fun b hb => by cases hb
theorem sev_over {n : Nat} (h : 200 < n) : (rdText (sev n)).2 = 3 := by
  by_cases hn : 65536 < n
  · unfold rdText; rw [if_pos (by simpa [sev] using hn)]
  · have hd := sev_digits (n := n) (by omega)
    have hc : ∃ r, sev n = 55 :: r := ⟨sev (n - 1), by unfold sev; rw [← List.replicate_succ]; congr 1; omega⟩
    have hs : startsL (sev n) = true := by obtain ⟨r, e⟩ := hc; rw [e]; rfl
    have hF : rdFrac (sev n) false = some (mkFr (numZ (sev n)) 1, [], true) := by
      unfold rdFrac
      have := rdNum_app hd nodig_nil false
      rw [List.append_nil] at this
      rw [this]
      simp only
      rw [if_neg (by decide), decide_eq_true (by simpa [sev] using h)]
      rfl
    have hf : rdFactor ⟨(1, 1), fun _ => 0, sev n, false⟩ = some ⟨mulC (1, 1) (mkFr (numZ (sev n)) 1), fun _ => 0, [], true⟩ := by
      obtain ⟨r, e⟩ := hc
      rw [e] at hF ⊢
      unfold rdFactor
      simp only
      rw [letterOf_dig (by decide), hF]
    have := one_factor hs hf
    unfold rdText
    rw [if_neg (by simpa [sev] using hn), this]
    simp
theorem sev_over2 {n : Nat} (h : 200 < n) : (rdText (49 :: 47 :: sev n)).2 = 3 := by
  by_cases hn : 65536 < n + 2
  · unfold rdText; rw [if_pos (by simp [sev]; omega)]
  · have hd := sev_digits (n := n) (by omega)
    have hs : startsL (49 :: 47 :: sev n) = true := rfl
    have hF : rdFrac (49 :: 47 :: sev n) false = some (mkFr (numZ [49]) (numZ (sev n)), [], true) := by
      unfold rdFrac
      have h1 := rdNum_app (d := [49]) (by decide) (stop_slash (sev n)) false
      rw [show [49] ++ 47 :: sev n = 49 :: 47 :: sev n from rfl] at h1
      rw [h1]
      simp only
      have h2 := rdPos_app hd (by intro e; have := congrArg List.length e; simp [sev] at this; omega) nodig_nil (false || decide (200 < [(49 : UInt8)].length))
      rw [List.append_nil] at h2
      rw [if_pos (by rfl), List.tail_cons, h2]
      simp only
      rw [show decide (200 < (sev n).length) = true from decide_eq_true (by simpa [sev] using h), Bool.or_true]
    have hf : rdFactor ⟨(1, 1), fun _ => 0, 49 :: 47 :: sev n, false⟩ = some ⟨mulC (1, 1) (mkFr (numZ [49]) (numZ (sev n))), fun _ => 0, [], true⟩ := by
      unfold rdFactor
      simp only
      rw [letterOf_dig (by decide), hF]
    have := one_factor hs hf
    unfold rdText
    rw [if_neg (by simp [sev]; omega), this]
    simp
/-- A power, read. -/
theorem pow_read (k : Nat) (hk : k < 65536) : rdText (120 :: 94 :: Lib.decDigits k) = if k = 0 then ([], 4) else if 1000 < k then ([], 3) else ([(key4 k 0 0 0, 1, 1)], 0) := by
  have hl : (Lib.decDigits k).length ≤ 5 := dec_few (by omega) (by omega)
  have hs : startsL (120 :: 94 :: Lib.decDigits k) = true := rfl
  have hlen : ¬ 65536 < (120 :: 94 :: Lib.decDigits k).length := by simp only [List.length_cons]; omega
  have h1 := rdNum_app (dec_read k).1 nodig_nil false
  rw [List.append_nil, decide_eq_false (by omega : ¬ 200 < (Lib.decDigits k).length), Bool.or_false] at h1
  by_cases h0 : k = 0
  · subst h0
    rw [if_pos rfl]
    have hz : Lib.decDigits 0 = [48] := by rw [Lib.decDigits]; rfl
    rw [hz] at h1 hlen ⊢
    have hf : rdFactor ⟨(1, 1), fun _ => 0, 120 :: 94 :: [48], false⟩ = none := by
      unfold rdFactor
      simp only
      rw [show letterOf 120 = some 0 from rfl]
      simp only
      unfold rdPow
      rw [if_pos (by rfl), List.tail_cons]
      unfold rdPos
      rw [h1]
      rfl
    have : rdSum (120 :: 94 :: [48]) = none := by
      unfold rdSum
      rw [skp_starts (by rfl), starts_not (by rfl) (.inr rfl)]
      simp only [Bool.false_eq_true, if_false]
      unfold rdTerm
      rw [skp_starts (by rfl), rdLoop_eq]
      simp only [Bool.false_eq_true, if_false]
      rw [if_pos (by rfl), hf]
    unfold rdText
    rw [if_neg hlen, this]
  · rw [if_neg h0]
    have h2 := rdPos_app (dec_read k).1 (dec_zero (by omega)) nodig_nil false
    rw [List.append_nil, decide_eq_false (by omega : ¬ 200 < (Lib.decDigits k).length), Bool.or_false] at h2
    have hf : rdFactor ⟨(1, 1), fun _ => 0, 120 :: 94 :: Lib.decDigits k, false⟩ = if 1000 < k then some ⟨(1, 1), bump (fun _ => 0) 0 0, [], true⟩ else some ⟨(1, 1), bump (fun _ => 0) 0 k, [], false⟩ := by
      unfold rdFactor
      simp only
      rw [show letterOf 120 = some 0 from rfl]
      simp only
      unfold rdPow
      rw [if_pos (by rfl), List.tail_cons, h2]
      simp only
      rw [(dec_read k).2]
      by_cases h3 : 1000 < k
      · rw [if_pos h3, if_pos h3]
      · rw [if_neg h3, if_neg h3]
    by_cases h3 : 1000 < k
    · rw [if_pos h3] at hf ⊢
      have := one_factor hs hf
      unfold rdText
      rw [if_neg hlen, this]
      simp
    · rw [if_neg h3] at hf ⊢
      have := one_factor hs hf
      unfold rdText
      rw [if_neg hlen, this]
      have e1 : keyO (bump (fun _ => 0) 0 k) = key4 k 0 0 0 := by
        unfold keyO clamp bump
        simp
        congr 1
        omega
      have e2 : over (bump (fun _ => 0) 0 k) = false := by
        unfold over bump
        simp
        omega
      rw [e1, e2]
      simp [oneT]
end Go.Proofs.YtdamegaedmckbaaGreatDoor
end
section
namespace Go.Proofs.YtdamegaedmckbaaGreatDoor
open Go.RowKit

set_option maxRecDepth 100000 in
set_option maxHeartbeats 2000000 in
theorem degree_one (w : World) (B : Nat) (a : Option Addr) (c k : Nat) (hk : k < 65536) (h : PolyAt w B a 1 c [(key4 k 0 0 0, 1, 1)]) :
    Calls Tryz.prog 28 #[.slice a 1 c, .int .i64 0] w (fun e w' => e = .returned (.int .i64 k) ∧ Below w.heap.size w w') := by
  obtain ⟨p, hp, hx⟩ := h.ts
  have hl : PW [(key4 k 0 0 0, ((1 : Int), (1 : Int)))] := ⟨by simp, by simp; exact ⟨by decide, by decide⟩, by simp; unfold key4; omega⟩
  have hf : FewL 1000000 [(key4 k 0 0 0, ((1 : Int), (1 : Int)))] := fun t ht => by
    simp only [List.mem_singleton] at ht
    subst ht
    exact ⟨by show (dg 1).length ≤ _; rw [dg_one_len]; omega, by show (dg 1).length ≤ _; rw [dg_one_len]; omega⟩
  have hok := h.pok hl hp hx
  have hr := hp.tm 0 (by omega)
  have hm : (p 0).m0 = k := (key4_inj hr.s0 hr.s1 hr.s2 hr.s3 hk (by omega) (by omega) (by omega) (hx 0 _ rfl).1.key).1
  have HB := Below.refl w.heap.size w
  have HF := Lib.hid (h.few hf hp hx)
  have HO := Lib.hid hok
  clear hl hf hok hx h
  go_enter Tryz.func28, Tryz.ntmps28
  go_wp2_with fail
  refine (pof_c w a 1 c p hp HF.out true ⟨fun _ => rfl, fun _ => HO.out⟩).mono ?_
  rintro e w1 ⟨rfl, hb1⟩
  go_wp2_with fail
  go_loopw [5, 18] (fun v5 v18 wr => ∃ i : Nat, i ≤ 1 ∧ v18 = .int .i64 i ∧ v5 = .int .i64 (if i = 0 then -1 else (k : Int)) ∧ Below w.heap.size w wr) (fun _ v18 _ => 1 - (intOf v18).toNat)
  case atStart => exact ⟨0, by omega, rfl, rfl, hb1⟩
  case round =>
    obtain ⟨i, hi, rfl, rfl, HBr⟩ := hrel
    by_cases hlt : i < 1
    · obtain rfl : i = 0 := by omega
      have hsz := HBr.size
      obtain ⟨b, o, rfl, hcl⟩ := hp.cell.resolve_left (by omega)
      have hpr := hp.keep HBr
      obtain ⟨e0, e1, e2, e3, e4, e5, e6, e7⟩ := hpr.at (show 0 < 1 by omega)
      rw [hm] at e4
      have HM := Lib.hid hm
      generalize p 0 = t at *
      simp only [Nat.zero_mul, Nat.add_zero] at e0 e1 e2 e3 e4 e5 e6 e7
      have hmx : max (-1 : Int) k = k := by omega
      clear hcl HO HF
      go_wp2_with fail
      go_roundw
      case rel => exact ⟨1, by omega, by go_num, by simp [hmx], by go_grown⟩
      case measure => (first | (simp [intOf]; omega) | (simp [intOf]; done))
    · obtain rfl : i = 1 := by omega
      go_wp2_with fail
      go_ret
      exact ⟨by simp, HBr⟩
end Go.Proofs.YtdamegaedmckbaaGreatDoor
end
section
namespace Go.Proofs.YtdamegaedmckbaaGreatDoor
open Go.RowKit

theorem sev_succ (i : Nat) : sev i ++ [55] = sev (i + 1) := by unfold sev; rw [List.replicate_succ']
theorem sev_len (i : Nat) : (sev i).length = i := by simp [sev]
/-- What is read of so many sevens, and of one over them. -/
theorem sev_all {n : Nat} (h : 0 < n) : (rdText (sev n)).2 = (if n ≤ 200 then 0 else 3) ∧ (rdText (49 :: 47 :: sev n)).2 = (if n ≤ 200 then 0 else 3) ∧ (n ≤ 200 → txL (rdText (sev n)).1 = sev n) := by
  by_cases hn : n ≤ 200
  · rw [if_pos hn, sev_read h hn, sev_low h hn]
    refine ⟨rfl, rfl, fun _ => ?_⟩
    show sumW [32] [32] [(0, (numN (sev n) : Int), ((1 : Nat) : Int))] = sev n
    rw [txt_num]
    unfold ftext
    rw [if_pos (by rfl), itoa_nat, sev_dec h, List.append_nil]
  · rw [if_neg hn, sev_over (by omega), sev_over2 (by omega)]
    exact ⟨rfl, rfl, fun h => absurd h hn⟩
set_option maxRecDepth 100000 in
set_option maxHeartbeats 4000000 in
theorem SpellsLimits_c (w : World) (d k : Nat) (hd : d < 256) (hk : k < 65536) (hT : Tab w) (hV : ErrV w) (h7 : 7 < w.heap.size) :
    Calls Tryz.prog 8 #[.int .u8 d, .int .u16 k] w (RetTrue w) := by
  go_enter Tryz.func8, Tryz.ntmps8
  go_wp2_with fail
  go_loopw [6, 7] (fun v6 v7 wr => ∃ i : Nat, i ≤ d + 1 ∧ v7 = .int .i64 i ∧ v6 = .string ⟨(sev i).toArray⟩ ∧ Below w.heap.size w wr) (fun _ v7 _ => d + 1 - (intOf v7).toNat)
  case atStart => exact ⟨0, by omega, rfl, rfl, Below.refl _ _⟩
  case round =>
    obtain ⟨i, hi, rfl, rfl, HBr⟩ := hrel
    have hl := sev_len i
    by_cases hlt : i < d + 1
    · have hcat : (⟨(sev i).toArray⟩ : ByteArray).size + (⟨#[55]⟩ : ByteArray).size ≤ 9223372036854775807 := by
        rw [ba_size]; show (sev i).length + 1 ≤ _; omega
      have happ : (⟨(sev i).toArray⟩ : ByteArray) ++ (⟨#[55]⟩ : ByteArray) = ⟨(sev (i + 1)).toArray⟩ := by rw [← sev_succ]; exact ba_app _ [55]
      go_wp2_with fail
      go_roundw
      case rel => exact ⟨i + 1, by omega, by go_num, by simp, HBr⟩
      case measure => (first | (simp [intOf]; omega) | (simp [intOf]; done))
    · obtain rfl : i = d + 1 := by omega
      have hsz := HBr.size
      go_wp2_with fail
      refine (Of_c _ (k : Int) (by omega) (by omega)).mono ?_
      rintro e w1 ⟨g, a, n, c, rfl, hN, hF, hb1⟩
      have B1 := HBr.trans (hb1.mono HBr.size)
      have hn : n ≤ 1000000 := by
        have h1 := hN.rd.len
        have h2 := dg_len_pow 1 k (by omega)
        rw [Int.natAbs_natCast] at h1
        omega
      go_wp2_with fail
      refine (Text_c w1 g a n c (k : Int) hN (hT.keep B1) hn).mono ?_
      rintro e w2 ⟨rfl, hb2⟩
      have B2 := B1.trans (hb2.mono B1.size)
      rw [itoa_nat]
      obtain ⟨q1, q2, q3⟩ := sev_all (n := d + 1) (by omega)
      obtain ⟨E, hE⟩ : ∃ E : Int, (if d + 1 ≤ 200 then 0 else 3) = E := ⟨_, rfl⟩
      obtain ⟨lb, eb, hlb⟩ : ∃ lb eb, rdText (120 :: 94 :: Lib.decDigits k) = (lb, eb) := ⟨_, _, rfl⟩
      have Q4 := Lib.hid ((pow_read k hk).symm.trans hlb)
      rw [hE] at q1 q2
      have HE := Lib.hid hE
      clear hE
      have hdk : (Lib.decDigits k).length ≤ 5 := dec_few (by omega) (by omega)
      have p1 := parse_c w2 (sev (d + 1)) (by omega) (hV.grown (grown_below B2 none) (by simp)) (by have := B2.size; omega)
      obtain ⟨la, ha⟩ : ∃ la, (rdText (sev (d + 1))).1 = la := ⟨_, rfl⟩
      have hag : rdText (sev (d + 1)) = (la, (rdText (sev (d + 1))).2) := by rw [← ha]
      have hga := rdText_good hag
      rw [ha, q1] at p1
      rw [ha] at q3
      clear hN hF hb1 hb2 hag
      go_wp2_with fail
      refine p1.mono ?_
      rintro e w3 ⟨a3, n3, c3, rfl, P3, hb3⟩
      have B3 := B2.trans (hb3.mono B2.size)
      have p2 := parse_c w3 (49 :: 47 :: sev (d + 1)) (by simp only [List.length_cons]; omega) (hV.grown (grown_below B3 none) (by simp)) (by have := B3.size; omega)
      rw [q2] at p2
      have hcat1 : (⟨#[49, 47]⟩ : ByteArray).size + (⟨(sev (d + 1)).toArray⟩ : ByteArray).size ≤ 9223372036854775807 := by rw [ba_size]; show 2 + (sev (d + 1)).length ≤ _; omega
      have happ1 : (⟨#[49, 47]⟩ : ByteArray) ++ (⟨(sev (d + 1)).toArray⟩ : ByteArray) = ⟨(49 :: 47 :: sev (d + 1)).toArray⟩ := ba_app [49, 47] _
      go_wp2_with fail
      refine p2.mono ?_
      rintro e w4 ⟨a4, n4, c4, rfl, P4, hb4⟩
      have B4 := B3.trans (hb4.mono B3.size)
      have p3 := parse_c w4 (120 :: 94 :: Lib.decDigits k) (by simp only [List.length_cons]; omega) (hV.grown (grown_below B4 none) (by simp)) (by have := B4.size; omega)
      have hcat2 : (⟨#[120, 94]⟩ : ByteArray).size + (⟨(Lib.decDigits k).toArray⟩ : ByteArray).size ≤ 9223372036854775807 := by rw [ba_size]; show 2 + (Lib.decDigits k).length ≤ _; omega
      have happ2 : (⟨#[120, 94]⟩ : ByteArray) ++ (⟨(Lib.decDigits k).toArray⟩ : ByteArray) = ⟨(120 :: 94 :: Lib.decDigits k).toArray⟩ := ba_app [120, 94] _
      rw [hlb] at p3
      have PA := P3.keep hb4
      have HLB := Lib.hid hlb
      clear hlb
      clear P4 P3 hb3 hb4 HBr
      go_wp2_with fail
      refine p3.mono ?_
      rintro e w5 ⟨a5, n5, c5, rfl, P5, hb5⟩
      have B5 := B4.trans (hb5.mono B4.size)
      have PB := Lib.hid P5
      have PA2 := PA.keep hb5
      have hnA : n3 ≤ 1000000 := by have := PA.len; have h9 := hga.2.2; rw [sev_len] at h9; omega
      clear P5 PA hcat1 happ1 hcat2 happ2 p1 p2 p3
      have HG := Lib.hid hga
      clear hga q1 q2
      by_cases hn : d + 1 ≤ 200
      · obtain rfl : E = 0 := by rw [← HE.out, if_pos hn]
        have hn' : (d : Int) + 1 ≤ 200 := by omega
        have htx := q3 hn
        clear HE q3
        go_wp2_with fail
        refine (text_at w5 _ a3 n3 c3 la PA2 HG.out.1 (HG.out.2.1.mono (by rw [sev_len]; omega)) hnA (hT.keep B5)).mono ?_
        rintro e w6 ⟨rfl, hb6⟩
        have B6 := B5.trans (hb6.mono B5.size)
        have PB6 := Lib.hid (PB.out.keep hb6)
        clear PB
        have PB := PB6
        rw [htx]
        by_cases h0 : k = 0
        · subst h0
          have e4 : (lb, eb) = ([], (4 : Int)) := Q4.out.symm
          obtain ⟨rfl, rfl⟩ := Prod.mk.inj e4
          clear Q4 e4 HLB
          go_wp2_with fail
          refine (alive_c w6 (hT.keep B6) (hV.grown (grown_below B6 none) (by simp)) (by have := B6.size; omega)).mono ?_
          rintro e w9 ⟨rfl, hb9⟩
          go_wp2_with fail
          go_ret
          exact ⟨by simp, B6.trans (hb9.mono B6.size)⟩
        · by_cases h1 : 1000 < k
          · have e4 : (lb, eb) = ([], (3 : Int)) := by have := Q4.out; rw [if_neg h0, if_pos h1] at this; exact this.symm
            obtain ⟨rfl, rfl⟩ := Prod.mk.inj e4
            have h0' : ¬ (k : Int) = 0 := by omega
            have h1' : (1000 : Int) < k := by omega
            clear Q4 e4 HLB
            go_wp2_with fail
            refine (alive_c w6 (hT.keep B6) (hV.grown (grown_below B6 none) (by simp)) (by have := B6.size; omega)).mono ?_
            rintro e w9 ⟨rfl, hb9⟩
            go_wp2_with fail
            go_ret
            exact ⟨by simp, B6.trans (hb9.mono B6.size)⟩
          · have e4 : (lb, eb) = ([(key4 k 0 0 0, (1 : Int), (1 : Int))], (0 : Int)) := by have := Q4.out; rw [if_neg h0, if_neg h1] at this; exact this.symm
            obtain ⟨rfl, rfl⟩ := Prod.mk.inj e4
            have h0' : ¬ (k : Int) = 0 := by omega
            have h1' : ¬ (1000 : Int) < k := by omega
            have P6 := PB.out
            obtain rfl : n5 = 1 := P6.len.symm
            have HP := Lib.hid P6
            clear Q4 e4 HLB PB P6
            go_wp2_with fail
            refine (alive_c w6 (hT.keep B6) (hV.grown (grown_below B6 none) (by simp)) (by have := B6.size; omega)).mono ?_
            rintro e w9 ⟨rfl, hb9⟩
            have B9 := B6.trans (hb9.mono B6.size)
            go_wp2_with fail
            refine (degree_one w9 _ a5 c5 k hk (HP.out.keep hb9)).mono ?_
            rintro e w10 ⟨rfl, hb10⟩
            go_wp2_with fail
            go_ret
            exact ⟨by simp, B9.trans (hb10.mono B9.size)⟩
      · obtain rfl : E = 3 := by rw [← HE.out, if_neg hn]
        have hn' : ¬ (d : Int) + 1 ≤ 200 := by omega
        clear HE q3
        by_cases h0 : k = 0
        · subst h0
          have e4 : (lb, eb) = ([], (4 : Int)) := Q4.out.symm
          obtain ⟨rfl, rfl⟩ := Prod.mk.inj e4
          clear Q4 e4 HLB
          go_wp2_with fail
          refine (alive_c w5 (hT.keep B5) (hV.grown (grown_below B5 none) (by simp)) (by have := B5.size; omega)).mono ?_
          rintro e w9 ⟨rfl, hb9⟩
          go_wp2_with fail
          go_ret
          exact ⟨by simp, B5.trans (hb9.mono B5.size)⟩
        · by_cases h1 : 1000 < k
          · have e4 : (lb, eb) = ([], (3 : Int)) := by have := Q4.out; rw [if_neg h0, if_pos h1] at this; exact this.symm
            obtain ⟨rfl, rfl⟩ := Prod.mk.inj e4
            have h0' : ¬ (k : Int) = 0 := by omega
            have h1' : (1000 : Int) < k := by omega
            clear Q4 e4 HLB
            go_wp2_with fail
            refine (alive_c w5 (hT.keep B5) (hV.grown (grown_below B5 none) (by simp)) (by have := B5.size; omega)).mono ?_
            rintro e w9 ⟨rfl, hb9⟩
            go_wp2_with fail
            go_ret
            exact ⟨by simp, B5.trans (hb9.mono B5.size)⟩
          · have e4 : (lb, eb) = ([(key4 k 0 0 0, (1 : Int), (1 : Int))], (0 : Int)) := by have := Q4.out; rw [if_neg h0, if_neg h1] at this; exact this.symm
            obtain ⟨rfl, rfl⟩ := Prod.mk.inj e4
            have h0' : ¬ (k : Int) = 0 := by omega
            have h1' : ¬ (1000 : Int) < k := by omega
            have P6 := PB.out
            obtain rfl : n5 = 1 := P6.len.symm
            have HP := Lib.hid P6
            clear Q4 e4 HLB PB P6
            go_wp2_with fail
            refine (alive_c w5 (hT.keep B5) (hV.grown (grown_below B5 none) (by simp)) (by have := B5.size; omega)).mono ?_
            rintro e w9 ⟨rfl, hb9⟩
            have B9 := B5.trans (hb9.mono B5.size)
            go_wp2_with fail
            refine (degree_one w9 _ a5 c5 k hk (HP.out.keep hb9)).mono ?_
            rintro e w10 ⟨rfl, hb10⟩
            go_wp2_with fail
            go_ret
            exact ⟨by simp, B9.trans (hb10.mono B9.size)⟩
end Go.Proofs.YtdamegaedmckbaaGreatDoor
end
