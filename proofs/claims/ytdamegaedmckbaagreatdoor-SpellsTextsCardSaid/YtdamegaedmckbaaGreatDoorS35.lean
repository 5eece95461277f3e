/- The document's answer, layer 1: Text. -/
import Derived.Test.YtdamegaedmckbaaGreatDoorS30
import Derived.Test.YtdamegaedmckbaaGreatDoorS19
import Derived.Test.YtdamegaedmckbaaGreatDoorS29
set_option linter.unusedSimpArgs false
set_option linter.unusedVariables false
set_option linter.unusedSimpArgs false
namespace Go.Proofs.YtdamegaedmckbaaGreatDoor
open Go.RowKit

/-- What stands there when i parts are written. -/
def txtD (d : List Nat) (i : Nat) : List UInt8 := if i = d.length then (if d = [] then [] else Lib.decDigits (val d)) else lowD d i

theorem txtD_zero {d : List Nat} : txtD d 0 = [] := by
  unfold txtD
  split
  · rename_i h
    have : d = [] := List.eq_nil_of_length_eq_zero h.symm
    rw [if_pos this]
  · rfl
theorem txtD_low {d : List Nat} {i : Nat} (h : i < d.length) : txtD d i = lowD d i := by rw [txtD, if_neg (by omega)]
theorem txtD_next {d : List Nat} (h : ∀ x ∈ d, x < 1000000000) {i : Nat} (hi : i + 1 < d.length) : txtD d (i + 1) = padD 9 (d.getD i 0) ++ txtD d i := by
  rw [txtD_low hi, txtD_low (by omega), lowD_succ h]
theorem txtD_top {d : List Nat} (h : ∀ x ∈ d, x < 1000000000) {i : Nat} (hi : i + 1 = d.length) (hx : 0 < d.getD i 0) : txtD d (i + 1) = Lib.decDigits (d.getD i 0) ++ txtD d i := by
  have hne : d ≠ [] := by intro e; rw [e] at hi; simp at hi
  rw [txtD_low (show i < d.length by omega), txtD, if_pos hi, if_neg hne, lowD_end h i hi.symm hx]
theorem decDigits_len {x k : Nat} (h : x < 10 ^ (k + 1)) : (Lib.decDigits x).length ≤ k + 1 := (padD_eq k x h).2
theorem txtD_len {d : List Nat} (h : ∀ x ∈ d, x < 1000000000) {i : Nat} (hi : i ≤ d.length) : (txtD d i).length ≤ 9 * i + 1 := by
  unfold txtD
  split
  · split
    · simp
    · have h1 := val_lt d h
      rw [pow9] at h1
      have := decDigits_len (k := 9 * d.length) (Nat.lt_of_lt_of_le h1 (Nat.pow_le_pow_right (by omega) (by omega)))
      omega
  · rw [lowD_length]; omega

theorem digit_cut (m : Nat) (h : m < 10) : (⟨#[48, 49, 50, 51, 52, 53, 54, 55, 56, 57]⟩ : ByteArray).extract m (m + 1) = ⟨#[UInt8.ofNat (48 + m)]⟩ := by
  match m, h with
  | 0, _ => rfl
  | 1, _ => rfl
  | 2, _ => rfl
  | 3, _ => rfl
  | 4, _ => rfl
  | 5, _ => rfl
  | 6, _ => rfl
  | 7, _ => rfl
  | 8, _ => rfl
  | 9, _ => rfl

theorem canon_top {d : List Nat} (h : Canon d) {i : Nat} (hi : i + 1 = d.length) : 0 < d.getD i 0 := by
  have h1 := (canon_last h.1 (by omega)).1 h
  rw [← hi, Nat.add_sub_cancel, lim_eq] at h1
  omega

set_option maxRecDepth 100000 in
set_option maxHeartbeats 4000000 in
theorem rText_c (w : World) (g : Bool) (a : Option Addr) (n c : Nat) (z : Int) (h : NumAt w g a n c z) (hn : n ≤ 1000000) :
    Calls Tryz.prog 124 #[.agg #[.bool g, .slice a n c]] w (RetStr w (Lib.itoa z)) := by
  have HB := Below.refl w.heap.size w
  go_enter Tryz.func124, Tryz.ntmps124
  go_wp2_with fail
  refine (rFit_c _ g a n c z (h.keep (by go_grown))).mono ?_
  rintro e w1 ⟨rfl, hb⟩
  obtain ⟨hc, hf⟩ := bcell hb; have hz := hb.size; (try simp only [World.size_alloc, World.size_drew] at hz)
  replace HB : Below w.heap.size w w1 := Below.trans (by go_grown) (hb.mono (by go_size))
  have s0_0 : w1.cell? ⟨w.heap.size, 0, none⟩ = some (.bool g) := (hc _ _ (by go_size)).trans (by first | assumption | (simp [go_sem]; done)); have s0_1 : w1.cell? ⟨w.heap.size, 1, none⟩ = some (.slice a n c) := (hc _ _ (by go_size)).trans (by first | assumption | (simp [go_sem]; done))
  have f0_0 : w1.frozen? ⟨w.heap.size, 0, none⟩ = false := (hf _ _ (by go_size)).trans (by simp [go_sem])
  have f0_1 : w1.frozen? ⟨w.heap.size, 1, none⟩ = false := (hf _ _ (by go_size)).trans (by simp [go_sem])
  clear hc hf hb
  have hk : w.heap.size < w1.heap.size := hz
  have HB2 : Below w.heap.size w ((w1.setCell ⟨w.heap.size, 0, none⟩ (.bool g)).setCell ⟨w.heap.size, 1, none⟩ (.slice a n c)) := by go_grown
  have e0 : ((w1.setCell ⟨w.heap.size, 0, none⟩ (.bool g)).setCell ⟨w.heap.size, 1, none⟩ (.slice a n c)).cell? ⟨w.heap.size, 0, none⟩ = some (.bool g) := by simp [*, go_sem]
  have e1 : ((w1.setCell ⟨w.heap.size, 0, none⟩ (.bool g)).setCell ⟨w.heap.size, 1, none⟩ (.slice a n c)).cell? ⟨w.heap.size, 1, none⟩ = some (.slice a n c) := by simp [*, go_sem]
  go_wp2_with fail
  generalize ((w1.setCell ⟨w.heap.size, 0, none⟩ (.bool g)).setCell ⟨w.heap.size, 1, none⟩ (.slice a n c)) = w2 at *
  clear s0_0 s0_1 f0_0 f0_1 HB hz
  have hlen := h.rd.len
  have hlt := dg_lt z.natAbs
  have hcan := canon_dg z.natAbs
  have HLT := Lib.hid hlt
  have HCN := Lib.hid hcan
  have HLN := Lib.hid hlen
  clear hlt hcan hlen
  go_loopw [3, 4] (fun v3 v4 wr => ∃ i : Nat, i ≤ n ∧ v4 = .int .i64 i ∧ v3 = .string ⟨(txtD (dg z.natAbs) i).toArray⟩ ∧ Below w2.heap.size w2 wr) (fun _ v4 _ => n - (intOf v4).toNat)
  case atStart => exact ⟨0, Nat.zero_le _, rfl, by rw [txtD_zero], Below.refl _ _⟩
  case round =>
    obtain ⟨i, hi, rfl, rfl, hBr⟩ := hrel
    have q0 := cell_keep hBr e0
    have q1 := cell_keep hBr e1
    have HBr : Below w.heap.size w wr := HB2.trans (hBr.mono HB2.size)
    by_cases hlt : i < n
    · obtain ⟨b, o, rfl, c1⟩ := (h.rd.keep HBr).at' hlt
      obtain ⟨x, hx⟩ : ∃ x : Nat, lim (dg z.natAbs) i = (x : Int) := ⟨(lim (dg z.natAbs) i).toNat, by have := h.rd.small i; omega⟩
      rw [hx] at c1
      have hxd : (dg z.natAbs).getD i 0 = x := by rw [lim_eq] at hx; omega
      have hxl : x < 1000000000 := by rw [← hxd]; exact getD_lt HLT.out i
      have HXD := Lib.hid hxd
      clear hx hxd
      have htl := txtD_len HLT.out (i := i) (by have := HLN.out; omega)
      by_cases htop : i + 1 < n
      · have HNX := Lib.hid (txtD_next HLT.out (i := i) (by have := HLN.out; omega))
        rw [HXD.out] at HNX
        generalize txtD (dg z.natAbs) i = t0 at *
        go_wp2_with fail
        go_loop [3, 5, 6] (fun v3 v5 v6 => ∃ k v : Nat, k ≤ 9 ∧ v6 = .int .i64 k ∧ v5 = .int .u32 v ∧ v < 1000000000 ∧ v3 = .string ⟨(padD k x ++ t0).toArray⟩ ∧ Hid (v = x / 10 ^ k)) (fun _ _ v6 => 9 - (intOf v6).toNat)
        case atStart => exact ⟨0, x, by omega, rfl, rfl, hxl, rfl, Lib.hid (by simp)⟩
        case round =>
          obtain ⟨k, v, hk9, rfl, rfl, hvl, rfl, HV⟩ := hrel
          by_cases hk : k < 9
          · by_cases hv0 : 0 < v
            · skip
              obtain ⟨m, hm⟩ : ∃ m : Nat, m = v % 10 := ⟨_, rfl⟩
              obtain ⟨v', hv'⟩ : ∃ v' : Nat, v' = v / 10 := ⟨_, rfl⟩
              have hm10 : m < 10 := by omega
              have hq1 : (v : Int) % 10 = (m : Int) := by omega
              have hq2 : (v : Int) / 10 = (v' : Int) := by omega
              have hq3 : Hid (padD (k + 1) x = UInt8.ofNat (48 + m) :: padD k x) := Lib.hid (by rw [padD_front, ← HV.out, ← hm])
              have hq4 : Hid (v' = x / 10 ^ (k + 1)) := Lib.hid (by rw [hv', HV.out, Nat.div_div_eq_div_mul, Nat.pow_succ])
              have hv'l : v' < 1000000000 := by omega
              have hvx : Hid (0 < v → 10 ^ k ≤ x) := Lib.hid (fun h => by rw [HV.out] at h; exact (Nat.div_pos_iff.1 h).2)
              have hex := digit_cut m hm10
              generalize UInt8.ofNat (48 + m) = ch at *
              have hpl : (padD k x ++ t0).length ≤ 9 * i + 10 := by rw [List.length_append, padD_length]; omega
              generalize hs : padD k x ++ t0 = s0 at *
              have HS0 := Lib.hid hs
              have hcat : (⟨#[ch]⟩ : ByteArray).size + (⟨s0.toArray⟩ : ByteArray).size ≤ 9223372036854775807 := by show 1 + s0.length ≤ _; omega
              have happ : ((⟨#[ch]⟩ : ByteArray) ++ (⟨s0.toArray⟩ : ByteArray)) = ⟨(ch :: s0).toArray⟩ := ba_app [ch] s0
              clear hm hv' hs
              go_wp2_with fail
              go_round
              case rel =>
                refine ⟨k + 1, v', by omega, by go_num, rfl, hv'l, by rw [hq3.out, List.cons_append, HS0.out], hq4⟩
              case measure => simp [intOf]; omega
            · have hv1 : v ≤ 0 := by omega
              obtain ⟨m, hm⟩ : ∃ m : Nat, m = v % 10 := ⟨_, rfl⟩
              obtain ⟨v', hv'⟩ : ∃ v' : Nat, v' = v / 10 := ⟨_, rfl⟩
              have hm10 : m < 10 := by omega
              have hq1 : (v : Int) % 10 = (m : Int) := by omega
              have hq2 : (v : Int) / 10 = (v' : Int) := by omega
              have hq3 : Hid (padD (k + 1) x = UInt8.ofNat (48 + m) :: padD k x) := Lib.hid (by rw [padD_front, ← HV.out, ← hm])
              have hq4 : Hid (v' = x / 10 ^ (k + 1)) := Lib.hid (by rw [hv', HV.out, Nat.div_div_eq_div_mul, Nat.pow_succ])
              have hv'l : v' < 1000000000 := by omega
              have hvx : Hid (0 < v → 10 ^ k ≤ x) := Lib.hid (fun h => by rw [HV.out] at h; exact (Nat.div_pos_iff.1 h).2)
              have hex := digit_cut m hm10
              generalize UInt8.ofNat (48 + m) = ch at *
              have hpl : (padD k x ++ t0).length ≤ 9 * i + 10 := by rw [List.length_append, padD_length]; omega
              generalize hs : padD k x ++ t0 = s0 at *
              have HS0 := Lib.hid hs
              have hcat : (⟨#[ch]⟩ : ByteArray).size + (⟨s0.toArray⟩ : ByteArray).size ≤ 9223372036854775807 := by show 1 + s0.length ≤ _; omega
              have happ : ((⟨#[ch]⟩ : ByteArray) ++ (⟨s0.toArray⟩ : ByteArray)) = ⟨(ch :: s0).toArray⟩ := ba_app [ch] s0
              clear hm hv' hs
              go_wp2_with fail
              go_round
              case rel =>
                refine ⟨k + 1, v', by omega, by go_num, rfl, hv'l, by rw [hq3.out, List.cons_append, HS0.out], hq4⟩
              case measure => simp [intOf]; omega
          · obtain rfl : k = 9 := by omega
            go_wp2_with fail
            go_roundw
            case rel => exact ⟨i + 1, by omega, by go_num, by rw [HNX.out], hBr⟩
            case measure => simp [intOf]; omega
      · have hie : i + 1 = (dg z.natAbs).length := by have := HLN.out; omega
        have hx0 := canon_top HCN.out hie
        have HNX := Lib.hid (txtD_top HLT.out hie hx0)
        rw [HXD.out] at HNX hx0
        clear hie
        obtain ⟨t0, ht0⟩ : ∃ t0, t0 = txtD (dg z.natAbs) i := ⟨_, rfl⟩
        rw [← ht0] at HNX htl
        rw [← ht0]
        clear ht0
        go_wp2_with fail
        go_loop [3, 5, 6] (fun v3 v5 v6 => ∃ k v : Nat, k ≤ 9 ∧ v6 = .int .i64 k ∧ v5 = .int .u32 v ∧ v < 1000000000 ∧ v3 = .string ⟨(padD k x ++ t0).toArray⟩ ∧ Hid (v = x / 10 ^ k) ∧ Hid (k = 0 ∨ 10 ^ (k - 1) ≤ x)) (fun _ _ v6 => 9 - (intOf v6).toNat)
        case atStart => exact ⟨0, x, by omega, rfl, rfl, hxl, rfl, Lib.hid (by simp), Lib.hid (.inl rfl)⟩
        case round =>
          obtain ⟨k, v, hk9, rfl, rfl, hvl, rfl, HV, HM⟩ := hrel
          by_cases hk : k < 9 ∧ 0 < v
          · obtain ⟨hk, hv0⟩ := hk
            obtain ⟨m, hm⟩ : ∃ m : Nat, m = v % 10 := ⟨_, rfl⟩
            obtain ⟨v', hv'⟩ : ∃ v' : Nat, v' = v / 10 := ⟨_, rfl⟩
            have hm10 : m < 10 := by omega
            have hq1 : (v : Int) % 10 = (m : Int) := by omega
            have hq2 : (v : Int) / 10 = (v' : Int) := by omega
            have hq3 : Hid (padD (k + 1) x = UInt8.ofNat (48 + m) :: padD k x) := Lib.hid (by rw [padD_front, ← HV.out, ← hm])
            have hq4 : Hid (v' = x / 10 ^ (k + 1)) := Lib.hid (by rw [hv', HV.out, Nat.div_div_eq_div_mul, Nat.pow_succ])
            have hv'l : v' < 1000000000 := by omega
            have hvx : Hid (0 < v → 10 ^ k ≤ x) := Lib.hid (fun h => by rw [HV.out] at h; exact (Nat.div_pos_iff.1 h).2)
            have hex := digit_cut m hm10
            generalize UInt8.ofNat (48 + m) = ch at *
            have hpl : (padD k x ++ t0).length ≤ 9 * i + 10 := by rw [List.length_append, padD_length]; omega
            generalize hs : padD k x ++ t0 = s0 at *
            have HS0 := Lib.hid hs
            have hcat : (⟨#[ch]⟩ : ByteArray).size + (⟨s0.toArray⟩ : ByteArray).size ≤ 9223372036854775807 := by show 1 + s0.length ≤ _; omega
            have happ : ((⟨#[ch]⟩ : ByteArray) ++ (⟨s0.toArray⟩ : ByteArray)) = ⟨(ch :: s0).toArray⟩ := ba_app [ch] s0
            clear hm hv' hs
            go_wp2_with fail
            go_round
            case rel =>
              refine ⟨k + 1, v', by omega, by go_num, rfl, hv'l, by rw [hq3.out, List.cons_append, HS0.out], hq4, Lib.hid (.inr ?_)⟩
              rw [Nat.add_sub_cancel]; exact hvx.out hv0
            case measure => simp [intOf]; omega
          · have hv1 : Hid (x / 10 ^ k = 0) := Lib.hid (by
              rw [← HV.out]
              rcases Nat.lt_or_ge k 9 with h | h
              · omega
              · obtain rfl : k = 9 := by omega
                have := HV.out
                rw [this]
                exact Nat.div_eq_of_lt (by omega))
            obtain rfl : v = 0 := by rw [HV.out]; exact hv1.out
            have hpd : Hid (padD k x = Lib.decDigits x) := Lib.hid (by
              have hx1 : x < 10 ^ k := by
                rcases Nat.lt_or_ge x (10 ^ k) with h | h
                · exact h
                · have := Nat.div_pos h (Nat.pow_pos (by omega)); have := hv1.out; omega
              cases k with
              | zero => simp at hx1; omega
              | succ k => exact padD_dec k x hx1 (.inr (by have := HM.out; rw [Nat.add_sub_cancel] at this; exact this.resolve_left (by omega))))
            have HP2 : Hid (padD k x ++ t0 = txtD (dg z.natAbs) (i + 1)) := Lib.hid (by rw [hpd.out]; exact HNX.out.symm)
            rw [HP2.out]
            by_cases hk9' : k < 9
            · go_wp2_with fail
              go_roundw
              case rel => exact ⟨i + 1, by omega, by go_num, rfl, hBr⟩
              case measure => simp [intOf]; omega
            · go_wp2_with fail
              go_roundw
              case rel => exact ⟨i + 1, by omega, by go_num, rfl, hBr⟩
              case measure => simp [intOf]; omega
    · obtain rfl : i = n := by omega
      by_cases hz0 : z = 0
      · have e : txtD (dg z.natAbs) i = [] := by
          have h1 := HLN.out
          rw [hz0, show (0 : Int).natAbs = 0 from rfl, dg_zero] at h1 ⊢
          simp only [List.length_nil] at h1
          rw [← h1]; exact txtD_zero
        have hr := Lib.hid (show Lib.itoa z = [48] by rw [hz0]; exact itoa_none)
        rw [e]
        clear hz0
        go_wp2_with fail
        go_ret
        exact ⟨by rw [hr.out]; rfl, HBr⟩
      · have e : txtD (dg z.natAbs) i = Lib.decDigits z.natAbs := by
          have hne : dg z.natAbs ≠ [] := by rw [dg_pos (by omega)]; simp
          rw [txtD, if_pos HLN.out.symm, if_neg hne, val_dg]
        have hne : Lib.decDigits z.natAbs ≠ [] := by
          have h1 := itoa_ne ((z.natAbs : Nat) : Int)
          rw [Lib.itoa, if_neg (by omega), Int.toNat_natCast] at h1
          exact h1
        have hlen := txtD_len HLT.out (i := i) (by have := HLN.out; omega)
        have hr : Lib.itoa z = if z < 0 then 45 :: Lib.decDigits z.natAbs else Lib.decDigits z.natAbs := by
          rw [Lib.itoa]
          split
          · rfl
          · rw [show z.toNat = z.natAbs by omega]
        rw [e] at hlen ⊢
        have hg := h.neg
        obtain ⟨c0, t, ht⟩ := List.exists_cons_of_ne_nil hne
        rw [ht] at hr hlen ⊢
        clear e hne ht hz0
        have hcat : (⟨#[45]⟩ : ByteArray).size + (⟨(c0 :: t).toArray⟩ : ByteArray).size ≤ 9223372036854775807 := by show 1 + (c0 :: t).length ≤ _; omega
        have happ : ((⟨#[45]⟩ : ByteArray) ++ (⟨(c0 :: t).toArray⟩ : ByteArray)) = ⟨(45 :: c0 :: t).toArray⟩ := ba_app [45] (c0 :: t)
        cases g
        · rw [if_neg (by simpa using hg.symm)] at hr
          have HR := Lib.hid hr
          clear hr hg
          go_wp2_with fail
          go_ret
          exact ⟨by rw [HR.out]; rfl, HBr⟩
        · rw [if_pos (by simpa using hg.symm)] at hr
          have HR := Lib.hid hr
          clear hr hg
          go_wp2_with fail
          go_ret
          exact ⟨by rw [HR.out]; rfl, HBr⟩
end Go.Proofs.YtdamegaedmckbaaGreatDoor
