/- Package limbs: the order of amounts, Check, of, Cmp, Sign. No condition. -/
import Derived.Test.YtdamegaedmckbaaGreatDoorS2
import Derived.Test.YtdamegaedmckbaaGreatDoorS3
set_option linter.unusedSimpArgs false
set_option linter.unusedVariables false
namespace Go.Proofs.YtdamegaedmckbaaGreatDoor
open Go.RowKit

/-- A call that leaves the world as it is, in a region that only reads. -/
theorem quietL {P : Program} {f : FuncId} {args : Array Value} {w : World} {n : Nat} {v : Value}
    (h : Calls P f args (w.drewN n) fun e w' => e = .returned v ∧ w.drewN n = w') : Calls P f args (w.drewN n) fun e w'' => e = .returned v ∧ ∃ m, w'' = w.drewN m :=
  h.mono fun _ _ ⟨he, hm⟩ => ⟨he, n, hm.symm⟩
theorem quietAL {P : Program} {f : FuncId} {args : Array Value} {w : World} {a n : Nat} {v : Value}
    (h : Calls P f args (w.drewN (a + n)) fun e w' => e = .returned v ∧ w.drewN (a + n) = w') :
    Calls P f args (w.drewN (a + n)) fun e w'' => e = .returned v ∧ ∃ m, w'' = w.drewN (a + m) :=
  h.mono fun _ _ ⟨he, hm⟩ => ⟨he, n, hm.symm⟩

/-- The order of two numbers, as cmp.Compare tells it. -/
def cmpI (x y : Int) : Int := if x < y then -1 else if x = y then 0 else 1
theorem cmpI_lt {x y : Int} (h : x < y) : cmpI x y = -1 := by simp [cmpI, h]
theorem cmpI_eq (x : Int) : cmpI x x = 0 := by simp [cmpI]
theorem cmpI_gt {x y : Int} (h : y < x) : cmpI x y = 1 := by
  have h1 : ¬ x < y := by omega
  have h2 : ¬ x = y := by omega
  simp [cmpI, h1, h2]

theorem isNaN_int (x : Int) (w : World) : Calls Tryz.prog 306 #[.int .i64 x] w fun e w' => e = .returned (.bool false) ∧ w = w' := by
  go_enter Tryz.func306, Tryz.ntmps306
  go_wp2
  go_ret
  exact ⟨by simp, rfl⟩
theorem isNaN_u32 (x : Int) (w : World) : Calls Tryz.prog 307 #[.int .u32 x] w fun e w' => e = .returned (.bool false) ∧ w = w' := by
  go_enter Tryz.func307, Tryz.ntmps307
  go_wp2
  go_ret
  exact ⟨by simp, rfl⟩
theorem isNaN_u16 (x : Int) (w : World) : Calls Tryz.prog 329 #[.int .u16 x] w fun e w' => e = .returned (.bool false) ∧ w = w' := by
  go_enter Tryz.func329, Tryz.ntmps329
  go_wp2
  go_ret
  exact ⟨by simp, rfl⟩

theorem Compare_int (x y : Int) (w : World) : Calls Tryz.prog 269 #[.int .i64 x, .int .i64 y] w fun e w' => e = .returned (.int .i64 (cmpI x y)) ∧ w = w' := by
  rcases Int.lt_trichotomy x y with h | rfl | h
  · rw [cmpI_lt h]
    go_enter Tryz.func269, Tryz.ntmps269
    go_wp2_with (go_at_call 306; refine (isNaN_int _ _).mono ?_; rintro e w' ⟨rfl, rfl⟩)
    go_ret
    exact ⟨rfl, rfl⟩
  · rw [cmpI_eq]
    go_enter Tryz.func269, Tryz.ntmps269
    go_wp2_with (go_at_call 306; refine (isNaN_int _ _).mono ?_; rintro e w' ⟨rfl, rfl⟩)
    go_ret
    exact ⟨rfl, rfl⟩
  · rw [cmpI_gt h]
    go_enter Tryz.func269, Tryz.ntmps269
    go_wp2_with (go_at_call 306; refine (isNaN_int _ _).mono ?_; rintro e w' ⟨rfl, rfl⟩)
    go_ret
    exact ⟨rfl, rfl⟩
theorem Compare_u32 (x y : Int) (w : World) : Calls Tryz.prog 270 #[.int .u32 x, .int .u32 y] w fun e w' => e = .returned (.int .i64 (cmpI x y)) ∧ w = w' := by
  rcases Int.lt_trichotomy x y with h | rfl | h
  · rw [cmpI_lt h]
    go_enter Tryz.func270, Tryz.ntmps270
    go_wp2_with (go_at_call 307; refine (isNaN_u32 _ _).mono ?_; rintro e w' ⟨rfl, rfl⟩)
    go_ret
    exact ⟨rfl, rfl⟩
  · rw [cmpI_eq]
    go_enter Tryz.func270, Tryz.ntmps270
    go_wp2_with (go_at_call 307; refine (isNaN_u32 _ _).mono ?_; rintro e w' ⟨rfl, rfl⟩)
    go_ret
    exact ⟨rfl, rfl⟩
  · rw [cmpI_gt h]
    go_enter Tryz.func270, Tryz.ntmps270
    go_wp2_with (go_at_call 307; refine (isNaN_u32 _ _).mono ?_; rintro e w' ⟨rfl, rfl⟩)
    go_ret
    exact ⟨rfl, rfl⟩
theorem Compare_u32' (x y : Int) (w : World) : Calls Tryz.prog 270 #[.int .u32 x, .int .u32 y] w fun e w' => e = .returned (.int .i64 (cmpI x y)) ∧ w' = w :=
  (Compare_u32 x y w).mono fun _ _ ⟨h, e⟩ => ⟨h, e.symm⟩
theorem Compare_u16 (x y : Int) (w : World) : Calls Tryz.prog 303 #[.int .u16 x, .int .u16 y] w fun e w' => e = .returned (.int .i64 (cmpI x y)) ∧ w = w' := by
  rcases Int.lt_trichotomy x y with h | rfl | h
  · rw [cmpI_lt h]
    go_enter Tryz.func303, Tryz.ntmps303
    go_wp2_with (go_at_call 329; refine (isNaN_u16 _ _).mono ?_; rintro e w' ⟨rfl, rfl⟩)
    go_ret
    exact ⟨rfl, rfl⟩
  · rw [cmpI_eq]
    go_enter Tryz.func303, Tryz.ntmps303
    go_wp2_with (go_at_call 329; refine (isNaN_u16 _ _).mono ?_; rintro e w' ⟨rfl, rfl⟩)
    go_ret
    exact ⟨rfl, rfl⟩
  · rw [cmpI_gt h]
    go_enter Tryz.func303, Tryz.ntmps303
    go_wp2_with (go_at_call 329; refine (isNaN_u16 _ _).mono ?_; rintro e w' ⟨rfl, rfl⟩)
    go_ret
    exact ⟨rfl, rfl⟩

theorem Canon.lt {d : List Nat} (h : Canon d) : ∀ x ∈ d, x < 1000000000 := h.1

theorem lim_eq (d : List Nat) (i : Nat) : lim d i = ((d.getD i 0 : Nat) : Int) := rfl

theorem drop_of_eq {a b : List Nat} {i : Nat} (hl : a.length = b.length) (hi : i < a.length) (hd : a.drop (i + 1) = b.drop (i + 1)) (he : lim a i = lim b i) : a.drop i = b.drop i := by
  rw [List.drop_eq_getElem_cons hi, List.drop_eq_getElem_cons (by omega : i < b.length), hd]
  have : a[i] = b[i]'(by omega) := by
    rw [lim_eq, lim_eq] at he
    simp only [List.getD, List.getElem?_eq_getElem hi, List.getElem?_eq_getElem (show i < b.length by omega), Option.getD_some] at he
    omega
  rw [this]

theorem cmp_len {a b : List Nat} (ha : Canon a) (hb : Canon b) (h : a.length < b.length) : val a < val b := by
  rcases Nat.lt_or_ge (val a) (val b) with h1 | h1
  · exact h1
  · have := dg_length_mono h1
    rw [dg_of_canon ha, dg_of_canon hb] at this
    omega

/-- What 'amounts' answers of two amounts without needless parts. -/
def RetCmp (w : World) (x y : Nat) (e : Ending) (w' : World) : Prop := e = .returned (.int .i64 (cmpI x y)) ∧ Below w.heap.size w w'

theorem cmpI_top {d d' : List Nat} {j : Nat} (hl : d.length = d'.length) (hj : j < d.length) (hc : ∀ x ∈ d, x < 1000000000) (hc' : ∀ x ∈ d', x < 1000000000) (hd : d.drop (j + 1) = d'.drop (j + 1)) (hne : ¬ lim d j = lim d' j) : cmpI (lim d j) (lim d' j) = cmpI (val d) (val d') := by
  rw [lim_eq, lim_eq] at *
  rcases Nat.lt_trichotomy (d.getD j 0) (d'.getD j 0) with h | h | h
  · have := cmp_top hl hj hc hd h
    rw [cmpI_lt (by omega), cmpI_lt (by omega)]
  · exact absurd (by rw [h]) hne
  · have := cmp_top hl.symm (by omega) hc' hd.symm h
    rw [cmpI_gt (by omega), cmpI_gt (by omega)]

set_option maxHeartbeats 400000 in
theorem amounts_same (w : World) (a : Option Addr) (n c : Nat) (d : List Nat) (a' : Option Addr) (c' : Nat) (d' : List Nat) (hd : RdL w a n c d) (hd' : RdL w a' n c' d') (hc : Canon d) (hc' : Canon d') :
    Calls Tryz.prog 225 #[.slice a n c, .slice a' n c'] w (RetCmp w (val d) (val d')) := by
  have hl := hd.len
  have hl' := hd'.len
  have hn := hd.few
  go_enter Tryz.func225, Tryz.ntmps225
  go_wp2_with (go_at_call 269; refine (Compare_int _ _ _).mono ?_; rintro e w' ⟨rfl, rfl⟩; rw [cmpI_eq])
  go_loopw [6] (fun v6 wr => ∃ k : Nat, k ≤ n ∧ v6 = .int .i64 ((k : Int) - 1) ∧ d.drop k = d'.drop k ∧ Below w.heap.size w wr) (fun v6 _ => (intOf v6 + 1).toNat)
  case atStart => exact ⟨n, Nat.le_refl _, rfl, by rw [List.drop_of_length_le (by omega), List.drop_of_length_le (by omega)], Below.refl _ _⟩
  case round =>
    obtain ⟨k, hk, rfl, hdr, HB⟩ := hrel
    have HD := Lib.hid hdr
    clear hdr
    match k with
    | 0 =>
      have hv : Hid (d = d') := Lib.hid (by have := HD.out; simpa using this)
      rw [show ((0 : Nat) : Int) - 1 = -1 from rfl]
      go_wp2_with fail
      go_ret
      exact ⟨by rw [hv.out, cmpI_eq]; rfl, HB⟩
    | j + 1 =>
      have hj : ((j + 1 : Nat) : Int) - 1 = (j : Int) := by omega
      rw [hj]
      clear hj
      have c1 := (hd.keep HB).at' (i := j) (by omega)
      have c2 := (hd'.keep HB).at' (i := j) (by omega)
      obtain ⟨b, o, rfl, c1⟩ := c1
      obtain ⟨b', o', rfl, c2⟩ := c2
      by_cases hne : lim d j = lim d' j
      · have hbe : (lim d j != lim d' j) = false := by simp [hne]
        have HN := Lib.hid hne
        have HL := Lib.hid hl
        have HL' := Lib.hid hl'
        clear hne hl hl'
        go_wp2_with fail
        go_quiet (fail)
        go_wp2_with fail
        go_roundw
        case rel => exact ⟨j, by omega, rfl, drop_of_eq (by rw [HL.out, HL'.out]) (by rw [HL.out]; omega) HD.out HN.out, below_drewN _ HB⟩
        case measure => (first | (simp [intOf]; omega) | (simp [intOf]; done))
      · have hbe : (lim d j != lim d' j) = true := by simp [hne]
        have hcm := Lib.hid (cmpI_top (by omega) (by omega) hc.1 hc'.1 HD.out hne)
        clear hne hl hl'
        go_wp2_with fail
        go_quiet (fail)
        go_wp2_with fail
        go_quiet ((first | (go_at_call 270; exact quietL (Compare_u32 _ _ _)) | (go_at_call 270; exact quietAL (Compare_u32 _ _ _))))
        go_wp2_with fail
        go_ret
        exact ⟨by rw [hcm.out]; rfl, below_drewN _ (below_drewN _ HB)⟩

set_option maxHeartbeats 400000 in
theorem amounts_c (w : World) (a : Option Addr) (n c : Nat) (d : List Nat) (a' : Option Addr) (n' c' : Nat) (d' : List Nat) (hd : RdL w a n c d) (hd' : RdL w a' n' c' d') (hc : Canon d) (hc' : Canon d') :
    Calls Tryz.prog 225 #[.slice a n c, .slice a' n' c'] w (RetCmp w (val d) (val d')) := by
  have hl := hd.len
  have hl' := hd'.len
  have hn := hd.few
  unfold RetCmp
  rcases Nat.lt_trichotomy n n' with h | rfl | h
  · rw [cmpI_lt (by have := cmp_len hc hc' (by omega); omega)]
    have hcm := cmpI_lt (x := (n : Int)) (y := n') (by omega)
    have HC := Lib.hid hcm
    clear hcm
    go_enter Tryz.func225, Tryz.ntmps225
    go_wp2_with (go_at_call 269; refine (Compare_int _ _ _).mono ?_; rintro e w' ⟨rfl, rfl⟩; rw [HC.out])
    go_ret
    exact ⟨rfl, Below.refl _ _⟩
  · exact amounts_same w a n c d a' c' d' hd hd' hc hc'
  · rw [cmpI_gt (by have := cmp_len hc' hc (by omega); omega)]
    have hcm := cmpI_gt (x := (n : Int)) (y := n') (by omega)
    have HC := Lib.hid hcm
    clear hcm
    go_enter Tryz.func225, Tryz.ntmps225
    go_wp2_with (go_at_call 269; refine (Compare_int _ _ _).mono ?_; rintro e w' ⟨rfl, rfl⟩; rw [HC.out])
    go_ret
    exact ⟨rfl, Below.refl _ _⟩
end Go.Proofs.YtdamegaedmckbaaGreatDoor
