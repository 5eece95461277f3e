/- Package limbs: the order of amounts, Check, of, Cmp, Sign. No condition. Package limbs: Check, of, Cmp, Sign. No condition. -/
import Derived.Test.YtdamegaedmckbaaGreatDoorX0
set_option linter.unusedSimpArgs false
set_option linter.unusedVariables false
section
namespace Go.Proofs.YtdamegaedmckbaaGreatDoor
open Go.RowKit

/-- A call that leaves the world as it is, in a region that only reads. -/
theorem quietL {P : Program} {f : FuncId} {args : Array Value} {w : World} {n : Nat} {v : Value}
    (h : Calls P f args (w.drewN n) fun e w' => e = .returned v ∧ w.drewN n = w') : Calls P f args (w.drewN n) fun e w'' => e = .returned v ∧ ∃ m, w'' = w.drewN m :=
  h.mono fun _ _ ⟨he, hm⟩ => ⟨he, n, hm.symm⟩
theorem quietAL {P : Program} {f : FuncId} {args : Array Value} {w : World} {a n : Nat} {v : Value}
    (h : Calls P f args (w.drewN (a + n)) fun e w' => e = .returned v ∧ w.drewN (a + n) = w') :
    Calls P f args (w.drewN (a + n)) fun e w'' => e = .returned v ∧ ∃ m, w'' = w.drewN (a + m) :=
  h.mono fun _ _ ⟨he, hm⟩ => ⟨he, n, hm.symm⟩
/-- The order of two numbers, as cmp.Compare tells it. -/
def cmpI (x y : Int) : Int := if x < y then -1 else if x = y then 0 else 1
theorem cmpI_lt {x y : Int} (h : x < y) : cmpI x y = -1 := by simp [cmpI, h]
theorem cmpI_eq (x : Int) : cmpI x x = 0 := by simp [cmpI]
theorem cmpI_gt {x y : Int} (h : y < x) : cmpI x y = 1 := by
  have h1 : ¬ x < y := by omega
  have h2 : ¬ x = y := by omega
  simp [cmpI, h1, h2]
theorem isNaN_int (x : Int) (w : World) : Calls Tryz.prog 306 #[.int .i64 x] w fun e w' => e = .returned (.bool false) ∧ w = w' := by
  go_enter Tryz.func306, Tryz.ntmps306
  go_wp2
  go_ret
  exact ⟨by simp, rfl⟩
theorem isNaN_u32 (x : Int) (w : World) : Calls Tryz.prog 307 #[.int .u32 x] w fun e w' => e = .returned (.bool false) ∧ w = w' := by
  go_enter Tryz.func307, Tryz.ntmps307
  go_wp2
  go_ret
  exact ⟨by simp, rfl⟩
theorem isNaN_u16 (x : Int) (w : World) : Calls Tryz.prog 329 #[.int .u16 x] w fun e w' => e = .returned (.bool false) ∧ w = w' := by
  go_enter Tryz.func329, Tryz.ntmps329
  go_wp2
  go_ret
  exact ⟨by simp, rfl⟩
theorem Compare_int (x y : Int) (w : World) : Calls Tryz.prog 269 #[.int .i64 x, .int .i64 y] w fun e w' => e = .returned (.int .i64 (cmpI x y)) ∧ w = w' := by
  rcases Int.lt_trichotomy x y with h | rfl | h
  · rw [cmpI_lt h]
    go_enter Tryz.func269, Tryz.ntmps269
    go_wp2_with (go_at_call 306; refine (isNaN_int _ _).mono ?_; rintro e w' ⟨rfl, rfl⟩)
    go_ret
    exact ⟨rfl, rfl⟩
  · rw [cmpI_eq]
    go_enter Tryz.func269, Tryz.ntmps269
    go_wp2_with (go_at_call 306; refine (isNaN_int _ _).mono ?_; rintro e w' ⟨rfl, rfl⟩)
    go_ret
    exact ⟨rfl, rfl⟩
  · rw [cmpI_gt h]
    go_enter Tryz.func269, Tryz.ntmps269
    go_wp2_with (go_at_call 306; refine (isNaN_int _ _).mono ?_; rintro e w' ⟨rfl, rfl⟩)
    go_ret
    exact ⟨rfl, rfl⟩
theorem Compare_u32 (x y : Int) (w : World) : Calls Tryz.prog 270 #[.int .u32 x, .int .u32 y] w fun e w' => e = .returned (.int .i64 (cmpI x y)) ∧ w = w' := by
  rcases Int.lt_trichotomy x y with h | rfl | h
  · rw [cmpI_lt h]
    go_enter Tryz.func270, Tryz.ntmps270
    go_wp2_with (go_at_call 307; refine (isNaN_u32 _ _).mono ?_; rintro e w' ⟨rfl, rfl⟩)
    go_ret
    exact ⟨rfl, rfl⟩
  · rw [cmpI_eq]
    go_enter Tryz.func270, Tryz.ntmps270
    go_wp2_with (go_at_call 307; refine (isNaN_u32 _ _).mono ?_; rintro e w' ⟨rfl, rfl⟩)
    go_ret
    exact ⟨rfl, rfl⟩
  · rw [cmpI_gt h]
    go_enter Tryz.func270, Tryz.ntmps270
    go_wp2_with (go_at_call 307; refine (isNaN_u32 _ _).mono ?_; rintro e w' ⟨rfl, rfl⟩)
    go_ret
    exact ⟨rfl, rfl⟩
theorem Compare_u16 (x y : Int) (w : World) : Calls Tryz.prog 303 #[.int .u16 x, .int .u16 y] w fun e w' => e = .returned (.int .i64 (cmpI x y)) ∧ w = w' := by
  rcases Int.lt_trichotomy x y with h | rfl | h
  · rw [cmpI_lt h]
    go_enter Tryz.func303, Tryz.ntmps303
    go_wp2_with (go_at_call 329; refine (isNaN_u16 _ _).mono ?_; rintro e w' ⟨rfl, rfl⟩)
    go_ret
    exact ⟨rfl, rfl⟩
  · rw [cmpI_eq]
    go_enter Tryz.func303, Tryz.ntmps303
    go_wp2_with (go_at_call 329; refine (isNaN_u16 _ _).mono ?_; rintro e w' ⟨rfl, rfl⟩)
    go_ret
    exact ⟨rfl, rfl⟩
  · rw [cmpI_gt h]
    go_enter Tryz.func303, Tryz.ntmps303
    go_wp2_with (go_at_call 329; refine (isNaN_u16 _ _).mono ?_; rintro e w' ⟨rfl, rfl⟩)
    go_ret
    exact ⟨rfl, rfl⟩
theorem Canon.lt {d : List Nat} (h : Canon d) : ∀ x ∈ d, x < 1000000000 := h.1
theorem lim_eq (d : List Nat) (i : Nat) : lim d i = ((d.getD i 0 : Nat) : Int) := rfl
theorem drop_of_eq {a b : List Nat} {i : Nat} (hl : a.length = b.length) (hi : i < a.length) (hd : a.drop (i + 1) = b.drop (i + 1)) (he : lim a i = lim b i) : a.drop i = b.drop i := by
  rw [List.drop_eq_getElem_cons hi, List.drop_eq_getElem_cons (by omega : i < b.length), hd]
  have : a[i] = b[i]'(by omega) := by
    rw [lim_eq, lim_eq] at he
    simp only [List.getD, List.getElem?_eq_getElem hi, List.getElem?_eq_getElem (show i < b.length by omega), Option.getD_some] at he
    omega
  rw [this]
theorem cmp_len {a b : List Nat} (ha : Canon a) (hb : Canon b) (h : a.length < b.length) : val a < val b := by
  rcases Nat.lt_or_ge (val a) (val b) with h1 | h1
  · exact h1
  · have := dg_length_mono h1
    rw [dg_of_canon ha, dg_of_canon hb] at this
    omega
/-- What 'amounts' answers of two amounts without needless parts. -/
def RetCmp (w : World) (x y : Nat) (e : Ending) (w' : World) : Prop := e = .returned (.int .i64 (cmpI x y)) ∧ Below w.heap.size w w'
theorem cmpI_top {d d' : List Nat} {j : Nat} (hl : d.length = d'.length) (hj : j < d.length) (hc : ∀ x ∈ d, x < 1000000000) (hc' : ∀ x ∈ d', x < 1000000000) (hd : d.drop (j + 1) = d'.drop (j + 1)) (hne : ¬ lim d j = lim d' j) : cmpI (lim d j) (lim d' j) = cmpI (val d) (val d') := by
  rw [lim_eq, lim_eq] at *
  rcases Nat.lt_trichotomy (d.getD j 0) (d'.getD j 0) with h | h | h
  · have := cmp_top hl hj hc hd h
    rw [cmpI_lt (by omega), cmpI_lt (by omega)]
  · exact absurd (by rw [h]) hne
  · have := cmp_top hl.symm (by omega) hc' hd.symm h
    rw [cmpI_gt (by omega), cmpI_gt (by omega)]
set_option maxHeartbeats 400000 in
theorem amounts_same (w : World) (a : Option Addr) (n c : Nat) (d : List Nat) (a' : Option Addr) (c' : Nat) (d' : List Nat) (hd : RdL w a n c d) (hd' : RdL w a' n c' d') (hc : Canon d) (hc' : Canon d') :
    Calls Tryz.prog 225 #[.slice a n c, .slice a' n c'] w (RetCmp w (val d) (val d')) := by
  have hl := hd.len
  have hl' := hd'.len
  have hn := hd.few
  go_enter Tryz.func225, Tryz.ntmps225
  go_wp2_with (go_at_call 269; refine (Compare_int _ _ _).mono ?_; rintro e w' ⟨rfl, rfl⟩; rw [cmpI_eq])
  go_loopw [6] (fun v6 wr => ∃ k : Nat, k ≤ n ∧ v6 = .int .i64 ((k : Int) - 1) ∧ d.drop k = d'.drop k ∧ Below w.heap.size w wr) (fun v6 _ => (intOf v6 + 1).toNat)
  case atStart => exact ⟨n, Nat.le_refl _, rfl, by rw [List.drop_of_length_le (by omega), List.drop_of_length_le (by omega)], Below.refl _ _⟩
  case round =>
    obtain ⟨k, hk, rfl, hdr, HB⟩ := hrel
    have HD := Lib.hid hdr
    clear hdr
    match k with
    | 0 =>
      have hv : Hid (d = d') := Lib.hid (by have := HD.out; simpa using this)
      rw [show ((0 : Nat) : Int) - 1 = -1 from rfl]
      go_wp2_with fail
      go_ret
      exact ⟨by rw [hv.out, cmpI_eq]; rfl, HB⟩
    | j + 1 =>
      have hj : ((j + 1 : Nat) : Int) - 1 = (j : Int) := by omega
      rw [hj]
      clear hj
      have c1 := (hd.keep HB).at' (i := j) (by omega)
      have c2 := (hd'.keep HB).at' (i := j) (by omega)
      obtain ⟨b, o, rfl, c1⟩ := c1
      obtain ⟨b', o', rfl, c2⟩ := c2
      by_cases hne : lim d j = lim d' j
      · have hbe : (lim d j != lim d' j) = false := by simp [hne]
        have HN := Lib.hid hne
        have HL := Lib.hid hl
        have HL' := Lib.hid hl'
        clear hne hl hl'
        go_wp2_with fail
        go_quiet (fail)
        go_wp2_with fail
        go_roundw
        case rel => exact ⟨j, by omega, rfl, drop_of_eq (by rw [HL.out, HL'.out]) (by rw [HL.out]; omega) HD.out HN.out, below_drewN _ HB⟩
        case measure => (first | (simp [intOf]; omega) | (simp [intOf]; done))
      · have hbe : (lim d j != lim d' j) = true := by simp [hne]
        have hcm := Lib.hid (cmpI_top (by omega) (by omega) hc.1 hc'.1 HD.out hne)
        clear hne hl hl'
        go_wp2_with fail
        go_quiet (fail)
        go_wp2_with fail
        go_quiet ((first | (go_at_call 270; exact quietL (Compare_u32 _ _ _)) | (go_at_call 270; exact quietAL (Compare_u32 _ _ _))))
        go_wp2_with fail
        go_ret
        exact ⟨by rw [hcm.out]; rfl, below_drewN _ (below_drewN _ HB)⟩
set_option maxHeartbeats 400000 in
theorem amounts_c (w : World) (a : Option Addr) (n c : Nat) (d : List Nat) (a' : Option Addr) (n' c' : Nat) (d' : List Nat) (hd : RdL w a n c d) (hd' : RdL w a' n' c' d') (hc : Canon d) (hc' : Canon d') :
    Calls Tryz.prog 225 #[.slice a n c, .slice a' n' c'] w (RetCmp w (val d) (val d')) := by
  have hl := hd.len
  have hl' := hd'.len
  have hn := hd.few
  unfold RetCmp
  rcases Nat.lt_trichotomy n n' with h | rfl | h
  · rw [cmpI_lt (by have := cmp_len hc hc' (by omega); omega)]
    have hcm := cmpI_lt (x := (n : Int)) (y := n') (by omega)
    have HC := Lib.hid hcm
    clear hcm
    go_enter Tryz.func225, Tryz.ntmps225
    go_wp2_with (go_at_call 269; refine (Compare_int _ _ _).mono ?_; rintro e w' ⟨rfl, rfl⟩; rw [HC.out])
    go_ret
    exact ⟨rfl, Below.refl _ _⟩
  · exact amounts_same w a n c d a' c' d' hd hd' hc hc'
  · rw [cmpI_gt (by have := cmp_len hc' hc (by omega); omega)]
    have hcm := cmpI_gt (x := (n : Int)) (y := n') (by omega)
    have HC := Lib.hid hcm
    clear hcm
    go_enter Tryz.func225, Tryz.ntmps225
    go_wp2_with (go_at_call 269; refine (Compare_int _ _ _).mono ?_; rintro e w' ⟨rfl, rfl⟩; rw [HC.out])
    go_ret
    exact ⟨rfl, Below.refl _ _⟩
end Go.Proofs.YtdamegaedmckbaaGreatDoor
end
section
namespace Go.Proofs.YtdamegaedmckbaaGreatDoor
open Go.RowKit

theorem Check1_c (x : Int) (w : World) (r : Bool) (hr : decide (1000000000 ≤ x) = r) : Calls Tryz.prog 209 #[.int .u32 x] w fun e w' => e = .returned (.bool r) ∧ w = w' := by
  cases r
  · have h : x < 1000000000 := by simpa using hr
    clear hr
    go_enter Tryz.func209, Tryz.ntmps209
    go_wp2
    go_ret
    exact ⟨by first | (simp; done) | (simp; omega), rfl⟩
  · have h : 1000000000 ≤ x := by simpa using hr
    clear hr
    go_enter Tryz.func209, Tryz.ntmps209
    go_wp2
    go_ret
    exact ⟨by first | (simp; done) | (simp; omega), rfl⟩
/-- Is one of the parts too great? -/
def Big (n : Nat) (d : List Nat) : Prop := ∃ i, i < n ∧ 1000000000 ≤ lim d i
def RetIdx (w : World) (n : Nat) (d : List Nat) (e : Ending) (w' : World) : Prop := ∃ r : Int, e = .returned (.int .i64 r) ∧ (0 ≤ r ↔ Big n d) ∧ Below w.heap.size w w'
set_option maxHeartbeats 400000 in
theorem IndexFunc_c (w : World) (a : Option Addr) (n c : Nat) (d : List Nat) (hd : RdL w a n c d) :
    Calls Tryz.prog 256 #[.slice a n c, .func (.func 209) #[] #[]] w (RetIdx w n d) := by
  have hn := hd.few
  go_enter Tryz.func256, Tryz.ntmps256
  go_wp2
  go_loopw [5, 8] (fun _ v8 wr => ∃ k : Nat, k ≤ n ∧ v8 = .int .i64 k ∧ (∀ j, j < k → lim d j < 1000000000) ∧ Below w.heap.size w wr) (fun _ v8 _ => n - (intOf v8).toNat)
  case atStart => exact ⟨0, Nat.zero_le _, rfl, fun j hj => absurd hj (Nat.not_lt_zero _), Below.refl _ _⟩
  case round =>
    obtain ⟨k, hk, rfl, hall, HB⟩ := hrel
    have HA := Lib.hid hall
    clear hall
    by_cases hlt : k < n
    · obtain ⟨b, o, rfl, c1⟩ := (hd.keep HB).at' hlt
      by_cases hb : 1000000000 ≤ lim d k
      · go_wp2_with (go_at_call 209; refine (Check1_c _ _ true (by simpa using hb)).mono ?_; rintro e w' ⟨rfl, rfl⟩)
        go_ret
        exact ⟨k, rfl, ⟨fun _ => ⟨k, hlt, hb⟩, fun _ => by omega⟩, HB⟩
      · go_wp2_with (go_at_call 209; refine (Check1_c _ _ false (by simpa using hb)).mono ?_; rintro e w' ⟨rfl, rfl⟩)
        go_roundw
        case rel =>
          refine ⟨k + 1, by omega, by go_num, fun j hj => ?_, HB⟩
          rcases Nat.lt_succ_iff_lt_or_eq.1 hj with h | rfl
          · exact HA.out j h
          · omega
        case measure => (first | (simp [intOf]; omega) | (simp [intOf]; done))
    · have hkn : n ≤ k := by omega
      go_wp2_with fail
      go_ret
      refine ⟨-1, rfl, ⟨fun h => by omega, fun ⟨i, hi, hb⟩ => ?_⟩, HB⟩
      have := HA.out i (by omega)
      omega
theorem ContainsFunc_c (w : World) (a : Option Addr) (n c : Nat) (d : List Nat) (hd : RdL w a n c d) (r : Bool) (hr : Big n d ↔ r = true) :
    Calls Tryz.prog 208 #[.slice a n c, .func (.func 209) #[] #[]] w fun e w' => e = .returned (.bool r) ∧ Below w.heap.size w w' := by
  cases r
  · have hr' := Lib.hid hr
    clear hr
    go_enter Tryz.func208, Tryz.ntmps208
    go_wp2_with fail
    refine (IndexFunc_c _ _ _ _ d hd).mono ?_
    rintro e w1 ⟨r, rfl, hi, hb⟩
    have hneg : r < 0 := by
      have := hr'.out
      rcases Int.lt_or_le r 0 with h | h
      · exact h
      · exact absurd (this.1 (hi.1 h)) (by simp)
    clear hi
    go_wp2_with fail
    go_ret
    exact ⟨by first | (simp; done) | (simp; omega), hb⟩
  · have hr' := Lib.hid hr
    clear hr
    go_enter Tryz.func208, Tryz.ntmps208
    go_wp2_with fail
    refine (IndexFunc_c _ _ _ _ d hd).mono ?_
    rintro e w1 ⟨r, rfl, hi, hb⟩
    have hneg : 0 ≤ r := hi.2 (hr'.out.2 (by simp))
    clear hi
    go_wp2_with fail
    go_ret
    exact ⟨by first | (simp; done) | (simp; omega), hb⟩
/-- May a number be? -/
def Okay (g : Bool) (d : List Nat) : Prop := Canon d ∧ (d = [] → g = false)
theorem big_of_not_canon {n : Nat} {d : List Nat} (hl : d.length = n) : Big n d ↔ ¬ ∀ x ∈ d, x < 1000000000 := by
  constructor
  · rintro ⟨i, hi, hb⟩ h
    have := h d[i] (List.getElem_mem (by omega))
    simp only [lim, List.getD, List.getElem?_eq_getElem (show i < d.length by omega), Option.getD_some] at hb
    omega
  · intro h
    simp only [Classical.not_forall] at h
    obtain ⟨x, hx, hx2⟩ := h
    obtain ⟨i, hi, rfl⟩ := List.getElem_of_mem hx
    refine ⟨i, by omega, ?_⟩
    simp only [lim, List.getD, List.getElem?_eq_getElem hi, Option.getD_some]
    omega
theorem canon_last {d : List Nat} (hlt : ∀ x ∈ d, x < 1000000000) (hp : 0 < d.length) : Canon d ↔ lim d (d.length - 1) ≠ 0 := by
  have hne : d ≠ [] := by intro e; rw [e] at hp; simp at hp
  have e : d.getLast? = some (d.getD (d.length - 1) 0) := by
    rw [List.getLast?_eq_getElem?, List.getD, List.getElem?_eq_getElem (by omega)]; rfl
  unfold Canon
  rw [e, lim_eq]
  constructor
  · rintro ⟨_, h | h⟩ h2
    · exact hne h
    · exact h (by rw [show d.getD (d.length - 1) 0 = 0 by omega])
  · intro h
    exact ⟨hlt, .inr fun h2 => h (by simp only [Option.some.injEq] at h2; omega)⟩
set_option maxHeartbeats 400000 in
theorem Check_c (w : World) (g : Bool) (a : Option Addr) (n c : Nat) (d : List Nat) (hd : RdL w a n c d) (r : Bool) (hr : Okay g d ↔ r = true) :
    Calls Tryz.prog 163 #[.agg #[.bool g, .slice a n c]] w fun e w' => e = .returned (.bool r) ∧ Below w.heap.size w w' := by
  have HB := Below.refl w.heap.size w
  have hl := hd.len
  have hn := hd.few
  by_cases hall : ∀ x ∈ d, x < 1000000000
  · have hbig : Big n d ↔ false = true := by rw [big_of_not_canon hl]; simpa using hall
    rcases Nat.eq_zero_or_pos n with rfl | hp
    · have hdn : d = [] := List.eq_nil_of_length_eq_zero hl
      have hrg : r = !g := by
        have : Okay g d ↔ g = false := by
          unfold Okay Canon
          rw [hdn]
          simp
        rw [this] at hr
        cases r <;> cases g <;> simp_all
      subst hrg
      clear hr hdn hl hall
      have HBig := Lib.hid hbig
      clear hbig
      cases g
      all_goals
        go_enter Tryz.func163, Tryz.ntmps163
        go_wp2_with (go_at_call 208; refine (ContainsFunc_c _ _ _ _ d (hd.keep (by go_grown)) false HBig.out).mono ?_; rintro e w' ⟨rfl, hb⟩; obtain ⟨hc, hf⟩ := bcell hb; have hz := hb.size; replace HB : Below w.heap.size w w' := Below.trans (by go_grown) (hb.mono (by go_size)); have HBz := HB.size)
        go_ret
        exact ⟨rfl, HB⟩
    · have hc := canon_last hall (by omega)
      rw [hl] at hc
      have hr2 : (lim d (n - 1) != 0) = r := by
        have : Okay g d ↔ Canon d := ⟨fun h => h.1, fun h => ⟨h, fun e => by rw [e] at hl; simp at hl; omega⟩⟩
        rw [this, hc] at hr
        cases r <;> simp_all
      have HBig := Lib.hid hbig
      clear hbig hr hl hall hc
      obtain ⟨b, o, rfl, c1⟩ := (hd.at' (i := n - 1) (by omega))
      have c2 := fun (W : World) (h : Below w.heap.size w W) => cell_keep h c1
      have C2 := Lib.hid c2
      clear c2 c1
      have hpn : 0 < n := hp
      have hr3 := Lib.hid hr2
      clear hr2
      go_enter Tryz.func163, Tryz.ntmps163
      go_wp2_with fail
      refine (ContainsFunc_c _ _ _ _ d (hd.keep (by go_grown)) false HBig.out).mono ?_
      rintro e w1 ⟨rfl, hb⟩; obtain ⟨hc, hf⟩ := bcell hb; have hz := hb.size
      replace HB : Below w.heap.size w w1 := Below.trans (by go_grown) (hb.mono (by go_size))
      have c1 := C2.out w1 HB
      have hn1 : ((n : Int) - 1).toNat = n - 1 := by omega
      go_wp2_with fail
      go_ret
      exact ⟨by rw [hr3.out]; rfl, HB⟩
  · have hbig : Big n d ↔ true = true := by rw [big_of_not_canon hl]; simpa using hall
    have hrf : r = false := by
      cases r
      · rfl
      · exact absurd (hr.2 rfl).1.1 hall
    subst hrf
    have HBig := Lib.hid hbig
    clear hbig hr hl hall
    go_enter Tryz.func163, Tryz.ntmps163
    go_wp2_with (go_at_call 208; refine (ContainsFunc_c _ _ _ _ d (hd.keep (by go_grown)) true HBig.out).mono ?_; rintro e w' ⟨rfl, hb⟩; obtain ⟨hc, hf⟩ := bcell hb; have hz := hb.size; replace HB : Below w.heap.size w w' := Below.trans (by go_grown) (hb.mono (by go_size)); have HBz := HB.size)
    go_ret
    exact ⟨rfl, HB⟩
end Go.Proofs.YtdamegaedmckbaaGreatDoor
end
