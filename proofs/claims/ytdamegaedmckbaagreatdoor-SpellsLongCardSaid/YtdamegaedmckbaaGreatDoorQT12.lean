/- Package fracs: unit, Check, of, Sign, Of, Text. No further condition. -/
import Derived.Test.YtdamegaedmckbaaGreatDoorQT11
import Derived.Test.YtdamegaedmckbaaGreatDoorQT0
import Derived.Test.YtdamegaedmckbaaGreatDoorQT1
import Derived.Lib.ItoaMem
import Derived.Lib.LaidTab
import Derived.Shelf.Strings.OnBuilder
import Derived.Shelf.Strings.Builder1
import Derived.Shelf.Strings.Builder2
import Derived.Shelf.Strconv.Itoa3
import Derived.Shelf.Strings.Repeat
import Derived.Shelf.Strings.Builder2Cap
import Derived.Shelf.LaysM
import Derived.Shelf.LaysC
import Derived.Test.YtdamegaedmckbaaGreatDoorProg
import Derived.Lib.ItoaNum
import Derived.Lib.Repeat
import Derived.Test.YtdamegaedmckbaaGreatDoorQTZ
set_option linter.unusedSimpArgs false
set_option linter.unusedVariables false
set_option maxRecDepth 100000
set_option maxHeartbeats 4000000
section
namespace Go.Proofs.YtdamegaedmckbaaGreatDoor
open Go.RowKit
@[go_sem ↓] theorem field64_0 (w : World) (g1 : Bool) (a1 : Option Addr) (n1 c1 : Nat) (g2 : Bool) (a2 : Option Addr) (n2 c2 : Nat) :
  (Instr.field 64 (.agg #[.bool g1, .slice a1 n1 c1, .bool g2, .slice a2 n2 c2]) 0).run Tryz.prog w = .ok (.agg #[.bool g1, .slice a1 n1 c1]) w := by kernel_rfl
theorem cmpI_zero {x y : Int} : cmpI x y = 0 ↔ x = y := by
 unfold cmpI
 split
 ·constructor <;> intro h <;> omega
 ·split
  ·simp [*]
  ·constructor <;> intro h <;> omega
theorem cmpI_pos {x y : Int} : 0 < cmpI x y ↔ y < x := by
 unfold cmpI
 split
 ·constructor <;> intro h <;> omega
 ·split
  ·constructor <;> intro h <;> omega
  ·constructor <;> intro h <;> omega
theorem unit_c (w : World) (g : Bool) (a : Option Addr) (n c : Nat) (z : Int) (h : NumAt w g a n c z) :
  Calls Tryz.prog 164 #[.agg #[.bool g, .slice a n c]] w fun e w' => e = .returned (.bool (decide (z = 1))) ∧ Below w.heap.size w w' := by
 have HB := Below.refl w.heap.size w
 go_enter Tryz.func164, Tryz.ntmps164
 go_wp2_with fail
 go_region_held3 (fun W => W.cell? ⟨w.heap.size, 0, none⟩ = some (.bool g) ∧ W.cell? ⟨w.heap.size, 1, none⟩ = some (.slice a n c)) (first | ((try dsimp only); (repeat' apply And.intro); all_goals (first | (with_reducible assumption) | (go_keep; done) | (simp [*, go_sem]; done)))) (first
  | (go_at_call 27; (with_reducible refine (Of_c _ 1 qB qB).mono ?_); rintro e w2 ⟨g2, a2, n2, c2, rfl, hm, _, hb⟩; obtain ⟨hc, hf⟩ := bcell hb; have hz := hb.size; (try simp only [World.size_alloc, World.size_drew] at hz); replace HB := zB w hb; obtain ⟨s0, s1⟩ := qV hc (w.heap.size) (.bool g) (.slice a n c); clear hc hf)
  | (go_at_call 175; (with_reducible refine (Cmp_c _ _ _ _ _ _ (h.keep qF) _ _ _ _ 1 (hm.keep qF)).mono ?_); rintro e w3 ⟨rfl, hb3⟩; have hz3 := hb3.size; replace HB := zB w hb3; have s0' := cell_keep (hb3) (by first | assumption | (simp [*, go_sem]; done) : World.cell? _ ⟨w.heap.size, 0, none⟩ = some (.bool g)); have s1' := cell_keep hb3 (by first | assumption | (simp [*, go_sem]; done) : World.cell? _ ⟨w.heap.size, 1, none⟩ = some (.slice a n c))))
 all_goals
  go_wp2_with fail
  go_ret
  refine ⟨?_, by go_grown⟩
  by_cases h1 : z = 1
  ·rw [h1, cmpI_eq]; rfl
  ·have h2 : (cmpI z 1 == 0) = false := by rw [beq_eq_false_iff_ne]; exact fun e => h1 (cmpI_zero.1 e)
   have h3 : decide (z = 1) = false := by simp [h1]
   rw [h3]
   first
    | (show Ending.returned (.bool (cmpI z 1 == 0)) = _; rw [h2])
    | (simp [h2]; done)
def FOk (g1 : Bool) (d1 : List Nat) (g2 : Bool) (d2 : List Nat) : Prop := Okay g1 d1 ∧ Okay g2 d2 ∧ g2 = false ∧ d2 ≠ [] ∧ Nat.gcd (val d1) (val d2) = 1
theorem okay_low {g : Bool} {d : List Nat} (h : Okay g d) : 0 < (if g then -(val d : Int) else (val d : Int)) ↔ g = false ∧ d ≠ [] := by
 cases g
 ·simp only [Bool.false_eq_true, if_false, true_and]
  constructor
  ·intro h1 e; rw [e, val] at h1; omega
  ·intro h1; have := val_pos_of_canon h.1 h1; omega
 ·simp only [if_true, Bool.true_eq_false, false_and, iff_false]
  omega
theorem FOk.gcd {g1 : Bool} {d1 : List Nat} {g2 : Bool} {d2 : List Nat} : Int.gcd (if g1 then -(val d1 : Int) else (val d1 : Int)) (if g2 then -(val d2 : Int) else (val d2 : Int)) = Nat.gcd (val d1) (val d2) := by
 cases g1 <;> cases g2 <;> simp [Int.gcd]
theorem fCheck_c (w : World) (g1 : Bool) (a1 : Option Addr) (n1 c1 : Nat) (d1 : List Nat) (h1 : RdL w a1 n1 c1 d1) (g2 : Bool) (a2 : Option Addr) (n2 c2 : Nat) (d2 : List Nat) (h2 : RdL w a2 n2 c2 d2) (hs : n2 < 35184372088829) (hb1 : n1 < 35184372088829) (r : Bool) (hr : FOk g1 d1 g2 d2 ↔ r = true) :
  Calls Tryz.prog 93 #[.agg #[.bool g1, .slice a1 n1 c1, .bool g2, .slice a2 n2 c2]] w fun e w' => e = .returned (.bool r) ∧ Below w.heap.size w w' := by
 have HB := Below.refl w.heap.size w
 by_cases o1 : Okay g1 d1
 ·by_cases o2 : Okay g2 d2
  ·have N1 := numAt_of_okay h1 o1
   have N2 := numAt_of_okay h2 o2
   have hlow := okay_low o2
   have hgcd := @FOk.gcd g1 d1 g2 d2
   generalize (if g1 then -(val d1 : Int) else (val d1 : Int)) = z1 at *
   generalize (if g2 then -(val d2 : Int) else (val d2 : Int)) = z2 at *
   have O1 := Lib.hid o1
   have O2 := Lib.hid o2
   clear o1 o2
   by_cases hp : 0 < z2
   ·have hsg : cmpI z2 0 = 1 := cmpI_gt hp
    have HP := Lib.hid (hlow.1 hp)
    clear hlow
    have HR := Lib.hid hr
    have HG := Lib.hid hgcd
    clear hr hgcd
    go_enter Tryz.func93, Tryz.ntmps93
    go_wp2_with fail
    refine (Check_c _ _ _ _ _ d1 (h1.keep qF) true ⟨fun _ => rfl, fun _ => O1.out⟩).mono ?_
    rintro e w1 ⟨rfl, hb⟩
    obtain ⟨hc, hf⟩ := bcell hb; have hz := hb.size; (try simp only [World.size_alloc, World.size_drew] at hz)
    replace HB := zB w hb
    obtain ⟨s0_0, s0_1⟩ := qV hc (w.heap.size) (.bool g1) (.slice a1 n1 c1); obtain ⟨s0_2, s0_3⟩ := qW hc (w.heap.size) (.bool g2) (.slice a2 n2 c2)
    clear hc hf hb
    go_wp2_with fail
    refine (Check_c _ _ _ _ _ d2 (h2.keep qF) true ⟨fun _ => rfl, fun _ => O2.out⟩).mono ?_
    rintro e w2 ⟨rfl, hb⟩
    obtain ⟨hc, hf⟩ := bcell hb; have hz := hb.size; (try simp only [World.size_alloc, World.size_drew] at hz)
    replace HB := zB w hb
    obtain ⟨s0_0, s0_1⟩ := qV hc (w.heap.size) (.bool g1) (.slice a1 n1 c1); obtain ⟨s0_2, s0_3⟩ := qW hc (w.heap.size) (.bool g2) (.slice a2 n2 c2)
    clear hc hf hb
    go_wp2_with fail
    refine (Sign_c _ _ _ _ _ z2 (N2.keep qF)).mono ?_
    rintro e w3 ⟨rfl, hb⟩
    obtain ⟨hc, hf⟩ := bcell hb; have hz := hb.size; (try simp only [World.size_alloc, World.size_drew] at hz)
    replace HB := zB w hb
    obtain ⟨s0_0, s0_1⟩ := qV hc (w.heap.size) (.bool g1) (.slice a1 n1 c1); obtain ⟨s0_2, s0_3⟩ := qW hc (w.heap.size) (.bool g2) (.slice a2 n2 c2)
    clear hc hf hb
    rw [hsg]
    go_wp2_with fail
    refine (Gcd_c _ _ _ _ _ z1 (N1.keep qF) _ _ _ _ z2 (N2.keep qF) hp hs hb1).mono ?_
    rintro e w4 ⟨g3, a3, n3, c3, rfl, hn3, _, hb⟩
    obtain ⟨hc, hf⟩ := bcell hb; have hz := hb.size; (try simp only [World.size_alloc, World.size_drew] at hz)
    replace HB := zB w hb
    obtain ⟨s0_0, s0_1⟩ := qV hc (w.heap.size) (.bool g1) (.slice a1 n1 c1); obtain ⟨s0_2, s0_3⟩ := qW hc (w.heap.size) (.bool g2) (.slice a2 n2 c2)
    clear hc hf hb
    go_wp2_with fail
    refine (unit_c _ _ _ _ _ _ hn3).mono ?_
    exact qBe
   ·have hsg : decide (0 < cmpI z2 0) = false := by rw [decide_eq_false_iff_not, cmpI_pos]; exact hp
    have hr0 : r = false := by
     cases r
     ·rfl
     ·have := hr.2 rfl
      exact absurd (hlow.2 ⟨this.2.2.1, this.2.2.2.1⟩) hp
    subst hr0
    clear hr hlow hgcd hp
    go_enter Tryz.func93, Tryz.ntmps93
    go_wp2_with fail
    refine (Check_c _ _ _ _ _ d1 (h1.keep qF) true ⟨fun _ => rfl, fun _ => O1.out⟩).mono ?_
    rintro e w1 ⟨rfl, hb⟩
    obtain ⟨hc, hf⟩ := bcell hb; have hz := hb.size; (try simp only [World.size_alloc, World.size_drew] at hz)
    replace HB := zB w hb
    obtain ⟨s0_0, s0_1⟩ := qV hc (w.heap.size) (.bool g1) (.slice a1 n1 c1); obtain ⟨s0_2, s0_3⟩ := qW hc (w.heap.size) (.bool g2) (.slice a2 n2 c2)
    clear hc hf hb
    go_wp2_with fail
    refine (Check_c _ _ _ _ _ d2 (h2.keep qF) true ⟨fun _ => rfl, fun _ => O2.out⟩).mono ?_
    rintro e w2 ⟨rfl, hb⟩
    obtain ⟨hc, hf⟩ := bcell hb; have hz := hb.size; (try simp only [World.size_alloc, World.size_drew] at hz)
    replace HB := zB w hb
    obtain ⟨s0_0, s0_1⟩ := qV hc (w.heap.size) (.bool g1) (.slice a1 n1 c1); obtain ⟨s0_2, s0_3⟩ := qW hc (w.heap.size) (.bool g2) (.slice a2 n2 c2)
    clear hc hf hb
    go_wp2_with fail
    refine (Sign_c _ _ _ _ _ z2 (N2.keep qF)).mono ?_
    rintro e w3 ⟨rfl, hb⟩
    exact qAu
  ·have hr0 : r = false := by
    cases r
    ·rfl
    ·exact absurd (hr.2 rfl).2.1 o2
   subst hr0
   have O1 := Lib.hid o1
   have O2 := Lib.hid o2
   clear hr o1 o2
   go_enter Tryz.func93, Tryz.ntmps93
   go_wp2_with fail
   refine (Check_c _ _ _ _ _ d1 (h1.keep qF) true ⟨fun _ => rfl, fun _ => O1.out⟩).mono ?_
   rintro e w1 ⟨rfl, hb⟩
   obtain ⟨hc, hf⟩ := bcell hb; have hz := hb.size; (try simp only [World.size_alloc, World.size_drew] at hz)
   replace HB := zB w hb
   obtain ⟨s0_0, s0_1⟩ := qV hc (w.heap.size) (.bool g1) (.slice a1 n1 c1); obtain ⟨s0_2, s0_3⟩ := qW hc (w.heap.size) (.bool g2) (.slice a2 n2 c2)
   clear hc hf hb
   go_wp2_with fail
   refine (Check_c _ _ _ _ _ d2 (h2.keep qF) false ⟨fun e => absurd e O2.out, fun e => (by cases e)⟩).mono ?_
   rintro e w2 ⟨rfl, hb⟩
   exact qAu
 ·have hr0 : r = false := by
   cases r
   ·rfl
   ·exact absurd (hr.2 rfl).1 o1
  subst hr0
  have O1 := Lib.hid o1
  clear hr o1
  go_enter Tryz.func93, Tryz.ntmps93
  go_wp2_with fail
  refine (Check_c _ _ _ _ _ d1 (h1.keep qF) false ⟨fun e => absurd e O1.out, fun e => (by cases e)⟩).mono ?_
  rintro e w1 ⟨rfl, hb⟩
  exact qAu
structure FracAt (w : World) (g1 : Bool) (a1 : Option Addr) (n1 c1 : Nat) (p : Int) (g2 : Bool) (a2 : Option Addr) (n2 c2 : Nat) (q : Int) : Prop where
 top : NumAt w g1 a1 n1 c1 p
 low : NumAt w g2 a2 n2 c2 q
 pos : 0 < q
 red : Int.gcd p q = 1
theorem FracAt.keep {w w' : World} {g1 : Bool} {a1 : Option Addr} {n1 c1 : Nat} {p : Int} {g2 : Bool} {a2 : Option Addr} {n2 c2 : Nat} {q : Int} (h : FracAt w g1 a1 n1 c1 p g2 a2 n2 c2 q) (hb : Below w.heap.size w w') : FracAt w' g1 a1 n1 c1 p g2 a2 n2 c2 q :=
 ⟨h.top.keep hb, h.low.keep hb, h.pos, h.red⟩
theorem FracAt.ok {w : World} {g1 : Bool} {a1 : Option Addr} {n1 c1 : Nat} {p : Int} {g2 : Bool} {a2 : Option Addr} {n2 c2 : Nat} {q : Int} (h : FracAt w g1 a1 n1 c1 p g2 a2 n2 c2 q) : FOk g1 (dg p.natAbs) g2 (dg q.natAbs) := by
 refine ⟨h.top.okay, h.low.okay, ?_, ?_, ?_⟩
 ·rw [h.low.neg]; have := h.pos; simp; omega
 ·intro e
  have h1 := val_dg q.natAbs
  have := h.pos
  rw [e, val] at h1
  omega
 ·rw [val_dg, val_dg]
  exact h.red
theorem fof_c (w : World) (g1 : Bool) (a1 : Option Addr) (n1 c1 : Nat) (p : Int) (g2 : Bool) (a2 : Option Addr) (n2 c2 : Nat) (q : Int) (h : FracAt w g1 a1 n1 c1 p g2 a2 n2 c2 q) (hs : n2 < 35184372088829) (hb1 : n1 < 35184372088829) :
  Calls Tryz.prog 108 #[.agg #[.bool g1, .slice a1 n1 c1, .bool g2, .slice a2 n2 c2]] w fun e w' => e = .returned (.agg #[.bool g1, .slice a1 n1 c1, .bool g2, .slice a2 n2 c2]) ∧ Below w.heap.size w w' := by
 have HB := Below.refl w.heap.size w
 have HO := Lib.hid h.ok
 go_enter Tryz.func108, Tryz.ntmps108
 go_wp2_with fail
 refine (fCheck_c _ _ _ _ _ _ (h.top.rd.keep qF) _ _ _ _ _ (h.low.rd.keep qF) hs hb1 true ⟨fun _ => rfl, fun _ => HO.out⟩).mono ?_
 rintro e w1 ⟨rfl, hb⟩
 obtain ⟨hc, hf⟩ := bcell hb; have hz := hb.size; (try simp only [World.size_alloc, World.size_drew] at hz)
 replace HB := zB w hb
 obtain ⟨s0_0, s0_1⟩ := qV hc (w.heap.size) (.bool g1) (.slice a1 n1 c1); obtain ⟨s0_2, s0_3⟩ := qW hc (w.heap.size) (.bool g2) (.slice a2 n2 c2); obtain ⟨s1_0, s1_1⟩ := qX hc (w.heap.size + 1); obtain ⟨s1_2, s1_3⟩ := qW hc (w.heap.size + 1) (.bool false) (.slice none 0 0); obtain ⟨s1_0, s1_1⟩ := qX hc (w.heap.size + 1); obtain ⟨s1_2, s1_3⟩ := qW hc (w.heap.size + 1) (.bool false) (.slice none 0 0); obtain ⟨f1_0, f1_1⟩ := qY hf (w.heap.size + 1); obtain ⟨f1_2, f1_3⟩ := qZ hf (w.heap.size + 1)
 have hk0 : w.heap.size < w1.heap.size := by omega
 have hk1 : w.heap.size + 1 < w1.heap.size := by omega
 clear hc hf hb
 go_wp2_with fail
 refine bodyPost_ret (v := .agg #[.bool g1, .slice a1 n1 c1, .bool g2, .slice a2 n2 c2]) (by simp [results, Tryz.results108, go_sem, s1_0, s1_1, s1_2, s1_3]) rfl ?_
 exact ⟨rfl, by go_grown⟩
theorem fSign_c (w : World) (g1 : Bool) (a1 : Option Addr) (n1 c1 : Nat) (p : Int) (g2 : Bool) (a2 : Option Addr) (n2 c2 : Nat) (q : Int) (h : FracAt w g1 a1 n1 c1 p g2 a2 n2 c2 q) (hs : n2 < 35184372088829) (hb1 : n1 < 35184372088829) :
  Calls Tryz.prog 31 #[.agg #[.bool g1, .slice a1 n1 c1, .bool g2, .slice a2 n2 c2]] w fun e w' => e = .returned (.int .i64 (cmpI p 0)) ∧ Below w.heap.size w w' := by
 have HB := Below.refl w.heap.size w
 go_enter Tryz.func31, Tryz.ntmps31
 go_wp2_with fail
 refine (fof_c _ _ _ _ _ _ _ _ _ _ _ (h.keep qF) hs hb1).mono ?_
 rintro e w1 ⟨rfl, hb⟩
 obtain ⟨hc, hf⟩ := bcell hb; have hz := hb.size; (try simp only [World.size_alloc, World.size_drew] at hz)
 replace HB := zB w hb
 
 clear hc hf hb
 go_wp2_with fail
 refine (Sign_c _ _ _ _ _ _ (h.top.keep qF)).mono ?_
 rintro e w2 ⟨rfl, hb⟩
 obtain ⟨hc, hf⟩ := bcell hb; have hz := hb.size; (try simp only [World.size_alloc, World.size_drew] at hz)
 replace HB := zB w hb
 
 clear hc hf hb
 go_wp2_with fail
 go_ret
 exact ⟨rfl, HB⟩
end Go.Proofs.YtdamegaedmckbaaGreatDoor
end
