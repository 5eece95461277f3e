/- Package fracs and the document's twin: Of; of, at a fraction without numbers; Make. No further condition. Maps whose keys are products: what reads as such a key. No condition. Maps from products to fractions, in memory. No condition. Package polys: likes.add. -/
import Derived.Test.YtdamegaedmckbaaGreatDoorQT26
import Derived.Test.YtdamegaedmckbaaGreatDoorQT0
import Derived.Test.YtdamegaedmckbaaGreatDoorQT23
import Derived.Maps.RangeWalk
import Derived.Maps.Views
import Derived.Maps.OwnSet
import Derived.DeepKeys4
import Derived.Test.YtdamegaedmckbaaGreatDoorQTZ
set_option linter.unusedSimpArgs false
set_option linter.unusedVariables false
set_option maxRecDepth 100000
set_option maxHeartbeats 4000000
section
namespace Go.Proofs.YtdamegaedmckbaaGreatDoor
open Go.RowKit
theorem fOf_c (w : World) (z : Int) (h0 : -9223372036854775808 ≤ z) (h1 : z ≤ 9223372036854775807) : Calls Tryz.prog 30 #[.int .i64 z] w (RetFrac w z 1) := by
 have HB := Below.refl w.heap.size w
 go_enter Tryz.func30, Tryz.ntmps30
 go_wp2_with fail
 refine (Of_c _ z h0 h1).mono ?_
 rintro e w1 ⟨g1, a1, n1, c1, rfl, hn1, hf1, hb⟩
 obtain ⟨hc, hf⟩ := bcell hb; have hz := hb.size; (try simp only [World.size_alloc, World.size_drew] at hz)
 replace HB := zB w hb
 obtain ⟨s0_0, s0_1⟩ := qX hc (w.heap.size); obtain ⟨s0_2, s0_3⟩ := qW hc (w.heap.size) (.bool false) (.slice none 0 0); obtain ⟨f0_0, f0_1⟩ := qY hf (w.heap.size); obtain ⟨f0_2, f0_3⟩ := qZ hf (w.heap.size)
 have hk1 : w.heap.size < w1.heap.size := by omega
 have f1 : Fresh (w.heap.size + 1) w1 a1 c1 := hf1.mono qA
 clear hc hf hb hz hf1
 go_wp2_with fail
 refine (Of_c _ 1 qB qB).mono ?_
 rintro e w2 ⟨g2, a2, n2, c2, rfl, hn2, hf2, hb⟩
 obtain ⟨hc, hf⟩ := bcell hb; have hz := hb.size; (try simp only [World.size_alloc, World.size_drew] at hz)
 replace HB := zB w hb
 obtain ⟨s0_0, s0_1⟩ := qX hc (w.heap.size); obtain ⟨s0_2, s0_3⟩ := qW hc (w.heap.size) (.bool false) (.slice none 0 0); obtain ⟨f0_0, f0_1⟩ := qY hf (w.heap.size); obtain ⟨f0_2, f0_3⟩ := qZ hf (w.heap.size)
 have f1' := f1.keep hb
 have hn1' := hn1.keep hb
 have f2 : Fresh (w.heap.size + 1) w2 a2 c2 := hf2.mono qB
 have hk2 : w.heap.size < w2.heap.size := by omega
 have u : w.heap.size < w.heap.size + 1 := Nat.lt_succ_self _
 clear hc hf hb hz hf2
 go_wp2_with fail
 refine bodyPost_ret (v := .agg #[.bool g1, .slice a1 n1 c1, .bool g2, .slice a2 n2 c2]) (by simp [results, Tryz.results30, go_sem, s0_0, s0_1, s0_2, s0_3]) rfl ?_
 exact qCd
theorem rfOf_c (w : World) (z : Int) (h0 : -9223372036854775808 ≤ z) (h1 : z ≤ 9223372036854775807) : Calls Tryz.prog 131 #[.int .i64 z] w (RetFrac w z 1) := by
 have HB := Below.refl w.heap.size w
 go_enter Tryz.func131, Tryz.ntmps131
 go_wp2_with fail
 refine (rOf_c _ z h0 h1).mono ?_
 rintro e w1 ⟨g1, a1, n1, c1, rfl, hn1, hf1, hb⟩
 obtain ⟨hc, hf⟩ := bcell hb; have hz := hb.size; (try simp only [World.size_alloc, World.size_drew] at hz)
 replace HB := zB w hb
 obtain ⟨s0_0, s0_1⟩ := qX hc (w.heap.size); obtain ⟨s0_2, s0_3⟩ := qW hc (w.heap.size) (.bool false) (.slice none 0 0); obtain ⟨f0_0, f0_1⟩ := qY hf (w.heap.size); obtain ⟨f0_2, f0_3⟩ := qZ hf (w.heap.size)
 have hk1 : w.heap.size < w1.heap.size := by omega
 have f1 : Fresh (w.heap.size + 1) w1 a1 c1 := hf1.mono qA
 clear hc hf hb hz hf1
 go_wp2_with fail
 refine (rOf_c _ 1 qB qB).mono ?_
 rintro e w2 ⟨g2, a2, n2, c2, rfl, hn2, hf2, hb⟩
 obtain ⟨hc, hf⟩ := bcell hb; have hz := hb.size; (try simp only [World.size_alloc, World.size_drew] at hz)
 replace HB := zB w hb
 obtain ⟨s0_0, s0_1⟩ := qX hc (w.heap.size); obtain ⟨s0_2, s0_3⟩ := qW hc (w.heap.size) (.bool false) (.slice none 0 0); obtain ⟨f0_0, f0_1⟩ := qY hf (w.heap.size); obtain ⟨f0_2, f0_3⟩ := qZ hf (w.heap.size)
 have f1' := f1.keep hb
 have hn1' := hn1.keep hb
 have f2 : Fresh (w.heap.size + 1) w2 a2 c2 := hf2.mono qB
 have hk2 : w.heap.size < w2.heap.size := by omega
 have u : w.heap.size < w.heap.size + 1 := Nat.lt_succ_self _
 clear hc hf hb hz hf2
 go_wp2_with fail
 refine bodyPost_ret (v := .agg #[.bool g1, .slice a1 n1 c1, .bool g2, .slice a2 n2 c2]) (by simp [results, Tryz.results131, go_sem, s0_0, s0_1, s0_2, s0_3]) rfl ?_
 exact qCd
theorem few_one {w : World} {g : Bool} {a : Option Addr} {n c : Nat} {z : Int} (h : NumAt w g a n c z) (hz : z.natAbs < 1000000000) : n ≤ 1 := by
 have h1 := h.rd.len
 rcases Nat.eq_zero_or_pos z.natAbs with h2 | h2
 ·rw [h2, dg_zero] at h1; simp at h1; omega
 ·rw [dg_pos h2, show z.natAbs / 1000000000 = 0 by omega, dg_zero] at h1; simp at h1; omega
theorem rdl_nil (w : World) : RdL w none 0 0 [] := ⟨rfl, Nat.le_refl _, by omega, by omega, fun i => by simp [lim], .inl rfl⟩
theorem fof_no (w0 w : World) (g1 : Bool) (a1 : Option Addr) (n1 c1 : Nat) (d1 : List Nat) (h1 : RdL w a1 n1 c1 d1) (g2 : Bool) (a2 : Option Addr) (n2 c2 : Nat) (d2 : List Nat) (h2 : RdL w a2 n2 c2 d2) (hs : n2 < 35184372088829) (hb1 : n1 < 35184372088829) (hr : ¬ FOk g1 d1 g2 d2) :
  Calls Tryz.prog 108 #[.agg #[.bool g1, .slice a1 n1 c1, .bool g2, .slice a2 n2 c2]] w (RetOf w0 w 0 1 1) := by
 have HB := Below.refl w.heap.size w
 have HR := Lib.hid hr
 clear hr
 go_enter Tryz.func108, Tryz.ntmps108
 go_wp2_with fail
 refine (fCheck_c _ _ _ _ _ _ (h1.keep qF) _ _ _ _ _ (h2.keep qF) hs hb1 false ⟨fun h => absurd h HR.out, fun e => (by cases e)⟩).mono ?_
 rintro e w1 ⟨rfl, hb⟩
 obtain ⟨hc, hf⟩ := bcell hb; have hz := hb.size; (try simp only [World.size_alloc, World.size_drew] at hz)
 replace HB := zB w hb
 obtain ⟨s0_0, s0_1⟩ := qV hc (w.heap.size) (.bool g1) (.slice a1 n1 c1); obtain ⟨s0_2, s0_3⟩ := qW hc (w.heap.size) (.bool g2) (.slice a2 n2 c2); obtain ⟨s1_0, s1_1⟩ := qX hc (w.heap.size + 1); obtain ⟨s1_2, s1_3⟩ := qW hc (w.heap.size + 1) (.bool false) (.slice none 0 0); obtain ⟨f1_0, f1_1⟩ := qY hf (w.heap.size + 1); obtain ⟨f1_2, f1_3⟩ := qZ hf (w.heap.size + 1)
 have hk1 : w.heap.size + 1 < w1.heap.size := by omega
 clear hc hf hb hz
 go_wp2_with fail
 refine (fOf_c _ 0 qB qB).mono ?_
 rintro e w2 ⟨g3, a3, n3, c3, g4, a4, n4, c4, rfl, hF, hf3, hf4, hb⟩
 obtain ⟨hc, hf⟩ := bcell hb; have hz := hb.size; (try simp only [World.size_alloc, World.size_drew] at hz)
 replace HB := zB w hb
 obtain ⟨s1_0, s1_1⟩ := qX hc (w.heap.size + 1); obtain ⟨s1_2, s1_3⟩ := qW hc (w.heap.size + 1) (.bool false) (.slice none 0 0); obtain ⟨f1_0, f1_1⟩ := qY hf (w.heap.size + 1); obtain ⟨f1_2, f1_3⟩ := qZ hf (w.heap.size + 1)
 have f3 : Fresh (w.heap.size + 1 + 1) w2 a3 c3 := hf3.mono qB
 have f4 : Fresh (w.heap.size + 1 + 1) w2 a4 c4 := hf4.mono qB
 have hk2 : w.heap.size + 1 < w2.heap.size := by omega
 have u : w.heap.size + 1 < w.heap.size + 1 + 1 := Nat.lt_succ_self _
 clear hc hf hb hz hf3 hf4
 go_wp2_with fail
 refine bodyPost_ret (v := .agg #[.bool g3, .slice a3 n3 c3, .bool g4, .slice a4 n4 c4]) (by simp [results, Tryz.results108, go_sem, s1_0, s1_1, s1_2, s1_3]) rfl ?_
 refine ⟨g3, a3, n3, c3, g4, a4, n4, c4, rfl, ⟨?_, ?_, hF.pos, hF.red⟩, few_one hF.top qH, few_one hF.low qH, .inr ⟨?_, ?_⟩, by go_grown⟩
 ·exact hF.top.set4 f3 _ _ _ _ _ _ _ _ u u u u
 ·exact hF.low.set4 f4 _ _ _ _ _ _ _ _ u u u u
 ·exact (f3.set4 _ _ _ _ _ _ _ _ u u u u).mono qB
 ·exact (f4.set4 _ _ _ _ _ _ _ _ u u u u).mono qB
end Go.Proofs.YtdamegaedmckbaaGreatDoor
end
section
namespace Go.Proofs.YtdamegaedmckbaaGreatDoor
open Go.RowKit
theorem laid66 : laidOutB Tryz.prog = true := by kernel_rfl
theorem row66 : (66 : TypeId) < Tryz.prog.types.size := of_decide_eq_true qG
theorem keyed66 : Maps.Keyed Tryz.prog 66 := Maps.Keyed.of_law (deep_law_laid laid66 (m := 2) qB row66 qG (by rw [u66]))
theorem keyType66 : Tryz.prog.keyType 66 = true := by kernel_rfl
theorem cells66 : Tryz.prog.cellsOf 66 = 4 := by kernel_rfl
abbrev mono4 (a b c d : Nat) : Value := .agg #[.int .u16 a, .int .u16 b, .int .u16 c, .int .u16 d]
theorem formed66 {x0 x1 x2 x3 : Value} : (Value.agg #[x0, x1, x2, x3]).formed Tryz.prog 66 = true := by simp [Value.formed, u66, cells66]
theorem keyLits55 (d : Nat) (v : Value) : Tryz.prog.keyLits (d + 1) 55 [v] = (match v with | .int q' n => if q' = .u16 ∧ (Lit.int .u16 n).wf = true then some [.int .u16 n] else none | _ => none) := by
 unfold Program.keyLits
 rw [u55]
 cases v <;> rfl
theorem keyLits66 (d : Nat) (x0 x1 x2 x3 : Value) : Tryz.prog.keyLits (d + 2) 66 [x0, x1, x2, x3] = (((Tryz.prog.keyLits (d + 1) 55 [x0]).bind fun l0 => (Tryz.prog.keyLits (d + 1) 55 [x1]).bind fun l1 => (Tryz.prog.keyLits (d + 1) 55 [x2]).bind fun l2 => (Tryz.prog.keyLits (d + 1) 55 [x3]).bind fun l3 => some [l0, l1, l2, l3]).map List.flatten) := by
 have hr : List.range 4 = [0, 1, 2, 3] := by decide
 conv => lhs; unfold Program.keyLits
 rw [u66]
 simp only [List.length_cons, List.length_nil, cells66, c55, hr, if_true, List.mapM_cons, List.mapM_nil, List.drop, List.take, Nat.zero_mul, Nat.one_mul, Nat.reduceMul]
 cases Tryz.prog.keyLits (d + 1) 55 [x0] <;> cases Tryz.prog.keyLits (d + 1) 55 [x1] <;> cases Tryz.prog.keyLits (d + 1) 55 [x2] <;> cases Tryz.prog.keyLits (d + 1) 55 [x3] <;> rfl
theorem size_types : ∃ d, Tryz.prog.types.size + 1 = d + 2 := ⟨Tryz.prog.types.size - 1, by have h : 66 < (Tryz.prog.types.size : Nat) := row66; omega⟩
theorem wf16 {n : Nat} (h : n < 65536) : (Lit.int .u16 (n : Int)).wf = true := by simp [Lit.wf, IntKind.min, IntKind.max, IntKind.bits, IntKind.signed]; omega
theorem key_of {a b c d : Nat} (ha : a < 65536) (hb : b < 65536) (hc : c < 65536) (hd : d < 65536) : ∃ kl, keyOf Tryz.prog 66 (mono4 a b c d) = some kl := by
 obtain ⟨e, he⟩ := size_types
 unfold keyOf
 rw [u66]
 simp only [keyType66, formed66, Bool.and_self, if_true, he]
 have : (mono4 a b c d).cells.toList = [.int .u16 a, .int .u16 b, .int .u16 c, .int .u16 d] := by simp [Value.cells]
 rw [this, keyLits66]
 simp [keyLits55, wf16 ha, wf16 hb, wf16 hc, wf16 hd]
theorem four_of {cs : Array Value} (h : cs.size = 4) : ∃ x0 x1 x2 x3, Value.agg cs = .agg #[x0, x1, x2, x3] := by
 obtain ⟨l⟩ := cs
 simp at h
 match l, h with
 | [x0, x1, x2, x3], _ => exact ⟨x0, x1, x2, x3, rfl⟩
theorem four_cells (x0 x1 x2 x3 : Value) : (Value.agg #[x0, x1, x2, x3]).cells.toList = [x0, x1, x2, x3] := by simp [Value.cells]
theorem keyOf66 : ∃ e, ∀ v, keyOf Tryz.prog 66 v = if v.formed Tryz.prog 66 then (Tryz.prog.keyLits (e + 2) 66 v.cells.toList).map fun ls => .string (keyBytes ls) else none := by
 obtain ⟨e, he⟩ := size_types
 refine ⟨e, fun v => ?_⟩
 unfold keyOf
 rw [u66]
 simp only [keyType66, Bool.true_and, he]
theorem key_inv {v : Value} {kl : Lit} (h : keyOf Tryz.prog 66 v = some kl) : ∃ a b c d : Nat, a < 65536 ∧ b < 65536 ∧ c < 65536 ∧ d < 65536 ∧ v = mono4 a b c d := by
 obtain ⟨e, he⟩ := keyOf66
 rw [he] at h
 split at h
 ·next hf =>
  have hx : ∃ x0 x1 x2 x3, v = .agg #[x0, x1, x2, x3] := by
   cases v <;> simp [Value.formed, u66, cells66] at hf
   next cs =>
    exact four_of hf
  obtain ⟨x0, x1, x2, x3, rfl⟩ := hx
  have hone : ∀ (x : Value) l, Tryz.prog.keyLits (e + 1) 55 [x] = some l → ∃ a : Nat, a < 65536 ∧ x = .int .u16 a := by
   intro x l hl
   rw [keyLits55] at hl
   cases x <;> simp at hl
   next q n =>
    obtain ⟨⟨rfl, hw⟩, _⟩ := hl
    have hw' : 0 ≤ n ∧ n < 65536 := by simp [Lit.wf, IntKind.min, IntKind.max, IntKind.bits, IntKind.signed] at hw; omega
    refine ⟨n.toNat, by omega, ?_⟩
    rw [Int.toNat_of_nonneg hw'.1]
  rw [four_cells] at h
  rw [keyLits66] at h
  cases h0 : Tryz.prog.keyLits (e + 1) 55 [x0] with
  | none => simp [h0] at h
  | some l0 =>
  cases h1 : Tryz.prog.keyLits (e + 1) 55 [x1] with
  | none => simp [h0, h1] at h
  | some l1 =>
  cases h2 : Tryz.prog.keyLits (e + 1) 55 [x2] with
  | none => simp [h0, h1, h2] at h
  | some l2 =>
  cases h3 : Tryz.prog.keyLits (e + 1) 55 [x3] with
  | none => simp [h0, h1, h2, h3] at h
  | some l3 =>
  obtain ⟨a, ha, rfl⟩ := hone _ _ h0
  obtain ⟨b, hb, rfl⟩ := hone _ _ h1
  obtain ⟨c, hc, rfl⟩ := hone _ _ h2
  obtain ⟨d, hd, rfl⟩ := hone _ _ h3
  exact ⟨a, b, c, d, ha, hb, hc, hd, rfl⟩
 ·cases h
end Go.Proofs.YtdamegaedmckbaaGreatDoor
end
section
namespace Go.Proofs.YtdamegaedmckbaaGreatDoor
open Go.RowKit
abbrev RH : Value → Option (DataW Value × List MemPlace) := fun v => some (.held v, [])
abbrev frV (g1 : Bool) (a1 : Option Addr) (n1 c1 : Nat) (g2 : Bool) (a2 : Option Addr) (n2 c2 : Nat) : Value := .agg #[.bool g1, .slice a1 n1 c1, .bool g2, .slice a2 n2 c2]
def FrIs (w : World) (B : Nat) (v : Value) (c : PC) : Prop :=
 ∃ g1 a1 n1 c1 g2 a2 n2 c2, v = frV g1 a1 n1 c1 g2 a2 n2 c2 ∧ FracAt w g1 a1 n1 c1 c.1 g2 a2 n2 c2 c.2 ∧ Nw B n1 a1 ∧ Nw B n2 a2
theorem FrIs.grown {w w' : World} {B : Nat} {v : Value} {c : PC} {row : Option Nat} (h : FrIs w B v c) (hg : w.grownBy w' row) (hr : ∀ k, row = some k → k < B) : FrIs w' B v c := by
 obtain ⟨g1, a1, n1, c1, g2, a2, n2, c2, rfl, hf, h1, h2⟩ := h
 exact ⟨g1, a1, n1, c1, g2, a2, n2, c2, rfl, hf.butR h1 h2 hg hr, h1, h2⟩
def Holds4 (w : World) (B : Nat) (D : DataW Value) (f : Nat → Option PC) : Prop :=
 ∀ a b c d kl, a < 65536 → b < 65536 → c < 65536 → d < 65536 → keyOf Tryz.prog 66 (mono4 a b c d) = some kl →
  (f (key4 a b c d) = none → Maps.has D kl = false) ∧
  (∀ x, f (key4 a b c d) = some x → Maps.has D kl = true ∧ ∃ v, (∀ zd, D.atKey kl zd = .held v) ∧ FrIs w B v x)
theorem Holds4.grown {w w' : World} {B : Nat} {D : DataW Value} {f : Nat → Option PC} {row : Option Nat} (h : Holds4 w B D f) (hg : w.grownBy w' row) (hr : ∀ k, row = some k → k < B) : Holds4 w' B D f := by
 intro a b c d kl ha hb hc hd hk
 obtain ⟨h1, h2⟩ := h a b c d kl ha hb hc hd hk
 refine ⟨h1, fun x hx => ?_⟩
 obtain ⟨h3, v, hv, hf⟩ := h2 x hx
 exact ⟨h3, v, hv, hf.grown hg hr⟩
theorem key_ne {a b c d a' b' c' d' : Nat} {kl kl' : Lit} (ha : a < 65536) (hb : b < 65536) (hc : c < 65536) (hd : d < 65536) (ha' : a' < 65536) (hb' : b' < 65536) (hc' : c' < 65536) (hd' : d' < 65536)
  (h : keyOf Tryz.prog 66 (mono4 a b c d) = some kl) (h' : keyOf Tryz.prog 66 (mono4 a' b' c' d') = some kl') : kl = kl' ↔ key4 a b c d = key4 a' b' c' d' := by
 constructor
 ·rintro rfl
  have := keyed66.inj h h'
  simp only [Value.agg.injEq, Array.mk.injEq, List.cons.injEq, Value.int.injEq, true_and, and_true, Int.natCast_inj] at this
  obtain ⟨rfl, rfl, rfl, rfl⟩ := this
  rfl
 ·intro e
  obtain ⟨rfl, rfl, rfl, rfl⟩ := key4_inj ha hb hc hd ha' hb' hc' hd' e
  rw [h] at h'
  cases h'
  rfl
theorem Holds4.put {w : World} {B : Nat} {D : DataW Value} {f : Nat → Option PC} (h : Holds4 w B D f) (hD : Maps.IsMap D) {a b c d : Nat} {kl : Lit} (ha : a < 65536) (hb : b < 65536) (hc : c < 65536) (hd : d < 65536)
  (hk : keyOf Tryz.prog 66 (mono4 a b c d) = some kl) {v : Value} {x : PC} (hv : FrIs w B v x) {f' : Nat → Option PC} (hf' : ∀ k, f' k = if k = key4 a b c d then some x else f k) : Holds4 w B (D.put kl (.held v)) f' := by
 intro a' b' c' d' kl' ha' hb' hc' hd' hk'
 have hi := key_ne ha' hb' hc' hd' ha hb hc hd hk' hk
 have hkl := keyed66.key hk
 by_cases e : key4 a' b' c' d' = key4 a b c d
 ·have ek := hi.2 e
  subst ek
  rw [hf', if_pos e]
  refine ⟨fun h => by simp at h, fun y hy => ?_⟩
  simp only [Option.some.injEq] at hy
  subst hy
  exact ⟨Maps.has_put_same hD hkl _, v, fun zd => Maps.atKey_put_same hD hkl _ _, hv⟩
 ·have hne : kl' ≠ kl := fun ek => e (hi.1 ek)
  rw [hf', if_neg e]
  obtain ⟨h1, h2⟩ := h a' b' c' d' kl' ha' hb' hc' hd' hk'
  rw [Maps.has_put_other hne]
  refine ⟨h1, fun y hy => ?_⟩
  obtain ⟨h3, u, hu, hf⟩ := h2 y hy
  exact ⟨h3, u, fun zd => by rw [Maps.atKey_put_other hne]; exact hu zd, hf⟩
theorem Holds4.empty (w : World) (B : Nat) : Holds4 w B (.map []) (fun _ => none) := fun a b c d kl _ _ _ _ _ => ⟨fun _ => rfl, fun x hx => by cases hx⟩
structure MapAt (w : World) (b n B : Nat) (f : Nat → Option PC) : Prop where
 ex : ∃ D, w.ownsMap Tryz.prog 66 RH b n D ∧ Holds4 w B D f
theorem MapAt.grown {w w' : World} {b n B : Nat} {f : Nat → Option PC} {row : Option Nat} (h : MapAt w b n B f) (hg : w.grownBy w' row) (hr : ∀ k, row = some k → k < B) (hb : some b ≠ row) : MapAt w' b n B f := by
 obtain ⟨D, h1, h2⟩ := h.ex
 exact ⟨D, h1.kept hg hb, h2.grown hg hr⟩
theorem grownBy_of_below {w w' : World} (h : Below w.heap.size w w') : w.grownBy w' none := ⟨h.os, h.tape, h.output, h.size, fun k hk _ => h.block k hk⟩
theorem MapAt.keep {w w' : World} {b n B : Nat} {f : Nat → Option PC} (h : MapAt w b n B f) (hb : Below w.heap.size w w') : MapAt w' b n B f := h.grown (grownBy_of_below hb) qH qH
theorem FrIs.keep {w w' : World} {B : Nat} {v : Value} {c : PC} (h : FrIs w B v c) (hb : Below w.heap.size w w') : FrIs w' B v c := h.grown (grownBy_of_below hb) qH
end Go.Proofs.YtdamegaedmckbaaGreatDoor
end
section
namespace Go.Proofs.YtdamegaedmckbaaGreatDoor
open Go.RowKit
theorem look_none {D : DataW Value} {kl : Lit} {v zv : Value} {ps : List MemPlace} (h : RH v = some (D.atKey kl (.held zv), ps)) (hh : Maps.has D kl = false) : v = zv := by
 rw [Maps.atKey_of_not_has hh] at h
 simp only [RH, Option.some.injEq, Prod.mk.injEq, DataW.held.injEq] at h
 exact h.1
theorem look_some {D : DataW Value} {kl : Lit} {v zv u : Value} {ps : List MemPlace} (h : RH v = some (D.atKey kl (.held zv), ps)) (hu : ∀ zd, D.atKey kl zd = .held u) : v = u := by
 rw [hu] at h
 simp only [RH, Option.some.injEq, Prod.mk.injEq, DataW.held.injEq] at h
 exact h.1
theorem ownsMap_keep {w w' : World} {b n : Nat} {D : DataW Value} (h : w.ownsMap Tryz.prog 66 RH b n D) (hb : Below w.heap.size w w') : w'.ownsMap Tryz.prog 66 RH b n D :=
 h.kept (row := none) (grownBy_of_below hb) qH
theorem grown_thenB {w w1 w' : World} {b : Nat} (hb : Below w.heap.size w w1) (hg : w1.grownBy w' (some b)) : w.grownBy w' (some b) :=
 ⟨hg.os.trans hb.os, hg.tape.trans hb.tape, hg.output.trans hb.output, Nat.le_trans hb.size hg.size, fun k hk hne => (hg.block k (Nat.lt_of_lt_of_le hk hb.size) hne).trans (hb.block k hk)⟩
theorem insF_none {f : Nat → Option PC} {k : Nat} {x : PC} (h : f k = none) (j : Nat) : insF f (k, x) j = if j = k then some x else f j := by
 unfold insF; simp only [h]
theorem insF_some {f : Nat → Option PC} {k : Nat} {x y : PC} (h : f k = some y) (j : Nat) : insF f (k, x) j = if j = k then some (addC y x) else f j := by
 unfold insF; simp only [h]
theorem add_new (w : World) (b n B : Nat) (f : Nat → Option PC) (h : MapAt w b n B f) (hbB : b < B) (hBw : B ≤ w.heap.size) (hn : n < 1000000000)
  (g1 : Bool) (a1 : Option Addr) (n1 c1 : Nat) (g2 : Bool) (a2 : Option Addr) (n2 c2 : Nat) (x : PC) (hx : FracAt w g1 a1 n1 c1 x.1 g2 a2 n2 c2 x.2) (k1 : Nw B n1 a1) (k2 : Nw B n2 a2)
  (m0 m1 m2 m3 : Nat) (h0 : m0 < 65536) (h1 : m1 < 65536) (h2 : m2 < 65536) (h3 : m3 < 65536) (hf : f (key4 m0 m1 m2 m3) = none) :
  Calls Tryz.prog 110 #[.map (some b), frV g1 a1 n1 c1 g2 a2 n2 c2, mono4 m0 m1 m2 m3] w fun e w' => e = .returned (.tuple #[]) ∧ MapAt w' b (n + 1) B (insF f (key4 m0 m1 m2 m3, x)) ∧ w.grownBy w' (some b) := by
 obtain ⟨kl, hkl⟩ := key_of h0 h1 h2 h3
 obtain ⟨D, hown, hH⟩ := h.ex
 have hhas := (hH _ _ _ _ _ h0 h1 h2 h3 hkl).1 hf
 go_enter Tryz.func110, Tryz.ntmps110
 go_wp2_with (first | (at_lookup; refine wpList_lookup_own_ok _ rfl _ _ 123 rfl 66 64 keyed66 Tryz.underlying123 RH (Tryz.zeroValue64 _) (.held (frV false none 0 0 false none 0 0)) [] rfl b n D rfl (ownsMap_keep hown qF) _ kl rfl hkl ?_; intro v ps hv; obtain rfl := look_none hv hhas; rw [hhas]) | (at_mapUpdate; refine wpList_mapUpdate_own _ rfl _ _ _ 123 rfl 66 64 keyed66 Tryz.underlying123 RH b n D rfl (ownsMap_keep hown qF) qO _ _ kl rfl rfl hkl (.held (frV g1 a1 n1 c1 g2 a2 n2 c2)) [] rfl ?_; intro w1 hown1 hgrow1))
 have hg : w.grownBy w1 (some b) := grown_thenB qF hgrow1
 have hr : ∀ k, some b = some k → k < B := fun k hk => by cases hk; exact hbB
 exact bodyPost_end (v := .tuple #[]) (by simp [results, Tryz.results110, go_sem]) rfl ⟨rfl, ⟨_, hown1, (hH.grown hg hr).put (hown.isMap) h0 h1 h2 h3 hkl ⟨_, _, _, _, _, _, _, _, rfl, hx.butR k1 k2 hg hr, k1, k2⟩ (insF_none hf)⟩, hg⟩
theorem add_old (w : World) (b n B : Nat) (f : Nat → Option PC) (h : MapAt w b n B f) (hbB : b < B) (hBw : B ≤ w.heap.size) (hn : n < 1000000000)
  (g1 : Bool) (a1 : Option Addr) (n1 c1 : Nat) (g2 : Bool) (a2 : Option Addr) (n2 c2 : Nat) (x : PC) (hx : FracAt w g1 a1 n1 c1 x.1 g2 a2 n2 c2 x.2) (k1 : Nw B n1 a1) (k2 : Nw B n2 a2)
  (m0 m1 m2 m3 : Nat) (h0 : m0 < 65536) (h1 : m1 < 65536) (h2 : m2 < 65536) (h3 : m3 < 65536) (y : PC) (hfy : f (key4 m0 m1 m2 m3) = some y) (hxK : FewC 1000000000 x) (hyK : FewC 1000000000 y) :
  Calls Tryz.prog 110 #[.map (some b), frV g1 a1 n1 c1 g2 a2 n2 c2, mono4 m0 m1 m2 m3] w fun e w' => e = .returned (.tuple #[]) ∧ MapAt w' b (n + 1) B (insF f (key4 m0 m1 m2 m3, x)) ∧ w.grownBy w' (some b) := by
 obtain ⟨kl, hkl⟩ := key_of h0 h1 h2 h3
 obtain ⟨D, hown, hH⟩ := h.ex
 obtain ⟨hhas, u, hu, g3, a3, n3, c3, g4, a4, n4, c4, rfl, hy, k3, k4⟩ := (hH _ _ _ _ _ h0 h1 h2 h3 hkl).2 y hfy
 have HB := Below.refl w.heap.size w
 have e1 := hx.top.rd.len; have e2 := hx.low.rd.len; have e3 := hy.top.rd.len; have e4 := hy.low.rd.len
 obtain ⟨i1, i2⟩ := hxK
 obtain ⟨i3, i4⟩ := hyK
 have q1 : n1 ≤ 1000000000 := by omega
 have q2 : n2 ≤ 1000000000 := by omega
 have q3 : n3 ≤ 1000000000 := by omega
 have q4 : n4 ≤ 1000000000 := by omega
 clear e1 e2 e3 e4 i1 i2 i3 i4
 go_enter Tryz.func110, Tryz.ntmps110
 go_wp2_with (first | (at_lookup; refine wpList_lookup_own_ok _ rfl _ _ 123 rfl 66 64 keyed66 Tryz.underlying123 RH (Tryz.zeroValue64 _) (.held (frV false none 0 0 false none 0 0)) [] rfl b n D rfl (ownsMap_keep hown qF) _ kl rfl hkl ?_; intro v ps hv; obtain rfl := look_some hv hu; rw [hhas]))
 refine (fAdd_c _ _ _ _ _ _ _ _ _ _ _ (hy.keep qF) _ _ _ _ _ _ _ _ _ _ (hx.keep qF) q3 q4 q1 q2).mono ?_
 rintro e w1 ⟨ge, ae, ne, ce, gf, af, nf, cf, rfl, hr, hfe, hff, hb⟩
 obtain ⟨hc, hf⟩ := bcell hb; have hz := hb.size; (try simp only [World.size_alloc, World.size_drew] at hz)
 replace HB := zB w hb
 obtain ⟨s0_0, s0_1⟩ := qV hc (w.heap.size) (.bool g1) (.slice a1 n1 c1); obtain ⟨s0_2, s0_3⟩ := qW hc (w.heap.size) (.bool g2) (.slice a2 n2 c2); obtain ⟨s1_0, s1_1⟩ := qV hc (w.heap.size + 1) (.int .u16 m0) (.int .u16 m1); obtain ⟨s1_2, s1_3⟩ := qW hc (w.heap.size + 1) (.int .u16 m2) (.int .u16 m3); obtain ⟨s2_0, s2_1⟩ := qV hc (w.heap.size + 1 + 1) (.bool g3) (.slice a3 n3 c3); obtain ⟨s2_2, s2_3⟩ := qW hc (w.heap.size + 1 + 1) (.bool g4) (.slice a4 n4 c4); obtain ⟨f0_0, f0_1⟩ := qY hf (w.heap.size); obtain ⟨f0_2, f0_3⟩ := qZ hf (w.heap.size)
 have ke : Nw B ne ae := Nw.mono (hfe.newA hr.top.rd) (Nat.le_trans hBw qA)
 have kf : Nw B nf af := Nw.mono (hff.newA hr.low.rd) (Nat.le_trans hBw qA)
 have hk1 : w.heap.size + 1 + 1 < w1.heap.size := by omega
 have fe : Fresh (w.heap.size + 1 + 1 + 1) w1 ae ce := hfe.mono qA
 have ff : Fresh (w.heap.size + 1 + 1 + 1) w1 af cf := hff.mono qA
 clear hc hf hb hz hfe hff
 go_wp2_with (first | (at_mapUpdate; refine wpList_mapUpdate_own _ rfl _ _ _ 123 rfl 66 64 keyed66 Tryz.underlying123 RH b n D rfl (ownsMap_keep hown qF) qO _ _ kl rfl rfl hkl (.held (frV ge ae ne ce gf af nf cf)) [] rfl ?_; intro w2 hown2 hgrow2))
 have u : w.heap.size < w.heap.size + 1 + 1 + 1 := by omega
 have hg : w.grownBy w2 (some b) := grown_thenB qF hgrow2
 have hr' : ∀ k, some b = some k → k < B := fun k hk => by cases hk; exact hbB
 refine bodyPost_end (v := .tuple #[]) (by simp [results, Tryz.results110, go_sem]) rfl ⟨rfl, ⟨_, hown2, (hH.grown hg hr').put (hown.isMap) h0 h1 h2 h3 hkl (x := addC y x) ⟨_, _, _, _, _, _, _, _, rfl, FracAt.butR ⟨hr.top.set4 fe _ _ _ _ _ _ _ _ u u u u, hr.low.set4 ff _ _ _ _ _ _ _ _ u u u u, hr.pos, hr.red⟩ ke kf hgrow2 hr', ke, kf⟩ (insF_some hfy)⟩, hg⟩
theorem add_c (w : World) (b n B : Nat) (f : Nat → Option PC) (h : MapAt w b n B f) (hbB : b < B) (hBw : B ≤ w.heap.size) (hn : n < 1000000000)
  (g1 : Bool) (a1 : Option Addr) (n1 c1 : Nat) (g2 : Bool) (a2 : Option Addr) (n2 c2 : Nat) (x : PC) (hx : FracAt w g1 a1 n1 c1 x.1 g2 a2 n2 c2 x.2) (k1 : Nw B n1 a1) (k2 : Nw B n2 a2)
  (m0 m1 m2 m3 : Nat) (h0 : m0 < 65536) (h1 : m1 < 65536) (h2 : m2 < 65536) (h3 : m3 < 65536) (hxK : FewC 1000000000 x) (hyK : ∀ y, f (key4 m0 m1 m2 m3) = some y → FewC 1000000000 y) :
  Calls Tryz.prog 110 #[.map (some b), frV g1 a1 n1 c1 g2 a2 n2 c2, mono4 m0 m1 m2 m3] w fun e w' => e = .returned (.tuple #[]) ∧ MapAt w' b (n + 1) B (insF f (key4 m0 m1 m2 m3, x)) ∧ w.grownBy w' (some b) := by
 cases hf : f (key4 m0 m1 m2 m3) with
 | none => exact add_new w b n B f h hbB hBw hn g1 a1 n1 c1 g2 a2 n2 c2 x hx k1 k2 m0 m1 m2 m3 h0 h1 h2 h3 hf
 | some y => exact add_old w b n B f h hbB hBw hn g1 a1 n1 c1 g2 a2 n2 c2 x hx k1 k2 m0 m1 m2 m3 h0 h1 h2 h3 y hf hxK (hyK y hf)
end Go.Proofs.YtdamegaedmckbaaGreatDoor
end
