/- Package fracs and the document's twin: Of; of, at a fraction without numbers; Make. -/
import Derived.Test.YtdamegaedmckbaaGreatDoorQP22
set_option linter.unusedSimpArgs false
set_option linter.unusedVariables false
set_option maxRecDepth 100000
set_option maxHeartbeats 4000000
section
namespace Go.Proofs.YtdamegaedmckbaaGreatDoor
open Go.RowKit
theorem Ph (w : World) (z : Int) (h0 : -9223372036854775808 ≤ z) (h1 : z ≤ 9223372036854775807) : Calls Tryz.prog 30 #[.int .i64 z] w (Gr w z 1) := by
 have HB := Ac w.heap.size w
 go_enter Tryz.func30, Tryz.ntmps30
 go_wp2_with fail
 refine (Sz _ z h0 h1).mono ?_
 rintro e w1 ⟨g1, a1, n1, c1, rfl, hn1, hf1, hb⟩
 obtain ⟨hc, hf⟩ := Ax hb; have hz := hb.size; (try simp only [Aj, Ak] at hz)
 replace HB := zD w hb
 obtain ⟨s0_0, s0_1⟩ := qZ hc (w.heap.size); obtain ⟨s0_2, s0_3⟩ := qY hc (w.heap.size) (.bool false) (.slice none 0 0); obtain ⟨f0_0, f0_1⟩ := zA hf (w.heap.size); obtain ⟨f0_2, f0_3⟩ := zB hf (w.heap.size)
 have hk1 : w.heap.size < w1.heap.size := by omega
 have f1 : Av (w.heap.size + 1) w1 a1 c1 := hf1.mono qA
 clear hc hf hb hz hf1
 go_wp2_with fail
 refine (Sz _ 1 qB qB).mono ?_
 rintro e w2 ⟨g2, a2, n2, c2, rfl, hn2, hf2, hb⟩
 obtain ⟨hc, hf⟩ := Ax hb; have hz := hb.size; (try simp only [Aj, Ak] at hz)
 replace HB := zD w hb
 obtain ⟨s0_0, s0_1⟩ := qZ hc (w.heap.size); obtain ⟨s0_2, s0_3⟩ := qY hc (w.heap.size) (.bool false) (.slice none 0 0); obtain ⟨f0_0, f0_1⟩ := zA hf (w.heap.size); obtain ⟨f0_2, f0_3⟩ := zB hf (w.heap.size)
 have f1' := f1.keep hb
 have hn1' := hn1.keep hb
 have f2 : Av (w.heap.size + 1) w2 a2 c2 := hf2.mono qB
 have hap : Ap2 a1 c1 a2 c2 := Y9 f1 (hf2.mono qA)
 have hk2 : w.heap.size < w2.heap.size := by omega
 have u : w.heap.size < w.heap.size + 1 := Ag _
 clear hc hf hb hz hf2
 go_wp2_with fail
 refine bodyPost_ret (v := .agg #[.bool g1, .slice a1 n1 c1, .bool g2, .slice a2 n2 c2]) (by simp [results, Tryz.results30, go_sem, s0_0, s0_1, s0_2, s0_3]) rfl ?_
 refine ⟨g1, a1, n1, c1, g2, a2, n2, c2, rfl, ⟨?_, ?_, by omega, by simp [Int.gcd]⟩, ?_, ?_, hap, by go_grown⟩
 ·exact hn1'.set4 f1' _ _ _ _ _ _ _ _ u u u u
 ·exact hn2.set4 f2 _ _ _ _ _ _ _ _ u u u u
 ·exact (f1'.set4 _ _ _ _ _ _ _ _ u u u u).mono qB
 ·exact (f2.set4 _ _ _ _ _ _ _ _ u u u u).mono qB
theorem Vk (w : World) (z : Int) (h0 : -9223372036854775808 ≤ z) (h1 : z ≤ 9223372036854775807) : Calls Tryz.prog 131 #[.int .i64 z] w (Hx w z 1) := by
 have HB := Ac w.heap.size w
 go_enter Tryz.func131, Tryz.ntmps131
 go_wp2_with fail
 refine (bF _ z h0 h1).mono ?_
 rintro e w1 ⟨g1, a1, n1, c1, rfl, hn1, hf1, hb⟩
 obtain ⟨hc, hf⟩ := Ax hb; have hz := hb.size; (try simp only [Aj, Ak] at hz)
 replace HB := zD w hb
 obtain ⟨s0_0, s0_1⟩ := qZ hc (w.heap.size); obtain ⟨s0_2, s0_3⟩ := qY hc (w.heap.size) (.bool false) (.slice none 0 0); obtain ⟨f0_0, f0_1⟩ := zA hf (w.heap.size); obtain ⟨f0_2, f0_3⟩ := zB hf (w.heap.size)
 have hk1 : w.heap.size < w1.heap.size := by omega
 have f1 : Av (w.heap.size + 1) w1 a1 c1 := hf1.mono qA
 clear hc hf hb hz hf1
 go_wp2_with fail
 refine (bF _ 1 qB qB).mono ?_
 rintro e w2 ⟨g2, a2, n2, c2, rfl, hn2, hf2, hb⟩
 obtain ⟨hc, hf⟩ := Ax hb; have hz := hb.size; (try simp only [Aj, Ak] at hz)
 replace HB := zD w hb
 obtain ⟨s0_0, s0_1⟩ := qZ hc (w.heap.size); obtain ⟨s0_2, s0_3⟩ := qY hc (w.heap.size) (.bool false) (.slice none 0 0); obtain ⟨f0_0, f0_1⟩ := zA hf (w.heap.size); obtain ⟨f0_2, f0_3⟩ := zB hf (w.heap.size)
 have f1' := f1.keep hb
 have hn1' := hn1.keep hb
 have f2 : Av (w.heap.size + 1) w2 a2 c2 := hf2.mono qB
 have hk2 : w.heap.size < w2.heap.size := by omega
 have u : w.heap.size < w.heap.size + 1 := Ag _
 clear hc hf hb hz hf2
 go_wp2_with fail
 refine bodyPost_ret (v := .agg #[.bool g1, .slice a1 n1 c1, .bool g2, .slice a2 n2 c2]) (by simp [results, Tryz.results131, go_sem, s0_0, s0_1, s0_2, s0_3]) rfl ?_
 refine ⟨g1, a1, n1, c1, g2, a2, n2, c2, rfl, ⟨?_, ?_, by omega, by simp [Int.gcd]⟩, ?_, ?_, by go_grown⟩
 ·exact hn1'.set4 f1' _ _ _ _ _ _ _ _ u u u u
 ·exact hn2.set4 f2 _ _ _ _ _ _ _ _ u u u u
 ·exact (f1'.set4 _ _ _ _ _ _ _ _ u u u u).mono qB
 ·exact (f2.set4 _ _ _ _ _ _ _ _ u u u u).mono qB
theorem Wi {w : World} {g : Bool} {a : Option Addr} {n c : Nat} {z : Int} (h : A4 w g a n c z) (hz : z.natAbs < 1000000000) : n ≤ 1 := by
 have h1 := h.rd.len
 rcases Aq z.natAbs with h2 | h2
 ·rw [h2, Dl] at h1; simp at h1; omega
 ·rw [Gs h2, show z.natAbs / 1000000000 = 0 by omega, Dl] at h1; simp at h1; omega
theorem Qw (w : World) : RdL w none 0 0 [] := ⟨rfl, Ad _, by omega, by omega, fun i => by simp [lim], .inl rfl⟩
theorem fZ (w0 w : World) (g1 : Bool) (a1 : Option Addr) (n1 c1 : Nat) (d1 : List Nat) (h1 : RdL w a1 n1 c1 d1) (g2 : Bool) (a2 : Option Addr) (n2 c2 : Nat) (d2 : List Nat) (h2 : RdL w a2 n2 c2 d2) (hs : n2 < 35184372088829) (hb1 : n1 < 35184372088829) (hr : ¬ FOk g1 d1 g2 d2) :
  Calls Tryz.prog 108 #[.agg #[.bool g1, .slice a1 n1 c1, .bool g2, .slice a2 n2 c2]] w (eG w0 w 0 1 1) := by
 have HB := Ac w.heap.size w
 have HR := Ae hr
 clear hr
 go_enter Tryz.func108, Tryz.ntmps108
 go_wp2_with fail
 refine (Gq _ _ _ _ _ _ (h1.keep qF) _ _ _ _ _ (h2.keep qF) hs hb1 false ⟨fun h => absurd h HR.out, fun e => (by cases e)⟩).mono ?_
 rintro e w1 ⟨rfl, hb⟩
 obtain ⟨hc, hf⟩ := Ax hb; have hz := hb.size; (try simp only [Aj, Ak] at hz)
 replace HB := zD w hb
 obtain ⟨s0_0, s0_1⟩ := qX hc (w.heap.size) (.bool g1) (.slice a1 n1 c1); obtain ⟨s0_2, s0_3⟩ := qY hc (w.heap.size) (.bool g2) (.slice a2 n2 c2); obtain ⟨s1_0, s1_1⟩ := qZ hc (w.heap.size + 1); obtain ⟨s1_2, s1_3⟩ := qY hc (w.heap.size + 1) (.bool false) (.slice none 0 0); obtain ⟨f1_0, f1_1⟩ := zA hf (w.heap.size + 1); obtain ⟨f1_2, f1_3⟩ := zB hf (w.heap.size + 1)
 have hk1 : w.heap.size + 1 < w1.heap.size := by omega
 clear hc hf hb hz
 go_wp2_with fail
 refine (Ph _ 0 qB qB).mono ?_
 rintro e w2 ⟨g3, a3, n3, c3, g4, a4, n4, c4, rfl, hF, hf3, hf4, hap, hb⟩
 obtain ⟨hc, hf⟩ := Ax hb; have hz := hb.size; (try simp only [Aj, Ak] at hz)
 replace HB := zD w hb
 obtain ⟨s1_0, s1_1⟩ := qZ hc (w.heap.size + 1); obtain ⟨s1_2, s1_3⟩ := qY hc (w.heap.size + 1) (.bool false) (.slice none 0 0); obtain ⟨f1_0, f1_1⟩ := zA hf (w.heap.size + 1); obtain ⟨f1_2, f1_3⟩ := zB hf (w.heap.size + 1)
 have f3 : Av (w.heap.size + 1 + 1) w2 a3 c3 := hf3.mono qB
 have f4 : Av (w.heap.size + 1 + 1) w2 a4 c4 := hf4.mono qB
 have hk2 : w.heap.size + 1 < w2.heap.size := by omega
 have u : w.heap.size + 1 < w.heap.size + 1 + 1 := Ag _
 clear hc hf hb hz hf3 hf4
 go_wp2_with fail
 refine bodyPost_ret (v := .agg #[.bool g3, .slice a3 n3 c3, .bool g4, .slice a4 n4 c4]) (by simp [results, Tryz.results108, go_sem, s1_0, s1_1, s1_2, s1_3]) rfl ?_
 refine ⟨g3, a3, n3, c3, g4, a4, n4, c4, rfl, ⟨?_, ?_, hF.pos, hF.red⟩, Wi hF.top qH, Wi hF.low qH, .inr ⟨?_, ?_⟩, by go_grown⟩
 ·exact hF.top.set4 f3 _ _ _ _ _ _ _ _ u u u u
 ·exact hF.low.set4 f4 _ _ _ _ _ _ _ _ u u u u
 ·exact (f3.set4 _ _ _ _ _ _ _ _ u u u u).mono qB
 ·exact (f4.set4 _ _ _ _ _ _ _ _ u u u u).mono qB
theorem eP : laidOutB Tryz.prog = true := by kernel_rfl
theorem eK : (66 : TypeId) < Tryz.prog.types.size := of_decide_eq_true qG
theorem Gz : Maps.Keyed Tryz.prog 66 := Maps.Keyed.of_law (deep_law_laid eP (m := 2) qB eK qG (by rw [u66]))
theorem Pv : Tryz.prog.keyType 66 = true := by kernel_rfl
theorem Qb : Tryz.prog.cellsOf 66 = 4 := by kernel_rfl
abbrev Hj (a b c d : Nat) : Value := .agg #[.int .u16 a, .int .u16 b, .int .u16 c, .int .u16 d]
theorem aQ {x0 x1 x2 x3 : Value} : (Value.agg #[x0, x1, x2, x3]).formed Tryz.prog 66 = true := by simp [Value.formed, u66, Qb]
theorem Pk (d : Nat) (v : Value) : Tryz.prog.keyLits (d + 1) 55 [v] = (match v with | .int q' n => if q' = .u16 ∧ (Lit.int .u16 n).wf = true then some [.int .u16 n] else none | _ => none) := by
 unfold Program.keyLits
 rw [u55]
 cases v <;> rfl
theorem Pf (d : Nat) (x0 x1 x2 x3 : Value) : Tryz.prog.keyLits (d + 2) 66 [x0, x1, x2, x3] = (((Tryz.prog.keyLits (d + 1) 55 [x0]).bind fun l0 => (Tryz.prog.keyLits (d + 1) 55 [x1]).bind fun l1 => (Tryz.prog.keyLits (d + 1) 55 [x2]).bind fun l2 => (Tryz.prog.keyLits (d + 1) 55 [x3]).bind fun l3 => some [l0, l1, l2, l3]).map List.flatten) := by
 have hr : List.range 4 = [0, 1, 2, 3] := by decide
 conv => lhs; unfold Program.keyLits
 rw [u66]
 simp only [List.length_cons, List.length_nil, Qb, c55, hr, if_true, List.mapM_cons, List.mapM_nil, List.drop, List.take, Nat.zero_mul, Nat.one_mul, Nat.reduceMul]
 cases Tryz.prog.keyLits (d + 1) 55 [x0] <;> cases Tryz.prog.keyLits (d + 1) 55 [x1] <;> cases Tryz.prog.keyLits (d + 1) 55 [x2] <;> cases Tryz.prog.keyLits (d + 1) 55 [x3] <;> rfl
theorem Nk : ∃ d, Tryz.prog.types.size + 1 = d + 2 := ⟨Tryz.prog.types.size - 1, by have h : 66 < (Tryz.prog.types.size : Nat) := eK; omega⟩
theorem cF {n : Nat} (h : n < 65536) : (Lit.int .u16 (n : Int)).wf = true := by simp [Lit.wf, IntKind.min, IntKind.max, IntKind.bits, IntKind.signed]; omega
theorem Ql {a b c d : Nat} (ha : a < 65536) (hb : b < 65536) (hc : c < 65536) (hd : d < 65536) : ∃ kl, keyOf Tryz.prog 66 (Hj a b c d) = some kl := by
 obtain ⟨e, he⟩ := Nk
 unfold keyOf
 rw [u66]
 simp only [Pv, aQ, Bool.and_self, if_true, he]
 have : (Hj a b c d).cells.toList = [.int .u16 a, .int .u16 b, .int .u16 c, .int .u16 d] := by simp [Value.cells]
 rw [this, Pf]
 simp [Pk, cF ha, cF hb, cF hc, cF hd]
theorem dE {cs : Array Value} (h : cs.size = 4) : ∃ x0 x1 x2 x3, Value.agg cs = .agg #[x0, x1, x2, x3] := by
 obtain ⟨l⟩ := cs
 simp at h
 match l, h with
 | [x0, x1, x2, x3], _ => exact ⟨x0, x1, x2, x3, rfl⟩
theorem Vv (x0 x1 x2 x3 : Value) : (Value.agg #[x0, x1, x2, x3]).cells.toList = [x0, x1, x2, x3] := by simp [Value.cells]
theorem cM : ∃ e, ∀ v, keyOf Tryz.prog 66 v = if v.formed Tryz.prog 66 then (Tryz.prog.keyLits (e + 2) 66 v.cells.toList).map fun ls => .string (keyBytes ls) else none := by
 obtain ⟨e, he⟩ := Nk
 refine ⟨e, fun v => ?_⟩
 unfold keyOf
 rw [u66]
 simp only [Pv, Bool.true_and, he]
theorem dP {v : Value} {kl : Lit} (h : keyOf Tryz.prog 66 v = some kl) : ∃ a b c d : Nat, a < 65536 ∧ b < 65536 ∧ c < 65536 ∧ d < 65536 ∧ v = Hj a b c d := by
 obtain ⟨e, he⟩ := cM
 rw [he] at h
 split at h
 ·next hf =>
  have hx : ∃ x0 x1 x2 x3, v = .agg #[x0, x1, x2, x3] := by
   cases v <;> simp [Value.formed, u66, Qb] at hf
   next cs =>
    exact dE hf
  obtain ⟨x0, x1, x2, x3, rfl⟩ := hx
  have hone : ∀ (x : Value) l, Tryz.prog.keyLits (e + 1) 55 [x] = some l → ∃ a : Nat, a < 65536 ∧ x = .int .u16 a := by
   intro x l hl
   rw [Pk] at hl
   cases x <;> simp at hl
   next q n =>
    obtain ⟨⟨rfl, hw⟩, _⟩ := hl
    have hw' : 0 ≤ n ∧ n < 65536 := by simp [Lit.wf, IntKind.min, IntKind.max, IntKind.bits, IntKind.signed] at hw; omega
    refine ⟨n.toNat, by omega, ?_⟩
    rw [Int.toNat_of_nonneg hw'.1]
  rw [Vv] at h
  rw [Pf] at h
  cases h0 : Tryz.prog.keyLits (e + 1) 55 [x0] with
  | none => simp [h0] at h
  | some l0 =>
  cases h1 : Tryz.prog.keyLits (e + 1) 55 [x1] with
  | none => simp [h0, h1] at h
  | some l1 =>
  cases h2 : Tryz.prog.keyLits (e + 1) 55 [x2] with
  | none => simp [h0, h1, h2] at h
  | some l2 =>
  cases h3 : Tryz.prog.keyLits (e + 1) 55 [x3] with
  | none => simp [h0, h1, h2, h3] at h
  | some l3 =>
  obtain ⟨a, ha, rfl⟩ := hone _ _ h0
  obtain ⟨b, hb, rfl⟩ := hone _ _ h1
  obtain ⟨c, hc, rfl⟩ := hone _ _ h2
  obtain ⟨d, hd, rfl⟩ := hone _ _ h3
  exact ⟨a, b, c, d, ha, hb, hc, hd, rfl⟩
 ·cases h
abbrev RH : Value → Option (DataW Value × List MemPlace) := fun v => some (.held v, [])
abbrev frV (g1 : Bool) (a1 : Option Addr) (n1 c1 : Nat) (g2 : Bool) (a2 : Option Addr) (n2 c2 : Nat) : Value := .agg #[.bool g1, .slice a1 n1 c1, .bool g2, .slice a2 n2 c2]
def Sh (w : World) (B : Nat) (v : Value) (c : PC) : Prop :=
 ∃ g1 a1 n1 c1 g2 a2 n2 c2, v = frV g1 a1 n1 c1 g2 a2 n2 c2 ∧ Bj w g1 a1 n1 c1 c.1 g2 a2 n2 c2 c.2 ∧ Nw B n1 a1 ∧ Nw B n2 a2
theorem Sh.grown {w w' : World} {B : Nat} {v : Value} {c : PC} {row : Option Nat} (h : Sh w B v c) (hg : w.grownBy w' row) (hr : ∀ k, row = some k → k < B) : Sh w' B v c := by
 obtain ⟨g1, a1, n1, c1, g2, a2, n2, c2, rfl, hf, h1, h2⟩ := h
 exact ⟨g1, a1, n1, c1, g2, a2, n2, c2, rfl, hf.butR h1 h2 hg hr, h1, h2⟩
def Mk (o : Nat → Nat) (a : Option Addr) (c k : Nat) : Prop := c = 0 ∨ ∀ x, a = some x → o x.block = k
structure Mq (w : World) (B : Nat) (o : Nat → Nat) (k : Nat) (a1 : Option Addr) (c1 : Nat) (a2 : Option Addr) (c2 : Nat) : Prop where
 top : Av B w a1 c1
 low : Av B w a2 c2
 ap : Ap2 a1 c1 a2 c2
 m1 : Mk o a1 c1 k
 m2 : Mk o a2 c2 k
theorem Av.butR {w w' : World} {B : Nat} {a : Option Addr} {c : Nat} {row : Option Nat} (h : Av B w a c) (hg : w.grownBy w' row) (hr : ∀ k, row = some k → k < B) : Av B w' a c :=
 h.imp id fun ⟨b, cur, h1, h2, h3, h4⟩ => ⟨b, cur, h1, h2, by rw [hg.block b (Ar.1 h3).1 (fun e => by have := hr _ e.symm; omega)]; exact h3, h4⟩
theorem Mq.butR {w w' : World} {B : Nat} {o : Nat → Nat} {k : Nat} {a1 : Option Addr} {c1 : Nat} {a2 : Option Addr} {c2 : Nat} {row : Option Nat} (h : Mq w B o k a1 c1 a2 c2) (hg : w.grownBy w' row) (hr : ∀ k, row = some k → k < B) : Mq w' B o k a1 c1 a2 c2 :=
 ⟨h.top.butR hg hr, h.low.butR hg hr, h.ap, h.m1, h.m2⟩
theorem Mk.old {w : World} {B : Nat} {o : Nat → Nat} {a : Option Addr} {c k H j : Nat} (h : Mk o a c k) (hf : Av B w a c) (hH : w.heap.size ≤ H) : Mk (fun g => if g < H then o g else j) a c k := by
 rcases hf with h0 | ⟨b, cur, h1, h2, h3, h4⟩
 ·exact .inl h0
 ·refine h.imp id fun h x hx => ?_
  have := (Ar.1 h3).1
  have e := h x hx
  rw [h1] at hx
  cases hx
  show (if b < H then o b else j) = k
  rw [if_pos qB]
  exact e
theorem Mk.new {w : World} {o : Nat → Nat} {a : Option Addr} {c H j : Nat} (hf : Av H w a c) : Mk (fun g => if g < H then o g else j) a c j := by
 rcases hf with h0 | ⟨b, cur, h1, h2, h3, h4⟩
 ·exact .inl h0
 ·refine .inr fun x hx => ?_
  rw [h1] at hx
  cases hx
  show (if b < H then o b else j) = j
  rw [if_neg qB]
def Q8 (w : World) (B : Nat) (o : Nat → Nat) (k : Nat) (v : Value) (c : PC) : Prop :=
 ∃ g1 a1 n1 c1 g2 a2 n2 c2, v = frV g1 a1 n1 c1 g2 a2 n2 c2 ∧ Bj w g1 a1 n1 c1 c.1 g2 a2 n2 c2 c.2 ∧ Mq w B o k a1 c1 a2 c2
theorem Q8.grown {w w' : World} {B : Nat} {o : Nat → Nat} {k : Nat} {v : Value} {c : PC} {row : Option Nat} (h : Q8 w B o k v c) (hg : w.grownBy w' row) (hr : ∀ k, row = some k → k < B) : Q8 w' B o k v c := by
 obtain ⟨g1, a1, n1, c1, g2, a2, n2, c2, rfl, hf, hl⟩ := h
 exact ⟨g1, a1, n1, c1, g2, a2, n2, c2, rfl, hf.butR (hl.top.newA hf.top.rd) (hl.low.newA hf.low.rd) hg hr, hl.butR hg hr⟩
def Gt (w : World) (B : Nat) (o : Nat → Nat) (D : DataW Value) (f : Nat → Option PC) : Prop :=
 ∀ a b c d kl, a < 65536 → b < 65536 → c < 65536 → d < 65536 → keyOf Tryz.prog 66 (Hj a b c d) = some kl →
  (f (Dh a b c d) = none → Maps.has D kl = false) ∧
  (∀ x, f (Dh a b c d) = some x → Maps.has D kl = true ∧ ∃ v, (∀ zd, D.atKey kl zd = .held v) ∧ Q8 w B o (Dh a b c d) v x)
theorem Gt.grown {w w' : World} {B : Nat} {o : Nat → Nat} {D : DataW Value} {f : Nat → Option PC} {row : Option Nat} (h : Gt w B o D f) (hg : w.grownBy w' row) (hr : ∀ k, row = some k → k < B) : Gt w' B o D f := by
 intro a b c d kl ha hb hc hd hk
 obtain ⟨h1, h2⟩ := h a b c d kl ha hb hc hd hk
 refine ⟨h1, fun x hx => ?_⟩
 obtain ⟨h3, v, hv, hf⟩ := h2 x hx
 exact ⟨h3, v, hv, hf.grown hg hr⟩
theorem Qq {a b c d a' b' c' d' : Nat} {kl kl' : Lit} (ha : a < 65536) (hb : b < 65536) (hc : c < 65536) (hd : d < 65536) (ha' : a' < 65536) (hb' : b' < 65536) (hc' : c' < 65536) (hd' : d' < 65536)
  (h : keyOf Tryz.prog 66 (Hj a b c d) = some kl) (h' : keyOf Tryz.prog 66 (Hj a' b' c' d') = some kl') : kl = kl' ↔ Dh a b c d = Dh a' b' c' d' := by
 constructor
 ·rintro rfl
  have := Gz.inj h h'
  simp only [Value.agg.injEq, Array.mk.injEq, List.cons.injEq, Value.int.injEq, true_and, and_true, Int.natCast_inj] at this
  obtain ⟨rfl, rfl, rfl, rfl⟩ := this
  rfl
 ·intro e
  obtain ⟨rfl, rfl, rfl, rfl⟩ := Sf ha hb hc hd ha' hb' hc' hd' e
  rw [h] at h'
  cases h'
  rfl
theorem Gt.put {w w' : World} {B b' : Nat} {o : Nat → Nat} {D : DataW Value} {f : Nat → Option PC} (h : Gt w B o D f) (hD : Maps.IsMap D) (hg : w.grownBy w' (some b')) (hbB : b' < B) (hBw : B ≤ w.heap.size) {a b c d : Nat} {kl : Lit} (ha : a < 65536) (hb : b < 65536) (hc : c < 65536) (hd : d < 65536)
  (hk : keyOf Tryz.prog 66 (Hj a b c d) = some kl) {x : PC} {g1 : Bool} {a1 : Option Addr} {n1 c1 : Nat} {g2 : Bool} {a2 : Option Addr} {n2 c2 : Nat} (hx : Bj w' g1 a1 n1 c1 x.1 g2 a2 n2 c2 x.2) (f1 : Av w.heap.size w' a1 c1) (f2 : Av w.heap.size w' a2 c2) (hap : Ap2 a1 c1 a2 c2)
  {f' : Nat → Option PC} (hf' : ∀ k, f' k = if k = Dh a b c d then some x else f k) : Gt w' B (fun g => if g < w.heap.size then o g else Dh a b c d) (D.put kl (.held (frV g1 a1 n1 c1 g2 a2 n2 c2))) f' := by
 intro a' b'' c' d' kl' ha' hb' hc' hd' hk'
 have hi := Qq ha' hb' hc' hd' ha hb hc hd hk' hk
 have hkl := Gz.key hk
 have hr : ∀ k, some b' = some k → k < B := fun k hk => by cases hk; exact hbB
 by_cases e : Dh a' b'' c' d' = Dh a b c d
 ·have ek := hi.2 e
  subst ek
  rw [hf', if_pos e, e]
  refine ⟨fun h => by simp at h, fun y hy => ?_⟩
  simp only [Option.some.injEq] at hy
  subst hy
  exact ⟨Maps.has_put_same hD hkl _, _, fun zd => Maps.atKey_put_same hD hkl _ _, _, _, _, _, _, _, _, _, rfl, hx, ⟨f1.mono hBw, f2.mono hBw, hap, Mk.new f1, Mk.new f2⟩⟩
 ·have hne : kl' ≠ kl := fun ek => e (hi.1 ek)
  rw [hf', if_neg e]
  obtain ⟨h1, h2⟩ := h a' b'' c' d' kl' ha' hb' hc' hd' hk'
  rw [Maps.has_put_other hne]
  refine ⟨h1, fun y hy => ?_⟩
  obtain ⟨h3, u, hu, hf⟩ := h2 y hy
  refine ⟨h3, u, fun zd => by rw [Maps.atKey_put_other hne]; exact hu zd, ?_⟩
  obtain ⟨q1, e1, m1, d1, q2, e2, m2, d2, rfl, hfr, hl⟩ := hf
  have hl' := hl.butR hg hr
  exact ⟨q1, e1, m1, d1, q2, e2, m2, d2, rfl, hfr.butR (hl.top.newA hfr.top.rd) (hl.low.newA hfr.low.rd) hg hr, hl'.top, hl'.low, hl.ap, hl.m1.old hl.top (Ad _), hl.m2.old hl.low (Ad _)⟩
theorem Gt.empty (w : World) (B : Nat) (o : Nat → Nat) : Gt w B o (.map []) (fun _ => none) := fun a b c d kl _ _ _ _ _ => ⟨fun _ => rfl, fun x hx => by cases hx⟩
structure Gv (w : World) (b n B : Nat) (f : Nat → Option PC) : Prop where
 ex : ∃ D o, w.ownsMap Tryz.prog 66 RH b n D ∧ Gt w B o D f
theorem Gv.grown {w w' : World} {b n B : Nat} {f : Nat → Option PC} {row : Option Nat} (h : Gv w b n B f) (hg : w.grownBy w' row) (hr : ∀ k, row = some k → k < B) (hb : some b ≠ row) : Gv w' b n B f := by
 obtain ⟨D, o, h1, h2⟩ := h.ex
 exact ⟨D, o, h1.kept hg hb, h2.grown hg hr⟩
theorem Cj {w w' : World} (h : Below w.heap.size w w') : w.grownBy w' none := ⟨h.os, h.tape, h.output, h.size, fun k hk _ => h.block k hk⟩
theorem Gv.keep {w w' : World} {b n B : Nat} {f : Nat → Option PC} (h : Gv w b n B f) (hb : Below w.heap.size w w') : Gv w' b n B f := h.grown (Cj hb) qH qH
theorem Sh.keep {w w' : World} {B : Nat} {v : Value} {c : PC} (h : Sh w B v c) (hb : Below w.heap.size w w') : Sh w' B v c := h.grown (Cj hb) qH
theorem Xe {D : DataW Value} {kl : Lit} {v zv : Value} {ps : List MemPlace} (h : RH v = some (D.atKey kl (.held zv), ps)) (hh : Maps.has D kl = false) : v = zv := by
 rw [Maps.atKey_of_not_has hh] at h
 simp only [RH, Option.some.injEq, Prod.mk.injEq, DataW.held.injEq] at h
 exact h.1
theorem Ys {D : DataW Value} {kl : Lit} {v zv u : Value} {ps : List MemPlace} (h : RH v = some (D.atKey kl (.held zv), ps)) (hu : ∀ zd, D.atKey kl zd = .held u) : v = u := by
 rw [hu] at h
 simp only [RH, Option.some.injEq, Prod.mk.injEq, DataW.held.injEq] at h
 exact h.1
theorem Ed {w w' : World} {b n : Nat} {D : DataW Value} (h : w.ownsMap Tryz.prog 66 RH b n D) (hb : Below w.heap.size w w') : w'.ownsMap Tryz.prog 66 RH b n D :=
 h.kept (row := none) (Cj hb) qH
theorem Hw {w w1 w' : World} {b : Nat} (hb : Below w.heap.size w w1) (hg : w1.grownBy w' (some b)) : w.grownBy w' (some b) :=
 ⟨hg.os.trans hb.os, hg.tape.trans hb.tape, hg.output.trans hb.output, Ah hb.size hg.size, fun k hk hne => (hg.block k (Nat.lt_of_lt_of_le hk hb.size) hne).trans (hb.block k hk)⟩
theorem Xh {f : Nat → Option PC} {k : Nat} {x : PC} (h : f k = none) (j : Nat) : Ln f (k, x) j = if j = k then some x else f j := by
 unfold Ln; simp only [h]
theorem Yt {f : Nat → Option PC} {k : Nat} {x y : PC} (h : f k = some y) (j : Nat) : Ln f (k, x) j = if j = k then some (Hu y x) else f j := by
 unfold Ln; simp only [h]
theorem dM (w0 w : World) (b n B : Nat) (f : Nat → Option PC) (h : Gv w0 b n B f) (h00 : Below w0.heap.size w0 w) (hbB : b < B) (hBw : B ≤ w0.heap.size) (hn : n < 1000000000)
  (g1 : Bool) (a1 : Option Addr) (n1 c1 : Nat) (g2 : Bool) (a2 : Option Addr) (n2 c2 : Nat) (x : PC) (hx : Bj w g1 a1 n1 c1 x.1 g2 a2 n2 c2 x.2) (k1 : Av w0.heap.size w a1 c1) (k2 : Av w0.heap.size w a2 c2) (hap : Ap2 a1 c1 a2 c2)
  (m0 m1 m2 m3 : Nat) (h0 : m0 < 65536) (h1 : m1 < 65536) (h2 : m2 < 65536) (h3 : m3 < 65536) (hf : f (Dh m0 m1 m2 m3) = none) :
  Calls Tryz.prog 110 #[.map (some b), frV g1 a1 n1 c1 g2 a2 n2 c2, Hj m0 m1 m2 m3] w fun e w' => e = .returned (.tuple #[]) ∧ Gv w' b (n + 1) B (Ln f (Dh m0 m1 m2 m3, x)) ∧ w.grownBy w' (some b) := by
 obtain ⟨kl, hkl⟩ := Ql h0 h1 h2 h3
 obtain ⟨D, o, hown0, hH⟩ := h.ex
 have hown := Ed hown0 h00
 have hhas := (hH _ _ _ _ _ h0 h1 h2 h3 hkl).1 hf
 go_enter Tryz.func110, Tryz.ntmps110
 go_wp2_with (first | (at_lookup; refine wpList_lookup_own_ok _ rfl _ _ 123 rfl 66 64 Gz Tryz.underlying123 RH (Tryz.zeroValue64 _) (.held (frV false none 0 0 false none 0 0)) [] rfl b n D rfl (Ed hown qF) _ kl rfl hkl ?_; intro v ps hv; obtain rfl := Xe hv hhas; rw [hhas]) | (at_mapUpdate; refine wpList_mapUpdate_own _ rfl _ _ _ 123 rfl 66 64 Gz Tryz.underlying123 RH b n D rfl (Ed hown qF) qO _ _ kl rfl rfl hkl (.held (frV g1 a1 n1 c1 g2 a2 n2 c2)) [] rfl ?_; intro w1 hown1 hgrow1))
 have hg : w.grownBy w1 (some b) := Hw qF hgrow1
 have hr : ∀ k, some b = some k → k < w0.heap.size := fun k hk => by cases hk; omega
 exact bodyPost_end (v := .tuple #[]) (by simp [results, Tryz.results110, go_sem]) rfl ⟨rfl, ⟨_, _, hown1, hH.put (hown.isMap) (Hw h00 hg) hbB hBw h0 h1 h2 h3 hkl (hx.butR (k1.newA hx.top.rd) (k2.newA hx.low.rd) hg hr) (k1.butR hg hr) (k2.butR hg hr) hap (Xh hf)⟩, hg⟩
theorem dZ (w0 w : World) (b n B : Nat) (f : Nat → Option PC) (h : Gv w0 b n B f) (h00 : Below w0.heap.size w0 w) (hbB : b < B) (hBw : B ≤ w0.heap.size) (hn : n < 1000000000)
  (g1 : Bool) (a1 : Option Addr) (n1 c1 : Nat) (g2 : Bool) (a2 : Option Addr) (n2 c2 : Nat) (x : PC) (hx : Bj w g1 a1 n1 c1 x.1 g2 a2 n2 c2 x.2) (k1 : Av w0.heap.size w a1 c1) (k2 : Av w0.heap.size w a2 c2) (hap : Ap2 a1 c1 a2 c2)
  (m0 m1 m2 m3 : Nat) (h0 : m0 < 65536) (h1 : m1 < 65536) (h2 : m2 < 65536) (h3 : m3 < 65536) (y : PC) (hfy : f (Dh m0 m1 m2 m3) = some y) (hxK : Cv 1000000000 x) (hyK : Cv 1000000000 y) :
  Calls Tryz.prog 110 #[.map (some b), frV g1 a1 n1 c1 g2 a2 n2 c2, Hj m0 m1 m2 m3] w fun e w' => e = .returned (.tuple #[]) ∧ Gv w' b (n + 1) B (Ln f (Dh m0 m1 m2 m3, x)) ∧ w.grownBy w' (some b) := by
 obtain ⟨kl, hkl⟩ := Ql h0 h1 h2 h3
 obtain ⟨D, o, hown0, hH⟩ := h.ex
 have hown := Ed hown0 h00
 obtain ⟨hhas, u, hu, g3, a3, n3, c3, g4, a4, n4, c4, rfl, hy0, k3⟩ := (hH _ _ _ _ _ h0 h1 h2 h3 hkl).2 y hfy
 have hy := hy0.keep h00
 have hz00 := h00.size
 have HB := Ac w.heap.size w
 have e1 := hx.top.rd.len; have e2 := hx.low.rd.len; have e3 := hy.top.rd.len; have e4 := hy.low.rd.len
 obtain ⟨i1, i2⟩ := hxK
 obtain ⟨i3, i4⟩ := hyK
 have q1 : n1 ≤ 1000000000 := by omega
 have q2 : n2 ≤ 1000000000 := by omega
 have q3 : n3 ≤ 1000000000 := by omega
 have q4 : n4 ≤ 1000000000 := by omega
 clear e1 e2 e3 e4 i1 i2 i3 i4
 go_enter Tryz.func110, Tryz.ntmps110
 go_wp2_with (first | (at_lookup; refine wpList_lookup_own_ok _ rfl _ _ 123 rfl 66 64 Gz Tryz.underlying123 RH (Tryz.zeroValue64 _) (.held (frV false none 0 0 false none 0 0)) [] rfl b n D rfl (Ed hown qF) _ kl rfl hkl ?_; intro v ps hv; obtain rfl := Ys hv hu; rw [hhas]))
 refine (eW _ _ _ _ _ _ _ _ _ _ _ (hy.keep qF) _ _ _ _ _ _ _ _ _ _ (hx.keep qF) q3 q4 q1 q2).mono ?_
 rintro e w1 ⟨ge, ae, ne, ce, gf, af, nf, cf, rfl, hr, hfe, hff, hap2, hb⟩
 obtain ⟨hc, hf⟩ := Ax hb; have hz := hb.size; (try simp only [Aj, Ak] at hz)
 replace HB := zD w hb
 obtain ⟨s0_0, s0_1⟩ := qX hc (w.heap.size) (.bool g1) (.slice a1 n1 c1); obtain ⟨s0_2, s0_3⟩ := qY hc (w.heap.size) (.bool g2) (.slice a2 n2 c2); obtain ⟨s1_0, s1_1⟩ := qX hc (w.heap.size + 1) (.int .u16 m0) (.int .u16 m1); obtain ⟨s1_2, s1_3⟩ := qY hc (w.heap.size + 1) (.int .u16 m2) (.int .u16 m3); obtain ⟨s2_0, s2_1⟩ := qX hc (w.heap.size + 1 + 1) (.bool g3) (.slice a3 n3 c3); obtain ⟨s2_2, s2_3⟩ := qY hc (w.heap.size + 1 + 1) (.bool g4) (.slice a4 n4 c4); obtain ⟨f0_0, f0_1⟩ := zA hf (w.heap.size); obtain ⟨f0_2, f0_3⟩ := zB hf (w.heap.size)
 have HAP := Ae hap2
 have hk1 : w.heap.size + 1 + 1 < w1.heap.size := by omega
 have fe : Av (w.heap.size + 1 + 1 + 1) w1 ae ce := hfe.mono qA
 have ff : Av (w.heap.size + 1 + 1 + 1) w1 af cf := hff.mono qA
 clear hc hf hb hz hfe hff hap2
 go_wp2_with (first | (at_mapUpdate; refine wpList_mapUpdate_own _ rfl _ _ _ 123 rfl 66 64 Gz Tryz.underlying123 RH b n D rfl (Ed hown qF) qO _ _ kl rfl rfl hkl (.held (frV ge ae ne ce gf af nf cf)) [] rfl ?_; intro w2 hown2 hgrow2))
 have u : w.heap.size < w.heap.size + 1 + 1 + 1 := by omega
 have hg : w.grownBy w2 (some b) := Hw qF hgrow2
 have hr' : ∀ k, some b = some k → k < w.heap.size + 1 + 1 + 1 := fun k hk => by cases hk; omega
 have hfe4 := fe.set4 ⟨w.heap.size, 0, none⟩ ⟨w.heap.size, 1, none⟩ ⟨w.heap.size, 2, none⟩ ⟨w.heap.size, 3, none⟩ (.bool ge) (.slice ae ne ce) (.bool gf) (.slice af nf cf) u u u u
 have hff4 := ff.set4 ⟨w.heap.size, 0, none⟩ ⟨w.heap.size, 1, none⟩ ⟨w.heap.size, 2, none⟩ ⟨w.heap.size, 3, none⟩ (.bool ge) (.slice ae ne ce) (.bool gf) (.slice af nf cf) u u u u
 have fe2 := (fe.set4 ⟨w.heap.size, 0, none⟩ ⟨w.heap.size, 1, none⟩ ⟨w.heap.size, 2, none⟩ ⟨w.heap.size, 3, none⟩ (.bool ge) (.slice ae ne ce) (.bool gf) (.slice af nf cf) u u u u).butR hgrow2 hr'
 have ff2 := (ff.set4 ⟨w.heap.size, 0, none⟩ ⟨w.heap.size, 1, none⟩ ⟨w.heap.size, 2, none⟩ ⟨w.heap.size, 3, none⟩ (.bool ge) (.slice ae ne ce) (.bool gf) (.slice af nf cf) u u u u).butR hgrow2 hr'
 refine bodyPost_end (v := .tuple #[]) (by simp [results, Tryz.results110, go_sem]) rfl ⟨rfl, ⟨_, _, hown2, hH.put (hown.isMap) (Hw h00 hg) hbB hBw h0 h1 h2 h3 hkl (x := Hu y x) (Bj.butR ⟨hr.top.set4 fe _ _ _ _ _ _ _ _ u u u u, hr.low.set4 ff _ _ _ _ _ _ _ _ u u u u, hr.pos, hr.red⟩ (hfe4.newA (hr.top.set4 fe _ _ _ _ _ _ _ _ u u u u).rd) (hff4.newA (hr.low.set4 ff _ _ _ _ _ _ _ _ u u u u).rd) hgrow2 hr') (fe2.mono qB) (ff2.mono qB) HAP.out (Yt hfy)⟩, hg⟩
theorem gK (w0 w : World) (b n B : Nat) (f : Nat → Option PC) (h : Gv w0 b n B f) (h00 : Below w0.heap.size w0 w) (hbB : b < B) (hBw : B ≤ w0.heap.size) (hn : n < 1000000000)
  (g1 : Bool) (a1 : Option Addr) (n1 c1 : Nat) (g2 : Bool) (a2 : Option Addr) (n2 c2 : Nat) (x : PC) (hx : Bj w g1 a1 n1 c1 x.1 g2 a2 n2 c2 x.2) (k1 : Av w0.heap.size w a1 c1) (k2 : Av w0.heap.size w a2 c2) (hap : Ap2 a1 c1 a2 c2)
  (m0 m1 m2 m3 : Nat) (h0 : m0 < 65536) (h1 : m1 < 65536) (h2 : m2 < 65536) (h3 : m3 < 65536) (hxK : Cv 1000000000 x) (hyK : ∀ y, f (Dh m0 m1 m2 m3) = some y → Cv 1000000000 y) :
  Calls Tryz.prog 110 #[.map (some b), frV g1 a1 n1 c1 g2 a2 n2 c2, Hj m0 m1 m2 m3] w fun e w' => e = .returned (.tuple #[]) ∧ Gv w' b (n + 1) B (Ln f (Dh m0 m1 m2 m3, x)) ∧ w.grownBy w' (some b) := by
 cases hf : f (Dh m0 m1 m2 m3) with
 | none => exact dM w0 w b n B f h h00 hbB hBw hn g1 a1 n1 c1 g2 a2 n2 c2 x hx k1 k2 hap m0 m1 m2 m3 h0 h1 h2 h3 hf
 | some y => exact dZ w0 w b n B f h h00 hbB hBw hn g1 a1 n1 c1 g2 a2 n2 c2 x hx k1 k2 hap m0 m1 m2 m3 h0 h1 h2 h3 y hf hxK (hyK y hf)
end Go.Proofs.YtdamegaedmckbaaGreatDoor
end
