/- Package limbs: of, Cmp, Sign, of numbers that may be. -/
import Derived.Test.YtdamegaedmckbaaGreatDoorQP0
set_option linter.unusedSimpArgs false
set_option linter.unusedVariables false
set_option maxRecDepth 100000
set_option maxHeartbeats 4000000
section
namespace Go.Proofs.YtdamegaedmckbaaGreatDoor
open Go.RowKit
structure A4 (w : World) (g : Bool) (a : Option Addr) (n c : Nat) (z : Int) : Prop where
 neg : g = decide (z < 0)
 rd : RdL w a n c (dg z.natAbs)
theorem A4.keep {w w' : World} {g : Bool} {a : Option Addr} {n c : Nat} {z : Int} (h : A4 w g a n c z) (hb : Below w.heap.size w w') : A4 w' g a n c z := ⟨h.neg, h.rd.keep hb⟩
theorem A4.okay {w : World} {g : Bool} {a : Option Addr} {n c : Nat} {z : Int} (h : A4 w g a n c z) : Ix g (dg z.natAbs) := by
 refine ⟨Bp _, fun e => ?_⟩
 have hv := Ba z.natAbs
 rw [e, val] at hv
 rw [h.neg]
 simp
 omega
theorem A4.bound {w : World} {g : Bool} {a : Option Addr} {n c : Nat} {z : Int} (h : A4 w g a n c z) : n ≤ 35184372088832 := h.rd.few
theorem Eo {w : World} {g : Bool} {a : Option Addr} {n c : Nat} {d : List Nat} (h : RdL w a n c d) (ho : Ix g d) : A4 w g a n c (if g then -(val d : Int) else val d) := by
 have hd := Hz ho.1
 cases g
 ·refine ⟨by simp, ?_⟩
  simp only [Bool.false_eq_true, if_false, Int.natAbs_natCast]
  rw [hd]; exact h
 ·have hne : d ≠ [] := fun e => by have := ho.2 e; simp at this
  have := Dz ho.1 hne
  refine ⟨by simp; omega, ?_⟩
  simp only [if_true, Int.natAbs_neg, Int.natAbs_natCast]
  rw [hd]; exact h
def We (w : World) (g : Bool) (a : Option Addr) (n c : Nat) (e : Ending) (w' : World) : Prop := e = .returned (.agg #[.bool g, .slice a n c]) ∧ Below w.heap.size w w'
theorem H3 (w : World) (g : Bool) (a : Option Addr) (n c : Nat) (z : Int) (h : A4 w g a n c z) :
  Calls Tryz.prog 95 #[.agg #[.bool g, .slice a n c]] w (We w g a n c) := by
 have HB := Ac w.heap.size w
 have ho := Ae h.okay
 go_enter Tryz.func95, Tryz.ntmps95
 go_wp2_with fail
 refine (C1 _ _ _ _ _ (dg z.natAbs) (h.rd.keep qF) true ⟨fun _ => rfl, fun _ => ho.out⟩).mono ?_
 rintro e w1 ⟨rfl, hb⟩
 obtain ⟨hc, hf⟩ := Ax hb; have hz := hb.size; (try simp only [Aj, Ak] at hz)
 replace HB := zD w hb
 obtain ⟨s0_0, s0_1⟩ := qX hc (w.heap.size) (.bool g) (.slice a n c); obtain ⟨s1_0, s1_1⟩ := qZ hc (w.heap.size + 1); obtain ⟨f1_0, f1_1⟩ := zA hf (w.heap.size + 1)
 go_wp2_with fail
 refine bodyPost_ret (v := .agg #[.bool g, .slice a n c]) (by simp [results, Tryz.results95, go_sem, s1_0, s1_1]) rfl ?_
 exact ⟨rfl, by go_grown⟩
theorem Ru {z z' : Int} : Br (val (dg z.natAbs)) (val (dg z'.natAbs)) = Br z.natAbs z'.natAbs := by rw [Ba, Ba]
theorem N3 {x y z t : Int} (h1 : x < y ↔ z < t) (h2 : x = y ↔ z = t) : Br x y = Br z t := by
 unfold Br
 simp only [h1, h2]
theorem Wf (w : World) (g : Bool) (a : Option Addr) (n c : Nat) (z : Int) (h : A4 w g a n c z) (g' : Bool) (a' : Option Addr) (n' c' : Nat) (z' : Int) (h' : A4 w g' a' n' c' z') :
  Calls Tryz.prog 175 #[.agg #[.bool g, .slice a n c], .agg #[.bool g', .slice a' n' c']] w fun e w' => e = .returned (.int .i64 (Br z z')) ∧ Below w.heap.size w w' := by
 have HB := Ac w.heap.size w
 have hg := h.neg
 have hg' := h'.neg
 rcases Bool.eq_false_or_eq_true g with hgt | hgt <;> rcases Bool.eq_false_or_eq_true g' with hgt' | hgt' <;> subst hgt <;> subst hgt'
 ·have hz : z < 0 := by simpa using hg.symm
  have hz' : z' < 0 := by simpa using hg'.symm
  have HR := Ae (show Br z z' = Br (val (dg z'.natAbs)) (val (dg z.natAbs)) by rw [Ru]; exact N3 qB qB)
  clear hg hg' hz hz'
  go_enter Tryz.func175, Tryz.ntmps175
  go_wp2_with fail
  go_region_held3 (fun W => W.cell? ⟨w.heap.size, 0, none⟩ = some (.bool true) ∧ W.cell? ⟨w.heap.size, 1, none⟩ = some (.slice a n c) ∧ W.cell? ⟨w.heap.size + 1, 0, none⟩ = some (.bool true) ∧ W.cell? ⟨w.heap.size + 1, 1, none⟩ = some (.slice a' n' c')) (first | ((try dsimp only); (repeat' apply And.intro); all_goals (first | (with_reducible assumption) | (go_keep; done) | (simp [*, go_sem]; done)))) (first
   | (go_at_call 95; (with_reducible refine (H3 _ true a n c z (h.keep qF)).mono ?_); rintro e w1 ⟨rfl, hb⟩; obtain ⟨hc, hf⟩ := Ax hb; have hz := hb.size; (try simp only [Aj, Ak] at hz); replace HB := zD w hb; obtain ⟨s0_0, s0_1⟩ := qX hc (w.heap.size) (.bool true) (.slice a n c); obtain ⟨s1_0, s1_1⟩ := qX hc (w.heap.size + 1) (.bool true) (.slice a' n' c'); obtain ⟨f0_0, f0_1⟩ := zA hf (w.heap.size); obtain ⟨f1_0, f1_1⟩ := zA hf (w.heap.size + 1))
   | (go_at_call 95; (with_reducible refine (H3 _ true a' n' c' z' (h'.keep qF)).mono ?_); rintro e w1 ⟨rfl, hb⟩; obtain ⟨hc, hf⟩ := Ax hb; have hz := hb.size; (try simp only [Aj, Ak] at hz); replace HB := zD w hb; obtain ⟨s0_0, s0_1⟩ := qX hc (w.heap.size) (.bool true) (.slice a n c); obtain ⟨s1_0, s1_1⟩ := qX hc (w.heap.size + 1) (.bool true) (.slice a' n' c'); obtain ⟨f0_0, f0_1⟩ := zA hf (w.heap.size); obtain ⟨f1_0, f1_1⟩ := zA hf (w.heap.size + 1)))
  replace HB : Below w.heap.size w ((((w1.setCell ⟨w.heap.size, 0, none⟩ (.bool true)).setCell ⟨w.heap.size, 1, none⟩ (.slice a n c)).setCell ⟨w.heap.size + 1, 0, none⟩ (.bool true)).setCell ⟨w.heap.size + 1, 1, none⟩ (.slice a' n' c')) := by go_grown
  go_wp2_with fail
  refine (Ek _ _ _ _ (dg z'.natAbs) _ _ _ (dg z.natAbs) (h'.rd.keep HB) (h.rd.keep HB) (Bp _) (Bp _)).mono ?_
  exact qEd
 ·have hz : z < 0 := by simpa using hg.symm
  have hz' : ¬ z' < 0 := by simpa using hg'.symm
  have HR := Ae (show Br z z' = -1 from Dm qB)
  clear hg hg' hz hz'
  go_enter Tryz.func175, Tryz.ntmps175
  go_wp2_with fail
  go_region_held3 (fun W => W.cell? ⟨w.heap.size, 0, none⟩ = some (.bool true) ∧ W.cell? ⟨w.heap.size, 1, none⟩ = some (.slice a n c) ∧ W.cell? ⟨w.heap.size + 1, 0, none⟩ = some (.bool false) ∧ W.cell? ⟨w.heap.size + 1, 1, none⟩ = some (.slice a' n' c')) (first | ((try dsimp only); (repeat' apply And.intro); all_goals (first | (with_reducible assumption) | (go_keep; done) | (simp [*, go_sem]; done)))) (first
   | (go_at_call 95; (with_reducible refine (H3 _ true a n c z (h.keep qF)).mono ?_); rintro e w1 ⟨rfl, hb⟩; obtain ⟨hc, hf⟩ := Ax hb; have hz := hb.size; (try simp only [Aj, Ak] at hz); replace HB := zD w hb; obtain ⟨s0_0, s0_1⟩ := qX hc (w.heap.size) (.bool true) (.slice a n c); obtain ⟨s1_0, s1_1⟩ := qX hc (w.heap.size + 1) (.bool false) (.slice a' n' c'); obtain ⟨f0_0, f0_1⟩ := zA hf (w.heap.size); obtain ⟨f1_0, f1_1⟩ := zA hf (w.heap.size + 1))
   | (go_at_call 95; (with_reducible refine (H3 _ false a' n' c' z' (h'.keep qF)).mono ?_); rintro e w1 ⟨rfl, hb⟩; obtain ⟨hc, hf⟩ := Ax hb; have hz := hb.size; (try simp only [Aj, Ak] at hz); replace HB := zD w hb; obtain ⟨s0_0, s0_1⟩ := qX hc (w.heap.size) (.bool true) (.slice a n c); obtain ⟨s1_0, s1_1⟩ := qX hc (w.heap.size + 1) (.bool false) (.slice a' n' c'); obtain ⟨f0_0, f0_1⟩ := zA hf (w.heap.size); obtain ⟨f1_0, f1_1⟩ := zA hf (w.heap.size + 1)))
  replace HB : Below w.heap.size w ((((w1.setCell ⟨w.heap.size, 0, none⟩ (.bool true)).setCell ⟨w.heap.size, 1, none⟩ (.slice a n c)).setCell ⟨w.heap.size + 1, 0, none⟩ (.bool false)).setCell ⟨w.heap.size + 1, 1, none⟩ (.slice a' n' c')) := by go_grown
  go_wp2_with fail
  go_ret
  exact ⟨by rw [HR.out]; rfl, HB⟩
 ·have hz : ¬ z < 0 := by simpa using hg.symm
  have hz' : z' < 0 := by simpa using hg'.symm
  have HR := Ae (show Br z z' = 1 from Ct qB)
  clear hg hg' hz hz'
  go_enter Tryz.func175, Tryz.ntmps175
  go_wp2_with fail
  go_region_held3 (fun W => W.cell? ⟨w.heap.size, 0, none⟩ = some (.bool false) ∧ W.cell? ⟨w.heap.size, 1, none⟩ = some (.slice a n c) ∧ W.cell? ⟨w.heap.size + 1, 0, none⟩ = some (.bool true) ∧ W.cell? ⟨w.heap.size + 1, 1, none⟩ = some (.slice a' n' c')) (first | ((try dsimp only); (repeat' apply And.intro); all_goals (first | (with_reducible assumption) | (go_keep; done) | (simp [*, go_sem]; done)))) (first
   | (go_at_call 95; (with_reducible refine (H3 _ false a n c z (h.keep qF)).mono ?_); rintro e w1 ⟨rfl, hb⟩; obtain ⟨hc, hf⟩ := Ax hb; have hz := hb.size; (try simp only [Aj, Ak] at hz); replace HB := zD w hb; obtain ⟨s0_0, s0_1⟩ := qX hc (w.heap.size) (.bool false) (.slice a n c); obtain ⟨s1_0, s1_1⟩ := qX hc (w.heap.size + 1) (.bool true) (.slice a' n' c'); obtain ⟨f0_0, f0_1⟩ := zA hf (w.heap.size); obtain ⟨f1_0, f1_1⟩ := zA hf (w.heap.size + 1))
   | (go_at_call 95; (with_reducible refine (H3 _ true a' n' c' z' (h'.keep qF)).mono ?_); rintro e w1 ⟨rfl, hb⟩; obtain ⟨hc, hf⟩ := Ax hb; have hz := hb.size; (try simp only [Aj, Ak] at hz); replace HB := zD w hb; obtain ⟨s0_0, s0_1⟩ := qX hc (w.heap.size) (.bool false) (.slice a n c); obtain ⟨s1_0, s1_1⟩ := qX hc (w.heap.size + 1) (.bool true) (.slice a' n' c'); obtain ⟨f0_0, f0_1⟩ := zA hf (w.heap.size); obtain ⟨f1_0, f1_1⟩ := zA hf (w.heap.size + 1)))
  replace HB : Below w.heap.size w ((((w1.setCell ⟨w.heap.size, 0, none⟩ (.bool false)).setCell ⟨w.heap.size, 1, none⟩ (.slice a n c)).setCell ⟨w.heap.size + 1, 0, none⟩ (.bool true)).setCell ⟨w.heap.size + 1, 1, none⟩ (.slice a' n' c')) := by go_grown
  go_wp2_with fail
  go_ret
  exact ⟨by rw [HR.out]; rfl, HB⟩
 ·have hz : ¬ z < 0 := by simpa using hg.symm
  have hz' : ¬ z' < 0 := by simpa using hg'.symm
  have HR := Ae (show Br z z' = Br (val (dg z.natAbs)) (val (dg z'.natAbs)) by rw [Ru]; exact N3 qB qB)
  clear hg hg' hz hz'
  go_enter Tryz.func175, Tryz.ntmps175
  go_wp2_with fail
  go_region_held3 (fun W => W.cell? ⟨w.heap.size, 0, none⟩ = some (.bool false) ∧ W.cell? ⟨w.heap.size, 1, none⟩ = some (.slice a n c) ∧ W.cell? ⟨w.heap.size + 1, 0, none⟩ = some (.bool false) ∧ W.cell? ⟨w.heap.size + 1, 1, none⟩ = some (.slice a' n' c')) (first | ((try dsimp only); (repeat' apply And.intro); all_goals (first | (with_reducible assumption) | (go_keep; done) | (simp [*, go_sem]; done)))) (first
   | (go_at_call 95; (with_reducible refine (H3 _ false a n c z (h.keep qF)).mono ?_); rintro e w1 ⟨rfl, hb⟩; obtain ⟨hc, hf⟩ := Ax hb; have hz := hb.size; (try simp only [Aj, Ak] at hz); replace HB := zD w hb; obtain ⟨s0_0, s0_1⟩ := qX hc (w.heap.size) (.bool false) (.slice a n c); obtain ⟨s1_0, s1_1⟩ := qX hc (w.heap.size + 1) (.bool false) (.slice a' n' c'); obtain ⟨f0_0, f0_1⟩ := zA hf (w.heap.size); obtain ⟨f1_0, f1_1⟩ := zA hf (w.heap.size + 1))
   | (go_at_call 95; (with_reducible refine (H3 _ false a' n' c' z' (h'.keep qF)).mono ?_); rintro e w1 ⟨rfl, hb⟩; obtain ⟨hc, hf⟩ := Ax hb; have hz := hb.size; (try simp only [Aj, Ak] at hz); replace HB := zD w hb; obtain ⟨s0_0, s0_1⟩ := qX hc (w.heap.size) (.bool false) (.slice a n c); obtain ⟨s1_0, s1_1⟩ := qX hc (w.heap.size + 1) (.bool false) (.slice a' n' c'); obtain ⟨f0_0, f0_1⟩ := zA hf (w.heap.size); obtain ⟨f1_0, f1_1⟩ := zA hf (w.heap.size + 1)))
  replace HB : Below w.heap.size w ((((w1.setCell ⟨w.heap.size, 0, none⟩ (.bool false)).setCell ⟨w.heap.size, 1, none⟩ (.slice a n c)).setCell ⟨w.heap.size + 1, 0, none⟩ (.bool false)).setCell ⟨w.heap.size + 1, 1, none⟩ (.slice a' n' c')) := by go_grown
  go_wp2_with fail
  refine (Ek _ _ _ _ (dg z.natAbs) _ _ _ (dg z'.natAbs) (h.rd.keep HB) (h'.rd.keep HB) (Bp _) (Bp _)).mono ?_
  exact qEd
theorem Pd (w : World) : A4 w false none 0 0 0 := by
 refine ⟨rfl, ?_⟩
 rw [show (0 : Int).natAbs = 0 from rfl, Dl]
 exact ⟨rfl, Ad _, by omega, by omega, fun i => by simp [lim], .inl rfl⟩
theorem Lx (w : World) (g : Bool) (a : Option Addr) (n c : Nat) (z : Int) (h : A4 w g a n c z) :
  Calls Tryz.prog 107 #[.agg #[.bool g, .slice a n c]] w fun e w' => e = .returned (.int .i64 (Br z 0)) ∧ Below w.heap.size w w' := by
 have HB := Ac w.heap.size w
 go_enter Tryz.func107, Tryz.ntmps107
 go_wp2_with (go_at_call 175; refine (Wf _ _ _ _ _ z (h.keep qF) _ _ _ _ 0 (Pd _)).mono ?_; rintro e w' ⟨rfl, hb⟩; obtain ⟨hc, hf⟩ := Ax hb; have hz := hb.size; replace HB := zD w hb; have HBz := HB.size)
 go_ret
 exact ⟨rfl, HB⟩
def Av (B : Nat) (w : World) (a : Option Addr) (c : Nat) : Prop :=
 c = 0 ∨ ∃ b cur, a = some ⟨b, 0, none⟩ ∧ B ≤ b ∧ w.heap[b]? = some (.cells cur 112 (0, 0)) ∧ c ≤ cur.size
theorem Av.mono {B B' : Nat} {w : World} {a : Option Addr} {c : Nat} (h : Av B w a c) (hB : B' ≤ B) : Av B' w a c :=
 h.imp id fun ⟨b, cur, h1, h2, h3⟩ => ⟨b, cur, h1, Ah hB h2, h3⟩
theorem Av.less {B : Nat} {w : World} {a : Option Addr} {c c' : Nat} (h : Av B w a c) (hc : c' ≤ c) : Av B w a c' := by
 rcases h with rfl | ⟨b, cur, h1, h2, h3, h4⟩
 ·exact .inl qB
 ·exact .inr ⟨b, cur, h1, h2, h3, by omega⟩
theorem Av.keep {B : Nat} {w w' : World} {a : Option Addr} {c : Nat} (h : Av B w a c) (hb : Below w.heap.size w w') : Av B w' a c :=
 h.imp id fun ⟨b, cur, h1, h2, h3, h4⟩ => ⟨b, cur, h1, h2, by rw [hb.block b (Ar.1 h3).1]; exact h3, h4⟩
theorem Av.setNew {B : Nat} {w : World} {a : Option Addr} {c : Nat} (h : Av B w a c) (p : Addr) (u : Value) (hp : p.block < B) : Av B (w.setCell p u) a c :=
 h.imp id fun ⟨b, cur, h1, h2, h3, h4⟩ => ⟨b, cur, h1, h2, by rw [Below.heap_setCell _ _ _ _ qB]; exact h3, h4⟩
theorem Av.nil (B : Nat) (w : World) (a : Option Addr) : Av B w a 0 := .inl rfl
theorem Av.of_owns {w : World} {B g n c : Nat} {xs : List Value} (h : w.ownsRow B 112 1 (.slice (some ⟨g, 0, none⟩) n c) n xs) : Av B w (some ⟨g, 0, none⟩) c := by
 rcases h.2 with ⟨h', _⟩ | ⟨g', cap', cur, h', hb, hg, hnc, hcm, hcs, _⟩
 ·simp at h'
 ·simp only [Value.slice.injEq, Option.some.injEq, Addr.mk.injEq, and_true, true_and] at h'
  obtain ⟨rfl, rfl⟩ := h'
  exact .inr ⟨g, cur, rfl, hb, hg, by omega⟩
def C4 (w : World) (z : Int) (e : Ending) (w' : World) : Prop :=
 ∃ g a n c, e = .returned (.agg #[.bool g, .slice a n c]) ∧ A4 w' g a n c z ∧ Av w.heap.size w' a c ∧ Below w.heap.size w w'
theorem V0 (w : World) (a : Option Addr) (n c : Nat) (hc : n ≤ c) (_hn : n ≤ 35184372088832) :
  Calls Tryz.prog 171 #[.slice a n c] w fun e w' => e = .returned (.slice a n n) ∧ w = w' := by
 go_enter Tryz.func171, Tryz.ntmps171
 go_wp2
 go_ret
 exact ⟨rfl, rfl⟩
def sgn (g : Bool) (v : Nat) : Int := if g then -(v : Int) else v
theorem Fr (g : Bool) (v : Nat) : (sgn g v).natAbs = v := by cases g <;> simp [sgn]
def gD (w : World) (g : Bool) (a : Option Addr) (c : Nat) (d : List Nat) (e : Ending) (w' : World) : Prop :=
 ∃ g' n', e = .returned (.agg #[.bool g', .slice a n' n']) ∧ n' ≤ c ∧ A4 w' g' a n' n' (sgn g (val d)) ∧ Below w.heap.size w w'
theorem Zo {d : List Nat} {i : Nat} (h : lim d i = 0) : d.getD i 0 = 0 := by rw [Du] at h; omega
theorem Ms {w w' : World} {g g' : Bool} {a : Option Addr} {n c k : Nat} {d : List Nat} (hd : RdL w a n c d) (hlt : ∀ x ∈ d, x < 1000000000) (hk : k ≤ n) (hz : ∀ i, k ≤ i → lim d i = 0) (hl : k = 0 ∨ lim d (k - 1) ≠ 0) (hb : Below w.heap.size w w') (hg : g' = (g && decide (0 < k))) :
  A4 w' g' a k k (sgn g (val d)) := by
 subst hg
 have he := Uf d k (by rw [hd.len]; exact hk) hlt (fun i hi => Zo (hz i hi)) (hl.imp id fun h h2 => h (by rw [Du, h2]; rfl))
 have hlen : (d.take k).length = k := by rw [List.length_take, hd.len]; omega
 refine ⟨?_, ?_⟩
 ·have hv : 0 < k ↔ 0 < val d := by
   constructor
   ·intro h
    rcases Aq (val d) with h0 | h0
    ·rw [h0, Dl] at he
     rw [he] at hlen
     simp at hlen
     omega
    ·exact h0
   ·intro h
    rcases Aq k with rfl | h0
    ·rw [Gs h] at he
     simp at he
    ·exact h0
  cases g
  ·simp [sgn]
  ·simp [sgn, hv]
 ·rw [Fr, ← he]
  have hd' := hd.keep hb
  refine ⟨hlen, Ad _, Ah hk hd.few, Ah (Ah hk hd.few) qB, fun i => ?_, ?_⟩
  ·have := hd.small i
   by_cases hi : i < k
   ·have e : lim (d.take k) i = lim d i := by simp [lim, List.getD, hi]
    rw [e]; exact this
   ·have e : lim (d.take k) i = 0 := by simp only [lim, List.getD]; rw [List.getElem?_eq_none (by rw [hlen]; omega)]; rfl
    rw [e]; omega
  ·rcases Aq k with h0 | h0
   ·exact .inl h0
   ·obtain ⟨b, o, ha, hcell⟩ := hd'.cell.resolve_left qB
    refine .inr ⟨b, o, ha, fun i hi => ?_⟩
    have e : lim (d.take k) i = lim d i := by simp [lim, List.getD, hi]
    rw [e]; exact hcell i qB
theorem E6 (w : World) (g : Bool) (a : Option Addr) (n c : Nat) (d : List Nat) (hd : RdL w a n c d) (hlt : ∀ x ∈ d, x < 1000000000) :
  Calls Tryz.prog 102 #[.bool g, .slice a n c] w (gD w g a c d) := by
 have hlen := hd.len
 have hcap := hd.cap
 have hn := hd.few
 have HB := Ac w.heap.size w
 have HL := Ae hlt
 clear hlt
 go_enter Tryz.func102, Tryz.ntmps102
 go_wp2
 go_loop [5] (fun v5 => ∃ k : Nat, k ≤ n ∧ v5 = .int .i64 k ∧ (∀ i, k ≤ i → lim d i = 0)) (fun v5 => (intOf v5).toNat)
 case atStart => exact ⟨n, Ad _, rfl, fun i hi => by simp [lim, List.getElem?_eq_none (show d.length ≤ i by omega)]⟩
 case round =>
  obtain ⟨k, hk, rfl, hz⟩ := hrel
  have HZ := Ae hz
  clear hz
  match k with
  | 0 =>
   cases g
   all_goals
    go_wp2_with (go_at_call 171; refine (V0 _ _ _ _ qB qB).mono ?_; rintro e w' ⟨rfl, rfl⟩)
    refine bodyPost_ret (v := .agg #[.bool false, .slice a 0 0]) (by simp [results, Tryz.results102, go_sem]) rfl ?_
    exact ⟨_, 0, rfl, by omega, Ms hd HL.out hk HZ.out (.inl rfl) qF qH, by go_grown⟩
  | j + 1 =>
   rw [show ((j + 1 : Nat) : Int) = (j : Int) + 1 from by omega]
   obtain ⟨b, o, rfl, c1⟩ := hd.at' (i := j) qB
   have hbl : b < w.heap.size := Aa w _ c1
   by_cases h0 : lim d j = 0
   ·have h0' : (lim d j == 0) = true := by simp [h0]
    have H0 := Ae h0
    clear h0
    go_wp2_with fail
    go_round
    case rel =>
     refine ⟨j, by omega, rfl, fun i hi => ?_⟩
     exact qEq
    case measure => (first | (simp [intOf]; omega) | (simp [intOf]; done))
   ·have h0' : (lim d j == 0) = false := by simp [h0]
    have H0 := Ae h0
    clear h0
    cases g
    ·go_wp2_with (go_at_call 171; refine (V0 _ _ _ _ qB qB).mono ?_; rintro e w' ⟨rfl, rfl⟩)
     refine bodyPost_ret (v := .agg #[.bool false, .slice (some ⟨b, o, none⟩) (j + 1) (j + 1)]) (by simp [results, Tryz.results102, go_sem]) rfl ?_
     exact ⟨_, j + 1, rfl, by omega, Ms hd HL.out hk HZ.out (.inr H0.out) qF qH, by go_grown⟩
    ·go_wp2_with (go_at_call 171; refine (V0 _ _ _ _ qB qB).mono ?_; rintro e w' ⟨rfl, rfl⟩)
     refine bodyPost_ret (v := .agg #[.bool true, .slice (some ⟨b, o, none⟩) (j + 1) (j + 1)]) (by simp [results, Tryz.results102, go_sem]) rfl ?_
     exact ⟨_, j + 1, rfl, by omega, Ms hd HL.out hk HZ.out (.inr H0.out) qF qH, by go_grown⟩
end Go.Proofs.YtdamegaedmckbaaGreatDoor
end
section
namespace Go.Proofs.YtdamegaedmckbaaGreatDoor
def fxI : Nat → Int → List Nat
 | 0, _ => []
 | m + 1, S => (S % 1000000000).toNat :: fxI m (S / 1000000000)
theorem Ks (m : Nat) (S : Int) : (fxI m S).length = m := by
 induction m generalizing S with
 | zero => rfl
 | succ m ih => simp [fxI, ih]
theorem Lz (m : Nat) (S : Int) : ∀ x ∈ fxI m S, x < 1000000000 := by
 induction m generalizing S with
 | zero => intro x hx; cases hx
 | succ m ih =>
  intro x hx
  rcases List.mem_cons.1 hx with rfl | hx
  ·omega
  ·exact ih _ x hx
theorem V9 (m N : Nat) : fxI m (N : Int) = fx m N := by
 induction m generalizing N with
 | zero => rfl
 | succ m ih =>
  rw [fxI, fx]
  have h1 : ((N : Int) % 1000000000).toNat = N % 1000000000 := by omega
  have h2 : (N : Int) / 1000000000 = ((N / 1000000000 : Nat) : Int) := by omega
  rw [h1, h2, ih]
theorem Zv (m : Nat) (S : Int) : fxI (m + 1) S = fxI m S ++ [((S / 1000000000 ^ m) % 1000000000).toNat] := by
 induction m generalizing S with
 | zero => simp [fxI]
 | succ m ih =>
  rw [fxI, ih, fxI]
  simp only [List.cons_append, List.cons.injEq, true_and]
  rw [Int.ediv_ediv_of_nonneg qB, Int.pow_succ, Int.mul_comm (1000000000 ^ m)]
theorem cW (m : Nat) (S D : Int) : fxI m (S + D * 1000000000 ^ m) = fxI m S := by
 induction m generalizing S D with
 | zero => rfl
 | succ m ih =>
  rw [fxI, fxI]
  have e : D * 1000000000 ^ (m + 1) = D * 1000000000 ^ m * 1000000000 := by rw [Int.pow_succ, Int.mul_assoc]
  rw [e, Int.add_mul_emod_self_right, Int.add_mul_ediv_right _ _ qB, ih]
def Cl (D : Nat → Int) : Nat → Int
 | 0 => 0
 | m + 1 => Cl D m + D m * 1000000000 ^ m
theorem Nn (m : Nat) : (0 : Int) < 1000000000 ^ m := Int.pow_pos qB
theorem Zg (D : Nat → Int) (m : Nat) : Cl D (m + 1) / 1000000000 ^ (m + 1) = (D m + Cl D m / 1000000000 ^ m) / 1000000000 := by
 rw [Cl, Int.pow_succ, ← Int.ediv_ediv_of_nonneg (Int.le_of_lt (Nn m)), Int.add_mul_ediv_right _ _ (by have := Nn m; omega), Int.add_comm]
theorem Tn (D : Nat → Int) (m : Nat) : fxI (m + 1) (Cl D (m + 1)) = fxI m (Cl D m) ++ [((D m + Cl D m / 1000000000 ^ m) % 1000000000).toNat] := by
 rw [Zv, Cl, cW, Int.add_mul_ediv_right _ _ (by have := Nn m; omega), Int.add_comm]
theorem Kj {D D' : Nat → Int} {m : Nat} (h : ∀ i, i < m → D i = D' i) : Cl D m = Cl D' m := by
 induction m with
 | zero => rfl
 | succ m ih => rw [Cl, Cl, ih (fun i hi => h i qB), h m qB]
theorem Nf (D D' : Nat → Int) (m : Nat) : Cl (fun i => D i + D' i) m = Cl D m + Cl D' m := by
 induction m with
 | zero => rfl
 | succ m ih => simp only [Cl, ih, Int.add_mul]; omega
theorem M4 (D : Nat → Int) (k : Int) (m : Nat) : Cl (fun i => k * D i) m = k * Cl D m := by
 induction m with
 | zero => simp [Cl]
 | succ m ih => simp only [Cl, ih, Int.mul_add, Int.mul_assoc]
theorem Gg (d : List Nat) (m : Nat) (hm : d.length ≤ m) : Cl (fun i => ((d.getD i 0 : Nat) : Int)) m = val d := by
 have key : ∀ k, k ≤ d.length → Cl (fun i => ((d.getD i 0 : Nat) : Int)) k = val (d.take k) := by
  intro k
  induction k with
  | zero => intro _; simp [Cl, val]
  | succ k ih =>
   intro hk
   rw [Cl, ih qB, Gk d k qB]
   rw [Int.natCast_add, Int.natCast_mul, Int.natCast_pow, Int.mul_comm]
   rfl
 have tail : ∀ k, Cl (fun i => ((d.getD i 0 : Nat) : Int)) (d.length + k) = val d := by
  intro k
  induction k with
  | zero => rw [Nat.add_zero, key _ (Ad _), List.take_length]
  | succ k ih =>
   rw [← Nat.add_assoc, Cl, ih]
   simp
 have := tail (m - d.length)
 rwa [Nat.add_sub_cancel' hm] at this
theorem Zl (t : Int) (h : t < 0) : t.tdiv 1000000000 = -((-t) / 1000000000) ∧ t.tmod 1000000000 = -((-t) % 1000000000) := by
 have h1 : t = -(-t) := by omega
 constructor
 ·conv => lhs; rw [h1, Int.neg_tdiv, Int.tdiv_eq_ediv_of_nonneg qB]
 ·conv => lhs; rw [h1, Int.neg_tmod, Int.tmod_eq_emod_of_nonneg qB]
end Go.Proofs.YtdamegaedmckbaaGreatDoor
end
