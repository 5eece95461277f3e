/- The document's answer, layer 1: Of, Twin, Neg, order. -/
import Derived.Test.YtdamegaedmckbaaGreatDoorQP4
set_option linter.unusedSimpArgs false
set_option linter.unusedVariables false
set_option maxRecDepth 100000
set_option maxHeartbeats 4000000
section
namespace Go.Proofs.YtdamegaedmckbaaGreatDoor
open Go.RowKit
theorem dL (w : World) (A : Nat) (hA : A ≤ 9223372036854775807) : Calls Tryz.prog 189 #[.int .i64 (A : Int)] w (C4 w (A : Int)) := by
 obtain ⟨i0, hi, hz0, hz1, hz2⟩ := info_parts Cu
 have HB := Ac w.heap.size w
 go_enter Tryz.func189, Tryz.ntmps189
 go_wp2_with fail
 go_loopw [4, 5] (fun v3 v4 wr => ∃ (l : List Nat) (v : Nat), v3 = .int .u64 v ∧ Hid (val l + 1000000000 ^ l.length * v = A) ∧ l.length ≤ 3 ∧ v ≤ 9223372036854775808 ∧ (∀ x ∈ l, x < 1000000000) ∧ wr.ownsRow (w.heap.size + 1) 112 1 v4 l.length (Bv l) ∧ w.heap.size < wr.heap.size ∧ wr.cell? ⟨w.heap.size, 0, none⟩ = some (.bool false) ∧ wr.cell? ⟨w.heap.size, 1, none⟩ = some (.slice none 0 0) ∧ wr.frozen? ⟨w.heap.size, 0, none⟩ = false ∧ wr.frozen? ⟨w.heap.size, 1, none⟩ = false ∧ Below w.heap.size w wr) (fun v3 _ _ => (intOf v3).toNat)
 case atStart => exact ⟨[], A, (by first | rfl | exact congrArg (Value.int .u64) (Lq A hA hA0)), Ae (by simp [val]), by simp, by omega, fun x hx => (by cases hx), World.ownsRow_nil _ _ _ _, by simp, by simp [go_sem], by simp [go_sem], by simp [go_sem], by simp [go_sem], by go_grown⟩
 case round =>
  obtain ⟨l, v, rfl, hv, hl3, hvb, hlt, hown, hlr, k0, k1, f0, f1, HB⟩ := hrel
  have HBz := HB.size
  have HLT := Ae hlt
  clear hlt
  by_cases hp : 0 < v
  ·exact qAp
  ·obtain rfl : v = 0 := by omega
   have hv0 := Ae (show val l = A by have := hv.out; simpa using this)
   obtain ⟨a', c', rfl, hr, hfr⟩ := Dr hown qB (fun i => Bi (fun x hx => by have := HLT.out x hx; omega) i)
   go_wp2_with fail
   refine (Fb _ false a' l.length c' l hr HLT.out).mono ?_
   exact qBc
theorem cI (w : World) (A : Nat) (hA : A ≤ 9223372036854775808) (hA0 : 0 < A) : Calls Tryz.prog 189 #[.int .i64 (-(A : Int))] w (C4 w (-(A : Int))) := by
 obtain ⟨i0, hi, hz0, hz1, hz2⟩ := info_parts Cu
 have HB := Ac w.heap.size w
 have hneg : -(A : Int) < 0 := by omega
 have hmin : -9223372036854775808 ≤ -(A : Int) := by omega
 go_enter Tryz.func189, Tryz.ntmps189
 go_wp2_with fail
 go_loopw [4, 5] (fun v3 v4 wr => ∃ (l : List Nat) (v : Nat), v3 = .int .u64 v ∧ Hid (val l + 1000000000 ^ l.length * v = A) ∧ l.length ≤ 3 ∧ v ≤ 9223372036854775808 ∧ (∀ x ∈ l, x < 1000000000) ∧ wr.ownsRow (w.heap.size + 1) 112 1 v4 l.length (Bv l) ∧ w.heap.size < wr.heap.size ∧ wr.cell? ⟨w.heap.size, 0, none⟩ = some (.bool false) ∧ wr.cell? ⟨w.heap.size, 1, none⟩ = some (.slice none 0 0) ∧ wr.frozen? ⟨w.heap.size, 0, none⟩ = false ∧ wr.frozen? ⟨w.heap.size, 1, none⟩ = false ∧ Below w.heap.size w wr) (fun v3 _ _ => (intOf v3).toNat)
 case atStart => exact ⟨[], A, (by first | rfl | exact congrArg (Value.int .u64) (Lq A hA hA0)), Ae (by simp [val]), by simp, by omega, fun x hx => (by cases hx), World.ownsRow_nil _ _ _ _, by simp, by simp [go_sem], by simp [go_sem], by simp [go_sem], by simp [go_sem], by go_grown⟩
 case round =>
  obtain ⟨l, v, rfl, hv, hl3, hvb, hlt, hown, hlr, k0, k1, f0, f1, HB⟩ := hrel
  have HBz := HB.size
  have HLT := Ae hlt
  clear hlt
  by_cases hp : 0 < v
  ·exact qAp
  ·obtain rfl : v = 0 := by omega
   have hv0 := Ae (show val l = A by have := hv.out; simpa using this)
   obtain ⟨a', c', rfl, hr, hfr⟩ := Dr hown qB (fun i => Bi (fun x hx => by have := HLT.out x hx; omega) i)
   go_wp2_with fail
   refine (Fb _ true a' l.length c' l hr HLT.out).mono ?_
   exact qBc
theorem bF (w : World) (z : Int) (h0 : -9223372036854775808 ≤ z) (h1 : z ≤ 9223372036854775807) : Calls Tryz.prog 189 #[.int .i64 z] w (C4 w z) := by
 rcases Int.lt_or_le z 0 with h | h
 ·obtain ⟨A, rfl⟩ : ∃ A : Nat, z = -(A : Int) := ⟨z.natAbs, by omega⟩
  exact cI w A qB qB
 ·obtain ⟨A, rfl⟩ := Int.eq_ofNat_of_zero_le h
  exact dL w A qB
theorem J4 (w : World) (g : Bool) (a : Option Addr) (n c : Nat) (z : Int) (h : A4 w g a n c z) :
  Calls Tryz.prog 122 #[.agg #[.bool g, .slice a n c]] w (C4 w z) := by
 obtain ⟨i0, hi, hz0, hz1, hz2⟩ := info_parts Cu
 have HB := Ac w.heap.size w
 have hn := h.bound
 have hd := h.rd
 have hlen := hd.len
 have hcap := hd.cap
 have HG := Ae h.neg
 rcases Aq n with rfl | hp
 ·have HD := Ae (List.eq_nil_of_length_eq_zero hlen)
  clear hlen hd
  go_enter Tryz.func122, Tryz.ntmps122
  go_wp2_with fail
  go_region_held3 (fun W => W.cell? ⟨w.heap.size, 0, none⟩ = some (.bool g) ∧ W.cell? ⟨w.heap.size, 1, none⟩ = some (.slice a 0 c)) (first | ((try dsimp only); (repeat' apply And.intro); all_goals (first | (with_reducible assumption) | (go_keep; done) | (simp [*, go_sem]; done)))) ((refine Ka rfl _ _ _ rfl (w.heap.size + 1) 112 i0 1 Tryz.underlying57 hi (.slice none 0 0) 0 [] qP (World.ownsRow_nil _ _ _ _) a c qP ?_))
  go_wp2_with fail
  refine bodyPost_ret (v := .agg #[.bool g, .slice none 0 0]) (by simp [results, Tryz.results122, go_sem]) rfl ?_
  refine ⟨g, none, 0, 0, rfl, ⟨HG.out, ?_⟩, .nil _ _ _, by go_grown⟩
  rw [HD.out]
  exact ⟨rfl, Ad _, by omega, by omega, fun i => by simp [lim], .inl rfl⟩
 ·obtain ⟨b, o, rfl, _⟩ := hd.cell.resolve_left qB
  have hcs := Ae (fun (W : World) (hW : Below w.heap.size w W) => H5 (hd.keep hW))
  go_enter Tryz.func122, Tryz.ntmps122
  go_wp2_with fail
  go_region_held3 (fun W => W.cell? ⟨w.heap.size, 0, none⟩ = some (.bool g) ∧ W.cell? ⟨w.heap.size, 1, none⟩ = some (.slice (some ⟨b, o, none⟩) n c)) (first | ((try dsimp only); (repeat' apply And.intro); all_goals (first | (with_reducible assumption) | (go_keep; done) | (simp [*, go_sem]; done)))) ((refine step_append_lies _ qP _ _ _ qP (w.heap.size + 1 + 1) 112 i0 (.int .u32 0) 1 4 Tryz.underlying57 hi hz0 hz1 hz2 rfl qB (.slice none 0 0) 0 [] qP (World.ownsRow_nil _ _ _ _) ⟨b, o, none⟩ n c (Bv (dg z.natAbs)) qP (by rw [Cf, hlen]; omega) (hcs.out _ qF) (I3 _) hp qO qB qA _ rfl ?_; intro gg cap w1 hown1 hgrow hat hlt; have hb := (Ac _ _).grown hgrow (Ad _) (fun k h => by cases h); obtain ⟨hc, hf⟩ := Ax hb; have hz := hb.size; (try simp only [Aj, Ak] at hz); replace HB := zD w hb; obtain ⟨s0_0, s0_1⟩ := qX hc (w.heap.size) (.bool g) (.slice (some ⟨b, o, none⟩) n c); obtain ⟨s1_0, s1_1⟩ := qZ hc (w.heap.size + 1); obtain ⟨f1_0, f1_1⟩ := zA hf (w.heap.size + 1)))
  rw [Nat.zero_add, List.nil_append] at hown1
  obtain ⟨a', c', he, hr, hfr⟩ := Dr hown1 hn hd.small
  obtain ⟨rfl, _, rfl⟩ := Value.slice.inj he
  go_wp2_with fail
  refine bodyPost_ret (v := .agg #[.bool g, .slice (some ⟨gg, 0, none⟩) n cap]) (by simp [results, Tryz.results122, go_sem, s1_0, s1_1]) rfl ?_
  refine ⟨g, _, n, cap, rfl, ?_, ((hfr.setNew _ _ (by show w.heap.size + 1 < _; omega)).setNew _ _ (by show w.heap.size + 1 < _; omega)).mono qB, by go_grown⟩
  exact ((show A4 w1 g _ n cap z from ⟨HG.out, hr⟩).setFresh hfr _ _ (by show w.heap.size + 1 < _; omega)).setFresh (hfr.setNew _ _ (by show w.heap.size + 1 < _; omega)) _ _ (by show w.heap.size + 1 < _; omega)
theorem Q0 (w : World) (a : Option Addr) (n c : Nat) (d : List Nat) (a' : Option Addr) (n' c' : Nat) (d' : List Nat) (hd : RdL w a n c d) (hd' : RdL w a' n' c' d') (hc : C8 d) (hc' : C8 d') :
  Calls Tryz.prog 250 #[.slice a n c, .slice a' n' c'] w (Qc w (val d) (val d')) := by
 have hl := hd.len
 have hl' := hd'.len
 have hn := hd.few
 have hn' := hd'.few
 have HB := Ac w.heap.size w
 rcases Nat.lt_trichotomy n n' with h | h | h
 ·have HR := Ae (show Br (val d : Int) (val d') = -1 from Dm (by have := Kv hc hc' qB; omega))
  go_enter Tryz.func250, Tryz.ntmps250
  go_wp2_with fail
  go_ret
  exact ⟨by rw [HR.out]; rfl, HB⟩
 ·subst h
  go_enter Tryz.func250, Tryz.ntmps250
  go_wp2_with fail
  go_loopw [5] (fun v5 wr => ∃ k : Nat, k ≤ n ∧ v5 = .int .i64 ((k : Int) - 1) ∧ Hid (d.drop k = d'.drop k) ∧ Below w.heap.size w wr) (fun v5 _ => (intOf v5 + 1).toNat)
  case atStart => exact ⟨n, Ad _, by first | rfl | (rw [IntWalk.i64_in _ qB]), Ae (by rw [List.drop_of_length_le qB, List.drop_of_length_le qB]), HB⟩
  case round =>
   obtain ⟨k, hk, rfl, HD, HBr⟩ := hrel
   match k with
   | 0 =>
    rw [show ((0 : Nat) : Int) - 1 = -1 from rfl]
    have HR := Ae (show Br (val d : Int) (val d') = 0 by have := HD.out; rw [List.drop_zero, List.drop_zero] at this; rw [this]; exact C9 _)
    go_wp2_with fail
    go_ret
    exact ⟨by rw [HR.out]; rfl, HBr⟩
   | j + 1 =>
    rw [show ((j + 1 : Nat) : Int) - 1 = (j : Int) from by omega]
    obtain ⟨b, o, rfl, c1⟩ := (hd.keep HBr).at' (i := j) qB
    obtain ⟨b', o', rfl, c2⟩ := (hd'.keep HBr).at' (i := j) qB
    rcases Int.lt_trichotomy (lim d j) (lim d' j) with h1 | h1 | h1
    ·have HR := Ae (show Br (val d : Int) (val d') = -1 by rw [← N5 qB qB hc.1 hc'.1 HD.out qB]; exact Dm h1)
     exact qDs
    ·have HD2 := Ae (Nb qB qB HD.out h1)
     have e1 : decide (lim d j < lim d' j) = false := by rw [decide_eq_false_iff_not]; omega
     have e2 : decide (lim d' j < lim d j) = false := by rw [decide_eq_false_iff_not]; omega
     clear h1
     go_wp2_with fail
     go_quiet (fail)
     go_wp2_with fail
     go_quiet (fail)
     go_wp2_with fail
     go_roundw
     case rel => exact ⟨j, by omega, by first | rfl | (rw [IntWalk.i64_in _ qB]), HD2, Ay _ HBr⟩
     case measure => (first | (simp [intOf]; omega) | (simp [intOf]; done))
    ·have HR := Ae (show Br (val d : Int) (val d') = 1 by rw [← N5 qB qB hc.1 hc'.1 HD.out qB]; exact Ct h1)
     have e1 : decide (lim d j < lim d' j) = false := by rw [decide_eq_false_iff_not]; omega
     go_wp2_with fail
     go_quiet (fail)
     exact qDs
 ·have HR := Ae (show Br (val d : Int) (val d') = 1 from Ct (by have := Kv hc' hc qB; omega))
  go_enter Tryz.func250, Tryz.ntmps250
  go_wp2_with fail
  go_ret
  exact ⟨by rw [HR.out]; rfl, HB⟩
theorem fB {z : Int} (g : Bool) (h : g = decide (z < 0)) : sgn (!g) (val (dg z.natAbs)) = -z := by
 rw [Ba, h]
 by_cases hz : z < 0
 ·simp [sgn, hz]; omega
 ·simp [sgn, hz]; omega
theorem Zk (w : World) (g : Bool) (a : Option Addr) (n c : Nat) (z : Int) (h : A4 w g a n c z) :
  Calls Tryz.prog 121 #[.agg #[.bool g, .slice a n c]] w (C4 w (-z)) := by
 have HB := Ac w.heap.size w
 go_enter Tryz.func121, Tryz.ntmps121
 go_wp2_with fail
 refine (Fq _ _ _ _ _ _ (h.keep qF)).mono ?_
 rintro e w1 ⟨rfl, hb⟩
 obtain ⟨hc, hf⟩ := Ax hb; have hz := hb.size; (try simp only [Aj, Ak] at hz)
 replace HB := zD w hb
 obtain ⟨s0_0, s0_1⟩ := qX hc (w.heap.size) (.bool g) (.slice a n c); obtain ⟨s1_0, s1_1⟩ := qZ hc (w.heap.size + 1); obtain ⟨f1_0, f1_1⟩ := zA hf (w.heap.size + 1); obtain ⟨f0_0, f0_1⟩ := zA hf (w.heap.size)
 have hk1 : w.heap.size + 1 < w1.heap.size := by omega
 clear hc hf hb hz
 go_wp2_with fail
 refine (J4 _ _ _ _ _ z (h.keep qF)).mono ?_
 rintro e w2 ⟨g2, a2, n2, c2, rfl, hn2, hfr2, hb⟩
 obtain ⟨hc, hf⟩ := Ax hb; have hz := hb.size; (try simp only [Aj, Ak] at hz)
 replace HB := zD w hb
 obtain ⟨s0_0, s0_1⟩ := qX hc (w.heap.size) (.bool g) (.slice a n c); obtain ⟨s1_0, s1_1⟩ := qZ hc (w.heap.size + 1); obtain ⟨f1_0, f1_1⟩ := zA hf (w.heap.size + 1); obtain ⟨f0_0, f0_1⟩ := zA hf (w.heap.size)
 have hk2 : w.heap.size + 1 < w2.heap.size := by omega
 clear hc hf hb
 go_wp2_with fail
 have HG := Ae hn2.neg
 refine (Fb _ _ _ _ _ (dg z.natAbs) (((hn2.rd.setFresh hfr2 _ _ (by show w.heap.size < _; omega)).setFresh (hfr2.setNew _ _ (by show w.heap.size < _; omega)) _ _ (by show w.heap.size < _; omega))) (Dj _)).mono ?_
 rintro e w3 ⟨g3, n3, rfl, hn3, hnum3, hb⟩
 obtain ⟨hc, hf⟩ := Ax hb; have hz := hb.size; (try simp only [Aj, Ak] at hz)
 replace HB := zD w hb
 obtain ⟨s1_0, s1_1⟩ := qZ hc (w.heap.size + 1); obtain ⟨f1_0, f1_1⟩ := zA hf (w.heap.size + 1)
 rw [fB g2 HG.out] at hnum3
 have hfr3 : Av (w.heap.size + 1 + 1) w3 a2 c2 := ((((hfr2.setNew _ _ (by show w.heap.size < _; omega)).setNew _ _ (by show w.heap.size < _; omega)).keep hb).mono qB)
 have hk3 : w.heap.size + 1 < w3.heap.size := by simp at hz; omega
 clear hc hf hb
 go_wp2_with fail
 refine bodyPost_ret (v := .agg #[.bool g3, .slice a2 n3 c2]) (by simp [results, Tryz.results121, go_sem, s1_0, s1_1]) rfl ?_
 refine ⟨g3, a2, n3, c2, rfl, ?_, ((hfr3.setNew _ _ (by show w.heap.size + 1 < _; omega)).setNew _ _ (by show w.heap.size + 1 < _; omega)).mono qB, by go_grown⟩
 exact (hnum3.setFresh hfr3 _ _ (by show w.heap.size + 1 < _; omega)).setFresh (hfr3.setNew _ _ (by show w.heap.size + 1 < _; omega)) _ _ (by show w.heap.size + 1 < _; omega)
end Go.Proofs.YtdamegaedmckbaaGreatDoor
end
section
namespace Go.Proofs.YtdamegaedmckbaaGreatDoor
theorem Dt (d : List Nat) (i : Nat) : val (d.take (i + 1)) = val (d.take i) + 1000000000 ^ i * d.getD i 0 := by
 by_cases hi : i < d.length
 ·exact Gk d i hi
 ·rw [As qB, As qB]
  simp [List.getD, List.getElem?_eq_none (Nat.le_of_not_lt hi)]
theorem Xq {l d d' : List Nat} {k v : Nat} (hl : l.length = k) (h : val l + 1000000000 ^ k * v = val (d.take k) + val (d'.take k)) (t : Nat) (ht : t = v + d.getD k 0 + d'.getD k 0) :
  val (l ++ [t % 1000000000]) + 1000000000 ^ (k + 1) * (t / 1000000000) = val (d.take (k + 1)) + val (d'.take (k + 1)) := by
 rw [Nc, hl, Dt, Dt, Nat.pow_succ, Nat.mul_assoc, Nat.add_assoc, ← Nat.mul_add]
 have e : t % 1000000000 + 1000000000 * (t / 1000000000) = t := by omega
 rw [e, ht, Nat.mul_add, Nat.mul_add]
 omega
theorem Xu {l d d' : List Nat} {k v v' x : Nat} (hl : l.length = k) (h : val l + val (d'.take k) = val (d.take k) + 1000000000 ^ k * v) (hx : x + v + d'.getD k 0 = d.getD k 0 + 1000000000 * v') :
  val (l ++ [x]) + val (d'.take (k + 1)) = val (d.take (k + 1)) + 1000000000 ^ (k + 1) * v' := by
 rw [Nc, hl, Dt, Dt, Nat.pow_succ, Nat.mul_assoc]
 have e := congrArg (1000000000 ^ k * ·) hx
 simp only [Nat.mul_add] at e
 omega
theorem aN {l d d' : List Nat} {k v : Nat} (hl : l.length = k) (hlt : ∀ x ∈ l, x < 1000000000) (h : val l + val d' = val d + 1000000000 ^ k * v) (hv : val d' ≤ val d) : val l = val d - val d' := by
 have h1 := Eg l hlt
 rw [hl] at h1
 rcases Aq v with rfl | hp
 ·omega
 ·have := At (1000000000 ^ k) hp
  omega
end Go.Proofs.YtdamegaedmckbaaGreatDoor
end
section
namespace Go.Proofs.YtdamegaedmckbaaGreatDoor
open Go.RowKit
def aC (w : World) (v m : Nat) (e : Ending) (w' : World) : Prop :=
 ∃ a k c q, e = .returned (.slice a k c) ∧ RdL w' a k c q ∧ val q = v ∧ (∀ x ∈ q, x < 1000000000) ∧ k ≤ m ∧ Av w.heap.size w' a c ∧ Below w.heap.size w w'
theorem La {d : List Nat} {i : Nat} (h : d.length ≤ i) : d.getD i 0 = 0 := by simp [List.getD, List.getElem?_eq_none h]
theorem Cc {d : List Nat} (h : ∀ x ∈ d, x < 1000000000) (i : Nat) : d.getD i 0 < 1000000000 := by
 by_cases hi : i < d.length
 ·simp only [List.getD, Ai hi, Option.getD_some]; exact h _ (List.getElem_mem hi)
 ·rw [La qB]; omega
theorem eO (w : World) (a : Option Addr) (n c : Nat) (d : List Nat) (a' : Option Addr) (n' c' : Nat) (d' : List Nat) (hd : RdL w a n c d) (hd' : RdL w a' n' c' d') (hlt : ∀ x ∈ d, x < 1000000000) (hlt' : ∀ x ∈ d', x < 1000000000) (hn : n < 35184372088832) (hn' : n' < 35184372088832) :
  Calls Tryz.prog 249 #[.slice a n c, .slice a' n' c'] w (aC w (val d + val d') (max n n' + 1)) := by
 obtain ⟨i0, hi, hz0, hz1, hz2⟩ := info_parts Cu
 have hl := Ae hd.len
 have hl' := Ae hd'.len
 have HB := Ac w.heap.size w
 have HLT := Ae hlt
 have HLT' := Ae hlt'
 clear hlt hlt'
 obtain ⟨m, hm⟩ : ∃ m, m = max n n' := ⟨_, rfl⟩
 have hm1 : n ≤ m := by omega
 have hm2 : n' ≤ m := by omega
 have hm3 : m < 35184372088832 := by omega
 have HM := Ae hm
 clear hm
 go_enter Tryz.func249, Tryz.ntmps249
 go_wp2_with fail
 go_loopw [5, 6, 7] (fun v5 v6 v7 wr => ∃ (k v : Nat) (l : List Nat), k ≤ m + 1 ∧ v7 = .int .i64 k ∧ v6 = .int .u32 v ∧ v ≤ 1 ∧ (m < k → v = 0) ∧ Hid (l.length = k) ∧ Hid (val l + 1000000000 ^ k * v = val (d.take k) + val (d'.take k)) ∧ Hid (∀ x ∈ l, x < 1000000000) ∧ wr.ownsRow w.heap.size 112 1 v5 k (Bv l) ∧ Below w.heap.size w wr) (fun _ _ v7 _ => m + 1 - (intOf v7).toNat)
 case atStart => exact ⟨0, 0, [], by omega, rfl, rfl, by omega, fun _ => rfl, Ae rfl, Ae (by simp [val]), Ae (fun x hx => (by cases hx)), World.ownsRow_nil _ _ _ _, HB⟩
 case round =>
  obtain ⟨k, v, l, hk, rfl, rfl, hv, hvz, HLL, HS, HQ, hown, HBr⟩ := hrel
  have HBz := HBr.size
  have HVZ := Ae hvz
  clear hvz HB
  have hx0 := Cc HLT.out k
  have hy0 := Cc HLT'.out k
  have hx1 : lim d k = ((d.getD k 0 : Nat) : Int) := rfl
  have hy1 : lim d' k = ((d'.getD k 0 : Nat) : Int) := rfl
  have hxo : n ≤ k → d.getD k 0 = 0 := fun h => La (by have := hl.out; omega)
  have hyo : n' ≤ k → d'.getD k 0 = 0 := fun h => La (by have := hl'.out; omega)
  have HST := Ae (fun t ht => Xq HLL.out HS.out (d := d) (d' := d') t ht)
  generalize d.getD k 0 = x at *
  generalize d'.getD k 0 = y at *
  have HXO := Ae hxo
  have HYO := Ae hyo
  clear hxo hyo
  have HX1 := Ae hx1
  have HY1 := Ae hy1
  clear hx1 hy1
  by_cases h1 : k < n
  ·obtain ⟨b, o, rfl, c1⟩ := (hd.keep HBr).at' h1
   rw [HX1.out] at c1
   by_cases h2 : k < n'
   ·obtain ⟨b', o', rfl, c2⟩ := (hd'.keep HBr).at' h2
    rw [HY1.out] at c2
    go_wp2_with (at_builtin; refine wpList_append_own _ rfl _ _ 57 rfl w.heap.size 112 i0 (.int .u32 0) 1 4 Tryz.underlying57 hi hz0 hz1 hz2 rfl qC _ _ _ rfl (hown.alloc _) ⟨wr.heap.size, 0, none⟩ 1 1 [.int .u32 (((v : Int) + x + y) % 1000000000)] rfl rfl (cell_one_new _ _ _) (by simp [Value.oneCell']) qO qB qA ?_; intro v' w2 hown2 hgrow2 _)
    have hb2 : Below w.heap.size wr w2 := ((Ac w.heap.size wr).alloc qB _).grown hgrow2 qA (fun k hk => (hown.lt k hk).1)
    go_roundw
    case rel =>
     have hs := HST.out (v + x + y) qB
     refine ⟨k + 1, (v + x + y) / 1000000000, l ++ [(v + x + y) % 1000000000], by omega, by go_num, by simp, by omega, fun h => by omega, Ae (by simp [HLL.out]), Ae hs, Ae (fun z hz => ?_), ?_, HBr.trans hb2⟩
     ·exact qBx
     ·rw [Ce]; exact hown2
    case measure => simp [intOf]; omega
   ·have h2' : n' ≤ k := by omega
    obtain rfl := HYO.out qB
    go_wp2_with (at_builtin; refine wpList_append_own _ rfl _ _ 57 rfl w.heap.size 112 i0 (.int .u32 0) 1 4 Tryz.underlying57 hi hz0 hz1 hz2 rfl qC _ _ _ rfl (hown.alloc _) ⟨wr.heap.size, 0, none⟩ 1 1 [.int .u32 (((v : Int) + x) % 1000000000)] rfl rfl (cell_one_new _ _ _) (by simp [Value.oneCell']) qO qB qA ?_; intro v' w2 hown2 hgrow2 _)
    have hb2 : Below w.heap.size wr w2 := ((Ac w.heap.size wr).alloc qB _).grown hgrow2 qA (fun k hk => (hown.lt k hk).1)
    go_roundw
    case rel =>
     have hs := HST.out (v + x) qB
     refine ⟨k + 1, (v + x) / 1000000000, l ++ [(v + x) % 1000000000], by omega, by go_num, by simp, by omega, fun h => by omega, Ae (by simp [HLL.out]), Ae hs, Ae (fun z hz => ?_), ?_, HBr.trans hb2⟩
     ·exact qBx
     ·rw [Ce]; exact hown2
    case measure => simp [intOf]; omega
  ·have h1' : n ≤ k := by omega
   by_cases h2 : k < n'
   ·obtain ⟨b', o', rfl, c2⟩ := (hd'.keep HBr).at' h2
    rw [HY1.out] at c2
    obtain rfl := HXO.out qB
    go_wp2_with (at_builtin; refine wpList_append_own _ rfl _ _ 57 rfl w.heap.size 112 i0 (.int .u32 0) 1 4 Tryz.underlying57 hi hz0 hz1 hz2 rfl qC _ _ _ rfl (hown.alloc _) ⟨wr.heap.size, 0, none⟩ 1 1 [.int .u32 (((v : Int) + y) % 1000000000)] rfl rfl (cell_one_new _ _ _) (by simp [Value.oneCell']) qO qB qA ?_; intro v' w2 hown2 hgrow2 _)
    have hb2 : Below w.heap.size wr w2 := ((Ac w.heap.size wr).alloc qB _).grown hgrow2 qA (fun k hk => (hown.lt k hk).1)
    go_roundw
    case rel =>
     have hs := HST.out (v + y) qB
     refine ⟨k + 1, (v + y) / 1000000000, l ++ [(v + y) % 1000000000], by omega, by go_num, by simp, by omega, fun h => by omega, Ae (by simp [HLL.out]), Ae hs, Ae (fun z hz => ?_), ?_, HBr.trans hb2⟩
     ·exact qBx
     ·rw [Ce]; exact hown2
    case measure => simp [intOf]; omega
   ·have h2' : n' ≤ k := by omega
    by_cases h3 : 0 < v
    ·have h4 : k ≤ m := by
      rcases Nat.lt_or_ge m k with h | h
      ·have := HVZ.out h; omega
      ·exact h
     obtain rfl := HXO.out qB
     obtain rfl := HYO.out qB
     go_wp2_with (at_builtin; refine wpList_append_own _ rfl _ _ 57 rfl w.heap.size 112 i0 (.int .u32 0) 1 4 Tryz.underlying57 hi hz0 hz1 hz2 rfl qC _ _ _ rfl (hown.alloc _) ⟨wr.heap.size, 0, none⟩ 1 1 [.int .u32 (((v : Int)) % 1000000000)] rfl rfl (cell_one_new _ _ _) (by simp [Value.oneCell']) qO qB qA ?_; intro v' w2 hown2 hgrow2 _)
     have hb2 : Below w.heap.size wr w2 := ((Ac w.heap.size wr).alloc qB _).grown hgrow2 qA (fun k hk => (hown.lt k hk).1)
     go_roundw
     case rel =>
      have hs := HST.out (v) qB
      refine ⟨k + 1, (v) / 1000000000, l ++ [(v) % 1000000000], by omega, by go_num, by simp, by omega, fun h => by omega, Ae (by simp [HLL.out]), Ae hs, Ae (fun z hz => ?_), ?_, HBr.trans hb2⟩
      ·exact qBx
      ·rw [Ce]; exact hown2
     case measure => simp [intOf]; omega
    ·obtain rfl : v = 0 := by omega
     obtain ⟨a2, c2, rfl, hr, hfr⟩ := Dr hown qB (fun i => Bi (fun x hx => by have := HQ.out x hx; omega) i)
     go_wp2_with fail
     go_ret
     refine ⟨a2, k, c2, l, rfl, hr, ?_, HQ.out, by rw [← HM.out]; exact hk, hfr, HBr⟩
     have := HS.out
     rw [As (by have := hl.out; omega), As (by have := hl'.out; omega), Nat.mul_zero, Nat.add_zero] at this
     exact this
end Go.Proofs.YtdamegaedmckbaaGreatDoor
end
section
namespace Go.Proofs.YtdamegaedmckbaaGreatDoor
theorem Jm : ∀ (l : List Nat) (j y : Nat), j < l.length → val (l.set j y) + 1000000000 ^ j * l.getD j 0 = val l + 1000000000 ^ j * y
 | [], j, y, h => by simp at h
 | x :: l, 0, y, _ => by simp [val]; omega
 | x :: l, j + 1, y, h => by
  have ih := Jm l j y (by simpa using h)
  simp only [List.set_cons_succ, val, List.getD_cons_succ, Nat.pow_succ]
  have e1 : 1000000000 ^ j * 1000000000 * l.getD j 0 = 1000000000 * (1000000000 ^ j * l.getD j 0) := by rw [Nat.mul_comm (1000000000 ^ j) 1000000000, Nat.mul_assoc]
  have e2 : 1000000000 ^ j * 1000000000 * y = 1000000000 * (1000000000 ^ j * y) := by rw [Nat.mul_comm (1000000000 ^ j) 1000000000, Nat.mul_assoc]
  rw [e1, e2]
  omega
theorem Zs {l : List Nat} {j on V W t x y : Nat} (hj : j < l.length) (h : val l + 1000000000 ^ j * on = V + W) (ht : t = on + x * y + l.getD j 0) :
  val (l.set j (t % 1000000000)) + 1000000000 ^ (j + 1) * (t / 1000000000) = V + (W + 1000000000 ^ j * (x * y)) := by
 have h1 := Jm l j (t % 1000000000) hj
 have h2 := Nat.mod_add_div t 1000000000
 have h3 : 1000000000 ^ j * t = 1000000000 ^ j * (t % 1000000000) + 1000000000 ^ (j + 1) * (t / 1000000000) := by
  rw [Nat.pow_succ, Nat.mul_assoc, ← Nat.mul_add, h2]
 have h4 : 1000000000 ^ j * t = 1000000000 ^ j * on + 1000000000 ^ j * (x * y) + 1000000000 ^ j * l.getD j 0 := by rw [ht, Nat.mul_add, Nat.mul_add]
 omega
theorem Yv {l : List Nat} {j on V W : Nat} (hj : j < l.length) (h : val l + 1000000000 ^ j * on = V + W) (hz : l.getD j 0 = 0) :
  val (l.set j on) = V + W := by
 have h1 := Jm l j on hj
 rw [hz] at h1
 omega
theorem Ly {x y u on : Nat} (hx : x < 1000000000) (hy : y < 1000000000) (hu : u < 1000000000) (ho : on < 1000000000) : on + x * y + u < 1000000000 * 1000000000 := by
 have h := Nat.mul_le_mul (show x ≤ 999999999 by omega) (show y ≤ 999999999 by omega)
 omega
structure Ga (da db : List Nat) (i k on : Nat) (l : List Nat) : Prop where
 len : l.length = da.length + db.length
 lt : ∀ x ∈ l, x < 1000000000
 zero : ∀ j, i + db.length ≤ j → l.getD j 0 = 0
 few : on < 1000000000
 eq : val l + 1000000000 ^ (i + k) * on = val (da.take i) * val db + da.getD i 0 * (1000000000 ^ i * val (db.take k))
theorem Gl (m : Nat) : val (List.replicate m 0) = 0 := Oy _ (fun x hx => (List.mem_replicate.1 hx).2)
theorem Ga.start (da db : List Nat) : Ga da db 0 0 0 (List.replicate (da.length + db.length) 0) where
 len := by simp
 lt _ hx := by rw [(List.mem_replicate.1 hx).2]; omega
 zero j _ := by simp only [List.getD, List.getElem?_replicate]; split <;> rfl
 few := by omega
 eq := by rw [Gl, List.take_zero, List.take_zero, show val [] = 0 from rfl, Nat.mul_zero, Nat.mul_zero, Nat.zero_mul]
theorem Fo {l : List Nat} {j j' y : Nat} (h : j ≠ j') : (l.set j y).getD j' 0 = l.getD j' 0 := by
 simp only [List.getD, List.getElem?_set_ne h]
theorem Gc {l : List Nat} {j y : Nat} (h : ∀ x ∈ l, x < 1000000000) (hy : y < 1000000000) : ∀ x ∈ l.set j y, x < 1000000000 := by
 intro x hx
 rcases List.mem_or_eq_of_mem_set hx with hx | rfl
 ·exact h x hx
 ·exact hy
theorem Ga.step {da db : List Nat} {i k on : Nat} {l : List Nat} (h : Ga da db i k on l) (ha : ∀ x ∈ da, x < 1000000000) (hb : ∀ x ∈ db, x < 1000000000) (hi : i < da.length) (hk : k < db.length) {t : Nat} (ht : t = on + da.getD i 0 * db.getD k 0 + l.getD (i + k) 0) :
  Ga da db i (k + 1) (t / 1000000000) (l.set (i + k) (t % 1000000000)) where
 len := by rw [List.length_set]; exact h.len
 lt := Gc h.lt qB
 zero j hj := by rw [Fo qB]; exact h.zero j hj
 few := by
  have := Ly (Cc ha i) (Cc hb k) (Cc h.lt (i + k)) h.few
  rw [← ht] at this
  exact Nat.div_lt_of_lt_mul this
 eq := by
  have hlen := h.len
  have := Zs (j := i + k) qB h.eq ht
  rw [Dt db k, show i + (k + 1) = i + k + 1 from rfl, this, Nat.mul_add, Nat.mul_add, Nat.pow_add]
  have e : 1000000000 ^ i * 1000000000 ^ k * (da.getD i 0 * db.getD k 0) = da.getD i 0 * (1000000000 ^ i * (1000000000 ^ k * db.getD k 0)) := by
   rw [Nat.mul_left_comm, Nat.mul_assoc]
  rw [e]
theorem Ga.next {da db : List Nat} {i on : Nat} {l : List Nat} (h : Ga da db i db.length on l) (hi : i < da.length) :
  Ga da db (i + 1) 0 0 (l.set (i + db.length) on) where
 len := by rw [List.length_set]; exact h.len
 lt := Gc h.lt h.few
 zero j hj := by rw [Fo qB]; exact h.zero j qB
 few := by omega
 eq := by
  have hlen := h.len
  have := Yv (j := i + db.length) qB h.eq (h.zero _ (Ad _))
  rw [List.take_length] at this
  rw [Nat.mul_zero, Nat.add_zero, List.take_zero, show val [] = 0 from rfl, Nat.mul_zero, Nat.mul_zero, Nat.add_zero, this, Dt da i, Nat.add_mul, Nat.mul_comm (1000000000 ^ i) (da.getD i 0), Nat.mul_assoc]
theorem Ga.done {da db : List Nat} {l : List Nat} (h : Ga da db da.length 0 0 l) : val l = val da * val db := by
 have := h.eq
 rw [List.take_length, List.take_zero, show val [] = 0 from rfl, Nat.mul_zero, Nat.mul_zero, Nat.mul_zero, Nat.add_zero, Nat.add_zero] at this
 exact this
theorem Wr {g g' : Bool} {z z' : Int} (h : g = decide (z < 0)) (h' : g' = decide (z' < 0)) : sgn (g != g') (val (dg z.natAbs) * val (dg z'.natAbs)) = z * z' := by
 rw [Ba, Ba]
 have e : ∀ x : Int, x = sgn (decide (x < 0)) x.natAbs := by
  intro x
  unfold sgn
  by_cases k : x < 0
  ·rw [decide_eq_true k]; simp; omega
  ·rw [decide_eq_false k]; simp; omega
 have e1 := e z
 have e2 := e z'
 rw [← h] at e1
 rw [← h'] at e2
 generalize z.natAbs = A at *
 generalize z'.natAbs = B at *
 rw [e1, e2]
 clear h h' e1 e2
 cases g <;> cases g' <;> simp [sgn, Int.neg_mul, Int.mul_neg]
end Go.Proofs.YtdamegaedmckbaaGreatDoor
end
