/- Package fracs: Add, Mul. -/
import Derived.Test.YtdamegaedmckbaaGreatDoorQP18
set_option linter.unusedSimpArgs false
set_option linter.unusedVariables false
set_option maxRecDepth 100000
set_option maxHeartbeats 4000000
section
namespace Go.Proofs.YtdamegaedmckbaaGreatDoor
open Go.RowKit
theorem Ur (x y : Nat) : (dg (x + y)).length ≤ (dg x).length + (dg y).length + 1 := by
 have h1 := Eg (dg x) (Dj x)
 have h2 := Eg (dg y) (Dj y)
 rw [Ba] at h1 h2
 obtain ⟨m, hm⟩ : ∃ m, m = (dg x).length + (dg y).length := ⟨_, rfl⟩
 have h3 : 1000000000 ^ (dg x).length ≤ 1000000000 ^ m := Nat.pow_le_pow_right qB qB
 have h4 : 1000000000 ^ (dg y).length ≤ 1000000000 ^ m := Nat.pow_le_pow_right qB qB
 have h5 : x + y < 1000000000 ^ (m + 1) := by rw [Nat.pow_succ]; omega
 rw [← hm]
 rcases Nat.lt_or_ge (m + 1) (dg (x + y)).length with h6 | h6
 ·exfalso
  have h7 := Vf (Bp (x + y)) rfl qB
  rw [Ba] at h7
  have h8 : 1000000000 ^ (m + 1) ≤ 1000000000 ^ ((dg (x + y)).length - 1) := Nat.pow_le_pow_right qB qB
  omega
 ·exact h6
theorem Ci (x y : Int) : (dg (x * y).natAbs).length ≤ (dg x.natAbs).length + (dg y.natAbs).length := by rw [Int.natAbs_mul]; exact Io _ _
theorem Mo (x y : Int) : (dg (x + y).natAbs).length ≤ (dg x.natAbs).length + (dg y.natAbs).length + 1 :=
 Ah (Be (Int.natAbs_add_le x y)) (Ur _ _)
def Fz (a b : Int) : Int := a / (Int.gcd a b : Int)
def Fj (a b : Int) : Int := b / (Int.gcd a b : Int)
theorem eC (w : World) (g : Bool) (a : Option Addr) (n c : Nat) (z : Int) (h : A4 w g a n c z) (g' : Bool) (a' : Option Addr) (n' c' : Nat) (z' : Int) (h' : A4 w g' a' n' c' z') (hb1 : n < 35184372088829) (hb2 : n' < 35184372088829) :
  Calls Tryz.prog 226 #[.agg #[.bool g, .slice a n c], .agg #[.bool g', .slice a' n' c']] w (C4 w (z + z')) := by
 have HB := Ac w.heap.size w
 go_enter Tryz.func226, Tryz.ntmps226
 go_wp2_with fail
 refine (R8 _ _ _ _ _ z (h.keep qF) _ _ _ _ z' (h'.keep qF) qB qB).mono ?_
 rintro e w1 ⟨g3, a3, n3, c3, rfl, hn3, hfr3, hb⟩
 obtain ⟨hc, hf⟩ := Ax hb; have hz := hb.size; (try simp only [Aj, Ak] at hz)
 replace HB := zD w hb
 obtain ⟨s0_0, s0_1⟩ := qX hc (w.heap.size) (.bool g) (.slice a n c); obtain ⟨s1_0, s1_1⟩ := qX hc (w.heap.size + 1) (.bool g') (.slice a' n' c'); obtain ⟨s2_0, s2_1⟩ := qZ hc (w.heap.size + 1 + 1); obtain ⟨f2_0, f2_1⟩ := zA hf (w.heap.size + 1 + 1)
 have hk1 : w.heap.size + 1 + 1 < w1.heap.size := by omega
 have hf3 : Av (w.heap.size + 1 + 1 + 1) w1 a3 c3 := hfr3.mono qA
 clear hc hf hb hz hfr3
 go_wp2_with fail
 refine bodyPost_ret (v := .agg #[.bool g3, .slice a3 n3 c3]) (by simp [results, Tryz.results226, go_sem, s2_0, s2_1]) rfl ?_
 refine ⟨g3, a3, n3, c3, rfl, ?_, ?_, by go_grown⟩
 ·exact qDp
 ·exact qBv
theorem eW (w : World) (g1 : Bool) (a1 : Option Addr) (n1 c1 : Nat) (p : Int) (g2 : Bool) (a2 : Option Addr) (n2 c2 : Nat) (q : Int) (h : Bj w g1 a1 n1 c1 p g2 a2 n2 c2 q)
  (g3 : Bool) (a3 : Option Addr) (n3 c3 : Nat) (p' : Int) (g4 : Bool) (a4 : Option Addr) (n4 c4 : Nat) (q' : Int) (h' : Bj w g3 a3 n3 c3 p' g4 a4 n4 c4 q') (hb1 : n1 ≤ 1000000000) (hb2 : n2 ≤ 1000000000) (hb3 : n3 ≤ 1000000000) (hb4 : n4 ≤ 1000000000) :
  Calls Tryz.prog 177 #[.agg #[.bool g1, .slice a1 n1 c1, .bool g2, .slice a2 n2 c2], .agg #[.bool g3, .slice a3 n3 c3, .bool g4, .slice a4 n4 c4]] w (Gr w (Fz (p * q' + p' * q) (q * q')) (Fj (p * q' + p' * q) (q * q'))) := by
 have HB := Ac w.heap.size w
 have e1 := h.top.rd.len
 have e2 := h.low.rd.len
 have e3 := h'.top.rd.len
 have e4 := h'.low.rd.len
 have i1 := Ci p q'
 have i2 := Ci p' q
 have i3 := Mo (p * q') (p' * q)
 have HD : Hid ((dg (p * q' + p' * q).natAbs).length < 35184372088829 ∧ (dg (p * q').natAbs).length < 35184372088829 ∧ (dg (p' * q).natAbs).length < 35184372088829) := Ae qB
 clear e1 e2 e3 e4 i1 i2 i3
 go_enter Tryz.func177, Tryz.ntmps177
 go_wp2_with fail
 refine Dv ?_
 intro w0 hw0
 have HB0 : Below w.heap.size w w0 := by rw [hw0]; go_grown
 have R0 : w0.cell? ⟨w.heap.size + 1 + 1, 0, none⟩ = some (.bool false) := by rw [hw0]; simp [go_sem]
 have R1 : w0.cell? ⟨w.heap.size + 1 + 1, 1, none⟩ = some (.slice none 0 0) := by rw [hw0]; simp [go_sem]
 have R2 : w0.cell? ⟨w.heap.size + 1 + 1, 2, none⟩ = some (.bool false) := by rw [hw0]; simp [go_sem]
 have R3 : w0.cell? ⟨w.heap.size + 1 + 1, 3, none⟩ = some (.slice none 0 0) := by rw [hw0]; simp [go_sem]
 have Rf0 : w0.frozen? ⟨w.heap.size + 1 + 1, 0, none⟩ = false := by rw [hw0]; simp [go_sem]
 have Rf1 : w0.frozen? ⟨w.heap.size + 1 + 1, 1, none⟩ = false := by rw [hw0]; simp [go_sem]
 have Rf2 : w0.frozen? ⟨w.heap.size + 1 + 1, 2, none⟩ = false := by rw [hw0]; simp [go_sem]
 have Rf3 : w0.frozen? ⟨w.heap.size + 1 + 1, 3, none⟩ = false := by rw [hw0]; simp [go_sem]
 have hk0 : w.heap.size + 1 + 1 + 1 ≤ w0.heap.size := Aa _ _ R0
 clear hw0
 refine (Yu _ _ _ _ _ _ _ _ _ _ _ (h.keep HB0) _ _ _ _ _ _ _ _ _ _ (h'.keep HB0) hb1 hb2 hb3 hb4 (p * q' + p' * q) HD.out.1 (fun W gx ax nx cx gy ay ny cy hW hx hy => eC W gx ax nx cx _ hx gy ay ny cy _ hy (by have := hx.rd.len; have := HD.out.2.1; omega) (by have := hy.rd.len; have := HD.out.2.2; omega))).mono ?_
 rintro e w1 ⟨ge, ae, ne, ce, gf, af, nf, cf, rfl, hr, hfe, hff, hap, hb⟩
 have HB1 := HB0.trans (hb.mono HB0.size)
 (replace Rf0 := (Ab hb (Aa _ _ R0)).trans Rf0; replace Rf1 := (Ab hb (Aa _ _ R1)).trans Rf1; replace Rf2 := (Ab hb (Aa _ _ R2)).trans Rf2; replace Rf3 := (Ab hb (Aa _ _ R3)).trans Rf3; replace R0 := Au hb R0; replace R1 := Au hb R1; replace R2 := Au hb R2; replace R3 := Au hb R3)
 have fe : Av (w.heap.size + 1 + 1 + 1) w1 ae ce := hfe.mono hk0
 have ff : Av (w.heap.size + 1 + 1 + 1) w1 af cf := hff.mono hk0
 have u2 : w.heap.size + 1 + 1 < w.heap.size + 1 + 1 + 1 := Ag _
 clear hb HB0 hfe hff
 go_wp2_with fail
 refine bodyPost_ret (v := .agg #[.bool ge, .slice ae ne ce, .bool gf, .slice af nf cf]) (by simp [results, Tryz.results177, go_sem, R0, R1, R2, R3]) rfl ?_
 exact qBe
theorem cT (w : World) (A B : Nat) (gi : Bool) (ai : Option Addr) (ni ci : Nat) (gj : Bool) (aj : Option Addr) (nj cj : Nat) (g : Bool) (a : Option Addr) (n c : Nat) (z : Int) (h : A4 w g a n c z) (g' : Bool) (a' : Option Addr) (n' c' : Nat) (z' : Int) (h' : A4 w g' a' n' c' z') (hb1 : n < 17592186044416) (hb2 : n' < 17592186044416)
  (h1 : w.cell? ⟨A, 0, none⟩ = some (.bool g)) (h2 : w.cell? ⟨A, 1, none⟩ = some (.slice a n c)) (h3 : w.cell? ⟨B, 0, none⟩ = some (.bool g')) (h4 : w.cell? ⟨B, 1, none⟩ = some (.slice a' n' c')) :
  Calls Tryz.prog 173 #[.agg #[.bool gi, .slice ai ni ci], .agg #[.bool gj, .slice aj nj cj], .pointer (some ⟨A, 0, none⟩), .pointer (some ⟨B, 0, none⟩)] w (C4 w (z * z')) := by
 have HB := Ac w.heap.size w
 have hA := Aa _ _ h1
 have hB := Aa _ _ h3
 have W3 : Below w.heap.size w (((w.alloc (.cells #[.bool gi, .slice ai ni ci] 59)).alloc (.cells #[.bool gj, .slice aj nj cj] 59)).alloc (.cells #[.bool false, .slice none 0 0] 59)) := by go_grown
 have k1 := Au W3 h1
 have k2 := Au W3 h2
 have k3 := Au W3 h3
 have k4 := Au W3 h4
 go_enter Tryz.func173, Tryz.ntmps173
 go_wp2_with fail
 refine (Wk _ _ _ _ _ z (h.keep qF) _ _ _ _ z' (h'.keep qF) qB qB).mono ?_
 rintro e w1 ⟨g3, a3, n3, c3, rfl, hn3, hfr3, hb⟩
 obtain ⟨hc, hf⟩ := Ax hb; have hz := hb.size; (try simp only [Aj, Ak] at hz)
 replace HB := zD w hb
 obtain ⟨s0_0, s0_1⟩ := qX hc (w.heap.size) (.bool gi) (.slice ai ni ci); obtain ⟨s1_0, s1_1⟩ := qX hc (w.heap.size + 1) (.bool gj) (.slice aj nj cj); obtain ⟨s2_0, s2_1⟩ := qZ hc (w.heap.size + 1 + 1); obtain ⟨f2_0, f2_1⟩ := zA hf (w.heap.size + 1 + 1)
 have hk1 : w.heap.size + 1 + 1 < w1.heap.size := by omega
 have hf3 : Av (w.heap.size + 1 + 1 + 1) w1 a3 c3 := hfr3.mono qA
 clear hc hf hb hz hfr3
 go_wp2_with fail
 refine bodyPost_ret (v := .agg #[.bool g3, .slice a3 n3 c3]) (by simp [results, Tryz.results173, go_sem, s2_0, s2_1]) rfl ?_
 refine ⟨g3, a3, n3, c3, rfl, ?_, ?_, by go_grown⟩
 ·exact qDp
 ·exact qBv
abbrev PC := Int × Int
abbrev PT := Nat × Int × Int
def Hu (c d : PC) : PC := (Fz (c.1 * d.2 + d.1 * c.2) (c.2 * d.2), Fj (c.1 * d.2 + d.1 * c.2) (c.2 * d.2))
def Es (c d : PC) : PC := (Fz (c.1 * d.1) (c.2 * d.2), Fj (c.1 * d.1) (c.2 * d.2))
structure CW (c : PC) : Prop where
 pos : 0 < c.2
 red : Int.gcd c.1 c.2 = 1
theorem bT {a b : Int} (hb : 0 < b) : 0 < Fj a b := by
 unfold Fj
 have hg : 0 < Int.gcd a b := Int.gcd_pos_of_ne_zero_right _ qB
 have hd : (Int.gcd a b : Int) ∣ b := Int.gcd_dvd_right ..
 obtain ⟨k, hk⟩ := hd
 have hg' : (0 : Int) < (Int.gcd a b : Int) := by exact_mod_cast hg
 have : b / (Int.gcd a b : Int) = k := by
  conv => lhs; rw [hk]
  rw [← hk]
  exact Int.ediv_eq_of_eq_mul_right qB hk
 rw [this]
 have hk' : 0 < (Int.gcd a b : Int) * k := by rw [← hk]; exact hb
 exact Int.pos_of_mul_pos_right hk' qB
theorem dN {a b : Int} (hb : 0 < b) : Int.gcd (Fz a b) (Fj a b) = 1 := by
 unfold Fz Fj
 have hg : 0 < Int.gcd a b := Int.gcd_pos_of_ne_zero_right _ qB
 exact Int.gcd_ediv_gcd_ediv_gcd hg
theorem CW.low {a b : Int} (hb : 0 < b) : CW (Fz a b, Fj a b) := ⟨bT hb, dN hb⟩
theorem CW.add {c d : PC} (hc : CW c) (hd : CW d) : CW (Hu c d) := CW.low (Int.mul_pos hc.pos hd.pos)
theorem CW.mul {c d : PC} (hc : CW c) (hd : CW d) : CW (Es c d) := CW.low (Int.mul_pos hc.pos hd.pos)
theorem bN {a b : Int} (h : Int.gcd a b = 1) : Fz a b = a := by unfold Fz; rw [h]; simp
theorem dA {a b : Int} (h : Int.gcd a b = 1) : Fj a b = b := by unfold Fj; rw [h]; simp
theorem R6 {c : PC} (hc : CW c) : Es c (1, 1) = c := by
 unfold Es
 simp only [Int.mul_one]
 rw [bN hc.red, dA hc.red]
abbrev Gb (l : List PT) : Prop := l.Pairwise (fun a b => b.1 < a.1)
abbrev Xs (l : List PT) : Prop := ∀ t ∈ l, CW t.2 ∧ t.2.1 ≠ 0
structure PW (l : List PT) : Prop where
 falls : Gb l
 good : Xs l
 key : ∀ t ∈ l, t.1 < 18446744073709551616
def lk : List PT → Nat → Option PC
 | [], _ => none
 | t :: l, k => if t.1 = k then some t.2 else lk l k
theorem J3 (t : PT) (l : List PT) (k : Nat) : lk (t :: l) k = if t.1 = k then some t.2 else lk l k := rfl
theorem Tz {l : List PT} {k : Nat} (h : ∀ t ∈ l, t.1 ≠ k) : lk l k = none := by
 induction l with
 | nil => rfl
 | cons t l ih =>
  rw [lk, if_neg (h t qH)]
  exact ih fun t' h' => h t' (by simp [h'])
theorem Nv {l : List PT} {k : Nat} {c : PC} (h : lk l k = some c) : (k, c) ∈ l := by
 induction l with
 | nil => cases h
 | cons t l ih =>
  rw [lk] at h
  split at h
  ·next e => cases h; subst e; simp
  ·simp [ih h]
theorem Yn {l : List PT} (hf : Gb l) {k : Nat} {c : PC} (h : (k, c) ∈ l) : lk l k = some c := by
 induction l with
 | nil => cases h
 | cons t l ih =>
  obtain ⟨h1, h2⟩ := List.pairwise_cons.1 hf
  rw [lk]
  rcases List.mem_cons.1 h with rfl | h
  ·simp
  ·have := h1 _ h
   rw [if_neg (by simp at this; omega)]
   exact ih h2 h
theorem O8 : ∀ {l l' : List PT}, Gb l → Gb l' → (∀ t, t ∈ l ↔ t ∈ l') → l = l'
 | [], [], _, _, _ => rfl
 | [], t :: l', _, _, h => by have := (h t).2 qH; cases this
 | t :: l, [], _, _, h => by have := (h t).1 qH; cases this
 | t :: l, t' :: l', hf, hf', h => by
  obtain ⟨h1, h2⟩ := List.pairwise_cons.1 hf
  obtain ⟨h1', h2'⟩ := List.pairwise_cons.1 hf'
  have e : t = t' := by
   rcases List.mem_cons.1 ((h t).1 qH) with e | m
   ·exact e
   ·rcases List.mem_cons.1 ((h t').2 qH) with e' | m'
    ·exact e'.symm
    ·have a := h1 _ m'; have b := h1' _ m; omega
  subst e
  rw [O8 h2 h2' fun x => ?_]
  constructor
  ·intro hx
   rcases List.mem_cons.1 ((h x).1 (by simp [hx])) with e | m
   ·subst e; have := h1 _ hx; omega
   ·exact m
  ·intro hx
   rcases List.mem_cons.1 ((h x).2 (by simp [hx])) with e | m
   ·subst e; have := h1' _ hx; omega
   ·exact m
def Bt : List PT → List PT → List PT
 | [], b => b
 | x :: a, [] => x :: a
 | x :: a, y :: b =>
  if y.1 < x.1 then x :: Bt a (y :: b)
  else if x.1 < y.1 then y :: Bt (x :: a) b
  else if (Hu x.2 y.2).1 = 0 then Bt a b else (x.1, Hu x.2 y.2) :: Bt a b
termination_by a b => a.length + b.length
def Qi : Option PC → Option PC → Option PC
 | none, y => y
 | some c, none => some c
 | some c, some d => if (Hu c d).1 = 0 then none else some (Hu c d)
theorem Pq (x : Option PC) : Qi x none = x := by cases x <;> rfl
theorem Jn (a b : List PT) (K : Nat) (ha : ∀ t ∈ a, t.1 < K) (hb : ∀ t ∈ b, t.1 < K) : ∀ t ∈ Bt a b, t.1 < K := by
 induction a, b using Bt.induct with
 | case1 b => simpa [Bt] using hb
 | case2 x a => simpa [Bt] using ha
 | case3 x a y b hlt ih =>
  exact qEc
 | case4 x a y b h1 h2 ih =>
  exact qEa
 | case5 x a y b h1 h2 h3 ih =>
  exact qEj
 | case6 x a y b h1 h2 h3 ih =>
  rw [Bt, if_neg h1, if_neg h2, if_neg h3]
  intro t ht
  rcases List.mem_cons.1 ht with rfl | ht
  ·exact ha x qH
  ·exact ih (fun t h => ha t (by simp [h])) (fun t h => hb t (by simp [h])) t ht
theorem Kk (a b : List PT) (ha : Gb a) (hb : Gb b) : Gb (Bt a b) := by
 induction a, b using Bt.induct with
 | case1 b => simpa [Bt] using hb
 | case2 x a => simpa [Bt] using ha
 | case3 x a y b hlt ih =>
  obtain ⟨h1, h2⟩ := List.pairwise_cons.1 ha
  obtain ⟨k1, k2⟩ := List.pairwise_cons.1 hb
  rw [Bt, if_pos hlt]
  refine List.pairwise_cons.2 ⟨Jn _ _ _ h1 (fun t ht => ?_), ih h2 hb⟩
  rcases List.mem_cons.1 ht with rfl | ht
  ·exact hlt
  ·have := k1 _ ht; omega
 | case4 x a y b hn hlt ih =>
  obtain ⟨h1, h2⟩ := List.pairwise_cons.1 ha
  obtain ⟨k1, k2⟩ := List.pairwise_cons.1 hb
  rw [Bt, if_neg hn, if_pos hlt]
  refine List.pairwise_cons.2 ⟨Jn _ _ _ (fun t ht => ?_) k1, ih ha k2⟩
  rcases List.mem_cons.1 ht with rfl | ht
  ·exact hlt
  ·have := h1 _ ht; omega
 | case5 x a y b h1 h2 h3 ih =>
  rw [Bt, if_neg h1, if_neg h2, if_pos h3]
  exact ih (List.pairwise_cons.1 ha).2 (List.pairwise_cons.1 hb).2
 | case6 x a y b hn hm h3 ih =>
  obtain ⟨h1, h2⟩ := List.pairwise_cons.1 ha
  obtain ⟨k1, k2⟩ := List.pairwise_cons.1 hb
  rw [Bt, if_neg hn, if_neg hm, if_neg h3]
  refine List.pairwise_cons.2 ⟨Jn _ _ _ h1 (fun t ht => ?_), ih h2 k2⟩
  have := k1 _ ht
  show t.1 < x.1
  omega
theorem Ja {l : List PT} {k : Nat} (h : ∀ t ∈ l, t.1 < k) : lk l k = none := Tz fun t ht e => by have := h t ht; omega
theorem bJ (a b : List PT) (ha : Gb a) (hb : Gb b) (k : Nat) : lk (Bt a b) k = Qi (lk a k) (lk b k) := by
 induction a, b using Bt.induct with
 | case1 b => simp [Bt, lk, Qi]
 | case2 x a => simp [Bt, lk, Pq]
 | case3 x a y b hlt ih =>
  obtain ⟨h1, h2⟩ := List.pairwise_cons.1 ha
  obtain ⟨k1, k2⟩ := List.pairwise_cons.1 hb
  rw [Bt, if_pos hlt, lk]
  by_cases e : x.1 = k
  ·have hn : lk (y :: b) k = none := Ja fun t ht => by
    rcases List.mem_cons.1 ht with rfl | ht
    ·omega
    ·have := k1 _ ht; omega
   rw [if_pos e, hn, Pq, lk, if_pos e]
  ·rw [if_neg e, ih h2 hb, J3 x a k, if_neg e]
 | case4 x a y b hn hlt ih =>
  obtain ⟨h1, h2⟩ := List.pairwise_cons.1 ha
  obtain ⟨k1, k2⟩ := List.pairwise_cons.1 hb
  rw [Bt, if_neg hn, if_pos hlt, lk]
  by_cases e : y.1 = k
  ·have hn : lk (x :: a) k = none := Ja fun t ht => by
    rcases List.mem_cons.1 ht with rfl | ht
    ·omega
    ·have := h1 _ ht; omega
   rw [if_pos e, hn, lk, if_pos e]
   rfl
  ·rw [if_neg e, ih ha k2, J3 y b k, if_neg e]
 | case5 x a y b hn hm h3 ih =>
  obtain ⟨h1, h2⟩ := List.pairwise_cons.1 ha
  obtain ⟨k1, k2⟩ := List.pairwise_cons.1 hb
  rw [Bt, if_neg hn, if_neg hm, if_pos h3, ih h2 k2, J3 x a k, J3 y b k]
  have exy : x.1 = y.1 := by omega
  by_cases e : x.1 = k
  ·have e' : y.1 = k := by omega
   rw [if_pos e, if_pos e', Ja (by rw [← e]; exact h1), Ja (by rw [← e']; exact k1)]
   simp [Qi, h3]
  ·have e' : ¬ y.1 = k := by omega
   rw [if_neg e, if_neg e']
 | case6 x a y b hn hm h3 ih =>
  obtain ⟨h1, h2⟩ := List.pairwise_cons.1 ha
  obtain ⟨k1, k2⟩ := List.pairwise_cons.1 hb
  rw [Bt, if_neg hn, if_neg hm, if_neg h3, lk, J3 x a k, J3 y b k]
  have exy : x.1 = y.1 := by omega
  by_cases e : x.1 = k
  ·have e' : y.1 = k := by omega
   rw [if_pos e, if_pos e', if_pos (by exact e)]
   simp [Qi, h3]
  ·have e' : ¬ y.1 = k := by omega
   rw [if_neg e, if_neg e', if_neg (by exact e), ih h2 k2]
theorem Wv (a b : List PT) (ha : Xs a) (hb : Xs b) : Xs (Bt a b) := by
 induction a, b using Bt.induct with
 | case1 b => simpa [Bt] using hb
 | case2 x a => simpa [Bt] using ha
 | case3 x a y b hlt ih =>
  exact qEc
 | case4 x a y b h1 h2 ih =>
  exact qEa
 | case5 x a y b h1 h2 h3 ih =>
  exact qEj
 | case6 x a y b h1 h2 h3 ih =>
  rw [Bt, if_neg h1, if_neg h2, if_neg h3]
  intro t ht
  rcases List.mem_cons.1 ht with rfl | ht
  ·exact ⟨(ha x qH).1.add (hb y qH).1, h3⟩
  ·exact ih (fun t h => ha t (by simp [h])) (fun t h => hb t (by simp [h])) t ht
theorem PW.add {a b : List PT} (ha : PW a) (hb : PW b) : PW (Bt a b) :=
 ⟨Kk a b ha.falls hb.falls, Wv a b ha.good hb.good, Jn a b _ ha.key hb.key⟩
theorem Hy (a b : List PT) : (Bt a b).length ≤ a.length + b.length := by
 induction a, b using Bt.induct with
 | case1 b => simp [Bt]
 | case2 x a => simp [Bt]
 | case3 x a y b hlt ih => rw [Bt, if_pos hlt]; simp at *; omega
 | case4 x a y b h1 h2 ih => rw [Bt, if_neg h1, if_pos h2]; simp at *; omega
 | case5 x a y b h1 h2 h3 ih => rw [Bt, if_neg h1, if_neg h2, if_pos h3]; simp at *; omega
 | case6 x a y b h1 h2 h3 ih => rw [Bt, if_neg h1, if_neg h2, if_neg h3]; simp at *; omega
def Ln (f : Nat → Option PC) (t : PT) : Nat → Option PC := fun k => if k = t.1 then some (match f t.1 with | none => t.2 | some c => Hu c t.2) else f k
def H8 (l : List PT) : Nat → Option PC := l.foldl Ln (fun _ => none)
theorem W4 (l : List PT) (t : PT) : H8 (l ++ [t]) = Ln (H8 l) t := by simp [H8]
theorem Pw (l : List PT) (hl : Gb l) (f : Nat → Option PC) (k : Nat) : l.foldl Ln f k = (match lk l k, f k with | none, y => y | some c, none => some c | some c, some d => some (Hu d c)) := by
 induction l generalizing f with
 | nil => simp [lk]
 | cons t l ih =>
  obtain ⟨h1, h2⟩ := List.pairwise_cons.1 hl
  rw [List.foldl_cons, ih h2, lk]
  by_cases e : t.1 = k
  ·rw [Ja (by rw [← e]; exact h1), if_pos e, Ln, if_pos e.symm, e]
   cases f k <;> rfl
  ·rw [if_neg e, Ln, if_neg qB]
theorem S4 (a b : List PT) (ha : Gb a) (hb : Gb b) (k : Nat) : H8 (a ++ b) k = (match lk b k, lk a k with | none, y => y | some c, none => some c | some c, some d => some (Hu d c)) := by
 have h1 : H8 a k = lk a k := by
  unfold H8
  rw [Pw a ha]
  cases lk a k <;> rfl
 have : H8 (a ++ b) = b.foldl Ln (H8 a) := by simp [H8]
 rw [this, Pw b hb, h1]
theorem Tr {a b r : List PT} (ha : PW a) (hb : PW b) (hr : Gb r) (hm : ∀ t, t ∈ r ↔ (H8 (a ++ b) t.1 = some t.2 ∧ t.2.1 ≠ 0)) : r = Bt a b := by
 refine O8 hr (Kk a b ha.falls hb.falls) fun t => ?_
 obtain ⟨k, c⟩ := t
 rw [hm]
 have e1 : (k, c) ∈ Bt a b ↔ lk (Bt a b) k = some c := ⟨Yn (Kk a b ha.falls hb.falls), Nv⟩
 rw [e1, bJ a b ha.falls hb.falls, S4 a b ha.falls hb.falls]
 show _ ∧ c.1 ≠ 0 ↔ _
 cases h1 : lk a k with
 | none =>
  cases h2 : lk b k with
  | none => simp [Qi]
  | some d =>
   simp only [Qi, Option.some.injEq]
   constructor
   ·rintro ⟨rfl, _⟩; rfl
   ·rintro rfl; exact ⟨rfl, (hb.good _ (Nv h2)).2⟩
 | some d =>
  cases h2 : lk b k with
  | none =>
   simp only [Qi, Option.some.injEq]
   constructor
   ·rintro ⟨rfl, _⟩; rfl
   ·rintro rfl; exact ⟨rfl, (ha.good _ (Nv h1)).2⟩
  | some d' =>
   simp only [Qi, Option.some.injEq]
   split
   ·next h0 =>
    constructor
    ·rintro ⟨rfl, hne⟩; exact absurd h0 hne
    ·intro h; cases h
   ·next h0 =>
    simp only [Option.some.injEq]
    constructor
    ·rintro ⟨rfl, _⟩; rfl
    ·rintro rfl; exact ⟨rfl, h0⟩
end Go.Proofs.YtdamegaedmckbaaGreatDoor
end
