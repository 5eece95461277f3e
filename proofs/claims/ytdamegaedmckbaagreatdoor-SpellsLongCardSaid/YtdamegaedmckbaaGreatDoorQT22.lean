/- Package fracs: Add, Mul. No further condition. Plain: sums as lists of terms (key, above, below), the greatest key first; two of them added. No condition. -/
import Derived.Test.YtdamegaedmckbaaGreatDoorQT21
import Derived.Test.YtdamegaedmckbaaGreatDoorQTZ
set_option linter.unusedSimpArgs false
set_option linter.unusedVariables false
set_option maxRecDepth 100000
set_option maxHeartbeats 4000000
section
namespace Go.Proofs.YtdamegaedmckbaaGreatDoor
open Go.RowKit
theorem dg_len_add (x y : Nat) : (dg (x + y)).length ≤ (dg x).length + (dg y).length + 1 := by
 have h1 := val_lt (dg x) (dg_lt x)
 have h2 := val_lt (dg y) (dg_lt y)
 rw [val_dg] at h1 h2
 obtain ⟨m, hm⟩ : ∃ m, m = (dg x).length + (dg y).length := ⟨_, rfl⟩
 have h3 : 1000000000 ^ (dg x).length ≤ 1000000000 ^ m := Nat.pow_le_pow_right qB qB
 have h4 : 1000000000 ^ (dg y).length ≤ 1000000000 ^ m := Nat.pow_le_pow_right qB qB
 have h5 : x + y < 1000000000 ^ (m + 1) := by rw [Nat.pow_succ]; omega
 rw [← hm]
 rcases Nat.lt_or_ge (m + 1) (dg (x + y)).length with h6 | h6
 ·exfalso
  have h7 := top_ge (canon_dg (x + y)) rfl qB
  rw [val_dg] at h7
  have h8 : 1000000000 ^ (m + 1) ≤ 1000000000 ^ ((dg (x + y)).length - 1) := Nat.pow_le_pow_right qB qB
  omega
 ·exact h6
theorem dg_len_mulI (x y : Int) : (dg (x * y).natAbs).length ≤ (dg x.natAbs).length + (dg y.natAbs).length := by rw [Int.natAbs_mul]; exact dg_len_mul _ _
theorem dg_len_addI (x y : Int) : (dg (x + y).natAbs).length ≤ (dg x.natAbs).length + (dg y.natAbs).length + 1 :=
 Nat.le_trans (dg_length_mono (Int.natAbs_add_le x y)) (dg_len_add _ _)
def lowP (a b : Int) : Int := a / (Int.gcd a b : Int)
def lowQ (a b : Int) : Int := b / (Int.gcd a b : Int)
theorem fAdd1_c (w : World) (g : Bool) (a : Option Addr) (n c : Nat) (z : Int) (h : NumAt w g a n c z) (g' : Bool) (a' : Option Addr) (n' c' : Nat) (z' : Int) (h' : NumAt w g' a' n' c' z') (hb1 : n < 35184372088829) (hb2 : n' < 35184372088829) :
  Calls Tryz.prog 226 #[.agg #[.bool g, .slice a n c], .agg #[.bool g', .slice a' n' c']] w (RetNum w (z + z')) := by
 have HB := Below.refl w.heap.size w
 go_enter Tryz.func226, Tryz.ntmps226
 go_wp2_with fail
 refine (Add_c _ _ _ _ _ z (h.keep qF) _ _ _ _ z' (h'.keep qF) qB qB).mono ?_
 rintro e w1 ⟨g3, a3, n3, c3, rfl, hn3, hfr3, hb⟩
 obtain ⟨hc, hf⟩ := bcell hb; have hz := hb.size; (try simp only [World.size_alloc, World.size_drew] at hz)
 replace HB := zB w hb
 obtain ⟨s0_0, s0_1⟩ := qV hc (w.heap.size) (.bool g) (.slice a n c); obtain ⟨s1_0, s1_1⟩ := qV hc (w.heap.size + 1) (.bool g') (.slice a' n' c'); obtain ⟨s2_0, s2_1⟩ := qX hc (w.heap.size + 1 + 1); obtain ⟨f2_0, f2_1⟩ := qY hf (w.heap.size + 1 + 1)
 have hk1 : w.heap.size + 1 + 1 < w1.heap.size := by omega
 have hf3 : Fresh (w.heap.size + 1 + 1 + 1) w1 a3 c3 := hfr3.mono qA
 clear hc hf hb hz hfr3
 go_wp2_with fail
 refine bodyPost_ret (v := .agg #[.bool g3, .slice a3 n3 c3]) (by simp [results, Tryz.results226, go_sem, s2_0, s2_1]) rfl ?_
 exact qBu
theorem fAdd_c (w : World) (g1 : Bool) (a1 : Option Addr) (n1 c1 : Nat) (p : Int) (g2 : Bool) (a2 : Option Addr) (n2 c2 : Nat) (q : Int) (h : FracAt w g1 a1 n1 c1 p g2 a2 n2 c2 q)
  (g3 : Bool) (a3 : Option Addr) (n3 c3 : Nat) (p' : Int) (g4 : Bool) (a4 : Option Addr) (n4 c4 : Nat) (q' : Int) (h' : FracAt w g3 a3 n3 c3 p' g4 a4 n4 c4 q') (hb1 : n1 ≤ 1000000000) (hb2 : n2 ≤ 1000000000) (hb3 : n3 ≤ 1000000000) (hb4 : n4 ≤ 1000000000) :
  Calls Tryz.prog 177 #[.agg #[.bool g1, .slice a1 n1 c1, .bool g2, .slice a2 n2 c2], .agg #[.bool g3, .slice a3 n3 c3, .bool g4, .slice a4 n4 c4]] w (RetFrac w (lowP (p * q' + p' * q) (q * q')) (lowQ (p * q' + p' * q) (q * q'))) := by
 have HB := Below.refl w.heap.size w
 have e1 := h.top.rd.len
 have e2 := h.low.rd.len
 have e3 := h'.top.rd.len
 have e4 := h'.low.rd.len
 have i1 := dg_len_mulI p q'
 have i2 := dg_len_mulI p' q
 have i3 := dg_len_addI (p * q') (p' * q)
 have HD : Hid ((dg (p * q' + p' * q).natAbs).length < 35184372088829 ∧ (dg (p * q').natAbs).length < 35184372088829 ∧ (dg (p' * q).natAbs).length < 35184372088829) := Lib.hid qB
 clear e1 e2 e3 e4 i1 i2 i3
 go_enter Tryz.func177, Tryz.ntmps177
 go_wp2_with fail
 refine calls_name ?_
 intro w0 hw0
 have HB0 : Below w.heap.size w w0 := by rw [hw0]; go_grown
 have R0 : w0.cell? ⟨w.heap.size + 1 + 1, 0, none⟩ = some (.bool false) := by rw [hw0]; simp [go_sem]
 have R1 : w0.cell? ⟨w.heap.size + 1 + 1, 1, none⟩ = some (.slice none 0 0) := by rw [hw0]; simp [go_sem]
 have R2 : w0.cell? ⟨w.heap.size + 1 + 1, 2, none⟩ = some (.bool false) := by rw [hw0]; simp [go_sem]
 have R3 : w0.cell? ⟨w.heap.size + 1 + 1, 3, none⟩ = some (.slice none 0 0) := by rw [hw0]; simp [go_sem]
 have Rf0 : w0.frozen? ⟨w.heap.size + 1 + 1, 0, none⟩ = false := by rw [hw0]; simp [go_sem]
 have Rf1 : w0.frozen? ⟨w.heap.size + 1 + 1, 1, none⟩ = false := by rw [hw0]; simp [go_sem]
 have Rf2 : w0.frozen? ⟨w.heap.size + 1 + 1, 2, none⟩ = false := by rw [hw0]; simp [go_sem]
 have Rf3 : w0.frozen? ⟨w.heap.size + 1 + 1, 3, none⟩ = false := by rw [hw0]; simp [go_sem]
 have hk0 : w.heap.size + 1 + 1 + 1 ≤ w0.heap.size := World.block_lt_of_cell? _ _ R0
 clear hw0
 refine (make2_226 _ _ _ _ _ _ _ _ _ _ _ (h.keep HB0) _ _ _ _ _ _ _ _ _ _ (h'.keep HB0) hb1 hb2 hb3 hb4 (p * q' + p' * q) HD.out.1 (fun W gx ax nx cx gy ay ny cy hW hx hy => fAdd1_c W gx ax nx cx _ hx gy ay ny cy _ hy (by have := hx.rd.len; have := HD.out.2.1; omega) (by have := hy.rd.len; have := HD.out.2.2; omega))).mono ?_
 rintro e w1 ⟨ge, ae, ne, ce, gf, af, nf, cf, rfl, hr, hfe, hff, hb⟩
 have HB1 := HB0.trans (hb.mono HB0.size)
 (replace Rf0 := (Below.frozen hb (World.block_lt_of_cell? _ _ R0)).trans Rf0; replace Rf1 := (Below.frozen hb (World.block_lt_of_cell? _ _ R1)).trans Rf1; replace Rf2 := (Below.frozen hb (World.block_lt_of_cell? _ _ R2)).trans Rf2; replace Rf3 := (Below.frozen hb (World.block_lt_of_cell? _ _ R3)).trans Rf3; replace R0 := cell_keep hb R0; replace R1 := cell_keep hb R1; replace R2 := cell_keep hb R2; replace R3 := cell_keep hb R3)
 have fe : Fresh (w.heap.size + 1 + 1 + 1) w1 ae ce := hfe.mono hk0
 have ff : Fresh (w.heap.size + 1 + 1 + 1) w1 af cf := hff.mono hk0
 have u2 : w.heap.size + 1 + 1 < w.heap.size + 1 + 1 + 1 := Nat.lt_succ_self _
 clear hb HB0 hfe hff
 go_wp2_with fail
 refine bodyPost_ret (v := .agg #[.bool ge, .slice ae ne ce, .bool gf, .slice af nf cf]) (by simp [results, Tryz.results177, go_sem, R0, R1, R2, R3]) rfl ?_
 exact qAt
theorem fMul1_c (w : World) (A B : Nat) (gi : Bool) (ai : Option Addr) (ni ci : Nat) (gj : Bool) (aj : Option Addr) (nj cj : Nat) (g : Bool) (a : Option Addr) (n c : Nat) (z : Int) (h : NumAt w g a n c z) (g' : Bool) (a' : Option Addr) (n' c' : Nat) (z' : Int) (h' : NumAt w g' a' n' c' z') (hb1 : n < 17592186044416) (hb2 : n' < 17592186044416)
  (h1 : w.cell? ⟨A, 0, none⟩ = some (.bool g)) (h2 : w.cell? ⟨A, 1, none⟩ = some (.slice a n c)) (h3 : w.cell? ⟨B, 0, none⟩ = some (.bool g')) (h4 : w.cell? ⟨B, 1, none⟩ = some (.slice a' n' c')) :
  Calls Tryz.prog 173 #[.agg #[.bool gi, .slice ai ni ci], .agg #[.bool gj, .slice aj nj cj], .pointer (some ⟨A, 0, none⟩), .pointer (some ⟨B, 0, none⟩)] w (RetNum w (z * z')) := by
 have HB := Below.refl w.heap.size w
 have hA := World.block_lt_of_cell? _ _ h1
 have hB := World.block_lt_of_cell? _ _ h3
 have W3 : Below w.heap.size w (((w.alloc (.cells #[.bool gi, .slice ai ni ci] 59)).alloc (.cells #[.bool gj, .slice aj nj cj] 59)).alloc (.cells #[.bool false, .slice none 0 0] 59)) := by go_grown
 have k1 := cell_keep W3 h1
 have k2 := cell_keep W3 h2
 have k3 := cell_keep W3 h3
 have k4 := cell_keep W3 h4
 go_enter Tryz.func173, Tryz.ntmps173
 go_wp2_with fail
 refine (Mul_c _ _ _ _ _ z (h.keep qF) _ _ _ _ z' (h'.keep qF) qB qB).mono ?_
 rintro e w1 ⟨g3, a3, n3, c3, rfl, hn3, hfr3, hb⟩
 obtain ⟨hc, hf⟩ := bcell hb; have hz := hb.size; (try simp only [World.size_alloc, World.size_drew] at hz)
 replace HB := zB w hb
 obtain ⟨s0_0, s0_1⟩ := qV hc (w.heap.size) (.bool gi) (.slice ai ni ci); obtain ⟨s1_0, s1_1⟩ := qV hc (w.heap.size + 1) (.bool gj) (.slice aj nj cj); obtain ⟨s2_0, s2_1⟩ := qX hc (w.heap.size + 1 + 1); obtain ⟨f2_0, f2_1⟩ := qY hf (w.heap.size + 1 + 1)
 have hk1 : w.heap.size + 1 + 1 < w1.heap.size := by omega
 have hf3 : Fresh (w.heap.size + 1 + 1 + 1) w1 a3 c3 := hfr3.mono qA
 clear hc hf hb hz hfr3
 go_wp2_with fail
 refine bodyPost_ret (v := .agg #[.bool g3, .slice a3 n3 c3]) (by simp [results, Tryz.results173, go_sem, s2_0, s2_1]) rfl ?_
 exact qBu
end Go.Proofs.YtdamegaedmckbaaGreatDoor
end
section
namespace Go.Proofs.YtdamegaedmckbaaGreatDoor
open Go.RowKit
abbrev PC := Int × Int
abbrev PT := Nat × Int × Int
def addC (c d : PC) : PC := (lowP (c.1 * d.2 + d.1 * c.2) (c.2 * d.2), lowQ (c.1 * d.2 + d.1 * c.2) (c.2 * d.2))
def mulC (c d : PC) : PC := (lowP (c.1 * d.1) (c.2 * d.2), lowQ (c.1 * d.1) (c.2 * d.2))
structure CW (c : PC) : Prop where
 pos : 0 < c.2
 red : Int.gcd c.1 c.2 = 1
theorem low_pos {a b : Int} (hb : 0 < b) : 0 < lowQ a b := by
 unfold lowQ
 have hg : 0 < Int.gcd a b := Int.gcd_pos_of_ne_zero_right _ qB
 have hd : (Int.gcd a b : Int) ∣ b := Int.gcd_dvd_right ..
 obtain ⟨k, hk⟩ := hd
 have hg' : (0 : Int) < (Int.gcd a b : Int) := by exact_mod_cast hg
 have : b / (Int.gcd a b : Int) = k := by
  conv => lhs; rw [hk]
  rw [← hk]
  exact Int.ediv_eq_of_eq_mul_right qB hk
 rw [this]
 have hk' : 0 < (Int.gcd a b : Int) * k := by rw [← hk]; exact hb
 exact Int.pos_of_mul_pos_right hk' qB
theorem low_red {a b : Int} (hb : 0 < b) : Int.gcd (lowP a b) (lowQ a b) = 1 := by
 unfold lowP lowQ
 have hg : 0 < Int.gcd a b := Int.gcd_pos_of_ne_zero_right _ qB
 exact Int.gcd_ediv_gcd_ediv_gcd hg
theorem CW.low {a b : Int} (hb : 0 < b) : CW (lowP a b, lowQ a b) := ⟨low_pos hb, low_red hb⟩
theorem CW.add {c d : PC} (hc : CW c) (hd : CW d) : CW (addC c d) := CW.low (Int.mul_pos hc.pos hd.pos)
theorem CW.mul {c d : PC} (hc : CW c) (hd : CW d) : CW (mulC c d) := CW.low (Int.mul_pos hc.pos hd.pos)
theorem lowP_of {a b : Int} (h : Int.gcd a b = 1) : lowP a b = a := by unfold lowP; rw [h]; simp
theorem lowQ_of {a b : Int} (h : Int.gcd a b = 1) : lowQ a b = b := by unfold lowQ; rw [h]; simp
theorem mulC_one {c : PC} (hc : CW c) : mulC c (1, 1) = c := by
 unfold mulC
 simp only [Int.mul_one]
 rw [lowP_of hc.red, lowQ_of hc.red]
abbrev Falls (l : List PT) : Prop := l.Pairwise (fun a b => b.1 < a.1)
abbrev Good (l : List PT) : Prop := ∀ t ∈ l, CW t.2 ∧ t.2.1 ≠ 0
structure PW (l : List PT) : Prop where
 falls : Falls l
 good : Good l
 key : ∀ t ∈ l, t.1 < 18446744073709551616
def lk : List PT → Nat → Option PC
 | [], _ => none
 | t :: l, k => if t.1 = k then some t.2 else lk l k
theorem lk_cons (t : PT) (l : List PT) (k : Nat) : lk (t :: l) k = if t.1 = k then some t.2 else lk l k := rfl
theorem lk_none_of {l : List PT} {k : Nat} (h : ∀ t ∈ l, t.1 ≠ k) : lk l k = none := by
 induction l with
 | nil => rfl
 | cons t l ih =>
  rw [lk, if_neg (h t qH)]
  exact ih fun t' h' => h t' (by simp [h'])
theorem lk_mem {l : List PT} {k : Nat} {c : PC} (h : lk l k = some c) : (k, c) ∈ l := by
 induction l with
 | nil => cases h
 | cons t l ih =>
  rw [lk] at h
  split at h
  ·next e => cases h; subst e; simp
  ·simp [ih h]
theorem lk_of_mem {l : List PT} (hf : Falls l) {k : Nat} {c : PC} (h : (k, c) ∈ l) : lk l k = some c := by
 induction l with
 | nil => cases h
 | cons t l ih =>
  obtain ⟨h1, h2⟩ := List.pairwise_cons.1 hf
  rw [lk]
  rcases List.mem_cons.1 h with rfl | h
  ·simp
  ·have := h1 _ h
   rw [if_neg (by simp at this; omega)]
   exact ih h2 h
theorem falls_ext : ∀ {l l' : List PT}, Falls l → Falls l' → (∀ t, t ∈ l ↔ t ∈ l') → l = l'
 | [], [], _, _, _ => rfl
 | [], t :: l', _, _, h => by have := (h t).2 qH; cases this
 | t :: l, [], _, _, h => by have := (h t).1 qH; cases this
 | t :: l, t' :: l', hf, hf', h => by
  obtain ⟨h1, h2⟩ := List.pairwise_cons.1 hf
  obtain ⟨h1', h2'⟩ := List.pairwise_cons.1 hf'
  have e : t = t' := by
   rcases List.mem_cons.1 ((h t).1 qH) with e | m
   ·exact e
   ·rcases List.mem_cons.1 ((h t').2 qH) with e' | m'
    ·exact e'.symm
    ·have a := h1 _ m'; have b := h1' _ m; omega
  subst e
  rw [falls_ext h2 h2' fun x => ?_]
  constructor
  ·intro hx
   rcases List.mem_cons.1 ((h x).1 (by simp [hx])) with e | m
   ·subst e; have := h1 _ hx; omega
   ·exact m
  ·intro hx
   rcases List.mem_cons.1 ((h x).2 (by simp [hx])) with e | m
   ·subst e; have := h1' _ hx; omega
   ·exact m
def addL : List PT → List PT → List PT
 | [], b => b
 | x :: a, [] => x :: a
 | x :: a, y :: b =>
  if y.1 < x.1 then x :: addL a (y :: b)
  else if x.1 < y.1 then y :: addL (x :: a) b
  else if (addC x.2 y.2).1 = 0 then addL a b else (x.1, addC x.2 y.2) :: addL a b
termination_by a b => a.length + b.length
def addO : Option PC → Option PC → Option PC
 | none, y => y
 | some c, none => some c
 | some c, some d => if (addC c d).1 = 0 then none else some (addC c d)
theorem addO_none (x : Option PC) : addO x none = x := by cases x <;> rfl
theorem addL_keys (a b : List PT) (K : Nat) (ha : ∀ t ∈ a, t.1 < K) (hb : ∀ t ∈ b, t.1 < K) : ∀ t ∈ addL a b, t.1 < K := by
 induction a, b using addL.induct with
 | case1 b => simpa [addL] using hb
 | case2 x a => simpa [addL] using ha
 | case3 x a y b hlt ih =>
  rw [addL, if_pos hlt]
  intro t ht
  rcases List.mem_cons.1 ht with rfl | ht
  ·exact ha _ qH
  ·exact ih (fun t h => ha t (by simp [h])) hb t ht
 | case4 x a y b h1 h2 ih =>
  rw [addL, if_neg h1, if_pos h2]
  intro t ht
  rcases List.mem_cons.1 ht with rfl | ht
  ·exact hb _ qH
  ·exact ih ha (fun t h => hb t (by simp [h])) t ht
 | case5 x a y b h1 h2 h3 ih =>
  rw [addL, if_neg h1, if_neg h2, if_pos h3]
  exact ih (fun t h => ha t (by simp [h])) (fun t h => hb t (by simp [h]))
 | case6 x a y b h1 h2 h3 ih =>
  rw [addL, if_neg h1, if_neg h2, if_neg h3]
  intro t ht
  rcases List.mem_cons.1 ht with rfl | ht
  ·exact ha x qH
  ·exact ih (fun t h => ha t (by simp [h])) (fun t h => hb t (by simp [h])) t ht
theorem addL_falls (a b : List PT) (ha : Falls a) (hb : Falls b) : Falls (addL a b) := by
 induction a, b using addL.induct with
 | case1 b => simpa [addL] using hb
 | case2 x a => simpa [addL] using ha
 | case3 x a y b hlt ih =>
  obtain ⟨h1, h2⟩ := List.pairwise_cons.1 ha
  obtain ⟨k1, k2⟩ := List.pairwise_cons.1 hb
  rw [addL, if_pos hlt]
  refine List.pairwise_cons.2 ⟨addL_keys _ _ _ h1 (fun t ht => ?_), ih h2 hb⟩
  rcases List.mem_cons.1 ht with rfl | ht
  ·exact hlt
  ·have := k1 _ ht; omega
 | case4 x a y b hn hlt ih =>
  obtain ⟨h1, h2⟩ := List.pairwise_cons.1 ha
  obtain ⟨k1, k2⟩ := List.pairwise_cons.1 hb
  rw [addL, if_neg hn, if_pos hlt]
  refine List.pairwise_cons.2 ⟨addL_keys _ _ _ (fun t ht => ?_) k1, ih ha k2⟩
  rcases List.mem_cons.1 ht with rfl | ht
  ·exact hlt
  ·have := h1 _ ht; omega
 | case5 x a y b h1 h2 h3 ih =>
  rw [addL, if_neg h1, if_neg h2, if_pos h3]
  exact ih (List.pairwise_cons.1 ha).2 (List.pairwise_cons.1 hb).2
 | case6 x a y b hn hm h3 ih =>
  obtain ⟨h1, h2⟩ := List.pairwise_cons.1 ha
  obtain ⟨k1, k2⟩ := List.pairwise_cons.1 hb
  rw [addL, if_neg hn, if_neg hm, if_neg h3]
  refine List.pairwise_cons.2 ⟨addL_keys _ _ _ h1 (fun t ht => ?_), ih h2 k2⟩
  have := k1 _ ht
  show t.1 < x.1
  omega
theorem lk_above {l : List PT} {k : Nat} (h : ∀ t ∈ l, t.1 < k) : lk l k = none := lk_none_of fun t ht e => by have := h t ht; omega
theorem addL_lk (a b : List PT) (ha : Falls a) (hb : Falls b) (k : Nat) : lk (addL a b) k = addO (lk a k) (lk b k) := by
 induction a, b using addL.induct with
 | case1 b => simp [addL, lk, addO]
 | case2 x a => simp [addL, lk, addO_none]
 | case3 x a y b hlt ih =>
  obtain ⟨h1, h2⟩ := List.pairwise_cons.1 ha
  obtain ⟨k1, k2⟩ := List.pairwise_cons.1 hb
  rw [addL, if_pos hlt, lk]
  by_cases e : x.1 = k
  ·have hn : lk (y :: b) k = none := lk_above fun t ht => by
    rcases List.mem_cons.1 ht with rfl | ht
    ·omega
    ·have := k1 _ ht; omega
   rw [if_pos e, hn, addO_none, lk, if_pos e]
  ·rw [if_neg e, ih h2 hb, lk_cons x a k, if_neg e]
 | case4 x a y b hn hlt ih =>
  obtain ⟨h1, h2⟩ := List.pairwise_cons.1 ha
  obtain ⟨k1, k2⟩ := List.pairwise_cons.1 hb
  rw [addL, if_neg hn, if_pos hlt, lk]
  by_cases e : y.1 = k
  ·have hn : lk (x :: a) k = none := lk_above fun t ht => by
    rcases List.mem_cons.1 ht with rfl | ht
    ·omega
    ·have := h1 _ ht; omega
   rw [if_pos e, hn, lk, if_pos e]
   rfl
  ·rw [if_neg e, ih ha k2, lk_cons y b k, if_neg e]
 | case5 x a y b hn hm h3 ih =>
  obtain ⟨h1, h2⟩ := List.pairwise_cons.1 ha
  obtain ⟨k1, k2⟩ := List.pairwise_cons.1 hb
  rw [addL, if_neg hn, if_neg hm, if_pos h3, ih h2 k2, lk_cons x a k, lk_cons y b k]
  have exy : x.1 = y.1 := by omega
  by_cases e : x.1 = k
  ·have e' : y.1 = k := by omega
   rw [if_pos e, if_pos e', lk_above (by rw [← e]; exact h1), lk_above (by rw [← e']; exact k1)]
   simp [addO, h3]
  ·have e' : ¬ y.1 = k := by omega
   rw [if_neg e, if_neg e']
 | case6 x a y b hn hm h3 ih =>
  obtain ⟨h1, h2⟩ := List.pairwise_cons.1 ha
  obtain ⟨k1, k2⟩ := List.pairwise_cons.1 hb
  rw [addL, if_neg hn, if_neg hm, if_neg h3, lk, lk_cons x a k, lk_cons y b k]
  have exy : x.1 = y.1 := by omega
  by_cases e : x.1 = k
  ·have e' : y.1 = k := by omega
   rw [if_pos e, if_pos e', if_pos (by exact e)]
   simp [addO, h3]
  ·have e' : ¬ y.1 = k := by omega
   rw [if_neg e, if_neg e', if_neg (by exact e), ih h2 k2]
theorem addL_good (a b : List PT) (ha : Good a) (hb : Good b) : Good (addL a b) := by
 induction a, b using addL.induct with
 | case1 b => simpa [addL] using hb
 | case2 x a => simpa [addL] using ha
 | case3 x a y b hlt ih =>
  rw [addL, if_pos hlt]
  intro t ht
  rcases List.mem_cons.1 ht with rfl | ht
  ·exact ha _ qH
  ·exact ih (fun t h => ha t (by simp [h])) hb t ht
 | case4 x a y b h1 h2 ih =>
  rw [addL, if_neg h1, if_pos h2]
  intro t ht
  rcases List.mem_cons.1 ht with rfl | ht
  ·exact hb _ qH
  ·exact ih ha (fun t h => hb t (by simp [h])) t ht
 | case5 x a y b h1 h2 h3 ih =>
  rw [addL, if_neg h1, if_neg h2, if_pos h3]
  exact ih (fun t h => ha t (by simp [h])) (fun t h => hb t (by simp [h]))
 | case6 x a y b h1 h2 h3 ih =>
  rw [addL, if_neg h1, if_neg h2, if_neg h3]
  intro t ht
  rcases List.mem_cons.1 ht with rfl | ht
  ·exact ⟨(ha x qH).1.add (hb y qH).1, h3⟩
  ·exact ih (fun t h => ha t (by simp [h])) (fun t h => hb t (by simp [h])) t ht
theorem PW.add {a b : List PT} (ha : PW a) (hb : PW b) : PW (addL a b) :=
 ⟨addL_falls a b ha.falls hb.falls, addL_good a b ha.good hb.good, addL_keys a b _ ha.key hb.key⟩
theorem addL_length (a b : List PT) : (addL a b).length ≤ a.length + b.length := by
 induction a, b using addL.induct with
 | case1 b => simp [addL]
 | case2 x a => simp [addL]
 | case3 x a y b hlt ih => rw [addL, if_pos hlt]; simp at *; omega
 | case4 x a y b h1 h2 ih => rw [addL, if_neg h1, if_pos h2]; simp at *; omega
 | case5 x a y b h1 h2 h3 ih => rw [addL, if_neg h1, if_neg h2, if_pos h3]; simp at *; omega
 | case6 x a y b h1 h2 h3 ih => rw [addL, if_neg h1, if_neg h2, if_neg h3]; simp at *; omega
def insF (f : Nat → Option PC) (t : PT) : Nat → Option PC := fun k => if k = t.1 then some (match f t.1 with | none => t.2 | some c => addC c t.2) else f k
def mapF (l : List PT) : Nat → Option PC := l.foldl insF (fun _ => none)
theorem mapF_snoc (l : List PT) (t : PT) : mapF (l ++ [t]) = insF (mapF l) t := by simp [mapF]
theorem foldl_ins (l : List PT) (hl : Falls l) (f : Nat → Option PC) (k : Nat) : l.foldl insF f k = (match lk l k, f k with | none, y => y | some c, none => some c | some c, some d => some (addC d c)) := by
 induction l generalizing f with
 | nil => simp [lk]
 | cons t l ih =>
  obtain ⟨h1, h2⟩ := List.pairwise_cons.1 hl
  rw [List.foldl_cons, ih h2, lk]
  by_cases e : t.1 = k
  ·rw [lk_above (by rw [← e]; exact h1), if_pos e, insF, if_pos e.symm, e]
   cases f k <;> rfl
  ·rw [if_neg e, insF, if_neg qB]
theorem mapF_two (a b : List PT) (ha : Falls a) (hb : Falls b) (k : Nat) : mapF (a ++ b) k = (match lk b k, lk a k with | none, y => y | some c, none => some c | some c, some d => some (addC d c)) := by
 have h1 : mapF a k = lk a k := by
  unfold mapF
  rw [foldl_ins a ha]
  cases lk a k <;> rfl
 have : mapF (a ++ b) = b.foldl insF (mapF a) := by simp [mapF]
 rw [this, foldl_ins b hb, h1]
theorem sum_is_add {a b r : List PT} (ha : PW a) (hb : PW b) (hr : Falls r) (hm : ∀ t, t ∈ r ↔ (mapF (a ++ b) t.1 = some t.2 ∧ t.2.1 ≠ 0)) : r = addL a b := by
 refine falls_ext hr (addL_falls a b ha.falls hb.falls) fun t => ?_
 obtain ⟨k, c⟩ := t
 rw [hm]
 have e1 : (k, c) ∈ addL a b ↔ lk (addL a b) k = some c := ⟨lk_of_mem (addL_falls a b ha.falls hb.falls), lk_mem⟩
 rw [e1, addL_lk a b ha.falls hb.falls, mapF_two a b ha.falls hb.falls]
 show _ ∧ c.1 ≠ 0 ↔ _
 cases h1 : lk a k with
 | none =>
  cases h2 : lk b k with
  | none => simp [addO]
  | some d =>
   simp only [addO, Option.some.injEq]
   constructor
   ·rintro ⟨rfl, _⟩; rfl
   ·rintro rfl; exact ⟨rfl, (hb.good _ (lk_mem h2)).2⟩
 | some d =>
  cases h2 : lk b k with
  | none =>
   simp only [addO, Option.some.injEq]
   constructor
   ·rintro ⟨rfl, _⟩; rfl
   ·rintro rfl; exact ⟨rfl, (ha.good _ (lk_mem h1)).2⟩
  | some d' =>
   simp only [addO, Option.some.injEq]
   split
   ·next h0 =>
    constructor
    ·rintro ⟨rfl, hne⟩; exact absurd h0 hne
    ·intro h; cases h
   ·next h0 =>
    simp only [Option.some.injEq]
    constructor
    ·rintro ⟨rfl, _⟩; rfl
    ·rintro rfl; exact ⟨rfl, h0⟩
end Go.Proofs.YtdamegaedmckbaaGreatDoor
end
