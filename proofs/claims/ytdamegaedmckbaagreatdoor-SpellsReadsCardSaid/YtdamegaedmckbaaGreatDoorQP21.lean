/- Plain: what the reader reads may be, and how great it is. -/
import Derived.Test.YtdamegaedmckbaaGreatDoorQP20
set_option linter.unusedSimpArgs false
set_option linter.unusedVariables false
set_option maxRecDepth 100000
set_option maxHeartbeats 4000000
section
namespace Go.Proofs.YtdamegaedmckbaaGreatDoor
open Go.RowKit
theorem Ny : ∀ (k n : Nat), n < 1000000000 ^ k → (dg n).length ≤ k
 | 0, n, h => by
  have : n = 0 := by simpa using h
  subst this
  rw [Dl]; simp
 | k + 1, n, h => by
  by_cases h0 : n = 0
  ·subst h0; rw [Dl]; simp
  ·rw [Gs qB, List.length_cons]
   have : n / 1000000000 < 1000000000 ^ k := by
    rw [Nat.div_lt_iff_lt_mul qB, ← Nat.pow_succ]; exact h
   have := Ny k _ this
   omega
theorem Z2 (d : List UInt8) (h : d.all Bl = true) (a : Nat) : d.foldl (fun n b => 10 * n + (b.toNat - 48)) a < (a + 1) * 10 ^ d.length := by
 induction d generalizing a with
 | nil => simp
 | cons b r ih =>
  simp only [List.all_cons, Bool.and_eq_true] at h
  have hb : b.toNat - 48 ≤ 9 := by have := h.1; unfold Bl at this; simp at this; omega
  refine Nat.lt_of_lt_of_le (ih h.2 _) ?_
  rw [List.length_cons, Nat.pow_succ, Nat.mul_comm (10 ^ r.length) 10, ← Nat.mul_assoc]
  exact Nat.mul_le_mul_right _ (by show 10 * a + (b.toNat - 48) + 1 ≤ (a + 1) * 10; omega)
theorem Mt {d : List UInt8} (h : d.all Bl = true) : Bd d < 10 ^ d.length := by
 have := Z2 d h 0
 simpa [Bd] using this
theorem Eb {d : List UInt8} (h : Bb d = true) : d.all Bl = true ∧ 0 < d.length := by
 cases d with
 | nil => cases h
 | cons b r =>
  simp only [Bb, Bool.and_eq_true] at h
  exact ⟨h.1, by simp⟩
theorem Eh {d : List UInt8} (h : Bb d = true) : (dg (Ec d)).length ≤ d.length := by
 unfold Ec
 split
 ·rw [Dl]; simp
 ·apply Ny
  refine Nat.lt_of_lt_of_le (Mt (Eb h).1) ?_
  exact Nat.pow_le_pow_left qB _
theorem My (n d : Nat) : CW (Df n d) := by
 unfold Df
 split
 ·exact ⟨by decide, by decide⟩
 ·exact CW.low qB
theorem Le {n d K : Nat} (h1 : (dg n).length ≤ K) (h2 : (dg d).length ≤ K) (hK : 1 ≤ K) : Cv K (Df n d) := by
 unfold Df
 split
 ·exact ⟨by show (dg 0).length ≤ K; rw [Dl]; simp, by show (dg 1).length ≤ K; rw [Fd]; exact hK⟩
 ·obtain ⟨a, b⟩ := Ux (n : Int) (d : Int) qB
  exact ⟨by show (dg (Fz (n : Int) d).natAbs).length ≤ K; simp only [Int.natAbs_natCast] at a; omega, by show (dg (Fj (n : Int) d).natAbs).length ≤ K; simp only [Int.natAbs_natCast] at b; omega⟩
theorem Fv {L : List UInt8} {many : Bool} {d r : List UInt8} {m : Bool} (h : Fe L many = some (d, r, m)) : Bb d = true := by
 unfold Fe at h
 split at h
 ·next hd => cases h; exact hd
 ·cases h
theorem Lw {L : List UInt8} {many : Bool} {d r : List UInt8} {m : Bool} (h : Eq L many = some (d, r, m)) : Fe L many = some (d, r, m) ∧ d ≠ [48] := by
 unfold Eq at h
 split at h
 ·cases h
 ·next d' r' m' h' =>
  split at h
  ·cases h
  ·next hn => cases h; exact ⟨h', hn⟩
theorem Iz {L : List UInt8} {many : Bool} {c : PC} {r : List UInt8} {m : Bool} (h : Do L many = some (c, r, m)) : CW c ∧ Cv (L.length - r.length) c := by
 unfold Do at h
 split at h
 ·cases h
 ·next t r' m' h' =>
  have h1 := J2 h'
  have k1 := Eh (Fv h')
  split at h
  ·split at h
   ·cases h
   ·next l r'' m'' h'' =>
    have h2 := Id h''
    have k2 := Eh (Fv (Lw h'').1)
    have h3 : r'.tail.length ≤ r'.length := by simp
    cases h
    exact ⟨My _ _, Le qB qB qB⟩
  ·cases h
   exact ⟨My _ _, Le qB (by rw [Fd]; omega) qB⟩
theorem Ng {L : List UInt8} {many : Bool} {n : Nat} {r : List UInt8} {m : Bool} (h : Cp L many = some (n, r, m)) : n ≤ 1000 := by
 unfold Cp at h
 split at h
 ·split at h
  ·cases h
  ·split at h
   ·cases h; omega
   ·cases h; omega
 ·cases h; omega
theorem Ki {s t : TS} (h : A7 s = some t) (hc : CW s.c) {K : Nat} (hK : Cv K s.c) : CW t.c ∧ Cv (K + (s.L.length - t.L.length)) t.c := by
 unfold A7 at h
 split at h
 ·cases h
 ·next b r hL =>
  split at h
  ·next i hi =>
   split at h
   ·cases h
   ·next n r' m h' =>
    cases h
    exact ⟨hc, hK.mono qB⟩
  ·split at h
   ·cases h
   ·next c r' m h' =>
    obtain ⟨h1, h2⟩ := Iz h'
    cases h
    refine ⟨hc.mul h1, ?_⟩
    rw [hL]
    exact Cv.mul hc h1 hK h2
theorem Up {s t : TS} (h : A7 s = some t) {N : Nat} (hN : ∀ i, s.o i ≤ N) : ∀ i, t.o i ≤ N + 1000 := by
 unfold A7 at h
 split at h
 ·cases h
 ·next b r hL =>
  split at h
  ·next i hi =>
   split at h
   ·cases h
   ·next n r' m h' =>
    have hn := Ng h'
    cases h
    intro k
    show Fl s.o i n k ≤ _
    unfold Fl
    have := hN k
    have := hN i
    split <;> omega
  ·split at h
   ·cases h
   ·next c r' m h' =>
    cases h
    intro k
    have := hN k
    show s.o k ≤ _
    omega
theorem E3 (s : TS) : Bo s = if Bz s.L then (match A7 s with
  | none => none
  | some t => if A6 (skp t.L) 42 then Bo { t with L := skp (skp t.L).tail } else if Bz (skp t.L) then Bo { t with L := skp t.L } else some { t with L := skp t.L }) else none := by
 rw [Bo]
 split
 ·split
  ·next h => rw [h]
  ·next t h => rw [h]
 ·rfl
theorem Lm {s t : TS} (h : Bo s = some t) : Bz s.L = true ∧ ∃ u, A7 s = some u ∧
  ((A6 (skp u.L) 42 = true ∧ Bo { u with L := skp (skp u.L).tail } = some t) ∨ (A6 (skp u.L) 42 = false ∧ Bz (skp u.L) = true ∧ Bo { u with L := skp u.L } = some t) ∨ (A6 (skp u.L) 42 = false ∧ Bz (skp u.L) = false ∧ t = { u with L := skp u.L })) := by
 rw [E3] at h
 split at h
 ·next hs =>
  refine ⟨hs, ?_⟩
  split at h
  ·cases h
  ·next u hu =>
   refine ⟨u, hu, ?_⟩
   cases h1 : A6 (skp u.L) 42
   ·rw [h1] at h
    cases h2 : Bz (skp u.L)
    ·rw [h2] at h
     simp only [Bool.false_eq_true, if_false, Option.some.injEq] at h
     exact .inr (.inr ⟨rfl, rfl, h.symm⟩)
    ·rw [h2] at h
     simp only [Bool.false_eq_true, if_false, if_true] at h
     exact .inr (.inl ⟨rfl, rfl, h⟩)
   ·rw [h1] at h
    simp only [if_true] at h
    exact .inl ⟨rfl, h⟩
 ·cases h
theorem I7 : ∀ (n : Nat) (s : TS) {t : TS}, s.L.length ≤ n → Bo s = some t → CW s.c → ∀ {K : Nat}, Cv K s.c → CW t.c ∧ Cv (K + (s.L.length - t.L.length)) t.c
 | 0, s, t, hn, h, _, _, _ => by have := Gh _ h; omega
 | n + 1, s, t, hn, h, hc, K, hK => by
  obtain ⟨hs, u, hu, hh⟩ := Lm h
  obtain ⟨g1, g2⟩ := Ki hu hc hK
  have h1 := Cq hu
  have h2 := Ef u.L
  have h3 := Ef (skp u.L).tail
  have h4 : (skp u.L).tail.length ≤ (skp u.L).length := by simp
  rcases hh with ⟨_, h5⟩ | ⟨_, _, h5⟩ | ⟨_, _, h5⟩
  ·have h6 := Gh _ h5
   obtain ⟨g3, g4⟩ := I7 n _ (by show (skp (skp u.L).tail).length ≤ n; omega) h5 g1 g2
   refine ⟨g3, g4.mono ?_⟩
   simp only at h6 ⊢
   omega
  ·have h6 := Gh _ h5
   obtain ⟨g3, g4⟩ := I7 n _ (by show (skp u.L).length ≤ n; omega) h5 g1 g2
   refine ⟨g3, g4.mono ?_⟩
   simp only at h6 ⊢
   omega
  ·subst h5
   refine ⟨g1, g2.mono ?_⟩
   show _ ≤ K + (s.L.length - (skp u.L).length)
   omega
theorem eE (o : Nat → Nat) : Iy o < 18446744073709551616 := by
 unfold Iy
 have : ∀ n, Hr n < 65536 := fun n => by unfold Hr; omega
 exact bU (this _) (this _) (this _) (this _)
theorem PW.one {k : Nat} {c : PC} (hc : CW c) (hk : k < 18446744073709551616) : PW (J8 k c) := by
 unfold J8
 split
 ·exact ⟨by simp, by simp, by simp⟩
 ·next h => exact ⟨by simp, by simpa using ⟨hc, h⟩, by simpa using hk⟩
theorem Uy (neg : Bool) : CW ((if neg then -1 else 1, 1) : PC) := by cases neg <;> exact ⟨by decide, by decide⟩
theorem Lf (neg : Bool) : Cv 1 ((if neg then -1 else 1, 1) : PC) := by
 cases neg <;> exact ⟨by show (dg 1).length ≤ 1; rw [Fd]; exact Ad _, by show (dg 1).length ≤ 1; rw [Fd]; exact Ad _⟩
theorem Ea {L : List UInt8} {many neg : Bool} {l : List PT} {r : List UInt8} {m : Bool} (h : Bu L many neg = some (l, r, m)) : PW l ∧ Da (1 + (L.length - r.length)) l ∧ l.length ≤ 1 := by
 unfold Bu at h
 split at h
 ·cases h
 ·next t ht =>
  have h0 := Ef L
  obtain ⟨g1, g2⟩ := I7 _ _ (Ad _) ht (Uy neg) (Lf neg)
  have h1 := Gh _ ht
  cases h
  refine ⟨PW.one g1 (eE _), ?_, ?_⟩
  ·unfold J8
   split
   ·intro t ht; cases ht
   ·intro t' ht'
    simp only [Ao] at ht'
    subst ht'
    refine Cv.mono g2 ?_
    simp only at h1 ⊢
    omega
  ·unfold J8; split <;> simp
theorem Mg : ∀ (n : Nat) (p : List PT) (L : List UInt8) (many : Bool) {l : List PT} {m : Bool}, L.length ≤ n → Dg p L many = some (l, m) → PW p → ∀ {K : Nat}, Da K p → PW l ∧ Da (K + 3 * L.length) l ∧ l.length ≤ p.length + L.length
 | n, p, [], many, l, m, hn, h, hp, K, hK => by
  rw [Dg] at h
  cases h
  exact ⟨hp, hK.mono qB, by omega⟩
 | 0, p, b :: r, many, l, m, hn, h, hp, K, hK => by simp at hn
 | n + 1, p, b :: r, many, l, m, hn, h, hp, K, hK => by
  rw [Dg] at h
  split at h
  ·split at h
   ·cases h
   ·next l' r' m' h' =>
    obtain ⟨g1, g2, g3⟩ := Ea h'
    have h1 := Ee h'
    have h2 := Hy p l'
    simp only [List.length_cons] at hn
    obtain ⟨g4, g5, g6⟩ := Mg n _ r' m' qB h (hp.add g1) (Da.add p l' hp.good g1.good hK g2)
    refine ⟨g4, g5.mono ?_, ?_⟩
    ·simp only [List.length_cons]; omega
    ·simp only [List.length_cons]; omega
  ·cases h
theorem Pr (d : List UInt8) (a : Nat) : d.foldl (fun n b => 10 * n + (b.toNat - 48)) a = a * 10 ^ d.length + Bd d := by
 induction d generalizing a with
 | nil => simp [Bd]
 | cons b r ih =>
  have e : Bd (b :: r) = (10 * 0 + (b.toNat - 48)) * 10 ^ r.length + Bd r := by rw [← ih]; rfl
  rw [List.foldl_cons, ih, e, List.length_cons, Nat.pow_succ]
  rw [Nat.add_mul, Nat.add_mul, Nat.mul_zero, Nat.zero_mul]
  have : 10 * a * 10 ^ r.length = a * (10 ^ r.length * 10) := by rw [Nat.mul_comm 10 a, Nat.mul_assoc, Nat.mul_comm 10 (10 ^ r.length)]
  rw [this]
  omega
theorem Ra (a b : List UInt8) : Bd (a ++ b) = Bd a * 10 ^ b.length + Bd b := by
 have : Bd (a ++ b) = b.foldl (fun n b => 10 * n + (b.toNat - 48)) (Bd a) := by simp [Bd, List.foldl_append]
 rw [this, Pr]
theorem Pg (a : List UInt8) (b : UInt8) : Bd (a ++ [b]) = 10 * Bd a + (b.toNat - 48) := by
 simp [Bd, List.foldl_append]
theorem J7 {d : List UInt8} (h : d.all Bl = true) (hl : d.length ≤ 9) : Bd d < 1000000000 := by
 have h1 := Mt h
 have h2 : 10 ^ d.length ≤ 10 ^ 9 := Nat.pow_le_pow_right qB hl
 omega
structure Jc (s : List UInt8) (j : Nat) (d : List Nat) : Prop where
 le : j ≤ s.length
 small : ∀ x ∈ d, x < 1000000000
 lies : j = 0 ∨ j + 9 * d.length = s.length
 few : d.length ≤ s.length
 sum : val d + 1000000000 ^ d.length * Bd (s.take j) = Bd s
theorem Jc.start (s : List UInt8) : Jc s s.length [] := ⟨Ad _, by simp, by simp, by simp, by simp [val]⟩
theorem Z9 (v P y X K : Nat) : v + P * y + P * K * X = v + P * (X * K + y) := by
 rw [Nat.mul_add, Nat.mul_comm X K, Nat.mul_assoc]; omega
theorem bA (v P y K q : Nat) : v + P * y + P * K * 0 = v + P * (0 * q + y) := by
 rw [Nat.mul_zero, Nat.zero_mul, Nat.zero_add, Nat.add_zero]
theorem Jc.next {s : List UInt8} {j : Nat} {d : List Nat} (h : Jc s j d) (ha : s.all Bl = true) (hj : 0 < j) : Jc s (j - 9) (d ++ [Bd ((s.take j).drop (j - 9))]) := by
 obtain ⟨h1, h2, h3, h4, h5⟩ := h
 have hl : ((s.take j).drop (j - 9)).length = j - (j - 9) := by simp; omega
 have hall : ((s.take j).drop (j - 9)).all Bl = true := by
  exact qDl
 have hn := J7 hall qB
 refine ⟨by omega, ?_, ?_, ?_, ?_⟩
 ·intro x hx
  rcases List.mem_append.1 hx with hx | hx
  ·exact h2 x hx
  ·simp only [Ao] at hx; omega
 ·rw [List.length_append, List.length_singleton]; omega
 ·rw [List.length_append, List.length_singleton]; omega
 ·rw [Ex, List.length_append, List.length_singleton, Nat.pow_succ]
  have e1 : s.take j = s.take (j - 9) ++ (s.take j).drop (j - 9) := by
   have : (s.take j).take (j - 9) = s.take (j - 9) := by rw [List.take_take]; congr 1; omega
   rw [← this, List.take_append_drop]
  have e2 : Bd (s.take j) = Bd (s.take (j - 9)) * 10 ^ (j - (j - 9)) + Bd ((s.take j).drop (j - 9)) := by
   conv => lhs; rw [e1]
   rw [Ra, hl]
  have e3 : val [Bd ((s.take j).drop (j - 9))] = Bd ((s.take j).drop (j - 9)) := by simp [val]
  rw [e3, ← h5, e2]
  by_cases h9 : 9 ≤ j
  ·have e4 : (10 : Nat) ^ (j - (j - 9)) = 1000000000 := by rw [show j - (j - 9) = 9 by omega]
   rw [e4]
   exact Z9 _ _ _ _ _
  ·have e5 : Bd (s.take (j - 9)) = 0 := by rw [show j - 9 = 0 by omega]; rfl
   rw [e5]
   exact bA _ _ _ _ _
theorem Jc.done {s : List UInt8} {d : List Nat} (h : Jc s 0 d) : val d = Bd s := by
 have := h.sum
 simpa [Bd] using this
end Go.Proofs.YtdamegaedmckbaaGreatDoor
end
section
namespace Go.Proofs
open Go.Shelf
def Tryz.lays125_ren : Go.Shelf.Ren := ⟨fun | 125 => 229 | 128 => 282 | 129 => 264 | n => n, fun | 46 => 209 | 3 => 3 | 51 => 112 | 53 => 111 | 4 => 4 | 5 => 5 | 9 => 9 | n => n, fun | n => n⟩
theorem Tryz.lays125 : Go.Proofs.Lays.n125 Tryz.prog Tryz.lays125_ren := {
 mixed := by kernel_rfl
 f125 := Tryz.func229.trans (congrArg some (by kernel_rfl))
 f128 := Tryz.func282.trans (congrArg some (by kernel_rfl))
 f129 := Tryz.func264.trans (congrArg some (by kernel_rfl))
 t3 := Tryz.underlying3
 a3 := Tryz.isAgg3
 z3 := Tryz.sizeOf3
 v3 := Tryz.zeroValue3
 t4 := Tryz.underlying4
 a4 := Tryz.isAgg4
 z4 := Tryz.sizeOf4
 v4 := Tryz.zeroValue4
 t5 := Tryz.underlying5
 a5 := Tryz.isAgg5
 z5 := Tryz.sizeOf5
 v5 := Tryz.zeroValue5
 t9 := Tryz.underlying9
 a9 := Tryz.isAgg9
 z9 := Tryz.sizeOf9
 v9 := Tryz.zeroValue9
 t46 := Tryz.underlying209
 a46 := Tryz.isAgg209
 z46 := Tryz.sizeOf209
 v46 := Tryz.zeroValue209
 t51 := Tryz.underlying112
 a51 := Tryz.isAgg112
 z51 := Tryz.sizeOf112
 v51 := Tryz.zeroValue112
 t53 := Tryz.underlying111
 a53 := Tryz.isAgg111
 z53 := Tryz.sizeOf111
 v53 := Tryz.zeroValue111 }
theorem Tryz.bits_Len (x : Int) (w : World) (h0 : 0 ≤ x) (h1 : x ≤ 18446744073709551615) :
  Calls Tryz.prog 229 #[.int .u64 x] w fun e w' => e = .returned (.int .i64 (Lib.bitLen x.toNat)) ∧ w' = w := Any.bits_Len Tryz.lays125 x w h0 h1
def Tryz.laysC172_ren : Go.Shelf.Ren := ⟨fun | 172 => 242 | 244 => 289 | 245 => 290 | 247 => 315 | 279 => 316 | 280 => 317 | 281 => 318 | 282 => 319 | 287 => 324 | 316 => 334 | 171 => 184 | 205 => 335 | 321 => 337 | 322 => 338 | 243 => 232 | 246 => 284 | 283 => 216 | 284 => 217 | 285 => 218 | 286 => 219 | 129 => 264 | 317 => 263 | 318 => 265 | 319 => 266 | 320 => 267 | 337 => 304 | 338 => 305 | n => n, fun | 9 => 9 | 3 => 3 | 75 => 108 | 76 => 114 | 4 => 4 | 5 => 5 | 167 => 322 | 37 => 49 | 0 => 0 | 85 => 323 | 2 => 2 | 168 => 325 | 53 => 111 | 175 => 308 | 46 => 209 | 210 => 344 | 127 => 212 | 145 => 349 | 143 => 347 | 21 => 21 | 171 => 243 | 173 => 246 | 212 => 284 | 51 => 112 | 20 => 20 | 213 => 285 | 232 => 331 | 233 => 332 | 80 => 117 | n => n, fun | 15 => 6 | 16 => 7 | 17 => 0 | 18 => 2 | 19 => 3 | n => n⟩
theorem Tryz.laysC172 : Go.Proofs.LaysC.n172 Tryz.prog Tryz.laysC172_ren := {
 mixed := by kernel_rfl
 f129 := Tryz.func264.trans (congrArg some (by kernel_rfl))
 f171 := Tryz.func184.trans (congrArg some (by kernel_rfl))
 f172 := Tryz.func242.trans (congrArg some (by kernel_rfl))
 f205 := Tryz.func335.trans (congrArg some (by kernel_rfl))
 f243 := Tryz.func232.trans (congrArg some (by kernel_rfl))
 f244 := Tryz.func289.trans (congrArg some (by kernel_rfl))
 f245 := Tryz.func290.trans (congrArg some (by kernel_rfl))
 f246 := Tryz.func284.trans (congrArg some (by kernel_rfl))
 f247 := Tryz.func315.trans (congrArg some (by kernel_rfl))
 f279 := Tryz.func316.trans (congrArg some (by kernel_rfl))
 f280 := Tryz.func317.trans (congrArg some (by kernel_rfl))
 f281 := Tryz.func318.trans (congrArg some (by kernel_rfl))
 f282 := Tryz.func319.trans (congrArg some (by kernel_rfl))
 f283 := Tryz.func216.trans (congrArg some (by kernel_rfl))
 f284 := Tryz.func217.trans (congrArg some (by kernel_rfl))
 f285 := Tryz.func218.trans (congrArg some (by kernel_rfl))
 f286 := Tryz.func219.trans (congrArg some (by kernel_rfl))
 f287 := Tryz.func324.trans (congrArg some (by kernel_rfl))
 f316 := Tryz.func334.trans (congrArg some (by kernel_rfl))
 f317 := Tryz.func263.trans (congrArg some (by kernel_rfl))
 f318 := Tryz.func265.trans (congrArg some (by kernel_rfl))
 f319 := Tryz.func266.trans (congrArg some (by kernel_rfl))
 f320 := Tryz.func267.trans (congrArg some (by kernel_rfl))
 f321 := Tryz.func337.trans (congrArg some (by kernel_rfl))
 f322 := Tryz.func338.trans (congrArg some (by kernel_rfl))
 f337 := Tryz.func304.trans (congrArg some (by kernel_rfl))
 f338 := Tryz.func305.trans (congrArg some (by kernel_rfl))
 t0 := Tryz.underlying0
 a0 := Tryz.isAgg0
 z0 := Tryz.sizeOf0
 v0 := Tryz.zeroValue0
 t2 := Tryz.underlying2
 a2 := Tryz.isAgg2
 z2 := Tryz.sizeOf2
 v2 := Tryz.zeroValue2
 t3 := Tryz.underlying3
 a3 := Tryz.isAgg3
 z3 := Tryz.sizeOf3
 v3 := Tryz.zeroValue3
 t4 := Tryz.underlying4
 a4 := Tryz.isAgg4
 z4 := Tryz.sizeOf4
 v4 := Tryz.zeroValue4
 t5 := Tryz.underlying5
 a5 := Tryz.isAgg5
 z5 := Tryz.sizeOf5
 v5 := Tryz.zeroValue5
 t9 := Tryz.underlying9
 a9 := Tryz.isAgg9
 z9 := Tryz.sizeOf9
 v9 := Tryz.zeroValue9
 t20 := Tryz.underlying20
 a20 := Tryz.isAgg20
 z20 := Tryz.sizeOf20
 v20 := Tryz.zeroValue20
 t21 := Tryz.underlying21
 a21 := Tryz.isAgg21
 z21 := Tryz.sizeOf21
 v21 := Tryz.zeroValue21
 t37 := Tryz.underlying49
 a37 := Tryz.isAgg49
 z37 := Tryz.sizeOf49
 v37 := Tryz.zeroValue49
 t46 := Tryz.underlying209
 a46 := Tryz.isAgg209
 z46 := Tryz.sizeOf209
 v46 := Tryz.zeroValue209
 t51 := Tryz.underlying112
 a51 := Tryz.isAgg112
 z51 := Tryz.sizeOf112
 v51 := Tryz.zeroValue112
 t53 := Tryz.underlying111
 a53 := Tryz.isAgg111
 z53 := Tryz.sizeOf111
 v53 := Tryz.zeroValue111
 t75 := Tryz.underlying108
 a75 := Tryz.isAgg108
 z75 := Tryz.sizeOf108
 v75 := Tryz.zeroValue108
 t76 := Tryz.underlying114
 a76 := Tryz.isAgg114
 z76 := Tryz.sizeOf114
 v76 := Tryz.zeroValue114
 t85 := Tryz.underlying323
 a85 := Tryz.isAgg323
 z85 := Tryz.sizeOf323
 v85 := Tryz.zeroValue323
 t127 := Tryz.underlying212
 a127 := Tryz.isAgg212
 z127 := Tryz.sizeOf212
 v127 := Tryz.zeroValue212
 t143 := Tryz.underlying347
 a143 := Tryz.isAgg347
 z143 := Tryz.sizeOf347
 v143 := Tryz.zeroValue347
 t145 := Tryz.underlying349
 a145 := Tryz.isAgg349
 z145 := Tryz.sizeOf349
 v145 := Tryz.zeroValue349
 t167 := Tryz.underlying322
 a167 := Tryz.isAgg322
 z167 := Tryz.sizeOf322
 v167 := Tryz.zeroValue322
 t168 := Tryz.underlying325
 a168 := Tryz.isAgg325
 z168 := Tryz.sizeOf325
 v168 := Tryz.zeroValue325
 t171 := Tryz.underlying243
 a171 := Tryz.isAgg243
 z171 := Tryz.sizeOf243
 v171 := Tryz.zeroValue243
 t173 := Tryz.underlying246
 a173 := Tryz.isAgg246
 z173 := Tryz.sizeOf246
 v173 := Tryz.zeroValue246
 t175 := Tryz.underlying308
 a175 := Tryz.isAgg308
 z175 := Tryz.sizeOf308
 v175 := Tryz.zeroValue308
 t210 := Tryz.underlying344
 a210 := Tryz.isAgg344
 z210 := Tryz.sizeOf344
 v210 := Tryz.zeroValue344
 t212 := Tryz.underlying284
 a212 := Tryz.isAgg284
 z212 := Tryz.sizeOf284
 v212 := Tryz.zeroValue284
 t213 := Tryz.underlying285
 a213 := Tryz.isAgg285
 z213 := Tryz.sizeOf285
 t232 := Tryz.underlying331
 a232 := Tryz.isAgg331
 z232 := Tryz.sizeOf331
 v232 := Tryz.zeroValue331
 t233 := Tryz.underlying332
 a233 := Tryz.isAgg332
 z233 := Tryz.sizeOf332
 v233 := Tryz.zeroValue332
 g15 := by kernel_rfl
 g16 := by kernel_rfl
 g17 := by kernel_rfl
 g18 := by kernel_rfl
 g19 := by kernel_rfl
 t80 := Tryz.underlying117
 a80 := Tryz.isAgg117
 z80 := Tryz.sizeOf117
 v80 := Tryz.zeroValue117
 i0 := by kernel_rfl
 i2 := by kernel_rfl
 i3 := by kernel_rfl
 i4 := by kernel_rfl
 i5 := by kernel_rfl
 i9 := by kernel_rfl
 i20 := by kernel_rfl
 i21 := by kernel_rfl
 i37 := by kernel_rfl
 i46 := by kernel_rfl
 i51 := by kernel_rfl
 i53 := by kernel_rfl
 i75 := by kernel_rfl
 i76 := by kernel_rfl
 i80 := by kernel_rfl
 i85 := by kernel_rfl
 i127 := by kernel_rfl
 i143 := by kernel_rfl
 i145 := by kernel_rfl
 i167 := by kernel_rfl
 i168 := by kernel_rfl
 i171 := by kernel_rfl
 i173 := by kernel_rfl
 i175 := by kernel_rfl
 i210 := by kernel_rfl
 i212 := by kernel_rfl
 i232 := by kernel_rfl
 i233 := by kernel_rfl
 m15 := by kernel_rfl
 m16 := by kernel_rfl
 m17 := by kernel_rfl
 m18 := by kernel_rfl
 m19 := by kernel_rfl
 c0 := by kernel_rfl
 c2 := by kernel_rfl
 c3 := by kernel_rfl
 c4 := by kernel_rfl
 c5 := by kernel_rfl
 c9 := by kernel_rfl
 c20 := by kernel_rfl
 c21 := by kernel_rfl
 c37 := by kernel_rfl
 c46 := by kernel_rfl
 c51 := by kernel_rfl
 c53 := by kernel_rfl
 c75 := by kernel_rfl
 c76 := by kernel_rfl
 c80 := by kernel_rfl
 c85 := by kernel_rfl
 c127 := by kernel_rfl
 c143 := by kernel_rfl
 c145 := by kernel_rfl
 c167 := by kernel_rfl
 c168 := by kernel_rfl
 c171 := by kernel_rfl
 c173 := by kernel_rfl
 c175 := by kernel_rfl
 c210 := by kernel_rfl
 c212 := by kernel_rfl
 c213 := by kernel_rfl
 c232 := by kernel_rfl
 c233 := by kernel_rfl }
open Go.RowKit in
theorem Tryz.strconv_Atoi_ok (s : ByteArray) (hmax : s.size ≤ 9223372036854775806) (v : Int) (h : Lib.atoiAll s.data.toList = .ok v) (w : World) :
  Calls Tryz.prog 242 #[.string s] w fun e w' => e = .returned (.tuple #[.int .i64 v, .nilIface]) ∧ (w' = w ∨ ∃ t, w' = Lib.bytesWorld w 5 t) := Any.strconv_Atoi_ok Tryz.laysC172 s hmax v h w
open Go.RowKit in
theorem Tryz.strconv_Atoi_range (s : ByteArray) (hlim : s.size ≤ 281474976710656) (h : Lib.atoiAll s.data.toList = .range) (ev : Value) (w : World) (hv : w.cell? ⟨7, 0, none⟩ = some ev) (hev : ev = .nilIface ∨ ∃ te pe, ev = .iface te pe) :
  Calls Tryz.prog 242 #[.string s] w fun e w' => ∃ N, e = .returned (.tuple #[.int .i64 (Lib.atoiSat s.data.toList), .iface 325 (.pointer (some ⟨N, 0, none⟩))]) ∧ w.heap.size ≤ N ∧ w'.heap[N]? = some (.cells #[.string ⟨#[65, 116, 111, 105]⟩, .string s, ev] 344 (0, 0)) ∧ Below w.heap.size w w' := Any.strconv_Atoi_range Tryz.laysC172 s hlim h ev w hv hev
def Tryz.laysPu14_ren : Go.Shelf.Ren := ⟨fun | 14 => 293 | 16 => 324 | 17 => 290 | 19 => 337 | 20 => 338 | 21 => 316 | 22 => 317 | 23 => 318 | 24 => 319 | 25 => 334 | 27 => 184 | 26 => 335 | 28 => 232 | 29 => 284 | 30 => 216 | 31 => 217 | 32 => 218 | 33 => 219 | 35 => 264 | 34 => 263 | 36 => 265 | 37 => 266 | 38 => 267 | 39 => 304 | 40 => 305 | n => n, fun | 9 => 9 | 3 => 3 | 22 => 111 | 24 => 108 | 25 => 308 | 4 => 4 | 34 => 322 | 5 => 5 | 36 => 209 | 37 => 49 | 0 => 0 | 39 => 325 | 21 => 21 | 44 => 344 | 47 => 212 | 50 => 349 | 48 => 347 | 2 => 2 | 52 => 243 | 55 => 246 | 59 => 284 | 60 => 112 | 20 => 20 | 61 => 285 | 65 => 331 | 66 => 332 | 67 => 117 | n => n, fun | 0 => 6 | 1 => 7 | 2 => 0 | 3 => 2 | 4 => 3 | n => n⟩
theorem Tryz.laysPu14 : Go.Proofs.LaysPu.n14 Tryz.prog Tryz.laysPu14_ren := {
 mixed := by kernel_rfl
 f14 := Tryz.func293.trans (congrArg some (by kernel_rfl))
 f16 := Tryz.func324.trans (congrArg some (by kernel_rfl))
 f17 := Tryz.func290.trans (congrArg some (by kernel_rfl))
 f19 := Tryz.func337.trans (congrArg some (by kernel_rfl))
 f20 := Tryz.func338.trans (congrArg some (by kernel_rfl))
 f21 := Tryz.func316.trans (congrArg some (by kernel_rfl))
 f22 := Tryz.func317.trans (congrArg some (by kernel_rfl))
 f23 := Tryz.func318.trans (congrArg some (by kernel_rfl))
 f24 := Tryz.func319.trans (congrArg some (by kernel_rfl))
 f25 := Tryz.func334.trans (congrArg some (by kernel_rfl))
 f26 := Tryz.func335.trans (congrArg some (by kernel_rfl))
 f27 := Tryz.func184.trans (congrArg some (by kernel_rfl))
 f28 := Tryz.func232.trans (congrArg some (by kernel_rfl))
 f29 := Tryz.func284.trans (congrArg some (by kernel_rfl))
 f30 := Tryz.func216.trans (congrArg some (by kernel_rfl))
 f31 := Tryz.func217.trans (congrArg some (by kernel_rfl))
 f32 := Tryz.func218.trans (congrArg some (by kernel_rfl))
 f33 := Tryz.func219.trans (congrArg some (by kernel_rfl))
 f34 := Tryz.func263.trans (congrArg some (by kernel_rfl))
 f35 := Tryz.func264.trans (congrArg some (by kernel_rfl))
 f36 := Tryz.func265.trans (congrArg some (by kernel_rfl))
 f37 := Tryz.func266.trans (congrArg some (by kernel_rfl))
 f38 := Tryz.func267.trans (congrArg some (by kernel_rfl))
 f39 := Tryz.func304.trans (congrArg some (by kernel_rfl))
 f40 := Tryz.func305.trans (congrArg some (by kernel_rfl))
 t0 := Tryz.underlying0
 a0 := Tryz.isAgg0
 z0 := Tryz.sizeOf0
 v0 := Tryz.zeroValue0
 i0 := by kernel_rfl
 t2 := Tryz.underlying2
 a2 := Tryz.isAgg2
 z2 := Tryz.sizeOf2
 v2 := Tryz.zeroValue2
 i2 := by kernel_rfl
 t3 := Tryz.underlying3
 a3 := Tryz.isAgg3
 z3 := Tryz.sizeOf3
 v3 := Tryz.zeroValue3
 i3 := by kernel_rfl
 t4 := Tryz.underlying4
 a4 := Tryz.isAgg4
 z4 := Tryz.sizeOf4
 v4 := Tryz.zeroValue4
 i4 := by kernel_rfl
 t5 := Tryz.underlying5
 a5 := Tryz.isAgg5
 z5 := Tryz.sizeOf5
 v5 := Tryz.zeroValue5
 i5 := by kernel_rfl
 t9 := Tryz.underlying9
 a9 := Tryz.isAgg9
 z9 := Tryz.sizeOf9
 v9 := Tryz.zeroValue9
 i9 := by kernel_rfl
 t20 := Tryz.underlying20
 a20 := Tryz.isAgg20
 z20 := Tryz.sizeOf20
 v20 := Tryz.zeroValue20
 i20 := by kernel_rfl
 t21 := Tryz.underlying21
 a21 := Tryz.isAgg21
 z21 := Tryz.sizeOf21
 v21 := Tryz.zeroValue21
 i21 := by kernel_rfl
 t22 := Tryz.underlying111
 a22 := Tryz.isAgg111
 z22 := Tryz.sizeOf111
 v22 := Tryz.zeroValue111
 i22 := by kernel_rfl
 t24 := Tryz.underlying108
 a24 := Tryz.isAgg108
 z24 := Tryz.sizeOf108
 v24 := Tryz.zeroValue108
 i24 := by kernel_rfl
 t25 := Tryz.underlying308
 a25 := Tryz.isAgg308
 z25 := Tryz.sizeOf308
 v25 := Tryz.zeroValue308
 i25 := by kernel_rfl
 t34 := Tryz.underlying322
 a34 := Tryz.isAgg322
 z34 := Tryz.sizeOf322
 v34 := Tryz.zeroValue322
 i34 := by kernel_rfl
 c34 := by kernel_rfl
 t36 := Tryz.underlying209
 a36 := Tryz.isAgg209
 z36 := Tryz.sizeOf209
 v36 := Tryz.zeroValue209
 i36 := by kernel_rfl
 t37 := Tryz.underlying49
 a37 := Tryz.isAgg49
 z37 := Tryz.sizeOf49
 v37 := Tryz.zeroValue49
 i37 := by kernel_rfl
 t39 := Tryz.underlying325
 a39 := Tryz.isAgg325
 z39 := Tryz.sizeOf325
 v39 := Tryz.zeroValue325
 i39 := by kernel_rfl
 t44 := Tryz.underlying344
 a44 := Tryz.isAgg344
 z44 := Tryz.sizeOf344
 v44 := Tryz.zeroValue344
 i44 := by kernel_rfl
 t47 := Tryz.underlying212
 a47 := Tryz.isAgg212
 z47 := Tryz.sizeOf212
 v47 := Tryz.zeroValue212
 i47 := by kernel_rfl
 t48 := Tryz.underlying347
 a48 := Tryz.isAgg347
 z48 := Tryz.sizeOf347
 v48 := Tryz.zeroValue347
 i48 := by kernel_rfl
 t50 := Tryz.underlying349
 a50 := Tryz.isAgg349
 z50 := Tryz.sizeOf349
 v50 := Tryz.zeroValue349
 i50 := by kernel_rfl
 t52 := Tryz.underlying243
 a52 := Tryz.isAgg243
 z52 := Tryz.sizeOf243
 v52 := Tryz.zeroValue243
 i52 := by kernel_rfl
 t55 := Tryz.underlying246
 a55 := Tryz.isAgg246
 z55 := Tryz.sizeOf246
 v55 := Tryz.zeroValue246
 i55 := by kernel_rfl
 t59 := Tryz.underlying284
 a59 := Tryz.isAgg284
 z59 := Tryz.sizeOf284
 v59 := Tryz.zeroValue284
 i59 := by kernel_rfl
 t60 := Tryz.underlying112
 a60 := Tryz.isAgg112
 z60 := Tryz.sizeOf112
 v60 := Tryz.zeroValue112
 i60 := by kernel_rfl
 t61 := Tryz.underlying285
 a61 := Tryz.isAgg285
 z61 := Tryz.sizeOf285
 t65 := Tryz.underlying331
 a65 := Tryz.isAgg331
 z65 := Tryz.sizeOf331
 v65 := Tryz.zeroValue331
 i65 := by kernel_rfl
 t66 := Tryz.underlying332
 a66 := Tryz.isAgg332
 z66 := Tryz.sizeOf332
 v66 := Tryz.zeroValue332
 i66 := by kernel_rfl
 t67 := Tryz.underlying117
 a67 := Tryz.isAgg117
 z67 := Tryz.sizeOf117
 v67 := Tryz.zeroValue117
 i67 := by kernel_rfl
 g0 := by kernel_rfl
 m0 := by kernel_rfl
 g1 := by kernel_rfl
 m1 := by kernel_rfl
 g2 := by kernel_rfl
 m2 := by kernel_rfl
 g3 := by kernel_rfl
 m3 := by kernel_rfl
 g4 := by kernel_rfl
 m4 := by kernel_rfl }
open Go.RowKit in
theorem Tryz.strconv_ParseUint_10_at32_ok (s : ByteArray) (hmax : s.size ≤ 9223372036854775806) (u : Nat) (h : Lib.parseUintB 32 s.data.toList = .ok u) (w : World) :
  Calls Tryz.prog 293 #[.string s, .int .i64 10, .int .i64 32] w fun e w' => e = .returned (.tuple #[.int .u64 u, .nilIface]) ∧ (w' = w ∨ w' = Lib.bytesWorld w 5 s) := Any.strconv_ParseUint_10_at32_ok Tryz.laysPu14 s hmax u h w
def Tryz.laysPdq228_ren : Go.Shelf.Ren := ⟨fun | 14 => 228 | 20 => 274 | 21 => 275 | 22 => 276 | 23 => 277 | 24 => 278 | 25 => 279 | 26 => 280 | 27 => 281 | 46 => 308 | 47 => 309 | 48 => 310 | 49 => 311 | 50 => 312 | 15 => 229 | 57 => 330 | 28 => 282 | 29 => 264 | n => n, fun | 24 => 68 | 22 => 22 | 3 => 3 | 25 => 218 | 4 => 4 | 0 => 0 | 46 => 293 | 45 => 292 | 50 => 297 | 66 => 315 | 39 => 209 | 55 => 111 | 70 => 319 | 76 => 333 | 77 => 334 | 53 => 112 | 5 => 5 | 9 => 9 | n => n, fun | n => n⟩
theorem Tryz.laysPdq228 : Go.Proofs.SlLaysF0.n14 Tryz.prog Tryz.laysPdq228_ren := {
 mixed := by kernel_rfl
 f14 := ⟨Tryz.f228.name, by decide, Tryz.func228.trans (congrArg some (by kernel_rfl))⟩
 f15 := Tryz.func229.trans (congrArg some (by kernel_rfl))
 f20 := ⟨Tryz.f274.name, by decide, Tryz.func274.trans (congrArg some (by kernel_rfl))⟩
 f21 := ⟨Tryz.f275.name, by decide, Tryz.func275.trans (congrArg some (by kernel_rfl))⟩
 f22 := ⟨Tryz.f276.name, by decide, Tryz.func276.trans (congrArg some (by kernel_rfl))⟩
 f23 := ⟨Tryz.f277.name, by decide, Tryz.func277.trans (congrArg some (by kernel_rfl))⟩
 f24 := ⟨Tryz.f278.name, by decide, Tryz.func278.trans (congrArg some (by kernel_rfl))⟩
 f25 := ⟨Tryz.f279.name, by decide, Tryz.func279.trans (congrArg some (by kernel_rfl))⟩
 f26 := ⟨Tryz.f280.name, by decide, Tryz.func280.trans (congrArg some (by kernel_rfl))⟩
 f27 := ⟨Tryz.f281.name, by decide, Tryz.func281.trans (congrArg some (by kernel_rfl))⟩
 f28 := Tryz.func282.trans (congrArg some (by kernel_rfl))
 f29 := Tryz.func264.trans (congrArg some (by kernel_rfl))
 f46 := ⟨Tryz.f308.name, by decide, Tryz.func308.trans (congrArg some (by kernel_rfl))⟩
 f47 := Tryz.func309.trans (congrArg some (by kernel_rfl))
 f48 := Tryz.func310.trans (congrArg some (by kernel_rfl))
 f49 := ⟨Tryz.f311.name, by decide, Tryz.func311.trans (congrArg some (by kernel_rfl))⟩
 f50 := ⟨Tryz.f312.name, by decide, Tryz.func312.trans (congrArg some (by kernel_rfl))⟩
 f57 := ⟨Tryz.f330.name, by decide, Tryz.func330.trans (congrArg some (by kernel_rfl))⟩
 t0 := Tryz.underlying0
 a0 := Tryz.isAgg0
 z0 := Tryz.sizeOf0
 v0 := Tryz.zeroValue0
 t3 := Tryz.underlying3
 a3 := Tryz.isAgg3
 z3 := Tryz.sizeOf3
 v3 := Tryz.zeroValue3
 t4 := Tryz.underlying4
 a4 := Tryz.isAgg4
 z4 := Tryz.sizeOf4
 v4 := Tryz.zeroValue4
 t5 := Tryz.underlying5
 a5 := Tryz.isAgg5
 z5 := Tryz.sizeOf5
 v5 := Tryz.zeroValue5
 t9 := Tryz.underlying9
 a9 := Tryz.isAgg9
 z9 := Tryz.sizeOf9
 v9 := Tryz.zeroValue9
 t22 := Tryz.underlying22
 a22 := Tryz.isAgg22
 z22 := Tryz.sizeOf22
 v22 := Tryz.zeroValue22
 t25 := Tryz.underlying218
 a25 := Tryz.isAgg218
 z25 := Tryz.sizeOf218
 v25 := Tryz.zeroValue218
 t39 := Tryz.underlying209
 a39 := Tryz.isAgg209
 z39 := Tryz.sizeOf209
 v39 := Tryz.zeroValue209
 t45 := Tryz.underlying292
 a45 := Tryz.isAgg292
 z45 := Tryz.sizeOf292
 v45 := Tryz.zeroValue292
 t46 := Tryz.underlying293
 a46 := Tryz.isAgg293
 z46 := Tryz.sizeOf293
 v46 := Tryz.zeroValue293
 t50 := Tryz.underlying297
 a50 := Tryz.isAgg297
 z50 := Tryz.sizeOf297
 v50 := Tryz.zeroValue297
 t53 := Tryz.underlying112
 a53 := Tryz.isAgg112
 z53 := Tryz.sizeOf112
 v53 := Tryz.zeroValue112
 t55 := Tryz.underlying111
 a55 := Tryz.isAgg111
 z55 := Tryz.sizeOf111
 v55 := Tryz.zeroValue111
 t66 := Tryz.underlying315
 a66 := Tryz.isAgg315
 z66 := Tryz.sizeOf315
 v66 := Tryz.zeroValue315
 t70 := Tryz.underlying319
 a70 := Tryz.isAgg319
 z70 := Tryz.sizeOf319
 v70 := Tryz.zeroValue319
 t76 := Tryz.underlying333
 a76 := Tryz.isAgg333
 z76 := Tryz.sizeOf333
 v76 := Tryz.zeroValue333
 t77 := Tryz.underlying334
 a77 := Tryz.isAgg334
 z77 := Tryz.sizeOf334
 v77 := Tryz.zeroValue334 }
def Tryz.laysGrow176_ren : Go.Shelf.Ren := ⟨fun | 4 => 176 | n => n, fun | 22 => 23 | 25 => 68 | 3 => 3 | 4 => 4 | 9 => 9 | 20 => 20 | 0 => 0 | n => n, fun | n => n⟩
theorem Tryz.laysGrow176 : Go.Proofs.Lays8.n4 Tryz.prog Tryz.laysGrow176_ren := {
 mixed := by kernel_rfl
 f4 := ⟨Tryz.f176.name, by decide, Tryz.func176.trans (congrArg some (by kernel_rfl))⟩
 t0 := Tryz.underlying0
 a0 := Tryz.isAgg0
 z0 := Tryz.sizeOf0
 v0 := Tryz.zeroValue0
 t3 := Tryz.underlying3
 a3 := Tryz.isAgg3
 z3 := Tryz.sizeOf3
 v3 := Tryz.zeroValue3
 t4 := Tryz.underlying4
 a4 := Tryz.isAgg4
 z4 := Tryz.sizeOf4
 v4 := Tryz.zeroValue4
 t9 := Tryz.underlying9
 a9 := Tryz.isAgg9
 z9 := Tryz.sizeOf9
 v9 := Tryz.zeroValue9
 t20 := Tryz.underlying20
 a20 := Tryz.isAgg20
 z20 := Tryz.sizeOf20
 v20 := Tryz.zeroValue20
 t22 := Tryz.underlying23
 a22 := Tryz.isAgg23
 z22 := Tryz.sizeOf23
 v22 := Tryz.zeroValue23 }
end Go.Proofs
end
