/- Plain words for the document's long division. -/
import Derived.Test.YtdamegaedmckbaaGreatDoorQP12
set_option linter.unusedSimpArgs false
set_option linter.unusedVariables false
set_option maxRecDepth 100000
set_option maxHeartbeats 4000000
section
namespace Go.Proofs.YtdamegaedmckbaaGreatDoor
structure Kg (A : Nat) (b : List Nat) (p often len i owed : Nat) (l : List Nat) : Prop where
 len : l.length = len
 lt : ∀ x ∈ l, x < 1000000000
 small : owed ≤ often + 1
 eq : val l + often * (1000000000 ^ p * val (b.take i)) = A + 1000000000 ^ (p + i) * owed
theorem Kg.start {b : List Nat} {p often : Nat} {l : List Nat} (hl : ∀ x ∈ l, x < 1000000000) : Kg (val l) b p often l.length 0 0 l :=
 ⟨rfl, hl, by omega, by simp [val]⟩
theorem Kg.step {A : Nat} {b : List Nat} {p often len i owed : Nat} {l : List Nat} (h : Kg A b p often len i owed l) (hb : ∀ x ∈ b, x < 1000000000) (hi : p + i < len) {n x : Nat} (hn : n = owed + often * b.getD i 0) (hx : x = l.getD (p + i) 0) :
  (x < n % 1000000000 → Kg A b p often len (i + 1) (n / 1000000000 + 1) (l.set (p + i) (x + 1000000000 - n % 1000000000))) ∧
  (¬ x < n % 1000000000 → Kg A b p often len (i + 1) (n / 1000000000) (l.set (p + i) (x - n % 1000000000))) := by
 have hj : p + i < l.length := by rw [h.len]; exact hi
 have hbi := Cc hb i
 have hxl := Cc h.lt (p + i)
 rw [← hx] at hxl
 have hs := h.small
 have hnb : n / 1000000000 ≤ often := by
  have h1 : often * b.getD i 0 ≤ often * 999999999 := At _ qB
  have : n ≤ often * 1000000000 + 1 := by omega
  omega
 have hpw : 1000000000 ^ (p + (i + 1)) = 1000000000 ^ (p + i) * 1000000000 := by rw [← Nat.add_assoc, Nat.pow_succ]
 have hval : 1000000000 ^ p * val (b.take (i + 1)) = 1000000000 ^ (p + i) * b.getD i 0 + 1000000000 ^ p * val (b.take i) := by
  rw [Dt, Nat.mul_add, ← Nat.mul_assoc, ← Nat.pow_add, Nat.add_comm]
 have heq := h.eq
 have hdm := Nat.div_add_mod n 1000000000
 constructor
 ·intro hlt
  have hset := Jm l (p + i) (x + 1000000000 - n % 1000000000) hj
  rw [← hx] at hset
  refine ⟨by rw [List.length_set]; exact h.len, Gc h.lt qB, by omega, ?_⟩
  rw [hval, hpw]
  generalize val (l.set (p + i) (x + 1000000000 - n % 1000000000)) = vl' at *
  generalize 1000000000 ^ p * val (b.take i) = T at *
  have e1 : 1000000000 ^ (p + i) * (x + 1000000000 - n % 1000000000) + 1000000000 ^ (p + i) * (n % 1000000000) = 1000000000 ^ (p + i) * x + 1000000000 ^ (p + i) * 1000000000 := by
   rw [← Nat.mul_add, ← Nat.mul_add]; congr 1; omega
  have e2 : 1000000000 ^ (p + i) * (1000000000 * (n / 1000000000)) + 1000000000 ^ (p + i) * (n % 1000000000) = 1000000000 ^ (p + i) * owed + 1000000000 ^ (p + i) * (often * b.getD i 0) := by
   rw [← Nat.mul_add, ← Nat.mul_add]; congr 1; omega
  rw [Nat.mul_add often, Nat.mul_left_comm often, Nat.mul_assoc _ 1000000000, Nat.mul_add 1000000000, Nat.mul_one, Nat.mul_add (1000000000 ^ (p + i))]
  omega
 ·intro hlt
  have hset := Jm l (p + i) (x - n % 1000000000) hj
  rw [← hx] at hset
  refine ⟨by rw [List.length_set]; exact h.len, Gc h.lt qB, by omega, ?_⟩
  rw [hval, hpw]
  generalize val (l.set (p + i) (x - n % 1000000000)) = vl' at *
  generalize 1000000000 ^ p * val (b.take i) = T at *
  have e1 : 1000000000 ^ (p + i) * (x - n % 1000000000) + 1000000000 ^ (p + i) * (n % 1000000000) = 1000000000 ^ (p + i) * x := by
   rw [← Nat.mul_add]; congr 1; omega
  have e2 : 1000000000 ^ (p + i) * (1000000000 * (n / 1000000000)) + 1000000000 ^ (p + i) * (n % 1000000000) = 1000000000 ^ (p + i) * owed + 1000000000 ^ (p + i) * (often * b.getD i 0) := by
   rw [← Nat.mul_add, ← Nat.mul_add]; congr 1; omega
  rw [Nat.mul_add often, Nat.mul_left_comm often, Nat.mul_assoc _ 1000000000]
  omega
theorem Kg.done {A : Nat} {b : List Nat} {p often len i owed : Nat} {l : List Nat} (h : Kg A b p often len i owed l) (hi : p + i = len) (hb : b.length ≤ i) (hle : often * (1000000000 ^ p * val b) ≤ A) :
  val l = A - often * (1000000000 ^ p * val b) := by
 have h1 := h.eq
 rw [As hb, hi] at h1
 have h2 := Eg l h.lt
 rw [h.len] at h2
 rcases Aq owed with h3 | h3
 ·rw [h3, Nat.mul_zero] at h1; omega
 ·have : 1000000000 ^ len * 1 ≤ 1000000000 ^ len * owed := At _ h3
  omega
theorem eN (l : List Nat) (j : Nat) : 1000000000 ^ j * (l.getD j 0 + 1000000000 * l.getD (j + 1) 0) ≤ val l := by
 rcases Nat.lt_or_ge j l.length with h1 | h1
 ·have h2 := Dq l j qB
  have h3 := E7 l j h1
  have h4 : l.getD (j + 1) 0 ≤ val (l.drop (j + 1)) := by
   rcases Nat.lt_or_ge (j + 1) l.length with h5 | h5
   ·rw [E7 l (j + 1) h5]; omega
   ·simp [List.getD, List.getElem?_eq_none h5]
  have h5 : 1000000000 ^ j * (l.getD j 0 + 1000000000 * l.getD (j + 1) 0) ≤ 1000000000 ^ j * val (l.drop j) := At _ (by rw [h3]; omega)
  omega
 ·simp [List.getD, List.getElem?_eq_none h1, List.getElem?_eq_none (show l.length ≤ j + 1 by omega)]
structure Iw (A V n k : Nat) (l q : List Nat) : Prop where
 llen : l.length = n
 lt : ∀ x ∈ l, x < 1000000000
 qlen : q.length = n + 1
 qlt : ∀ x ∈ q, x < 1000000000
 kn : k < n + 1
 qz : ∀ j, j < k → q.getD j 0 = 0
 below : val l + q.getD k 0 * (1000000000 ^ k * V) < 1000000000 ^ (k + 1) * V
 eq : val l + V * val q = A
theorem Iw.start {V n k : Nat} {l : List Nat} (hl : l.length = n) (hlt : ∀ x ∈ l, x < 1000000000) (hk : k < n + 1) (hb : val l < 1000000000 ^ (k + 1) * V) : Iw (val l) V n k l (List.replicate (n + 1) 0) where
 llen := hl
 lt := hlt
 qlen := by simp
 qlt _ hx := by rw [(List.mem_replicate.1 hx).2]; omega
 kn := hk
 qz j hj := by simp only [List.getD, List.getElem?_replicate]; split <;> rfl
 below := by
  have : (List.replicate (n + 1) 0).getD k 0 = 0 := by simp only [List.getD, List.getElem?_replicate]; split <;> rfl
  rw [this, Nat.zero_mul, Nat.add_zero]
  exact hb
 eq := by rw [Gl, Nat.mul_zero, Nat.add_zero]
theorem Iw.often {A V n k m t : Nat} {l q : List Nat} (h : Iw A V n k l q) (hm : 2 ≤ m) (hV : V < 1000000000 ^ (m - 1) * (t + 1)) (hV0 : 0 < V) :
  (1000000000 * l.getD (k + m) 0 + l.getD (k + m - 1) 0) / (t + 1) * (1000000000 ^ k * V) ≤ val l ∧ (1000000000 * l.getD (k + m) 0 + l.getD (k + m - 1) 0) / (t + 1) < 1000000000 := by
 have h1 := eN l (k + m - 1)
 rw [show k + m - 1 + 1 = k + m by omega, Nat.add_comm (l.getD (k + m - 1) 0)] at h1
 generalize 1000000000 * l.getD (k + m) 0 + l.getD (k + m - 1) 0 = top at *
 have h2 : top / (t + 1) * (t + 1) ≤ top := Nat.div_mul_le_self _ _
 generalize top / (t + 1) = o at *
 obtain ⟨X, hX⟩ : ∃ X, X = 1000000000 ^ (m - 1) := ⟨_, rfl⟩
 obtain ⟨K, hK⟩ : ∃ K, K = 1000000000 ^ k := ⟨_, rfl⟩
 have e1 : 1000000000 ^ (k + m - 1) = K * X := by rw [hX, hK, ← Nat.pow_add]; congr 1; omega
 rw [← hX] at hV
 rw [e1] at h1
 rw [← hK]
 have h3 : o * V ≤ X * top := by
  have h4 : o * V ≤ o * (X * (t + 1)) := At _ qB
  have h5 : o * (X * (t + 1)) = X * (o * (t + 1)) := Nat.mul_left_comm _ _ _
  have h6 : X * (o * (t + 1)) ≤ X * top := At _ h2
  omega
 refine ⟨?_, ?_⟩
 ·have h4 : K * (o * V) ≤ K * (X * top) := At _ h3
  have e2 : o * (K * V) = K * (o * V) := Nat.mul_left_comm _ _ _
  have e3 : K * X * top = K * (X * top) := Nat.mul_assoc _ _ _
  omega
 ·have h7 := h.below
  rw [Nat.pow_succ, ← hK] at h7
  have h8 : K * (X * top) < K * (1000000000 * (X * (t + 1))) := by
   have h9 : K * 1000000000 * V ≤ K * 1000000000 * (X * (t + 1)) := At _ qB
   rw [Nat.mul_assoc K 1000000000 (X * _)] at h9
   rw [Nat.mul_assoc] at h1
   omega
  have h9 := Nat.lt_of_mul_lt_mul_left h8
  rw [Nat.mul_left_comm] at h9
  have h10 := Nat.lt_of_mul_lt_mul_left h9
  rcases Nat.lt_or_ge o 1000000000 with h11 | h11
  ·exact h11
  ·exfalso
   have : 1000000000 * (t + 1) ≤ o * (t + 1) := Nat.mul_le_mul_right _ h11
   omega
theorem Iw.step {A V n k o : Nat} {l q l' : List Nat} (h : Iw A V n k l q) (hV0 : 0 < V) (ho : o * (1000000000 ^ k * V) ≤ val l) (hl : l'.length = n) (hlt : ∀ x ∈ l', x < 1000000000) (hv : val l' = val l - o * (1000000000 ^ k * V)) :
  q.getD k 0 + o < 1000000000 ∧ Iw A V n k l' (q.set k (q.getD k 0 + o)) := by
 have hb := h.below
 have hkn := h.kn
 have hql := h.qlen
 have hset := Jm q k (q.getD k 0 + o) qB
 have hsm : q.getD k 0 + o < 1000000000 := by
  have h1 : (q.getD k 0 + o) * (1000000000 ^ k * V) < 1000000000 * (1000000000 ^ k * V) := by
   have e1 : 1000000000 ^ (k + 1) * V = 1000000000 * (1000000000 ^ k * V) := by rw [Nat.pow_succ, Nat.mul_comm (1000000000 ^ k), Nat.mul_assoc]
   rw [Nat.add_mul]
   omega
  exact Nat.lt_of_mul_lt_mul_right h1
 refine ⟨hsm, hl, hlt, by rw [List.length_set]; exact hql, Gc h.qlt hsm, hkn, ?_, ?_, ?_⟩
 ·intro j hj
  rw [Fo qB]
  exact h.qz j hj
 ·have : (q.set k (q.getD k 0 + o)).getD k 0 = q.getD k 0 + o := by simp [List.getD, show k < q.length by omega]
  rw [this, hv, Nat.add_mul]
  omega
 ·have heq := h.eq
  rw [Nat.mul_add] at hset
  have e : val (q.set k (q.getD k 0 + o)) = val q + 1000000000 ^ k * o := by omega
  have e2 : V * (1000000000 ^ k * o) = o * (1000000000 ^ k * V) := by rw [Nat.mul_left_comm V, Nat.mul_left_comm o, Nat.mul_comm o V]
  rw [e, hv, ← heq, Nat.mul_add, e2]
  omega
theorem Iw.next {A V n k : Nat} {l q : List Nat} (h : Iw A V n (k + 1) l q) (hb : val l < 1000000000 ^ (k + 1) * V) : Iw A V n k l q where
 llen := h.llen
 lt := h.lt
 qlen := h.qlen
 qlt := h.qlt
 kn := by have := h.kn; omega
 qz j hj := h.qz j qB
 below := by rw [h.qz k qB, Nat.zero_mul, Nat.add_zero]; exact hb
 eq := h.eq
theorem Iw.done {A V n : Nat} {l q : List Nat} (h : Iw A V n 0 l q) (hV0 : 0 < V) (hb : val l < V) : val q = A / V ∧ val l = A % V := by
 have h3 := (Nat.div_mod_unique hV0).2 ⟨h.eq, hb⟩
 exact ⟨h3.1.symm, h3.2.symm⟩
theorem fF {d : List Nat} {m : Nat} (h : ∀ x ∈ d, x < 1000000000) (hl : d.length = m) (hm : 1 ≤ m) : val d < 1000000000 ^ (m - 1) * (d.getD (m - 1) 0 + 1) := by
 have h1 := I8 (l := d) (k := m - 1) qB
 have h2 := Fn h (m - 1) qB
 rw [Nat.mul_add]
 omega
theorem Vf {d : List Nat} {m : Nat} (h : C8 d) (hl : d.length = m) (hm : 1 ≤ m) : 1000000000 ^ (m - 1) ≤ val d := by
 have h1 := I8 (l := d) (k := m - 1) qB
 have h2 := Qg h hl hm
 have : 1000000000 ^ (m - 1) * 1 ≤ 1000000000 ^ (m - 1) * d.getD (m - 1) 0 := At _ h2
 omega
end Go.Proofs.YtdamegaedmckbaaGreatDoor
end
section
namespace Go.Proofs.YtdamegaedmckbaaGreatDoor
open Go.RowKit
def bE (w : World) (m N : Nat) (e : Ending) (w' : World) : Prop :=
 ∃ a l, e = .returned (.slice a m m) ∧ RdL w' a m m l ∧ val l = N ∧ (∀ x ∈ l, x < 1000000000) ∧ Av w.heap.size w' a m ∧ Below w.heap.size w w'
theorem dG (w : World) (a : Option Addr) (n c : Nat) (d : List Nat) (a' : Option Addr) (n' c' : Nat) (d' : List Nat) (hd : RdL w a n c d) (hd' : RdL w a' n' c' d') (hlt : ∀ x ∈ d, x < 1000000000) (hlt' : ∀ x ∈ d', x < 1000000000)
  (hb1 : n ≤ 17592186044416) (hb2 : n' ≤ 17592186044416) :
  Calls Tryz.prog 252 #[.slice a n c, .slice a' n' c'] w (bE w (n + n') (val d * val d')) := by
 obtain ⟨i0, hi, hz0, hz1, hz2⟩ := info_parts Cu
 have hlx := Ae hd.len
 have hly := Ae hd'.len
 have HLT := Ae hlt
 have HLT' := Ae hlt'
 clear hlt hlt'
 go_enter Tryz.func252, Tryz.ntmps252
 go_wp2_with (refine wpList_make_full _ rfl _ _ 57 rfl w.heap.size 112 i0 (.int .u32 0) 1 Tryz.underlying57 hi hz0 hz1 .i64 .i64 _ _ (n + n') rfl rfl rfl qT (by rw [hz2]; omega) qO (Ad _) ?_; intro w3 hown3 hgrow3)
 have HB3 : Below w.heap.size w w3 := (Ac _ _).grown hgrow3 (Ad _) (fun k h => by cases h)
 rw [Nat.mul_one, show Value.cells (.int .u32 0) = #[.int .u32 0] from rfl, toList_madeCells_one] at hown3
 clear hgrow3
 go_loopw [6] (fun v6 wr => ∃ (i : Nat) (l : List Nat), i ≤ n ∧ v6 = .int .i64 i ∧ Hid (Ga d d' i 0 0 l) ∧
   wr.ownsRow w.heap.size 112 1 (.slice (some ⟨w.heap.size, 0, none⟩) (n + n') (n + n')) (n + n') (Bv l) ∧ Below w.heap.size w wr) (fun v6 _ => n - (intOf v6).toNat)
 case atStart =>
  refine ⟨0, List.replicate (n + n') 0, Nat.zero_le _, rfl, Ae ?_, ?_, HB3⟩
  ·have := Ga.start d d'
   rw [hlx.out, hly.out] at this
   exact this
  ·rw [Ew]; exact hown3
 case round =>
  obtain ⟨i, l, hik, rfl, HM, hown, hBr⟩ := hrel
  by_cases hlt : i < n
  ·obtain ⟨b, o, rfl, c1⟩ := (hd.keep hBr).at' hlt
   obtain ⟨x, hx⟩ : ∃ x : Nat, x = d.getD i 0 := ⟨_, rfl⟩
   have hxl : x < 1000000000 := by rw [hx]; exact Cc HLT.out i
   have HX := Ae hx
   clear hx
   go_wp2_with fail
   go_loopw [7, 8] (fun v7 v8 wr => ∃ (k on : Nat) (l : List Nat), k ≤ n' ∧ v8 = .int .i64 k ∧ v7 = .int .u64 on ∧ on < 1000000000 ∧ Hid (Ga d d' i k on l) ∧
     wr.ownsRow w.heap.size 112 1 (.slice (some ⟨w.heap.size, 0, none⟩) (n + n') (n + n')) (n + n') (Bv l) ∧ Below w.heap.size w wr) (fun _ v8 _ => n' - (intOf v8).toNat)
   case atStart => exact ⟨0, 0, l, Nat.zero_le _, rfl, rfl, by omega, HM, hown, hBr⟩
   case round =>
    clear hown hBr c1
    obtain ⟨k, on, l1, hkk, rfl, rfl, hon, HM1, hown, hBr⟩ := hrel
    have HBz := hBr.size
    have hlt1 := (hown.lt w.heap.size rfl).2
    by_cases hkt : k < n'
    ·have c1 := (hd.keep hBr).at hlt
     rw [Du, ← HX.out] at c1
     obtain ⟨b', o', rfl, c2⟩ := (hd'.keep hBr).at' hkt
     obtain ⟨y, hy⟩ : ∃ y : Nat, y = d'.getD k 0 := ⟨_, rfl⟩
     rw [Du, ← hy] at c2
     have hyl : y < 1000000000 := by rw [hy]; exact Cc HLT'.out k
     have hlen := HM1.out.len
     rw [hlx.out, hly.out] at hlen
     have hcell := hown.cellAt (i + k) qB
     rw [Hb qB] at hcell
     have hfr := hown.frozenAt (i + k)
     obtain ⟨u, hu⟩ : ∃ u : Nat, u = l1.getD (i + k) 0 := ⟨_, rfl⟩
     have hul : u < 1000000000 := by rw [hu]; exact Cc HM1.out.lt _
     rw [← hu] at hcell
     obtain ⟨t, ht⟩ : ∃ t : Nat, t = on + x * y + u := ⟨_, rfl⟩
     have hst := Ae (HM1.out.step HLT.out HLT'.out (by rw [hlx.out]; exact hlt) (by rw [hly.out]; exact hkt) (show t = on + d.getD i 0 * d'.getD k 0 + l1.getD (i + k) 0 by rw [ht, HX.out, hy, hu]))
     have htl := Ly hxl hyl hul hon
     rw [← ht] at htl
     have hq : (((on : Int) + (x : Int) * (y : Int)) + (u : Int)) = (t : Int) := by rw [ht]; simp
     have hxy0 : (0 : Int) ≤ (x : Int) * (y : Int) := Int.mul_nonneg qB qB
     have hij : ((i : Int) + (k : Int)).toNat = i + k := by omega
     have HQ := Ae hq
     have hxy1 : (x : Int) * (y : Int) + (u : Int) + (on : Int) < 1000000000000000000 := by omega
     have hm0 : 0 ≤ (((on : Int) + (x : Int) * (y : Int)) + (u : Int)) % 1000000000 := by omega
     have hm1 : (((on : Int) + (x : Int) * (y : Int)) + (u : Int)) % 1000000000 < 1000000000 := by omega
     have hd0 : 0 ≤ (((on : Int) + (x : Int) * (y : Int)) + (u : Int)) / 1000000000 := by omega
     have hd1 : (((on : Int) + (x : Int) * (y : Int)) + (u : Int)) / 1000000000 < 1000000000 := by omega
     clear hu hy ht hq hlen htl
     go_wp2_with fail
     go_quiet (fail)
     have hbq : Below wr.heap.size wr (wr.drewN nq) := Ay _ (Ac _ _)
     have hBq : Below w.heap.size w (wr.drewN nq) := hBr.trans (hbq.mono hBr.size)
     have HST := Ae ((Bm hown hbq).stored (i + k) (.int .u32 ((((on : Int) + (x : Int) * (y : Int)) + (u : Int)) % 1000000000))).1
     exact qCe
    ·obtain rfl : k = n' := by omega
     have hlen := HM1.out.len
     rw [hlx.out, hly.out] at hlen
     have hcell := hown.cellAt (i + k) qB
     rw [Hb qB] at hcell
     have hfr := hown.frozenAt (i + k)
     have hst : Hid (Ga d d' (i + 1) 0 0 (l1.set (i + k) on)) := by
      have h1 := HM1.out
      have h2 := hly.out
      subst h2
      exact Ae (h1.next (by rw [hlx.out]; exact hlt))
     exact qCa
  ·obtain rfl : i = n := by omega
   have hst := HM.out
   have h2 := hlx.out
   have hval : val l = val d * val d' := by subst h2; exact hst.done
   have HV := Ae hval
   clear hval h2
   go_wp2_with fail
   go_ret
   refine ⟨_, l, rfl, Cr hown qB (fun j => Bi (fun x hx => by have := hst.lt x hx; omega) j), HV.out, hst.lt, .of_owns hown, hBr⟩
theorem N8 (w : World) (g : Bool) (a : Option Addr) (n c : Nat) (z : Int) (h : A4 w g a n c z) (g' : Bool) (a' : Option Addr) (n' c' : Nat) (z' : Int) (h' : A4 w g' a' n' c' z') (hb1 : n ≤ 17592186044416) (hb2 : n' ≤ 17592186044416) :
  Calls Tryz.prog 203 #[.agg #[.bool g, .slice a n c], .agg #[.bool g', .slice a' n' c']] w (C4 w (z * z')) := by
 have HB := Ac w.heap.size w
 have HR := Ae (Wr h.neg h'.neg)
 go_enter Tryz.func203, Tryz.ntmps203
 go_wp2_with fail
 refine (Fq _ _ _ _ _ _ (h.keep qF)).mono ?_
 rintro e w1 ⟨rfl, hb⟩
 obtain ⟨hc, hf⟩ := Ax hb; have hz := hb.size; (try simp only [Aj, Ak] at hz)
 replace HB := zD w hb
 obtain ⟨s0_0, s0_1⟩ := qX hc (w.heap.size) (.bool g) (.slice a n c); obtain ⟨s1_0, s1_1⟩ := qX hc (w.heap.size + 1) (.bool g') (.slice a' n' c'); obtain ⟨s2_0, s2_1⟩ := qZ hc (w.heap.size + 1 + 1); obtain ⟨f2_0, f2_1⟩ := zA hf (w.heap.size + 1 + 1); obtain ⟨f0_0, f0_1⟩ := zA hf (w.heap.size); obtain ⟨f1_0, f1_1⟩ := zA hf (w.heap.size + 1)
 have hk1 : w.heap.size + 1 + 1 < w1.heap.size := by omega
 clear hc hf hb hz
 go_wp2_with fail
 refine (Fq _ _ _ _ _ _ (h'.keep qF)).mono ?_
 rintro e w2 ⟨rfl, hb⟩
 obtain ⟨hc, hf⟩ := Ax hb; have hz := hb.size; (try simp only [Aj, Ak] at hz)
 replace HB := zD w hb
 obtain ⟨s0_0, s0_1⟩ := qX hc (w.heap.size) (.bool g) (.slice a n c); obtain ⟨s1_0, s1_1⟩ := qX hc (w.heap.size + 1) (.bool g') (.slice a' n' c'); obtain ⟨s2_0, s2_1⟩ := qZ hc (w.heap.size + 1 + 1); obtain ⟨f2_0, f2_1⟩ := zA hf (w.heap.size + 1 + 1); obtain ⟨f0_0, f0_1⟩ := zA hf (w.heap.size); obtain ⟨f1_0, f1_1⟩ := zA hf (w.heap.size + 1)
 have hk2 : w.heap.size + 1 + 1 < w2.heap.size := by simp at hz; omega
 clear hc hf hb hz
 go_upto_region 4 with fail
 have HB3 : Below w.heap.size w ((w2.setCell ⟨w.heap.size + 1, 0, none⟩ (.bool g')).setCell ⟨w.heap.size + 1, 1, none⟩ (.slice a' n' c')) := by go_grown
 have hk3 : w.heap.size + 1 + 1 < ((w2.setCell ⟨w.heap.size + 1, 0, none⟩ (.bool g')).setCell ⟨w.heap.size + 1, 1, none⟩ (.slice a' n' c')).heap.size := by simp; omega
 have t0_0 : ((w2.setCell ⟨w.heap.size + 1, 0, none⟩ (.bool g')).setCell ⟨w.heap.size + 1, 1, none⟩ (.slice a' n' c')).cell? ⟨w.heap.size, 0, none⟩ = some (.bool g) := by simp [*, go_sem]
 have t0_1 : ((w2.setCell ⟨w.heap.size + 1, 0, none⟩ (.bool g')).setCell ⟨w.heap.size + 1, 1, none⟩ (.slice a' n' c')).cell? ⟨w.heap.size, 1, none⟩ = some (.slice a n c) := by simp [*, go_sem]
 have t1_0 : ((w2.setCell ⟨w.heap.size + 1, 0, none⟩ (.bool g')).setCell ⟨w.heap.size + 1, 1, none⟩ (.slice a' n' c')).cell? ⟨w.heap.size + 1, 0, none⟩ = some (.bool g') := by simp [*, go_sem]
 have t1_1 : ((w2.setCell ⟨w.heap.size + 1, 0, none⟩ (.bool g')).setCell ⟨w.heap.size + 1, 1, none⟩ (.slice a' n' c')).cell? ⟨w.heap.size + 1, 1, none⟩ = some (.slice a' n' c') := by simp [*, go_sem]
 have t2_0 : ((w2.setCell ⟨w.heap.size + 1, 0, none⟩ (.bool g')).setCell ⟨w.heap.size + 1, 1, none⟩ (.slice a' n' c')).cell? ⟨w.heap.size + 1 + 1, 0, none⟩ = some (.bool false) := by simp [*, go_sem]
 have v2_0 : ((w2.setCell ⟨w.heap.size + 1, 0, none⟩ (.bool g')).setCell ⟨w.heap.size + 1, 1, none⟩ (.slice a' n' c')).frozen? ⟨w.heap.size + 1 + 1, 0, none⟩ = false := by simp [*, go_sem]
 have t2_1 : ((w2.setCell ⟨w.heap.size + 1, 0, none⟩ (.bool g')).setCell ⟨w.heap.size + 1, 1, none⟩ (.slice a' n' c')).cell? ⟨w.heap.size + 1 + 1, 1, none⟩ = some (.slice none 0 0) := by simp [*, go_sem]
 have v2_1 : ((w2.setCell ⟨w.heap.size + 1, 0, none⟩ (.bool g')).setCell ⟨w.heap.size + 1, 1, none⟩ (.slice a' n' c')).frozen? ⟨w.heap.size + 1 + 1, 1, none⟩ = false := by simp [*, go_sem]
 generalize ((w2.setCell ⟨w.heap.size + 1, 0, none⟩ (.bool g')).setCell ⟨w.heap.size + 1, 1, none⟩ (.slice a' n' c')) = w3 at *
 clear s0_0 s0_1 s1_0 s1_1 s2_0 s2_1 f2_0 f2_1 f0_0 f0_1 f1_0 f1_1 HB
 have HB := HB3
 go_region_held3 (fun W => W.cell? ⟨w.heap.size, 0, none⟩ = some (.bool g) ∧ W.cell? ⟨w.heap.size, 1, none⟩ = some (.slice a n c) ∧ W.cell? ⟨w.heap.size + 1, 0, none⟩ = some (.bool g') ∧ W.cell? ⟨w.heap.size + 1, 1, none⟩ = some (.slice a' n' c')) (first | ((try dsimp only); (repeat' apply And.intro); all_goals (first | (with_reducible assumption) | (go_keep; done) | (simp [*, go_sem]; done)))) (first
  | (go_at_call 252; (with_reducible refine (dG _ _ _ _ _ _ _ _ _ (h.rd.keep qF) (h'.rd.keep qF) (Dj _) (Dj _) qB qB).mono ?_); rintro e w4 ⟨a1, q1, rfl, hr1, hq1, hqlt, hfr1, hb⟩; obtain ⟨hc, hf⟩ := Ax hb; have hz := hb.size; (try simp only [Aj, Ak, Am] at hz); replace HB := zD w hb; obtain ⟨s0_0, s0_1⟩ := qX hc (w.heap.size) (.bool g) (.slice a n c); obtain ⟨s1_0, s1_1⟩ := qX hc (w.heap.size + 1) (.bool g') (.slice a' n' c'); obtain ⟨s2_0, s2_1⟩ := qZ hc (w.heap.size + 1 + 1); obtain ⟨f2_0, f2_1⟩ := zA hf (w.heap.size + 1 + 1); have HQ1 := Ae hq1; have HQL := Ae hqlt; clear hq1 hqlt)
  | (go_at_call 188; (with_reducible refine (Fb _ _ a1 _ _ q1 (hr1.keep qF) HQL.out).mono ?_); rintro e w5 ⟨g3, n3, rfl, hn3, hnum3, hb⟩; obtain ⟨hc, hf⟩ := Ax hb; have hz := hb.size; (try simp only [Aj, Ak, Am] at hz); replace HB := zD w hb; obtain ⟨s0_0, s0_1⟩ := qX hc (w.heap.size) (.bool g) (.slice a n c); obtain ⟨s1_0, s1_1⟩ := qX hc (w.heap.size + 1) (.bool g') (.slice a' n' c'); obtain ⟨s2_0, s2_1⟩ := qZ hc (w.heap.size + 1 + 1); obtain ⟨f2_0, f2_1⟩ := zA hf (w.heap.size + 1 + 1); have hfr2 : Av (w.heap.size + 1 + 1 + 1) w5 a1 (n + n') := (hfr1.keep (Al qF (hb.mono qA))).mono qS))
 go_wp2_with fail
 refine bodyPost_ret (v := .agg #[.bool g3, .slice a1 n3 (n + n')]) (by simp [results, Tryz.results203, go_sem, s2_0, s2_1]) rfl ?_
 rw [HQ1.out] at hnum3
 have hz3 : A4 w5 g3 a1 n3 (n + n') (z * z') := by rw [← HR.out]; exact hnum3
 refine ⟨g3, a1, n3, n + n', rfl, ?_, ?_, by go_grown⟩
 ·exact (hz3.setFresh hfr2 _ _ (by show w.heap.size + 1 + 1 < _; omega)).setFresh (hfr2.setNew _ _ (by show w.heap.size + 1 + 1 < _; omega)) _ _ (by show w.heap.size + 1 + 1 < _; omega)
 ·exact ((hfr2.setNew _ _ (by show w.heap.size + 1 + 1 < _; omega)).setNew _ _ (by show w.heap.size + 1 + 1 < _; omega)).mono qB
end Go.Proofs.YtdamegaedmckbaaGreatDoor
end
