/- The document's reader: a factor, plainly. -/
import Derived.Test.YtdamegaedmckbaaGreatDoorQP28
set_option linter.unusedSimpArgs false
set_option linter.unusedVariables false
set_option maxRecDepth 100000
set_option maxHeartbeats 4000000
section
namespace Go.Proofs.YtdamegaedmckbaaGreatDoor
open Go.RowKit
structure Ft (st : TS) (t : Tm) (c : PC) (m : Bool) : Prop where
 many : m = (st.many || Ez st.o)
 eq : m = false → c = st.c ∧ t.m0 = st.o 0 ∧ t.m1 = st.o 1 ∧ t.m2 = st.o 2 ∧ t.m3 = st.o 3
structure FT (w : World) (B A : Nat) (t : Tm) (c : PC) (K : Nat) : Prop where
 fr : Bj w t.g1 t.a1 t.n1 t.c1 c.1 t.g2 t.a2 t.n2 t.c2 c.2
 few : Cv K c
 nw : NwT B t
 ap : ApT A t
 m0 : t.m0 < 65536
 m1 : t.m1 < 65536
 m2 : t.m2 < 65536
 m3 : t.m3 < 65536
theorem FT.mono {w : World} {B A K K' : Nat} {t : Tm} {c : PC} (h : FT w B A t c K) (hK : K ≤ K') : FT w B A t c K' := ⟨h.fr, h.few.mono hK, h.nw, h.ap, h.m0, h.m1, h.m2, h.m3⟩
theorem FT.grown {w w' : World} {B A K R : Nat} {t : Tm} {c : PC} (h : FT w B A t c K) (hg : w.grownBy w' (some R)) (hR : R < B) : FT w' B A t c K :=
 ⟨h.fr.butR h.nw.1 h.nw.2 hg (fun k hk => by cases hk; exact hR), h.few, h.nw, h.ap, h.m0, h.m1, h.m2, h.m3⟩
theorem FT.keep {w w' : World} {B A K : Nat} {t : Tm} {c : PC} (h : FT w B A t c K) (hb : Below w.heap.size w w') : FT w' B A t c K :=
 ⟨h.fr.keep hb, h.few, h.nw, h.ap, h.m0, h.m1, h.m2, h.m3⟩
def Ca (L : List UInt8) (x : Option TS) (k' : Nat) (e' : Int) (m' : Bool) (t : Tm) (c : PC) : Prop :=
 match x with
 | none => e' = 4
 | some u => e' = 0 ∧ u.L = L.drop k' ∧ Ft u t c m'
def Jp (w : World) (R B A : Nat) (L : List UInt8) (k K : Nat) (st : TS) (e : Ending) (w' : World) : Prop :=
 ∃ (t : Tm) (c : PC) (k' : Nat) (e' : Int) (m' : Bool), e = .returned t.val ∧ k ≤ k' ∧ w.grownBy w' (some R) ∧ Bh w' R L k' e' m' ∧ FT w' B A t c (K + (k' - k)) ∧ Ca L (A7 st) k' e' m' t c
theorem Rj (L : List UInt8) (a b : Bool) : Fe L (a || b) = (Fe L a).map fun x => (x.1, x.2.1, x.2.2 || b) := by
 unfold Fe
 split
 ·simp only [Option.map_some]
  cases a <;> cases b <;> simp
 ·rfl
theorem Rw (L : List UInt8) (a b : Bool) : Eq L (a || b) = (Eq L a).map fun x => (x.1, x.2.1, x.2.2 || b) := by
 unfold Eq
 rw [Rj]
 cases Fe L a with
 | none => rfl
 | some x =>
  obtain ⟨d, r, m⟩ := x
  simp only [Option.map_some]
  by_cases h : d = [48]
  ·simp [h]
  ·simp [h]
theorem Ls (L : List UInt8) (a b : Bool) : Cp L (a || b) = (Cp L a).map fun x => (x.1, x.2.1, x.2.2 || b) := by
 unfold Cp
 cases A6 L 94
 ·rfl
 ·simp only [if_true]
  rw [Rw]
  cases Eq L.tail a with
  | none => rfl
  | some x =>
   obtain ⟨d, r, m⟩ := x
   simp only [Option.map_some]
   by_cases h : 1000 < Bd d
   ·simp [h]
   ·simp [h]
theorem J5 {L : List UInt8} (m : Bool) (h : A6 L 94 = true) : Cp L m = Ke L.tail m := by
 unfold Cp Ke
 rw [h]
 rfl
theorem Jd (o : Nat → Nat) : Ez o = false ↔ o 0 ≤ 65535 ∧ o 1 ≤ 65535 ∧ o 2 ≤ 65535 ∧ o 3 ≤ 65535 := by
 unfold Ez
 simp only [Bool.or_eq_false_iff, decide_eq_false_iff_not]
 omega
theorem O9 {o : Nat → Nat} {i n : Nat} (h : Ez o = true) : Ez (Fl o i n) = true := by
 cases hb : Ez (Fl o i n)
 ·rw [Jd] at hb
  have : Ez o = false := by
   rw [Jd]
   unfold Fl at hb
   obtain ⟨b0, b1, b2, b3⟩ := hb
   refine ⟨?_, ?_, ?_, ?_⟩
   ·split at b0 <;> simp_all <;> omega
   ·split at b1 <;> simp_all <;> omega
   ·split at b2 <;> simp_all <;> omega
   ·split at b3 <;> simp_all <;> omega
  rw [this] at h; cases h
 ·rfl
def Tm.mN (t : Tm) : Nat → Nat := Dn t.m0 t.m1 t.m2 t.m3
theorem Hf {L : List UInt8} {k : Nat} (hk : k < L.length) : L.drop k = L[k] :: L.drop (k + 1) := List.drop_eq_getElem_cons hk
theorem Cd {st : TS} {t t' : Tm} {c : PC} {m0 : Bool} {L : List UInt8} {k i : Nat} (hr : Ft st t c m0) (hst : st.L = L.drop k) (hi : i < 4) (hk : k < L.length) (hlet : Ds L[k] = some i)
  {n k' : Nat} {e' : Int} {m1 : Bool} (hd : Fx L (Cp (L.drop (k + 1)) m0) (fun v => n = v) k' e' m1) {m' : Bool}
  (ht : (t.mN i + n ≤ 65535 ∧ m' = m1 ∧ ∀ j, j < 4 → t'.mN j = if j = i then t.mN i + n else t.mN j) ∨ (¬ t.mN i + n ≤ 65535 ∧ m' = true)) :
  Ca L (A7 st) k' e' m' t' c := by
 have hfac : A7 st = match Cp (L.drop (k + 1)) st.many with | none => none | some (n, r', m) => some ⟨st.c, Fl st.o i n, r', m⟩ := by
  unfold A7
  rw [hst, Hf hk]
  simp only [hlet]
  cases Cp (L.drop (k + 1)) st.many <;> rfl
 rw [hr.many, Ls] at hd
 rw [hfac]
 cases hx : Cp (L.drop (k + 1)) st.many with
 | none =>
  rw [hx] at hd
  exact hd
 | some x =>
  obtain ⟨n', r', mm⟩ := x
  rw [hx] at hd
  obtain ⟨h1, h2, h3, rfl⟩ := hd
  simp only at h2 h3
  refine ⟨h1, h2.symm, ?_, ?_⟩
  ·show m' = (mm || Ez (Fl st.o i n))
   have hmm : st.many = true → mm = true := fun h => by
    have := Ls (L.drop (k + 1)) false true
    rw [show (false || true) = st.many by rw [h]; rfl, hx] at this
    cases hy : Cp (L.drop (k + 1)) false with
    | none => rw [hy] at this; cases this
    | some y => rw [hy] at this; simp at this; exact this.2.2
   have hbi : Fl st.o i n i = st.o i + n := by simp [Fl]
   rcases ht with ⟨a1, a2, a3⟩ | ⟨a1, a2⟩
   ·rw [a2, h3]
    cases hov : Ez st.o
    ·rw [Bool.or_false]
     cases hmm' : mm
     ·have hsm : st.many = false := by cases h : st.many; rfl; exact absurd (hmm h) (by rw [hmm']; decide)
      have hm0 : m0 = false := by rw [hr.many, hsm, hov]; rfl
      obtain ⟨_, e0, e1, e2, e3⟩ := hr.eq hm0
      have hoi : st.o i = t.mN i := by
       exact qDu
      rw [Jd] at hov
      rw [Bool.false_or]
      symm
      rw [Jd]
      unfold Fl
      refine ⟨?_, ?_, ?_, ?_⟩ <;> (split <;> omega)
     ·simp
    ·rw [O9 hov]
   ·rw [a2]
    symm
    cases hm0 : m0
    ·have hz := hr.many
     rw [hm0] at hz
     obtain ⟨_, e0, e1, e2, e3⟩ := hr.eq hm0
     have hoi : st.o i = t.mN i := by
      exact qDu
     have : Ez (Fl st.o i n) = true := by
      cases hb : Ez (Fl st.o i n)
      ·rw [Jd] at hb
       unfold Fl at hb
       rcases (by omega : i = 0 ∨ i = 1 ∨ i = 2 ∨ i = 3) with rfl | rfl | rfl | rfl <;> simp at hb <;> omega
      ·rfl
     rw [this]; simp
    ·have hz := hr.many
     rw [hm0] at hz
     cases hsm : st.many
     ·rw [hsm, Bool.false_or] at hz
      rw [O9 hz.symm]; simp
     ·simp [hmm hsm]
  ·intro hm'
   rcases ht with ⟨a1, a2, a3⟩ | ⟨_, a2⟩
   ·rw [a2, h3] at hm'
    simp only [Bool.or_eq_false_iff] at hm'
    have hsm : st.many = false := by
     cases h : st.many
     ·rfl
     ·have := Ls (L.drop (k + 1)) false true
      rw [show (false || true) = st.many by rw [h]; rfl, hx] at this
      cases hy : Cp (L.drop (k + 1)) false with
      | none => rw [hy] at this; cases this
      | some y => rw [hy] at this; simp at this; rw [this.2.2] at hm'; exact absurd hm'.1 qC
    have hm0 : m0 = false := by rw [hr.many, hsm, hm'.2]; rfl
    obtain ⟨ec, e0, e1, e2, e3⟩ := hr.eq hm0
    have q0 := a3 0 qB
    have q1 := a3 1 qB
    have q2 := a3 2 qB
    have q3 := a3 3 qB
    simp only [Tm.mN, Dn] at q0 q1 q2 q3
    refine ⟨ec, ?_, ?_, ?_, ?_⟩
    ·rw [q0]; show _ = Fl st.o i n 0; unfold Fl
     by_cases h : (0 : Nat) = i
     ·subst h; simp [e0, Dn]
     ·rw [if_neg h, if_neg h, e0]
    ·rw [q1]; show _ = Fl st.o i n 1; unfold Fl
     by_cases h : (1 : Nat) = i
     ·subst h; simp [e1, Dn]
     ·rw [if_neg h, if_neg h, e1]
    ·rw [q2]; show _ = Fl st.o i n 2; unfold Fl
     by_cases h : (2 : Nat) = i
     ·subst h; simp [e2, Dn]
     ·rw [if_neg h, if_neg h, e2]
    ·rw [q3]; show _ = Fl st.o i n 3; unfold Fl
     by_cases h : (3 : Nat) = i
     ·subst h; simp [e3, Dn]
     ·rw [if_neg h, if_neg h, e3]
   ·rw [a2] at hm'; cases hm'
theorem Fh {L : List UInt8} {k : Nat} (hk : k < L.length) (c : Int) : A6 (L.drop k) c = decide ((L[k].toNat : Int) = c) := by
 rw [Hf hk]; rfl
def Rv (L : List UInt8) (k : Nat) : Prop := A6 (L.drop k) 120 = false ∧ A6 (L.drop k) 121 = false ∧ A6 (L.drop k) 122 = false ∧ A6 (L.drop k) 116 = false
theorem Vx {L : List UInt8} {k : Nat} (h : Rv L k) (hk : k < L.length) : Ds L[k] = none := by
 obtain ⟨h0, h1, h2, h3⟩ := h
 rw [Fh hk, decide_eq_false_iff_not] at h0 h1 h2 h3
 unfold Ds
 rw [if_neg (fun e => h0 (by rw [e]; rfl)), if_neg (fun e => h1 (by rw [e]; rfl)), if_neg (fun e => h2 (by rw [e]; rfl)), if_neg (fun e => h3 (by rw [e]; rfl))]
theorem V4 {L : List UInt8} {k : Nat} (hk : k < L.length) : (A6 (L.drop k) 120 = true → Ds L[k] = some 0) ∧ (A6 (L.drop k) 121 = true → Ds L[k] = some 1) ∧ (A6 (L.drop k) 122 = true → Ds L[k] = some 2) ∧ (A6 (L.drop k) 116 = true → Ds L[k] = some 3) := by
 have key : ∀ (c : UInt8), A6 (L.drop k) c.toNat = true → L[k] = c := fun c h => by
  rw [Fh hk, decide_eq_true_eq] at h
  exact UInt8.toNat_inj.1 qB
 refine ⟨fun h => ?_, fun h => ?_, fun h => ?_, fun h => ?_⟩
 ·rw [key 120 h]; rfl
 ·rw [key 121 h]; rfl
 ·rw [key 122 h]; rfl
 ·rw [key 116 h]; rfl
theorem E9 {L : List UInt8} {k : Nat} {c : Int} (h : A6 (L.drop k) c = true) : k < L.length := by
 rcases Nat.lt_or_ge k L.length with h1 | h1
 ·exact h1
 ·rw [List.drop_eq_nil_of_le h1] at h; cases h
theorem Sp {st : TS} {L : List UInt8} {k : Nat} (hst : st.L = L.drop k) (hn : Rv L k) : A7 st = match Do (L.drop k) st.many with | none => none | some (c, r', m) => some ⟨Es st.c c, st.o, r', m⟩ := by
 unfold A7
 rw [hst]
 rcases Nat.lt_or_ge k L.length with hk | hk
 ·rw [Hf hk]
  simp only [Vx hn hk]
  cases Do (L[k] :: L.drop (k + 1)) st.many <;> rfl
 ·rw [List.drop_eq_nil_of_le hk]
  rfl
theorem Gi (L : List UInt8) (k : Nat) : (L.drop k).tail = L.drop (k + 1) := by rw [List.tail_drop]
theorem Wh (L : List UInt8) (k : Nat) (m : Bool) : Do (L.drop k) m =
  if Bb (Bn L k) then
   if A6 (L.drop (k + (Bn L k).length)) 47 then
    if Bb (Bn L (k + (Bn L k).length + 1)) then
     if Bn L (k + (Bn L k).length + 1) = [48] then none else some (Df (Ec (Bn L k)) (Ec (Bn L (k + (Bn L k).length + 1))), L.drop (k + (Bn L k).length + 1 + (Bn L (k + (Bn L k).length + 1)).length), (m || decide (200 < (Bn L k).length)) || decide (200 < (Bn L (k + (Bn L k).length + 1)).length))
    else none
   else some (Df (Ec (Bn L k)) 1, L.drop (k + (Bn L k).length), m || decide (200 < (Bn L k).length))
  else none := by
 unfold Do
 rw [Lu]
 by_cases h1 : Bb (Bn L k) = true
 ·rw [if_pos h1, if_pos h1]
  simp only
  by_cases h2 : A6 (L.drop (k + (Bn L k).length)) 47 = true
  ·rw [if_pos h2, if_pos h2]
   unfold Eq
   rw [Gi, Lu]
   by_cases h3 : Bb (Bn L (k + (Bn L k).length + 1)) = true
   ·rw [if_pos h3, if_pos h3]
    simp only
    by_cases h4 : Bn L (k + (Bn L k).length + 1) = [48]
    ·simp [h4]
    ·simp [h4]
   ·rw [if_neg h3, if_neg h3]
  ·rw [if_neg h2, if_neg h2]
 ·rw [if_neg h1, if_neg h1]
theorem Ft.number {st : TS} {t t' : Tm} {c c' : PC} {m0 x : Bool} {f : PC} {r : List UInt8} (hr : Ft st t c m0) (ht : (m0 || x) = false → c' = Es c f ∧ t'.m0 = t.m0 ∧ t'.m1 = t.m1 ∧ t'.m2 = t.m2 ∧ t'.m3 = t.m3) :
  Ft ⟨Es st.c f, st.o, r, st.many || x⟩ t' c' (m0 || x) := by
 refine ⟨?_, fun h => ?_⟩
 ·show (m0 || x) = (st.many || x || Ez st.o)
  rw [hr.many]
  cases st.many <;> cases x <;> cases Ez st.o <;> rfl
 ·obtain ⟨q0, q1, q2, q3, q4⟩ := ht h
  simp only [Bool.or_eq_false_iff] at h
  obtain ⟨e, e0, e1, e2, e3⟩ := hr.eq h.1
  exact ⟨by rw [q0, e], q1.trans e0, q2.trans e1, q3.trans e2, q4.trans e3⟩
def zTm : Tm := ⟨false, none, 0, 0, [], false, none, 0, 0, [], 0, 0, 0, 0⟩
theorem H7.drewN {w : World} {b o : Nat} {t : Tm} (h : H7 w b o t) (n : Nat) : H7 (w.drewN n) b o t := ⟨h.e0, h.e1, h.e2, h.e3, h.e4, h.e5, h.e6, h.e7⟩
structure Dw (w0 w : World) (R : Nat) (t : Tm) : Prop where
 tm : H7 w w0.heap.size 0 t
 sm : H7 w (w0.heap.size + 1) 0 zTm
 tf : ∀ i, i < 8 → w.frozen? ⟨w0.heap.size, i, none⟩ = false
 sf : ∀ i, i < 8 → w.frozen? ⟨w0.heap.size + 1, i, none⟩ = false
 sz : w0.heap.size + 2 ≤ w.heap.size
 grown : w0.grownBy w (some R)
theorem Dw.next {w0 w w' : World} {R : Nat} {t : Tm} (h : Dw w0 w R t) (hg : w.grownBy w' (some R)) (hR : R < w0.heap.size) : Dw w0 w' R t := by
 have hsz := h.sz
 have h1 := hg.size
 exact ⟨h.tm.butR hg qL, h.sm.butR hg qL, fun i hi => (Bg hg qB qL).trans (h.tf i hi), fun i hi => (Bg hg qB qL).trans (h.sf i hi), by omega, h.grown.trans hg⟩
theorem Dw.drewN {w0 w : World} {R : Nat} {t : Tm} (h : Dw w0 w R t) (n : Nat) : Dw w0 (w.drewN n) R t :=
 ⟨h.tm.drewN n, h.sm.drewN n, h.tf, h.sf, h.sz, C3 h.grown n⟩
theorem Dw.start {w w0 : World} {R : Nat} {t : Tm} (hw : w0 = ((w.alloc (.cells #[.bool t.g1, .slice t.a1 t.n1 t.c1, .bool t.g2, .slice t.a2 t.n2 t.c2, .int .u16 t.m0, .int .u16 t.m1, .int .u16 t.m2, .int .u16 t.m3] 68)).alloc (.cells #[.bool false, .slice none 0 0, .bool false, .slice none 0 0, .int .u16 0, .int .u16 0, .int .u16 0, .int .u16 0] 68))) : Dw w w0 R t := by
 subst hw
 exact ⟨⟨by simp [go_sem], by simp [go_sem], by simp [go_sem], by simp [go_sem], by simp [go_sem], by simp [go_sem], by simp [go_sem], by simp [go_sem]⟩, ⟨by simp [zTm, go_sem], by simp [zTm, go_sem], by simp [zTm, go_sem], by simp [zTm, go_sem], by simp [zTm, go_sem], by simp [zTm, go_sem], by simp [zTm, go_sem], by simp [zTm, go_sem]⟩, fun i hi => by simp [go_sem], fun i hi => by simp [go_sem], by simp, Az qF _⟩
theorem Bh.setOther {w : World} {R k : Nat} {L : List UInt8} {e : Int} {m : Bool} (h : Bh w R L k e m) (p : Addr) (v : Value) (hp : p.block ≠ R) : Bh (w.setCell p v) R L k e m := by
 have hh : ∀ i, (w.setCell p v).heap[(⟨R, i, none⟩ : Addr).block]? = w.heap[(⟨R, i, none⟩ : Addr).block]? := fun i => Below.heap_setCell w p v R (fun e => hp e.symm)
 exact ⟨(Af (hh 0)).trans h.c0, (Af (hh 1)).trans h.c1, (Af (hh 2)).trans h.c2, (Af (hh 3)).trans h.c3, (World.frozen?_of_block (hh 1)).trans h.f1, (World.frozen?_of_block (hh 2)).trans h.f2, (World.frozen?_of_block (hh 3)).trans h.f3, h.le⟩
theorem Bh.allocR {w : World} {R k : Nat} {L : List UInt8} {e : Int} {m : Bool} (h : Bh w R L k e m) (o : Obj) : Bh (w.alloc o) R L k e m := h.keep ((Ac _ _).alloc (Ad _) o)
theorem Dw.alloc {w0 w : World} {R : Nat} {t : Tm} (h : Dw w0 w R t) (o : Obj) (hR : R < w0.heap.size) : Dw w0 (w.alloc o) R t :=
 h.next (Az ((Ac _ _).alloc (Ad _) o) _) hR
theorem Dw.setM {w0 w : World} {R : Nat} {t : Tm} (h : Dw w0 w R t) (q0 q1 q2 q3 : Nat) :
  Dw w0 ((((w.setCell ⟨w0.heap.size, 4, none⟩ (.int .u16 q0)).setCell ⟨w0.heap.size, 5, none⟩ (.int .u16 q1)).setCell ⟨w0.heap.size, 6, none⟩ (.int .u16 q2)).setCell ⟨w0.heap.size, 7, none⟩ (.int .u16 q3)) R { t with m0 := q0, m1 := q1, m2 := q2, m3 := q3 } := by
 have hz := h.sz
 obtain ⟨⟨b0, b1, b2, b3, b4, b5, b6, b7⟩, hs, hf, hg, _, hgr⟩ := h
 simp only [Nat.zero_add] at b0 b1 b2 b3 b4 b5 b6 b7
 have p4 := hf 4 qC; have p5 := hf 5 qC; have p6 := hf 6 qC; have p7 := hf 7 qC
 exact qBh
theorem Bh.setT {w : World} {R k : Nat} {L : List UInt8} {e : Int} {m : Bool} (h : Bh w R L k e m) (T : Nat) (hT : T ≠ R) (v0 v1 v2 v3 : Value) :
  Bh ((((w.setCell ⟨T, 4, none⟩ v0).setCell ⟨T, 5, none⟩ v1).setCell ⟨T, 6, none⟩ v2).setCell ⟨T, 7, none⟩ v3) R L k e m :=
 (((h.setOther _ _ hT).setOther _ _ hT).setOther _ _ hT).setOther _ _ hT
theorem Bh.setS {w : World} {R k : Nat} {L : List UInt8} {e : Int} {m : Bool} (h : Bh w R L k e m) (T : Nat) (hT : T ≠ R) (v0 v1 v2 v3 v4 v5 v6 v7 : Value) :
  Bh ((((((((w.setCell ⟨T, 0, none⟩ v0).setCell ⟨T, 1, none⟩ v1).setCell ⟨T, 2, none⟩ v2).setCell ⟨T, 3, none⟩ v3).setCell ⟨T, 4, none⟩ v4).setCell ⟨T, 5, none⟩ v5).setCell ⟨T, 6, none⟩ v6).setCell ⟨T, 7, none⟩ v7) R L k e m :=
 (((((((h.setOther _ _ hT).setOther _ _ hT).setOther _ _ hT).setOther _ _ hT).setOther _ _ hT).setOther _ _ hT).setOther _ _ hT).setOther _ _ hT
theorem C7 {w w' : World} {row : Option Nat} (h : w.grownBy w' row) (T : Nat) (hT : w.heap.size ≤ T) (v0 v1 v2 v3 v4 v5 v6 v7 : Value) :
  w.grownBy ((((((((w'.setCell ⟨T, 0, none⟩ v0).setCell ⟨T, 1, none⟩ v1).setCell ⟨T, 2, none⟩ v2).setCell ⟨T, 3, none⟩ v3).setCell ⟨T, 4, none⟩ v4).setCell ⟨T, 5, none⟩ v5).setCell ⟨T, 6, none⟩ v6).setCell ⟨T, 7, none⟩ v7) row :=
 A5 _ (A5 _ (A5 _ (A5 _ (A5 _ (A5 _ (A5 _ (A5 _ h hT) hT) hT) hT) hT) hT) hT) hT
theorem FT.setM {w : World} {B A K : Nat} {t : Tm} {c : PC} (h : FT w B A t c K) {q0 q1 q2 q3 : Nat} (h0 : q0 < 65536) (h1 : q1 < 65536) (h2 : q2 < 65536) (h3 : q3 < 65536) : FT w B A { t with m0 := q0, m1 := q1, m2 := q2, m3 := q3 } c K :=
 ⟨h.fr, h.few, h.nw, h.ap, h0, h1, h2, h3⟩
theorem FT.setE {w : World} {B A K : Nat} {t t' : Tm} {c : PC} {q0 q1 q2 q3 : Nat} (ht : t' = { t with m0 := q0, m1 := q1, m2 := q2, m3 := q3 }) (h : FT w B A t c K) (hb : q0 < 65536 ∧ q1 < 65536 ∧ q2 < 65536 ∧ q3 < 65536) : FT w B A t' c K := by
 subst ht
 exact h.setM hb.1 hb.2.1 hb.2.2.1 hb.2.2.2
theorem Jt {d : List UInt8} (h : d.length ≤ 200) : Ec d = Bd d := by unfold Ec; rw [if_neg qB]
theorem X7 {st : TS} {t t' : Tm} {c c' : PC} {m0 : Bool} {L : List UInt8} {k : Nat} (hr : Ft st t c m0) (hst : st.L = L.drop k) (hn : Rv L k) (h47 : A6 (L.drop (k + (Bn L k).length)) 47 = false)
  (ht : Bb (Bn L k) = true → (m0 || decide (200 < (Bn L k).length)) = false → c' = Es c (Df (Bd (Bn L k)) 1) ∧ t'.m0 = t.m0 ∧ t'.m1 = t.m1 ∧ t'.m2 = t.m2 ∧ t'.m3 = t.m3) :
  Ca L (A7 st) (k + (Bn L k).length) (if Bb (Bn L k) then 0 else 4) (m0 || decide (200 < (Bn L k).length)) t' c' := by
 rw [Sp hst hn, Wh, h47]
 by_cases h1 : Bb (Bn L k) = true
 ·rw [if_pos h1, if_pos h1]
  refine ⟨rfl, rfl, ?_⟩
  refine Ft.number hr fun hm => ?_
  have hlen : (Bn L k).length ≤ 200 := by simp only [Bool.or_eq_false_iff, decide_eq_false_iff_not] at hm; omega
  rw [Jt hlen]
  exact ht h1 hm
 ·rw [if_neg h1, if_neg h1]
  rfl
theorem Xp {st : TS} {t t' : Tm} {c c' : PC} {m0 : Bool} {L : List UInt8} {k k1 : Nat} {d1 d2 : List UInt8} (hr : Ft st t c m0) (hst : st.L = L.drop k) (hn : Rv L k) (hd1 : d1 = Bn L k) (hk1 : k1 = k + d1.length) (hd2 : d2 = Bn L (k1 + 1)) (h47 : A6 (L.drop k1) 47 = true)
  (ht : Bb d1 = true → Bb d2 = true → d2 ≠ [48] → ((m0 || decide (200 < d1.length)) || decide (200 < d2.length)) = false → c' = Es c (Df (Bd d1) (Bd d2)) ∧ t'.m0 = t.m0 ∧ t'.m1 = t.m1 ∧ t'.m2 = t.m2 ∧ t'.m3 = t.m3) :
  Ca L (A7 st) (k1 + 1 + d2.length) (if d2 = [48] then 4 else if Bb d2 then (if Bb d1 then 0 else 4) else 4) ((m0 || decide (200 < d1.length)) || decide (200 < d2.length)) t' c' := by
 have hf := Sp hst hn
 rw [Wh, ← hd1, ← hk1, h47, ← hd2] at hf
 rw [hf]
 by_cases h1 : Bb d1 = true
 ·rw [if_pos h1]
  by_cases h2 : Bb d2 = true
  ·rw [if_pos h2]
   by_cases h3 : d2 = [48]
   ·simp only [h3, if_true]; rfl
   ·rw [if_neg h3, if_neg h3, if_pos h2, if_pos h1]
    refine ⟨rfl, rfl, ?_⟩
    simp only [Bool.or_assoc]
    refine Ft.number hr fun hm => ?_
    rw [← Bool.or_assoc] at hm
    have hlen : d1.length ≤ 200 ∧ d2.length ≤ 200 := by simp only [Bool.or_eq_false_iff, decide_eq_false_iff_not] at hm; omega
    rw [Jt hlen.1, Jt hlen.2]
    exact ht h1 h2 h3 hm
  ·rw [if_neg h2, if_neg h2]
   simp only [if_true]
   split <;> rfl
 ·rw [if_neg h1, if_neg h1]
  have e : (if d2 = [48] then (4 : Int) else if Bb d2 = true then 4 else 4) = 4 := by split <;> (try split) <;> rfl
  rw [e]
  rfl
theorem Dw.setC {w0 w : World} {R : Nat} {t : Tm} (h : Dw w0 w R t) (g1 : Bool) (a1 : Option Addr) (n1 c1 : Nat) (d1 : List Nat) (g2 : Bool) (a2 : Option Addr) (n2 c2 : Nat) (d2 : List Nat) :
  Dw w0 ((((w.setCell ⟨w0.heap.size, 0, none⟩ (.bool g1)).setCell ⟨w0.heap.size, 1, none⟩ (.slice a1 n1 c1)).setCell ⟨w0.heap.size, 2, none⟩ (.bool g2)).setCell ⟨w0.heap.size, 3, none⟩ (.slice a2 n2 c2)) R ⟨g1, a1, n1, c1, d1, g2, a2, n2, c2, d2, t.m0, t.m1, t.m2, t.m3⟩ := by
 have hz := h.sz
 obtain ⟨⟨b0, b1, b2, b3, b4, b5, b6, b7⟩, hs, hf, hg, _, hgr⟩ := h
 simp only [Nat.zero_add] at b0 b1 b2 b3 b4 b5 b6 b7
 have p0 := hf 0 qC; have p1 := hf 1 qC; have p2 := hf 2 qC; have p3 := hf 3 qC
 exact qBh
theorem Bh.setF {w : World} {R k : Nat} {L : List UInt8} {e : Int} {m : Bool} (h : Bh w R L k e m) (T : Nat) (hT : T ≠ R) (v0 v1 v2 v3 : Value) :
  Bh ((((w.setCell ⟨T, 0, none⟩ v0).setCell ⟨T, 1, none⟩ v1).setCell ⟨T, 2, none⟩ v2).setCell ⟨T, 3, none⟩ v3) R L k e m :=
 (((h.setOther _ _ hT).setOther _ _ hT).setOther _ _ hT).setOther _ _ hT
theorem Hn (w : World) (T : Nat) (v0 v1 v2 v3 : Value) : w.grownBy ((((w.setCell ⟨T, 0, none⟩ v0).setCell ⟨T, 1, none⟩ v1).setCell ⟨T, 2, none⟩ v2).setCell ⟨T, 3, none⟩ v3) (some T) :=
 Aw _ (Aw _ (Aw _ (Aw _ (Bc _ _))))
theorem Jb (w : World) (T : Nat) (v0 v1 v2 v3 v4 v5 v6 v7 : Value) :
  w.grownBy ((((((((w.setCell ⟨T, 0, none⟩ v0).setCell ⟨T, 1, none⟩ v1).setCell ⟨T, 2, none⟩ v2).setCell ⟨T, 3, none⟩ v3).setCell ⟨T, 4, none⟩ v4).setCell ⟨T, 5, none⟩ v5).setCell ⟨T, 6, none⟩ v6).setCell ⟨T, 7, none⟩ v7) (some T) :=
 Aw _ (Aw _ (Aw _ (Aw _ (Aw _ (Aw _ (Aw _ (Aw _ (Bc _ _))))))))
theorem Zf (L : List UInt8) (k : Nat) : (L.take (k + (Bn L k).length)).drop k = Bn L k := by
 unfold Bn
 rw [List.drop_take, Nat.add_sub_cancel_left]
 have h1 := List.take_left (l₁ := (L.drop k).takeWhile Bl) (l₂ := (L.drop k).dropWhile Bl)
 rwa [List.takeWhile_append_dropWhile] at h1
theorem Tc (L : List UInt8) (k : Nat) : L.drop k = Bn L k ++ L.drop (k + (Bn L k).length) := by
 have h1 := List.drop_left (l₁ := (L.drop k).takeWhile Bl) (l₂ := (L.drop k).dropWhile Bl)
 rw [List.takeWhile_append_dropWhile, List.drop_drop] at h1
 unfold Bn
 rw [h1, List.takeWhile_append_dropWhile]
theorem X6 {L : List UInt8} {k k1 : Nat} {d1 d2 : List UInt8} (hd1 : d1 = Bn L k) (hk1 : k1 = k + d1.length) (hd2 : d2 = Bn L (k1 + 1)) (h47 : A6 (L.drop k1) 47 = true) : (L.take (k1 + 1 + d2.length)).drop k = d1 ++ 47 :: d2 := by
 have hlt := E9 h47
 have e1 := Tc L k
 rw [← hd1, ← hk1, Hf hlt] at e1
 have e2 := Tc L (k1 + 1)
 rw [← hd2] at e2
 rw [Fh hlt, decide_eq_true_eq] at h47
 have e3 : L[k1] = 47 := UInt8.toNat_inj.1 (by show _ = 47; omega)
 rw [List.drop_take, e1, e2, e3]
 have e4 : k1 + 1 + d2.length - k = (d1 ++ 47 :: d2).length := by simp; omega
 rw [e4]
 have := List.take_left (l₁ := d1 ++ 47 :: d2) (l₂ := L.drop (k1 + 1 + d2.length))
 simpa using this
def gO (w wx wc : World) (R : Nat) (L : List UInt8) (k : Nat) (t : Tm) (f : PC) (v : Value) : Prop :=
 ∃ b g1 a1 n1 c1 g2 a2 n2 c2, v = .pointer (some ⟨b, 0, none⟩) ∧ wc.cell? ⟨b, 0, none⟩ = some (.bool g1) ∧ wc.cell? ⟨b, 1, none⟩ = some (.slice a1 n1 c1) ∧ wc.cell? ⟨b, 2, none⟩ = some (.bool g2) ∧ wc.cell? ⟨b, 3, none⟩ = some (.slice a2 n2 c2) ∧
  Bj wc g1 a1 n1 c1 f.1 g2 a2 n2 c2 f.2 ∧ Bh wc R L k 0 false ∧ Dw w wc R t
theorem Km {w : World} {B T : Nat} {g1 : Bool} {a1 : Option Addr} {n1 c1 : Nat} {p : Int} {g2 : Bool} {a2 : Option Addr} {n2 c2 : Nat} {q : Int} (h : Bj w g1 a1 n1 c1 p g2 a2 n2 c2 q) (h1 : Av B w a1 c1) (h2 : Av B w a2 c2) {w' : World} (hg : w.grownBy w' (some T)) (hT : T < B) : Bj w' g1 a1 n1 c1 p g2 a2 n2 c2 q :=
 h.butR (Nw.mono (h1.newA h.top.rd) (Ad _)) (Nw.mono (h2.newA h.low.rd) (Ad _)) hg (fun k hk => by cases hk; exact hT)
theorem FT.over {w w' : World} {B A K B' T : Nat} {t : Tm} {c : PC} (h : FT w B A t c K) (hn : NwT B' t) (hg : w.grownBy w' (some T)) (hT : T < B') : FT w' B A t c K :=
 ⟨h.fr.butR hn.1 hn.2 hg (fun k hk => by cases hk; exact hT), h.few, h.nw, h.ap, h.m0, h.m1, h.m2, h.m3⟩
def Kz (L : List UInt8) (X : Option TS) (k : Nat) (e : Int) (m : Bool) (t : Tm) (c : PC) : Prop :=
 (e = 4 ∧ X = none) ∨ (e = 0 ∧ ∃ st, st.L = L.drop k ∧ Ft st t c m ∧ ((Bz (L.drop k) = true ∧ Bo st = X) ∨ (Bz (L.drop k) = false ∧ X = some st)))
theorem Kz.begin {L : List UInt8} {k : Nat} {m : Bool} {t : Tm} {c : PC} {st : TS} (hst : st.L = L.drop k) (hr : Ft st t c m) (hs : Bz (L.drop k) = true) : Kz L (Bo st) k 0 m t c :=
 .inr ⟨rfl, st, hst, hr, .inl ⟨hs, rfl⟩⟩
theorem Kq {st : TS} (h : Bz st.L = false) : Bo st = none := by rw [E3, h]; rfl
theorem Ft.cut {st : TS} {t : Tm} {c : PC} {m : Bool} (h : Ft st t c m) (r : List UInt8) : Ft { st with L := r } t c m := ⟨h.many, h.eq⟩
theorem X4 {L : List UInt8} {X : Option TS} {st : TS} {k1 k2 : Nat} {e1 : Int} {m1 : Bool} {t1 : Tm} {c1 : PC} (hs : Bz st.L = true) (hX : Bo st = X) (hf : Ca L (A7 st) k1 e1 m1 t1 c1) (h2 : L.drop k2 = (L.drop k1).dropWhile Gw) :
  (e1 = 4 ∧ X = none) ∨ (e1 = 0 ∧ ∃ u : TS, u.L = L.drop k1 ∧ Ft u t1 c1 m1 ∧
   (A6 (L.drop k2) 42 = true → X = Bo { u with L := skp (L.drop (k2 + 1)) }) ∧
   (A6 (L.drop k2) 42 = false → Bz (L.drop k2) = true → X = Bo { u with L := L.drop k2 }) ∧
   (A6 (L.drop k2) 42 = false → Bz (L.drop k2) = false → X = some { u with L := L.drop k2 })) := by
 rw [E3, hs] at hX
 simp only [if_true] at hX
 cases hu : A7 st with
 | none =>
  rw [hu] at hf hX
  exact .inl ⟨hf, hX.symm⟩
 | some u =>
  rw [hu] at hf hX
  obtain ⟨q1, q2, q3⟩ := hf
  have e : skp u.L = L.drop k2 := by rw [q2, h2]; rfl
  simp only [e] at hX
  refine .inr ⟨q1, u, q2, q3, fun h => ?_, fun h h' => ?_, fun h h' => ?_⟩
  ·rw [if_pos h, Gi] at hX
   exact hX.symm
  ·rw [if_neg (by rw [h]; decide), if_pos h'] at hX
   exact hX.symm
  ·rw [if_neg (by rw [h]; decide), if_neg (by rw [h']; decide)] at hX
   exact hX.symm
def Mw (w : World) (R n : Nat) : Nat :=
 2 * (n - (match w.cell? ⟨R, 1, none⟩ with | some v => (intOf v).toNat | none => 0)) + (match w.cell? ⟨R, 2, none⟩ with | some v => if intOf v = 0 then 1 else 0 | none => 0)
theorem Hs {w : World} {R k : Nat} {L : List UInt8} {e : Int} {m : Bool} (h : Bh w R L k e m) : Mw w R L.length = 2 * (L.length - k) + (if e = 0 then 1 else 0) := by
 unfold Mw
 rw [h.c1, h.c2]
 by_cases he : e = 0 <;> simp [intOf, he]
structure Ht (w : World) (T : Nat) (t : Tm) : Prop where
 tm : H7 w T 0 t
 tf : ∀ i, i < 8 → w.frozen? ⟨T, i, none⟩ = false
 lt : T < w.heap.size
theorem Ht.next {w w' : World} {R T : Nat} {t : Tm} (h : Ht w T t) (hg : w.grownBy w' (some R)) (hR : T ≠ R) : Ht w' T t := by
 have h1 := hg.size
 have h2 := h.lt
 exact ⟨h.tm.butR hg (by simpa using hR), fun i hi => (Bg hg qB (by simpa using hR)).trans (h.tf i hi), by omega⟩
theorem Ht.keep {w w' : World} {T : Nat} {t : Tm} (h : Ht w T t) (hb : Below w.heap.size w w') : Ht w' T t := by
 have h1 := hb.size
 have h2 := h.lt
 exact ⟨h.tm.keep hb, fun i hi => (Ab hb (by show T < _; omega)).trans (h.tf i hi), by omega⟩
theorem Ht.setS {w : World} {T : Nat} {t : Tm} (h : Ht w T t) (s : Tm) :
  Ht ((((((((w.setCell ⟨T, 0, none⟩ (.bool s.g1)).setCell ⟨T, 1, none⟩ (.slice s.a1 s.n1 s.c1)).setCell ⟨T, 2, none⟩ (.bool s.g2)).setCell ⟨T, 3, none⟩ (.slice s.a2 s.n2 s.c2)).setCell ⟨T, 4, none⟩ (.int .u16 s.m0)).setCell ⟨T, 5, none⟩ (.int .u16 s.m1)).setCell ⟨T, 6, none⟩ (.int .u16 s.m2)).setCell ⟨T, 7, none⟩ (.int .u16 s.m3)) T s := by
 obtain ⟨⟨b0, b1, b2, b3, b4, b5, b6, b7⟩, hf, hz⟩ := h
 simp only [Nat.zero_add] at b0 b1 b2 b3 b4 b5 b6 b7
 refine ⟨⟨?_, ?_, ?_, ?_, ?_, ?_, ?_, ?_⟩, fun i hi => ?_, by simpa using hz⟩
 ·simp [go_sem, b0]
 ·simp [go_sem, b1]
 ·simp [go_sem, b2]
 ·simp [go_sem, b3]
 ·simp [go_sem, b4]
 ·simp [go_sem, b5]
 ·simp [go_sem, b6]
 ·simp [go_sem, b7]
 ·rw [← hf i hi]; simp [go_sem]
structure DSt (wo w : World) (R T : Nat) (L : List UInt8) (X : Option TS) (k : Nat) (e : Int) (m : Bool) (t : Tm) (c : PC) : Prop where
 doc : Bh w R L k e m
 box : Ht w T t
 ft : FT w wo.heap.size T t c (1 + k)
 grown : wo.grownBy w (some R)
 rel : Kz L X k e m t c
def Kn (x : Option TS) : Option (List PT × List UInt8 × Bool) :=
 match x with
 | none => none
 | some t => some (J8 (Iy t.o) t.c, t.L, t.many || Ez t.o)
theorem K8 (L : List UInt8) (many neg : Bool) : Bu L many neg = Kn (Bo ⟨(if neg then -1 else 1, 1), fun _ => 0, skp L, many⟩) := by
 unfold Bu Kn
 cases Bo ⟨(if neg then -1 else 1, 1), fun _ => 0, skp L, many⟩ <;> rfl
def Cy (L : List UInt8) (x : Option (List PT × List UInt8 × Bool)) (k' : Nat) (e' : Int) (m' : Bool) (l : List PT) : Prop :=
 match x with
 | none => e' = 4 ∧ l = []
 | some (l0, r, m) => e' = 0 ∧ r = L.drop k' ∧ m' = m ∧ l = if m then [] else l0
def Mb (w : World) (R : Nat) (L : List UInt8) (k : Nat) (m0 neg : Bool) (e : Ending) (w' : World) : Prop :=
 ∃ (a : Option Addr) (n c k' : Nat) (e' : Int) (m' : Bool) (l : List PT), e = .returned (.slice a n c) ∧ w.grownBy w' (some R) ∧ Bh w' R L k' e' m' ∧ Bk w' w.heap.size a n c l ∧ Cy L (Bu (L.drop k) m0 neg) k' e' m' l
theorem Zd {w : World} {B A K b : Nat} {t : Tm} {c : PC} {key : Nat} (h : H7 w b 0 t) (hF : FT w B A t c K) (hb : B ≤ b) (hk : Dh t.m0 t.m1 t.m2 t.m3 = key) : Bk w B (some ⟨b, 0, none⟩) 1 1 [(key, c)] := by
 refine ⟨rfl, .inr (fun y hy => by cases hy; exact hb), fun e => (by cases e), fun _ => { t with d1 := dg c.1.natAbs, d2 := dg c.2.natAbs }, ⟨Ad _, by omega, by omega, fun i hi => ⟨hF.fr.top.rd, hF.fr.low.rd, hF.m0, hF.m1, hF.m2, hF.m3⟩, .inr ⟨b, 0, rfl, fun i hi => ?_⟩⟩, fun i x hx => ?_⟩
 ·obtain rfl : i = 0 := by omega
  exact ⟨h.e0, h.e1, h.e2, h.e3, h.e4, h.e5, h.e6, h.e7⟩
 ·cases i with
  | zero =>
   simp only [List.getElem?_cons_zero, Option.some.injEq] at hx
   subst hx
   exact ⟨⟨hF.fr.top.neg, rfl, hF.fr.low.neg, rfl, hk⟩, hF.nw.1, hF.nw.2⟩
  | succ i => simp at hx
theorem Xm {st : TS} {t : Tm} {c : PC} {w : World} {B A K : Nat} (hr : Ft st t c false) (hF : FT w B A t c K) : Dh t.m0 t.m1 t.m2 t.m3 = Iy st.o := by
 obtain ⟨_, e0, e1, e2, e3⟩ := hr.eq rfl
 have h0 := hF.m0; have h1 := hF.m1; have h2 := hF.m2; have h3 := hF.m3
 unfold Iy
 have : ∀ n, n < 65536 → Hr n = n := fun n hn => by unfold Hr; omega
 rw [← e0, ← e1, ← e2, ← e3, this _ h0, this _ h1, this _ h2, this _ h3]
theorem O7 {L : List UInt8} {k : Nat} {st : TS} {t : Tm} {c : PC} (hst : st.L = L.drop k) (hr : Ft st t c true) : Cy L (Kn (some st)) k 0 true [] := by
 have := hr.many
 exact ⟨rfl, hst, this, by rw [← this]; rfl⟩
theorem Pc {L : List UInt8} {k : Nat} {st : TS} {t : Tm} {c : PC} (hst : st.L = L.drop k) (hr : Ft st t c false) (h0 : c.1 = 0) : Cy L (Kn (some st)) k 0 false [] := by
 have := hr.many
 refine ⟨rfl, hst, this, ?_⟩
 rw [← this]
 have e := (hr.eq rfl).1
 unfold J8
 rw [← e, if_pos h0]
 rfl
theorem Tb {L : List UInt8} {k : Nat} {st : TS} {t : Tm} {c : PC} (hst : st.L = L.drop k) (hr : Ft st t c false) (h0 : ¬ c.1 = 0) : Cy L (Kn (some st)) k 0 false [(Iy st.o, c)] := by
 have := hr.many
 refine ⟨rfl, hst, this, ?_⟩
 rw [← this]
 have e := (hr.eq rfl).1
 unfold J8
 rw [← e, if_neg h0]
 rfl
theorem Qy {n kk k' : Nat} {e' : Int} (h0 : e' = 0 → kk < k') (hle : kk ≤ k') (hk : k' ≤ n) : 2 * (n - k') + (if e' = 0 then 1 else 0) < 2 * (n - kk) + (if (0 : Int) = 0 then 1 else 0) := by
 rw [if_pos rfl]
 by_cases he : e' = 0
 ·have := h0 he
  rw [if_pos he]; omega
 ·rw [if_neg he]; omega
theorem bG {L : List UInt8} {k1 k2 : Nat} (h : L.drop k2 = (L.drop k1).dropWhile Gw) (h1 : k1 ≤ L.length) (h2 : k2 ≤ L.length) : k1 ≤ k2 := by
 have := congrArg List.length h
 have h3 : ((L.drop k1).dropWhile Gw).length ≤ (L.drop k1).length := (List.dropWhile_sublist _).length_le
 simp only [List.length_drop] at this h3
 omega
theorem eY {L : List UInt8} {st : TS} {kk k1 : Nat} {e1 : Int} {m1 : Bool} {t1 : Tm} {c1 : PC} (h : Ca L (A7 st) k1 e1 m1 t1 c1) (hst : st.L = L.drop kk) (he : e1 = 0) : kk < k1 := by
 cases hu : A7 st with
 | none => rw [hu] at h; have h' : e1 = 4 := h; omega
 | some u =>
  rw [hu] at h
  have h1 := Cq hu
  rw [h.2.1, hst] at h1
  simp only [List.length_drop] at h1
  omega
theorem FT.setT {w w' : World} {B A K : Nat} {t : Tm} {c : PC} (h : FT w B A t c K) (hg : w.grownBy w' (some A)) : FT w' B A t c K :=
 ⟨h.fr.ap h.ap.1 h.ap.2 hg, h.few, h.nw, h.ap, h.m0, h.m1, h.m2, h.m3⟩
theorem Kz.plain {L : List UInt8} {X : Option TS} {k1 k2 : Nat} {e1 : Int} {m1 : Bool} {t1 : Tm} {c1 : PC} (h42 : A6 (L.drop k2) 42 = false)
  (hN : (e1 = 4 ∧ X = none) ∨ (e1 = 0 ∧ ∃ u : TS, u.L = L.drop k1 ∧ Ft u t1 c1 m1 ∧ (A6 (L.drop k2) 42 = true → X = Bo { u with L := skp (L.drop (k2 + 1)) }) ∧ (A6 (L.drop k2) 42 = false → Bz (L.drop k2) = true → X = Bo { u with L := L.drop k2 }) ∧ (A6 (L.drop k2) 42 = false → Bz (L.drop k2) = false → X = some { u with L := L.drop k2 }))) :
  Kz L X k2 e1 m1 t1 c1 := by
 rcases hN with h | ⟨he, u, hu, hr, _, h2, h3⟩
 ·exact .inl h
 ·refine .inr ⟨he, { u with L := L.drop k2 }, rfl, hr.cut _, ?_⟩
  cases hs : Bz (L.drop k2)
  ·exact .inr ⟨rfl, h3 h42 hs⟩
  ·exact .inl ⟨rfl, (h2 h42 hs).symm⟩
theorem Kz.star {L : List UInt8} {X : Option TS} {k1 k2 k4 : Nat} {e1 : Int} {m1 : Bool} {t1 : Tm} {c1 : PC} (h42 : A6 (L.drop k2) 42 = true) (hk : L.drop k4 = (L.drop (k2 + 1)).dropWhile Gw)
  (hN : (e1 = 4 ∧ X = none) ∨ (e1 = 0 ∧ ∃ u : TS, u.L = L.drop k1 ∧ Ft u t1 c1 m1 ∧ (A6 (L.drop k2) 42 = true → X = Bo { u with L := skp (L.drop (k2 + 1)) }) ∧ (A6 (L.drop k2) 42 = false → Bz (L.drop k2) = true → X = Bo { u with L := L.drop k2 }) ∧ (A6 (L.drop k2) 42 = false → Bz (L.drop k2) = false → X = some { u with L := L.drop k2 }))) :
  (Bz (L.drop k4) = true → Kz L X k4 e1 m1 t1 c1) ∧ (Bz (L.drop k4) = false → Kz L X k4 4 m1 t1 c1) := by
 rcases hN with h | ⟨he, u, hu, hr, h1, _, _⟩
 ·exact ⟨fun _ => .inl h, fun _ => .inl ⟨rfl, h.2⟩⟩
 ·have e := h1 h42
  have e2 : skp (L.drop (k2 + 1)) = L.drop k4 := hk.symm
  rw [e2] at e
  refine ⟨fun hs => .inr ⟨he, { u with L := L.drop k4 }, rfl, hr.cut _, .inl ⟨hs, e.symm⟩⟩, fun hs => .inl ⟨rfl, ?_⟩⟩
  rw [e]
  exact Kq hs
theorem Va {L : List UInt8} {n : Nat} {r : List UInt8} {m : Bool} (h : Cp L true = some (n, r, m)) : m = true := by
 have := Ls L false true
 rw [show (false || true) = true from rfl, h] at this
 cases hy : Cp L false with
 | none => rw [hy] at this; cases this
 | some y => rw [hy] at this; simp at this; exact this.2.2
theorem U9 {L : List UInt8} {d : List UInt8} {r : List UInt8} {m : Bool} (h : Eq L true = some (d, r, m)) : m = true := by
 have := Rw L false true
 rw [show (false || true) = true from rfl, h] at this
 cases hy : Eq L false with
 | none => rw [hy] at this; cases this
 | some y => rw [hy] at this; simp at this; exact this.2.2
theorem Uu {L : List UInt8} {d : List UInt8} {r : List UInt8} {m : Bool} (h : Fe L true = some (d, r, m)) : m = true := by
 have := Rj L false true
 rw [show (false || true) = true from rfl, h] at this
 cases hy : Fe L false with
 | none => rw [hy] at this; cases this
 | some y => rw [hy] at this; simp at this; exact this.2.2
theorem Rz {L : List UInt8} {c : PC} {r : List UInt8} {m : Bool} (h : Do L true = some (c, r, m)) : m = true := by
 unfold Do at h
 split at h
 ·cases h
 ·next t r' m' h' =>
  have := Uu h'
  subst this
  split at h
  ·split at h
   ·cases h
   ·next l r'' m'' h'' =>
    have := U9 h''
    subst this
    cases h
    rfl
  ·cases h
   rfl
theorem On {s t : TS} (h : A7 s = some t) (hm : s.many = true) : t.many = true := by
 unfold A7 at h
 rw [hm] at h
 split at h
 ·cases h
 ·split at h
  ·split at h
   ·cases h
   ·next n r' m h' => cases h; exact Va h'
  ·split at h
   ·cases h
   ·next c r' m h' => cases h; exact Rz h'
theorem Je : ∀ (n : Nat) (s : TS) {t : TS}, s.L.length ≤ n → Bo s = some t → s.many = true → t.many = true
 | 0, s, t, hn, h, _ => by have := Gh _ h; omega
 | n + 1, s, t, hn, h, hm => by
  obtain ⟨hs, u, hu, hh⟩ := Lm h
  have hum := On hu hm
  have h1 := Cq hu
  have h2 := Ef u.L
  have h3 := Ef (skp u.L).tail
  have h4 : (skp u.L).tail.length ≤ (skp u.L).length := by simp
  rcases hh with ⟨_, h5⟩ | ⟨_, _, h5⟩ | ⟨_, _, h5⟩
  ·exact Je n _ (by show (skp (skp u.L).tail).length ≤ n; omega) h5 hum
  ·exact Je n _ (by show (skp u.L).length ≤ n; omega) h5 hum
  ·subst h5; exact hum
theorem Re {L : List UInt8} {m neg : Bool} {l : List PT} {r : List UInt8} {m' : Bool} (h : Bu L m neg = some (l, r, m')) (hm : m' = false) : m = false := by
 cases hmm : m
 ·rfl
 ·rw [hmm] at h
  unfold Bu at h
  split at h
  ·cases h
  ·next t ht =>
   have := Je _ _ (Ad _) ht rfl
   cases h
   rw [this] at hm
   cases hm
structure Uk (L : List UInt8) (X : Option (List PT × Bool)) (k : Nat) (m : Bool) (pd : List PT) : Prop where
 ex : ∃ p, X = Dg p (L.drop k) m ∧ (m = false → pd = p)
 pw : PW pd
 few : ∃ K, Da K pd ∧ K + 3 * (L.length - k) ≤ 300000
 len : pd.length + (L.length - k) ≤ 100000
def Ml (L : List UInt8) (X : Option (List PT × Bool)) (k : Nat) (e : Int) (m : Bool) (pd : List PT) : Prop :=
 (e = 4 ∧ X = none) ∨ (e = 0 ∧ Uk L X k m pd)
theorem PW.nil : PW [] := ⟨by simp, by simp, by simp⟩
theorem Ml.start {L : List UInt8} {k k' : Nat} {neg : Bool} {e' : Int} {m' : Bool} {l : List PT} (hL : L.length ≤ 65536) (hk : k ≤ L.length) (hr : Cy L (Bu (L.drop k) false neg) k' e' m' l) (hk' : k' ≤ L.length) :
  Ml L (match Bu (L.drop k) false neg with | none => none | some (l, r, m) => Dg l r m) k' e' m' l := by
 cases hx : Bu (L.drop k) false neg with
 | none =>
  rw [hx] at hr
  exact .inl ⟨hr.1, rfl⟩
 | some x =>
  obtain ⟨l0, r, m⟩ := x
  rw [hx] at hr
  obtain ⟨h1, h2, h3, h4⟩ := hr
  obtain ⟨g1, g2, g3⟩ := Ea hx
  have g4 := Ee hx
  rw [h2] at g2 g4
  simp only [List.length_drop] at g2 g4
  subst h3
  refine .inr ⟨h1, ⟨l0, by rw [h2], fun h => by rw [h4, h]; rfl⟩, ?_, ?_, ?_⟩
  ·rw [h4]; split
   ·exact PW.nil
   ·exact g1
  ·rw [h4]; split
   ·exact ⟨0, fun t ht => (by cases ht), by omega⟩
   ·exact ⟨_, g2, by omega⟩
  ·rw [h4]; split
   ·simp; omega
   ·omega
def Y4 (L : List UInt8) (k : Nat) (neg : Bool) : Prop := (neg = true ∧ A6 (L.drop k) 45 = true) ∨ (neg = false ∧ A6 (L.drop k) 45 = false ∧ A6 (L.drop k) 43 = true)
theorem Uk.next {L : List UInt8} {X : Option (List PT × Bool)} {k k' : Nat} {m : Bool} {pd : List PT} (h : Uk L X k m pd) (hk : k < L.length) {neg : Bool} (hc : Y4 L k neg) {e' : Int} {m' : Bool} {l : List PT} (hr : Cy L (Bu (L.drop (k + 1)) m neg) k' e' m' l) (hk' : k' ≤ L.length) :
  Ml L X k' e' m' (Bt pd l) := by
 obtain ⟨p, hX, hp⟩ := h.ex
 obtain ⟨K, hK, hKK⟩ := h.few
 have hlen := h.len
 have hb : (L[k] = 45 ∨ L[k] = 43) ∧ decide (L[k] = 45) = neg := by
  rcases hc with ⟨h1, h2⟩ | ⟨h1, h2, h3⟩
  ·rw [Fh hk, decide_eq_true_eq] at h2
   have : L[k] = 45 := UInt8.toNat_inj.1 (by show _ = 45; omega)
   exact ⟨.inl this, by rw [this, h1]; rfl⟩
  ·rw [Fh hk, decide_eq_true_eq] at h3
   have : L[k] = 43 := UInt8.toNat_inj.1 (by show _ = 43; omega)
   exact ⟨.inr this, by rw [this, h1]; rfl⟩
 have hX2 : X = match Bu (L.drop (k + 1)) m neg with | none => none | some (l', r', m') => Dg (Bt p l') r' m' := by
  rw [hX, Hf hk, Dg, if_pos hb.1, hb.2]
  split <;> simp_all
 cases hx : Bu (L.drop (k + 1)) m neg with
 | none =>
  rw [hx] at hr hX2
  exact .inl ⟨hr.1, hX2⟩
 | some x =>
  obtain ⟨l0, r, m1⟩ := x
  rw [hx] at hr hX2
  obtain ⟨h1, h2, h3, h4⟩ := hr
  obtain ⟨g1, g2, g3⟩ := Ea hx
  have g4 := Ee hx
  rw [h2] at g2 g4
  simp only [List.length_drop] at g2 g4
  subst h3
  have hgood : PW l ∧ Da (1 + (L.length - (k + 1) - (L.length - k'))) l ∧ l.length ≤ 1 := by
   rw [h4]; split
   ·exact ⟨PW.nil, fun t ht => (by cases ht), by simp⟩
   ·exact ⟨g1, g2, g3⟩
  have q5 := Hy pd l
  refine .inr ⟨h1, ⟨Bt p l0, by rw [hX2, h2], fun hm => ?_⟩, h.pw.add hgood.1, ⟨_, Da.add pd l h.pw.good hgood.1.good hK hgood.2.1, by omega⟩, by omega⟩
  rw [hp (Re hx hm), h4, hm]
  rfl
theorem Uk.bad {L : List UInt8} {X : Option (List PT × Bool)} {k : Nat} {m : Bool} {pd : List PT} (h : Uk L X k m pd) (hk : k < L.length) (h1 : A6 (L.drop k) 45 = false) (h2 : A6 (L.drop k) 43 = false) : X = none := by
 obtain ⟨p, hX, _⟩ := h.ex
 rw [Fh hk, decide_eq_false_iff_not] at h1 h2
 rw [hX, Hf hk, Dg, if_neg (by rintro (e | e) <;> simp [e] at h1 h2)]
theorem Uk.done {L : List UInt8} {X : Option (List PT × Bool)} {k : Nat} {m : Bool} {pd : List PT} (h : Uk L X k m pd) (hk : L.length ≤ k) : ∃ p, X = some (p, m) ∧ (m = false → pd = p) := by
 obtain ⟨p, hX, hp⟩ := h.ex
 rw [List.drop_eq_nil_of_le hk, Dg] at hX
 exact ⟨p, hX, hp⟩
theorem S8 (L : List UInt8) (k1 k2 : Nat) (h1 : L.drop k1 = skp L) (h2 : k2 = if A6 (L.drop k1) 45 then k1 + 1 else k1) : E4 L = match Bu (L.drop k2) false (A6 (L.drop k1) 45) with | none => none | some (l, r, m) => Dg l r m := by
 unfold E4
 rw [← h1]
 have e : (if A6 (L.drop k1) 45 = true then (L.drop k1).tail else L.drop k1) = L.drop k2 := by
  rw [h2]; split
  ·rw [Gi]
  ·rfl
 rw [e]
 cases Bu (L.drop k2) false (A6 (L.drop k1) 45) <;> rfl
def Od (w : World) (R n : Nat) : Nat :=
 match w.cell? ⟨R, 2, none⟩ with
 | some v => if intOf v = 0 then (n - (match w.cell? ⟨R, 1, none⟩ with | some v => (intOf v).toNat | none => 0)) + 1 else 0
 | none => 0
theorem I5 {w : World} {R k : Nat} {L : List UInt8} {e : Int} {m : Bool} (h : Bh w R L k e m) : Od w R L.length = if e = 0 then (L.length - k) + 1 else 0 := by
 unfold Od
 rw [h.c1, h.c2]
 by_cases he : e = 0 <;> simp [intOf, he]
theorem Wq {L : List UInt8} {k k' : Nat} {m neg : Bool} {e' : Int} {m' : Bool} {l : List PT} (hr : Cy L (Bu (L.drop (k + 1)) m neg) k' e' m' l) (he : e' = 0) : k < k' := by
 cases hx : Bu (L.drop (k + 1)) m neg with
 | none => rw [hx] at hr; have := hr.1; omega
 | some x =>
  obtain ⟨l0, r, m1⟩ := x
  rw [hx] at hr
  have g4 := Ee hx
  rw [hr.2.1] at g4
  simp only [List.length_drop] at g4
  omega
theorem Sn {n k k' : Nat} {e' : Int} (h : e' = 0 → k < k') (hk : k < n) : (if e' = 0 then n - k' + 1 else 0) < (if (0 : Int) = 0 then n - k + 1 else 0) := by
 rw [if_pos rfl]
 split
 ·next he => have := h he; omega
 ·omega
theorem Rg {L L' : List UInt8} {k' : Nat} {m neg : Bool} {e' : Int} {m' : Bool} {l : List PT} (hr : Cy L (Bu L' m neg) k' e' m' l) (hl : L'.length ≤ L.length) : PW l ∧ Da (L.length + 1) l ∧ l.length ≤ 1 := by
 cases hx : Bu L' m neg with
 | none =>
  rw [hx] at hr
  rw [hr.2]
  exact ⟨PW.nil, fun t ht => (by cases ht), by simp⟩
 | some x =>
  obtain ⟨l0, r, m1⟩ := x
  rw [hx] at hr
  obtain ⟨g1, g2, g3⟩ := Ea hx
  rw [hr.2.2.2]
  split
  ·exact ⟨PW.nil, fun t ht => (by cases ht), by simp⟩
  ·exact ⟨g1, g2.mono qB, g3⟩
theorem Kw {b : UInt8} {t : List UInt8} (h : Bb (b :: t) = true) : ¬ (b.toNat : Int) = 45 := by
 have h1 := (Eb h).1
 simp only [List.all_cons, Bool.and_eq_true] at h1
 have := h1.1
 unfold Bl at this
 rw [decide_eq_true_eq] at this
 omega
theorem U7 {s : List UInt8} {j i : Nat} (hj : j - 9 ≤ i) (hi : i < j) (hl : j ≤ s.length) : Bd ((s.take (i + 1)).drop (j - 9)) = 10 * Bd ((s.take i).drop (j - 9)) + ((s[i]'qB).toNat - 48) := by
 rw [List.take_succ_eq_append_getElem qB, List.drop_append_of_le_length (by rw [List.length_take]; omega), Pg]
theorem Ri {s : List UInt8} (ha : s.all Bl = true) {j i : Nat} (hi : i ≤ j) : Bd ((s.take i).drop (j - 9)) < 1000000000 := by
 apply J7
 ·exact qDl
 ·rw [List.length_drop, List.length_take]; omega
theorem Uw {s : List UInt8} (ha : s.all Bl = true) {j i : Nat} (hi : i < j) : Bd ((s.take i).drop (j - 9)) < 100000000 := by
 have h0 : ((s.take i).drop (j - 9)).all Bl = true := by
  exact qDl
 have h1 := Mt h0
 have h2 : 10 ^ ((s.take i).drop (j - 9)).length ≤ 10 ^ 8 := Nat.pow_le_pow_right qB (by rw [List.length_drop, List.length_take]; omega)
 omega
def aU (w : World) (z : Int) (e : Ending) (w' : World) : Prop := ∃ g a n c, e = .returned (.tuple #[.agg #[.bool g, .slice a n c], .int .i64 0]) ∧ A4 w' g a n c z ∧ Av w.heap.size w' a c ∧ Below w.heap.size w w'
theorem Lp (w : World) (d : List UInt8) (hd : Bb d = true) (hlen : d.length ≤ 200) :
  Calls Tryz.prog 248 #[.string ⟨d.toArray⟩] w (aU w (Bd d)) := by
 have HB := Ac w.heap.size w
 obtain ⟨i0, hi, hi0, hi1, hi2⟩ := info_parts Cu
 obtain ⟨hall, h0⟩ := Eb hd
 have HA := Ae hall
 have HD := Ae hd
 cases d with
 | nil => simp at h0
 | cons b t =>
  have h45 := Kw hd
  have hy : (⟨(b :: t).toArray⟩ : ByteArray)[0]'(by simp [ByteArray.size]) = b := by simp [ByteArray.getElem_eq_getElem_data]
  clear hall h0 hd
  go_enter Tryz.func248, Tryz.ntmps248
  have hl : ¬ (200 : Int) < (t.length : Int) + 1 := by simp at hlen; omega
  go_wp2_with (first | (go_at_call 247; refine (Mj _ (b :: t) qB).mono ?_; rw [HD.out]; rintro e w1 ⟨rfl, hb1⟩; have s0_0 : w1.cell? ⟨w.heap.size, 0, none⟩ = some (.bool false) := Au hb1 qJ; have s0_1 : w1.cell? ⟨w.heap.size, 1, none⟩ = some (.slice none 0 0) := Au hb1 qJ; have f0_0 : w1.frozen? ⟨w.heap.size, 0, none⟩ = false := (Ab hb1 qH).trans qJ; have f0_1 : w1.frozen? ⟨w.heap.size, 1, none⟩ = false := (Ab hb1 qH).trans qJ))
  have hz1 := hb1.size
  simp only [Aj] at hz1
  have HB1 := zD w hb1
  clear hb1 hy h45 hl HD
  have hst := Jc.start (b :: t)
  have hsl : ((b :: t).length : Int) = (t.length : Int) + 1 := by simp
  generalize b :: t = s at *
  go_loopw [5, 6] (fun v5 v6 wr => ∃ (z : Int) (dl : List Nat), -9 ≤ z ∧ z ≤ 200 ∧ Hid (Jc s z.toNat dl) ∧ v6 = .int .i64 z ∧ wr.ownsRow (w.heap.size + 1) 112 1 v5 dl.length (Bv dl) ∧ Below (w.heap.size + 1) w1 wr) (fun _ v6 _ => (intOf v6).toNat)
  case atStart => exact ⟨s.length, [], by omega, by omega, Ae hst, by rw [hsl], ⟨rfl, .inl ⟨rfl, rfl⟩⟩, Ac _ _⟩
  case round =>
   obtain ⟨z, dl, hz9, hz200, hSF, rfl, hown, HBr⟩ := hrel
   have hle := hSF.out.le
   have hzr := HBr.size
   by_cases hz0 : 0 < z
   ·obtain ⟨j, rfl⟩ : ∃ j : Nat, z = j := ⟨z.toNat, by omega⟩
    rw [Int.toNat_natCast] at hSF hle
    have hnx := Ae (hSF.out.next HA.out qB)
    have hmx : max (0 : Int) ((j : Int) - 9) = ((j - 9 : Nat) : Int) := by omega
    have hsm := hSF.out.small
    have hfw := hSF.out.few
    have HS := Ae hsm
    clear hsm hst
    obtain ⟨wp, rfl⟩ : ∃ wp, wp = wr := ⟨_, rfl⟩
    go_wp2_with fail
    go_loopw [7, 8] (fun v7 v8 wq => ∃ i : Nat, j - 9 ≤ i ∧ i ≤ j ∧ v7 = .int .u32 (Bd ((s.take i).drop (j - 9)) : Nat) ∧ v8 = .int .i64 i ∧ Below wp.heap.size wp wq) (fun _ v8 _ => j - (intOf v8).toNat)
    case atStart => exact ⟨j - 9, Ad _, by omega, by rw [List.drop_eq_nil_of_le (by rw [List.length_take]; omega)]; rfl, by first | rfl | rw [hmx], Ac _ _⟩
    case round =>
     obtain ⟨i, hji, hij, rfl, rfl, HBq⟩ := hrel
     have hzq := HBq.size
     by_cases hlt : i < j
     ·have hil : i < s.length := by omega
      have hy : (⟨s.toArray⟩ : ByteArray)[i]'(by simpa [ByteArray.size] using hil) = s[i] := by simp [ByteArray.getElem_eq_getElem_data]
      have hb : Bl s[i] = true := List.all_eq_true.1 HA.out _ (List.getElem_mem hil)
      have HN := Ae (U7 hji hlt hle)
      have hx8 := Uw HA.out hlt
      generalize s[i] = b at *
      unfold Bl at hb
      rw [decide_eq_true_eq] at hb
      obtain ⟨b1, b2⟩ := hb
      generalize hx : Bd ((s.take i).drop (j - 9)) = x at *
      exact qFa
     ·obtain rfl : i = j := by omega
      have hx9 := Ri HA.out (Ad i)
      generalize Bd ((s.take i).drop (i - 9)) = x at *
      go_wp2_with (at_builtin; refine wpList_append_own _ rfl _ _ 57 rfl (w.heap.size + 1) 112 i0 (.int .u32 0) 1 4 Tryz.underlying57 hi hi0 hi1 hi2 rfl qC _ dl.length (Bv dl) rfl ((Bm hown HBq).alloc _) ⟨wr.heap.size, 0, none⟩ 1 1 [.int .u32 (x : Nat)] rfl rfl (cell_one_new _ _ _) (by simp [Value.oneCell']) qO qB qA ?_; intro v4 w4 hown4 hgrow4 _)
      go_roundw
      case rel => exact ⟨(i : Int) - 9, dl ++ [x], by omega, by omega, by rw [show ((i : Int) - 9).toNat = i - 9 by omega]; exact hnx, by go_num, by rw [Ce, List.length_append]; exact hown4, ((HBr.trans (HBq.mono qB)).alloc qB _).grown hgrow4 qL (Eu hown)⟩
      case measure => (simp [intOf]; omega)
   ·have hj0 : z.toNat = 0 := by omega
    rw [hj0] at hSF
    obtain ⟨ao, co, rfl, hrd, hfr⟩ := Dr hown (by have := hSF.out.few; omega) (fun i => Bi (fun x hx => by have := hSF.out.small x hx; omega) i)
    have d0 := (HBr.cell (p := ⟨w.heap.size, 0, none⟩) (Ag _)).trans s0_0
    have d1 := (HBr.cell (p := ⟨w.heap.size, 1, none⟩) (Ag _)).trans s0_1
    have g0 := (HBr.frozen (p := ⟨w.heap.size, 0, none⟩) (Ag _)).trans f0_0
    have g1 := (HBr.frozen (p := ⟨w.heap.size, 1, none⟩) (Ag _)).trans f0_1
    have HBw : Below w.heap.size w wr := HB1.trans (HBr.mono qB)
    have hvd := hSF.out.done
    have hge : Qh (w.heap.size + 1) ao := fun x hx => Eu hown _ (by rw [hx]; rfl)
    have hsm := hSF.out.small
    clear hown HBr hSF s0_0 s0_1 f0_0 f0_1
    go_wp2_with (first | (go_at_call 188; refine (Fb _ false ao dl.length co dl hrd hsm).mono ?_; rintro e w5 ⟨g5, n5, rfl, hn5, hz5, hb5⟩; replace d0 := Au hb5 d0; replace d1 := Au hb5 d1; replace g0 := (Ab hb5 (by show w.heap.size < _; omega)).trans g0; replace g1 := (Ab hb5 (by show w.heap.size < _; omega)).trans g1))
    refine bodyPost_ret (v := .tuple #[.agg #[.bool g5, .slice ao n5 co], .int .i64 0]) (by simp [*, results, Tryz.results248, go_sem]) rfl ?_
    have hlt0 : w.heap.size < wr.heap.size := by omega
    have hnz : A4 w5 g5 ao n5 co (Bd s) := by rw [hvd] at hz5; simpa [sgn] using hz5
    have HB5 := HBw.trans (hb5.mono HBw.size)
    refine ⟨g5, ao, n5, co, rfl, ?_, ?_, ?_⟩
    ·exact qFl
    ·have hfr3 : Av (w.heap.size + 1) w5 ao co := hfr.keep hb5
     exact qFc
    ·go_grown
end Go.Proofs.YtdamegaedmckbaaGreatDoor
end
