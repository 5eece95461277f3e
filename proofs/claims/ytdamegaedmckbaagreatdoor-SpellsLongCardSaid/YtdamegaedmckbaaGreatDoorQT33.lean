/- The document's reader: a factor, plainly. No condition. The document's reader: a factor's boxes in memory. No condition. The document's reader: a number as a factor, plainly. No condition. The document's reader: a term, plainly, and in memory. No condition. -/
import Derived.Test.YtdamegaedmckbaaGreatDoorQT32
import Derived.Test.YtdamegaedmckbaaGreatDoorQT13
import Derived.Test.YtdamegaedmckbaaGreatDoorQTZ
set_option linter.unusedSimpArgs false
set_option linter.unusedVariables false
set_option maxRecDepth 100000
set_option maxHeartbeats 4000000
section
namespace Go.Proofs.YtdamegaedmckbaaGreatDoor
open Go.RowKit
structure DRel (st : TS) (t : Tm) (c : PC) (m : Bool) : Prop where
 many : m = (st.many || over st.o)
 eq : m = false → c = st.c ∧ t.m0 = st.o 0 ∧ t.m1 = st.o 1 ∧ t.m2 = st.o 2 ∧ t.m3 = st.o 3
structure FT (w : World) (B A : Nat) (t : Tm) (c : PC) (K : Nat) : Prop where
 fr : FracAt w t.g1 t.a1 t.n1 t.c1 c.1 t.g2 t.a2 t.n2 t.c2 c.2
 few : FewC K c
 nw : NwT B t
 ap : ApT A t
 m0 : t.m0 < 65536
 m1 : t.m1 < 65536
 m2 : t.m2 < 65536
 m3 : t.m3 < 65536
theorem FT.mono {w : World} {B A K K' : Nat} {t : Tm} {c : PC} (h : FT w B A t c K) (hK : K ≤ K') : FT w B A t c K' := ⟨h.fr, h.few.mono hK, h.nw, h.ap, h.m0, h.m1, h.m2, h.m3⟩
theorem FT.grown {w w' : World} {B A K R : Nat} {t : Tm} {c : PC} (h : FT w B A t c K) (hg : w.grownBy w' (some R)) (hR : R < B) : FT w' B A t c K :=
 ⟨h.fr.butR h.nw.1 h.nw.2 hg (fun k hk => by cases hk; exact hR), h.few, h.nw, h.ap, h.m0, h.m1, h.m2, h.m3⟩
theorem FT.keep {w w' : World} {B A K : Nat} {t : Tm} {c : PC} (h : FT w B A t c K) (hb : Below w.heap.size w w') : FT w' B A t c K :=
 ⟨h.fr.keep hb, h.few, h.nw, h.ap, h.m0, h.m1, h.m2, h.m3⟩
def FacRel (L : List UInt8) (x : Option TS) (k' : Nat) (e' : Int) (m' : Bool) (t : Tm) (c : PC) : Prop :=
 match x with
 | none => e' = 4
 | some u => e' = 0 ∧ u.L = L.drop k' ∧ DRel u t c m'
def FacPost (w : World) (R B A : Nat) (L : List UInt8) (k K : Nat) (st : TS) (e : Ending) (w' : World) : Prop :=
 ∃ (t : Tm) (c : PC) (k' : Nat) (e' : Int) (m' : Bool), e = .returned t.val ∧ k ≤ k' ∧ w.grownBy w' (some R) ∧ DocAt w' R L k' e' m' ∧ FT w' B A t c (K + (k' - k)) ∧ FacRel L (rdFactor st) k' e' m' t c
theorem rdNum_or (L : List UInt8) (a b : Bool) : rdNum L (a || b) = (rdNum L a).map fun x => (x.1, x.2.1, x.2.2 || b) := by
 unfold rdNum
 split
 ·simp only [Option.map_some]
  cases a <;> cases b <;> simp
 ·rfl
theorem rdPos_or (L : List UInt8) (a b : Bool) : rdPos L (a || b) = (rdPos L a).map fun x => (x.1, x.2.1, x.2.2 || b) := by
 unfold rdPos
 rw [rdNum_or]
 cases rdNum L a with
 | none => rfl
 | some x =>
  obtain ⟨d, r, m⟩ := x
  simp only [Option.map_some]
  by_cases h : d = [48]
  ·simp [h]
  ·simp [h]
theorem rdPow_or (L : List UInt8) (a b : Bool) : rdPow L (a || b) = (rdPow L a).map fun x => (x.1, x.2.1, x.2.2 || b) := by
 unfold rdPow
 cases headIs L 94
 ·rfl
 ·simp only [if_true]
  rw [rdPos_or]
  cases rdPos L.tail a with
  | none => rfl
  | some x =>
   obtain ⟨d, r, m⟩ := x
   simp only [Option.map_some]
   by_cases h : 1000 < numN d
   ·simp [h]
   ·simp [h]
theorem rdPow_top {L : List UInt8} (m : Bool) (h : headIs L 94 = true) : rdPow L m = rdTop L.tail m := by
 unfold rdPow rdTop
 rw [h]
 rfl
theorem over_iff (o : Nat → Nat) : over o = false ↔ o 0 ≤ 65535 ∧ o 1 ≤ 65535 ∧ o 2 ≤ 65535 ∧ o 3 ≤ 65535 := by
 unfold over
 simp only [Bool.or_eq_false_iff, decide_eq_false_iff_not]
 omega
theorem over_bump {o : Nat → Nat} {i n : Nat} (h : over o = true) : over (bump o i n) = true := by
 cases hb : over (bump o i n)
 ·rw [over_iff] at hb
  have : over o = false := by
   rw [over_iff]
   unfold bump at hb
   obtain ⟨b0, b1, b2, b3⟩ := hb
   refine ⟨?_, ?_, ?_, ?_⟩
   ·split at b0 <;> simp_all <;> omega
   ·split at b1 <;> simp_all <;> omega
   ·split at b2 <;> simp_all <;> omega
   ·split at b3 <;> simp_all <;> omega
  rw [this] at h; cases h
 ·rfl
def Tm.mN (t : Tm) : Nat → Nat := quadN t.m0 t.m1 t.m2 t.m3
theorem drop_head {L : List UInt8} {k : Nat} (hk : k < L.length) : L.drop k = L[k] :: L.drop (k + 1) := List.drop_eq_getElem_cons hk
theorem fac_letter {st : TS} {t t' : Tm} {c : PC} {m0 : Bool} {L : List UInt8} {k i : Nat} (hr : DRel st t c m0) (hst : st.L = L.drop k) (hi : i < 4) (hk : k < L.length) (hlet : letterOf L[k] = some i)
  {n k' : Nat} {e' : Int} {m1 : Bool} (hd : DocRes L (rdPow (L.drop (k + 1)) m0) (fun v => n = v) k' e' m1) {m' : Bool}
  (ht : (t.mN i + n ≤ 65535 ∧ m' = m1 ∧ ∀ j, j < 4 → t'.mN j = if j = i then t.mN i + n else t.mN j) ∨ (¬ t.mN i + n ≤ 65535 ∧ m' = true)) :
  FacRel L (rdFactor st) k' e' m' t' c := by
 have hfac : rdFactor st = match rdPow (L.drop (k + 1)) st.many with | none => none | some (n, r', m) => some ⟨st.c, bump st.o i n, r', m⟩ := by
  unfold rdFactor
  rw [hst, drop_head hk]
  simp only [hlet]
  cases rdPow (L.drop (k + 1)) st.many <;> rfl
 rw [hr.many, rdPow_or] at hd
 rw [hfac]
 cases hx : rdPow (L.drop (k + 1)) st.many with
 | none =>
  rw [hx] at hd
  exact hd
 | some x =>
  obtain ⟨n', r', mm⟩ := x
  rw [hx] at hd
  obtain ⟨h1, h2, h3, rfl⟩ := hd
  simp only at h2 h3
  refine ⟨h1, h2.symm, ?_, ?_⟩
  ·show m' = (mm || over (bump st.o i n))
   have hmm : st.many = true → mm = true := fun h => by
    have := rdPow_or (L.drop (k + 1)) false true
    rw [show (false || true) = st.many by rw [h]; rfl, hx] at this
    cases hy : rdPow (L.drop (k + 1)) false with
    | none => rw [hy] at this; cases this
    | some y => rw [hy] at this; simp at this; exact this.2.2
   have hbi : bump st.o i n i = st.o i + n := by simp [bump]
   rcases ht with ⟨a1, a2, a3⟩ | ⟨a1, a2⟩
   ·rw [a2, h3]
    cases hov : over st.o
    ·rw [Bool.or_false]
     cases hmm' : mm
     ·have hsm : st.many = false := by cases h : st.many; rfl; exact absurd (hmm h) (by rw [hmm']; decide)
      have hm0 : m0 = false := by rw [hr.many, hsm, hov]; rfl
      obtain ⟨_, e0, e1, e2, e3⟩ := hr.eq hm0
      have hoi : st.o i = t.mN i := by
       unfold Tm.mN
       rcases (by omega : i = 0 ∨ i = 1 ∨ i = 2 ∨ i = 3) with rfl | rfl | rfl | rfl
       ·exact e0.symm
       ·exact e1.symm
       ·exact e2.symm
       ·exact e3.symm
      rw [over_iff] at hov
      rw [Bool.false_or]
      symm
      rw [over_iff]
      unfold bump
      refine ⟨?_, ?_, ?_, ?_⟩ <;> (split <;> omega)
     ·simp
    ·rw [over_bump hov]
   ·rw [a2]
    symm
    cases hm0 : m0
    ·have hz := hr.many
     rw [hm0] at hz
     obtain ⟨_, e0, e1, e2, e3⟩ := hr.eq hm0
     have hoi : st.o i = t.mN i := by
      unfold Tm.mN
      rcases (by omega : i = 0 ∨ i = 1 ∨ i = 2 ∨ i = 3) with rfl | rfl | rfl | rfl
      ·exact e0.symm
      ·exact e1.symm
      ·exact e2.symm
      ·exact e3.symm
     have : over (bump st.o i n) = true := by
      cases hb : over (bump st.o i n)
      ·rw [over_iff] at hb
       unfold bump at hb
       rcases (by omega : i = 0 ∨ i = 1 ∨ i = 2 ∨ i = 3) with rfl | rfl | rfl | rfl <;> simp at hb <;> omega
      ·rfl
     rw [this]; simp
    ·have hz := hr.many
     rw [hm0] at hz
     cases hsm : st.many
     ·rw [hsm, Bool.false_or] at hz
      rw [over_bump hz.symm]; simp
     ·simp [hmm hsm]
  ·intro hm'
   rcases ht with ⟨a1, a2, a3⟩ | ⟨_, a2⟩
   ·rw [a2, h3] at hm'
    simp only [Bool.or_eq_false_iff] at hm'
    have hsm : st.many = false := by
     cases h : st.many
     ·rfl
     ·have := rdPow_or (L.drop (k + 1)) false true
      rw [show (false || true) = st.many by rw [h]; rfl, hx] at this
      cases hy : rdPow (L.drop (k + 1)) false with
      | none => rw [hy] at this; cases this
      | some y => rw [hy] at this; simp at this; rw [this.2.2] at hm'; exact absurd hm'.1 qC
    have hm0 : m0 = false := by rw [hr.many, hsm, hm'.2]; rfl
    obtain ⟨ec, e0, e1, e2, e3⟩ := hr.eq hm0
    have q0 := a3 0 qB
    have q1 := a3 1 qB
    have q2 := a3 2 qB
    have q3 := a3 3 qB
    simp only [Tm.mN, quadN] at q0 q1 q2 q3
    refine ⟨ec, ?_, ?_, ?_, ?_⟩
    ·rw [q0]; show _ = bump st.o i n 0; unfold bump
     by_cases h : (0 : Nat) = i
     ·subst h; simp [e0, quadN]
     ·rw [if_neg h, if_neg h, e0]
    ·rw [q1]; show _ = bump st.o i n 1; unfold bump
     by_cases h : (1 : Nat) = i
     ·subst h; simp [e1, quadN]
     ·rw [if_neg h, if_neg h, e1]
    ·rw [q2]; show _ = bump st.o i n 2; unfold bump
     by_cases h : (2 : Nat) = i
     ·subst h; simp [e2, quadN]
     ·rw [if_neg h, if_neg h, e2]
    ·rw [q3]; show _ = bump st.o i n 3; unfold bump
     by_cases h : (3 : Nat) = i
     ·subst h; simp [e3, quadN]
     ·rw [if_neg h, if_neg h, e3]
   ·rw [a2] at hm'; cases hm'
theorem headIs_drop {L : List UInt8} {k : Nat} (hk : k < L.length) (c : Int) : headIs (L.drop k) c = decide ((L[k].toNat : Int) = c) := by
 rw [drop_head hk]; rfl
def NoLet (L : List UInt8) (k : Nat) : Prop := headIs (L.drop k) 120 = false ∧ headIs (L.drop k) 121 = false ∧ headIs (L.drop k) 122 = false ∧ headIs (L.drop k) 116 = false
theorem noLet_none {L : List UInt8} {k : Nat} (h : NoLet L k) (hk : k < L.length) : letterOf L[k] = none := by
 obtain ⟨h0, h1, h2, h3⟩ := h
 rw [headIs_drop hk, decide_eq_false_iff_not] at h0 h1 h2 h3
 unfold letterOf
 rw [if_neg (fun e => h0 (by rw [e]; rfl)), if_neg (fun e => h1 (by rw [e]; rfl)), if_neg (fun e => h2 (by rw [e]; rfl)), if_neg (fun e => h3 (by rw [e]; rfl))]
theorem isLet {L : List UInt8} {k : Nat} (hk : k < L.length) : (headIs (L.drop k) 120 = true → letterOf L[k] = some 0) ∧ (headIs (L.drop k) 121 = true → letterOf L[k] = some 1) ∧ (headIs (L.drop k) 122 = true → letterOf L[k] = some 2) ∧ (headIs (L.drop k) 116 = true → letterOf L[k] = some 3) := by
 have key : ∀ (c : UInt8), headIs (L.drop k) c.toNat = true → L[k] = c := fun c h => by
  rw [headIs_drop hk, decide_eq_true_eq] at h
  exact UInt8.toNat_inj.1 qB
 refine ⟨fun h => ?_, fun h => ?_, fun h => ?_, fun h => ?_⟩
 ·rw [key 120 h]; rfl
 ·rw [key 121 h]; rfl
 ·rw [key 122 h]; rfl
 ·rw [key 116 h]; rfl
theorem head_lt {L : List UInt8} {k : Nat} {c : Int} (h : headIs (L.drop k) c = true) : k < L.length := by
 rcases Nat.lt_or_ge k L.length with h1 | h1
 ·exact h1
 ·rw [List.drop_eq_nil_of_le h1] at h; cases h
theorem fac_frac {st : TS} {L : List UInt8} {k : Nat} (hst : st.L = L.drop k) (hn : NoLet L k) : rdFactor st = match rdFrac (L.drop k) st.many with | none => none | some (c, r', m) => some ⟨mulC st.c c, st.o, r', m⟩ := by
 unfold rdFactor
 rw [hst]
 rcases Nat.lt_or_ge k L.length with hk | hk
 ·rw [drop_head hk]
  simp only [noLet_none hn hk]
  cases rdFrac (L[k] :: L.drop (k + 1)) st.many <;> rfl
 ·rw [List.drop_eq_nil_of_le hk]
  rfl
theorem tail_drop (L : List UInt8) (k : Nat) : (L.drop k).tail = L.drop (k + 1) := by rw [List.tail_drop]
theorem frac_at (L : List UInt8) (k : Nat) (m : Bool) : rdFrac (L.drop k) m =
  if digitsB (digAt L k) then
   if headIs (L.drop (k + (digAt L k).length)) 47 then
    if digitsB (digAt L (k + (digAt L k).length + 1)) then
     if digAt L (k + (digAt L k).length + 1) = [48] then none else some (mkFr (numZ (digAt L k)) (numZ (digAt L (k + (digAt L k).length + 1))), L.drop (k + (digAt L k).length + 1 + (digAt L (k + (digAt L k).length + 1)).length), (m || decide (200 < (digAt L k).length)) || decide (200 < (digAt L (k + (digAt L k).length + 1)).length))
    else none
   else some (mkFr (numZ (digAt L k)) 1, L.drop (k + (digAt L k).length), m || decide (200 < (digAt L k).length))
  else none := by
 unfold rdFrac
 rw [digAt_num]
 by_cases h1 : digitsB (digAt L k) = true
 ·rw [if_pos h1, if_pos h1]
  simp only
  by_cases h2 : headIs (L.drop (k + (digAt L k).length)) 47 = true
  ·rw [if_pos h2, if_pos h2]
   unfold rdPos
   rw [tail_drop, digAt_num]
   by_cases h3 : digitsB (digAt L (k + (digAt L k).length + 1)) = true
   ·rw [if_pos h3, if_pos h3]
    simp only
    by_cases h4 : digAt L (k + (digAt L k).length + 1) = [48]
    ·simp [h4]
    ·simp [h4]
   ·rw [if_neg h3, if_neg h3]
  ·rw [if_neg h2, if_neg h2]
 ·rw [if_neg h1, if_neg h1]
theorem DRel.number {st : TS} {t t' : Tm} {c c' : PC} {m0 x : Bool} {f : PC} {r : List UInt8} (hr : DRel st t c m0) (ht : (m0 || x) = false → c' = mulC c f ∧ t'.m0 = t.m0 ∧ t'.m1 = t.m1 ∧ t'.m2 = t.m2 ∧ t'.m3 = t.m3) :
  DRel ⟨mulC st.c f, st.o, r, st.many || x⟩ t' c' (m0 || x) := by
 refine ⟨?_, fun h => ?_⟩
 ·show (m0 || x) = (st.many || x || over st.o)
  rw [hr.many]
  cases st.many <;> cases x <;> cases over st.o <;> rfl
 ·obtain ⟨q0, q1, q2, q3, q4⟩ := ht h
  simp only [Bool.or_eq_false_iff] at h
  obtain ⟨e, e0, e1, e2, e3⟩ := hr.eq h.1
  exact ⟨by rw [q0, e], q1.trans e0, q2.trans e1, q3.trans e2, q4.trans e3⟩
end Go.Proofs.YtdamegaedmckbaaGreatDoor
end
section
namespace Go.Proofs.YtdamegaedmckbaaGreatDoor
open Go.RowKit
def zTm : Tm := ⟨false, none, 0, 0, [], false, none, 0, 0, [], 0, 0, 0, 0⟩
theorem TmAt.drewN {w : World} {b o : Nat} {t : Tm} (h : TmAt w b o t) (n : Nat) : TmAt (w.drewN n) b o t := ⟨h.e0, h.e1, h.e2, h.e3, h.e4, h.e5, h.e6, h.e7⟩
structure FBox (w0 w : World) (R : Nat) (t : Tm) : Prop where
 tm : TmAt w w0.heap.size 0 t
 sm : TmAt w (w0.heap.size + 1) 0 zTm
 tf : ∀ i, i < 8 → w.frozen? ⟨w0.heap.size, i, none⟩ = false
 sf : ∀ i, i < 8 → w.frozen? ⟨w0.heap.size + 1, i, none⟩ = false
 sz : w0.heap.size + 2 ≤ w.heap.size
 grown : w0.grownBy w (some R)
theorem FBox.next {w0 w w' : World} {R : Nat} {t : Tm} (h : FBox w0 w R t) (hg : w.grownBy w' (some R)) (hR : R < w0.heap.size) : FBox w0 w' R t := by
 have hsz := h.sz
 have h1 := hg.size
 exact ⟨h.tm.butR hg qM, h.sm.butR hg qM, fun i hi => (grown_frozen hg qB qM).trans (h.tf i hi), fun i hi => (grown_frozen hg qB qM).trans (h.sf i hi), by omega, h.grown.trans hg⟩
theorem FBox.drewN {w0 w : World} {R : Nat} {t : Tm} (h : FBox w0 w R t) (n : Nat) : FBox w0 (w.drewN n) R t :=
 ⟨h.tm.drewN n, h.sm.drewN n, h.tf, h.sf, h.sz, grown_drewN h.grown n⟩
theorem FBox.start {w w0 : World} {R : Nat} {t : Tm} (hw : w0 = ((w.alloc (.cells #[.bool t.g1, .slice t.a1 t.n1 t.c1, .bool t.g2, .slice t.a2 t.n2 t.c2, .int .u16 t.m0, .int .u16 t.m1, .int .u16 t.m2, .int .u16 t.m3] 68)).alloc (.cells #[.bool false, .slice none 0 0, .bool false, .slice none 0 0, .int .u16 0, .int .u16 0, .int .u16 0, .int .u16 0] 68))) : FBox w w0 R t := by
 subst hw
 exact ⟨⟨by simp [go_sem], by simp [go_sem], by simp [go_sem], by simp [go_sem], by simp [go_sem], by simp [go_sem], by simp [go_sem], by simp [go_sem]⟩, ⟨by simp [zTm, go_sem], by simp [zTm, go_sem], by simp [zTm, go_sem], by simp [zTm, go_sem], by simp [zTm, go_sem], by simp [zTm, go_sem], by simp [zTm, go_sem], by simp [zTm, go_sem]⟩, fun i hi => by simp [go_sem], fun i hi => by simp [go_sem], by simp, grown_below qF _⟩
theorem DocAt.setOther {w : World} {R k : Nat} {L : List UInt8} {e : Int} {m : Bool} (h : DocAt w R L k e m) (p : Addr) (v : Value) (hp : p.block ≠ R) : DocAt (w.setCell p v) R L k e m := by
 have hh : ∀ i, (w.setCell p v).heap[(⟨R, i, none⟩ : Addr).block]? = w.heap[(⟨R, i, none⟩ : Addr).block]? := fun i => Below.heap_setCell w p v R (fun e => hp e.symm)
 exact ⟨(World.cell?_of_block (hh 0)).trans h.c0, (World.cell?_of_block (hh 1)).trans h.c1, (World.cell?_of_block (hh 2)).trans h.c2, (World.cell?_of_block (hh 3)).trans h.c3, (World.frozen?_of_block (hh 1)).trans h.f1, (World.frozen?_of_block (hh 2)).trans h.f2, (World.frozen?_of_block (hh 3)).trans h.f3, h.le⟩
theorem DocAt.allocR {w : World} {R k : Nat} {L : List UInt8} {e : Int} {m : Bool} (h : DocAt w R L k e m) (o : Obj) : DocAt (w.alloc o) R L k e m := h.keep ((Below.refl _ _).alloc (Nat.le_refl _) o)
theorem FBox.alloc {w0 w : World} {R : Nat} {t : Tm} (h : FBox w0 w R t) (o : Obj) (hR : R < w0.heap.size) : FBox w0 (w.alloc o) R t :=
 h.next (grown_below ((Below.refl _ _).alloc (Nat.le_refl _) o) _) hR
theorem FBox.setM {w0 w : World} {R : Nat} {t : Tm} (h : FBox w0 w R t) (q0 q1 q2 q3 : Nat) :
  FBox w0 ((((w.setCell ⟨w0.heap.size, 4, none⟩ (.int .u16 q0)).setCell ⟨w0.heap.size, 5, none⟩ (.int .u16 q1)).setCell ⟨w0.heap.size, 6, none⟩ (.int .u16 q2)).setCell ⟨w0.heap.size, 7, none⟩ (.int .u16 q3)) R { t with m0 := q0, m1 := q1, m2 := q2, m3 := q3 } := by
 have hz := h.sz
 obtain ⟨⟨b0, b1, b2, b3, b4, b5, b6, b7⟩, hs, hf, hg, _, hgr⟩ := h
 simp only [Nat.zero_add] at b0 b1 b2 b3 b4 b5 b6 b7
 have p4 := hf 4 qC; have p5 := hf 5 qC; have p6 := hf 6 qC; have p7 := hf 7 qC
 exact qBh
theorem DocAt.setT {w : World} {R k : Nat} {L : List UInt8} {e : Int} {m : Bool} (h : DocAt w R L k e m) (T : Nat) (hT : T ≠ R) (v0 v1 v2 v3 : Value) :
  DocAt ((((w.setCell ⟨T, 4, none⟩ v0).setCell ⟨T, 5, none⟩ v1).setCell ⟨T, 6, none⟩ v2).setCell ⟨T, 7, none⟩ v3) R L k e m :=
 (((h.setOther _ _ hT).setOther _ _ hT).setOther _ _ hT).setOther _ _ hT
theorem DocAt.setS {w : World} {R k : Nat} {L : List UInt8} {e : Int} {m : Bool} (h : DocAt w R L k e m) (T : Nat) (hT : T ≠ R) (v0 v1 v2 v3 v4 v5 v6 v7 : Value) :
  DocAt ((((((((w.setCell ⟨T, 0, none⟩ v0).setCell ⟨T, 1, none⟩ v1).setCell ⟨T, 2, none⟩ v2).setCell ⟨T, 3, none⟩ v3).setCell ⟨T, 4, none⟩ v4).setCell ⟨T, 5, none⟩ v5).setCell ⟨T, 6, none⟩ v6).setCell ⟨T, 7, none⟩ v7) R L k e m :=
 (((((((h.setOther _ _ hT).setOther _ _ hT).setOther _ _ hT).setOther _ _ hT).setOther _ _ hT).setOther _ _ hT).setOther _ _ hT).setOther _ _ hT
theorem grown_setS {w w' : World} {row : Option Nat} (h : w.grownBy w' row) (T : Nat) (hT : w.heap.size ≤ T) (v0 v1 v2 v3 v4 v5 v6 v7 : Value) :
  w.grownBy ((((((((w'.setCell ⟨T, 0, none⟩ v0).setCell ⟨T, 1, none⟩ v1).setCell ⟨T, 2, none⟩ v2).setCell ⟨T, 3, none⟩ v3).setCell ⟨T, 4, none⟩ v4).setCell ⟨T, 5, none⟩ v5).setCell ⟨T, 6, none⟩ v6).setCell ⟨T, 7, none⟩ v7) row :=
 grown_setNew _ (grown_setNew _ (grown_setNew _ (grown_setNew _ (grown_setNew _ (grown_setNew _ (grown_setNew _ (grown_setNew _ h hT) hT) hT) hT) hT) hT) hT) hT
theorem FT.setM {w : World} {B A K : Nat} {t : Tm} {c : PC} (h : FT w B A t c K) {q0 q1 q2 q3 : Nat} (h0 : q0 < 65536) (h1 : q1 < 65536) (h2 : q2 < 65536) (h3 : q3 < 65536) : FT w B A { t with m0 := q0, m1 := q1, m2 := q2, m3 := q3 } c K :=
 ⟨h.fr, h.few, h.nw, h.ap, h0, h1, h2, h3⟩
theorem FT.setE {w : World} {B A K : Nat} {t t' : Tm} {c : PC} {q0 q1 q2 q3 : Nat} (ht : t' = { t with m0 := q0, m1 := q1, m2 := q2, m3 := q3 }) (h : FT w B A t c K) (hb : q0 < 65536 ∧ q1 < 65536 ∧ q2 < 65536 ∧ q3 < 65536) : FT w B A t' c K := by
 subst ht
 exact h.setM hb.1 hb.2.1 hb.2.2.1 hb.2.2.2
end Go.Proofs.YtdamegaedmckbaaGreatDoor
end
section
namespace Go.Proofs.YtdamegaedmckbaaGreatDoor
open Go.RowKit
theorem numZ_of {d : List UInt8} (h : d.length ≤ 200) : numZ d = numN d := by unfold numZ; rw [if_neg qB]
theorem num_rel_A {st : TS} {t t' : Tm} {c c' : PC} {m0 : Bool} {L : List UInt8} {k : Nat} (hr : DRel st t c m0) (hst : st.L = L.drop k) (hn : NoLet L k) (h47 : headIs (L.drop (k + (digAt L k).length)) 47 = false)
  (ht : digitsB (digAt L k) = true → (m0 || decide (200 < (digAt L k).length)) = false → c' = mulC c (mkFr (numN (digAt L k)) 1) ∧ t'.m0 = t.m0 ∧ t'.m1 = t.m1 ∧ t'.m2 = t.m2 ∧ t'.m3 = t.m3) :
  FacRel L (rdFactor st) (k + (digAt L k).length) (if digitsB (digAt L k) then 0 else 4) (m0 || decide (200 < (digAt L k).length)) t' c' := by
 rw [fac_frac hst hn, frac_at, h47]
 by_cases h1 : digitsB (digAt L k) = true
 ·rw [if_pos h1, if_pos h1]
  refine ⟨rfl, rfl, ?_⟩
  refine DRel.number hr fun hm => ?_
  have hlen : (digAt L k).length ≤ 200 := by simp only [Bool.or_eq_false_iff, decide_eq_false_iff_not] at hm; omega
  rw [numZ_of hlen]
  exact ht h1 hm
 ·rw [if_neg h1, if_neg h1]
  rfl
theorem num_rel_B {st : TS} {t t' : Tm} {c c' : PC} {m0 : Bool} {L : List UInt8} {k k1 : Nat} {d1 d2 : List UInt8} (hr : DRel st t c m0) (hst : st.L = L.drop k) (hn : NoLet L k) (hd1 : d1 = digAt L k) (hk1 : k1 = k + d1.length) (hd2 : d2 = digAt L (k1 + 1)) (h47 : headIs (L.drop k1) 47 = true)
  (ht : digitsB d1 = true → digitsB d2 = true → d2 ≠ [48] → ((m0 || decide (200 < d1.length)) || decide (200 < d2.length)) = false → c' = mulC c (mkFr (numN d1) (numN d2)) ∧ t'.m0 = t.m0 ∧ t'.m1 = t.m1 ∧ t'.m2 = t.m2 ∧ t'.m3 = t.m3) :
  FacRel L (rdFactor st) (k1 + 1 + d2.length) (if d2 = [48] then 4 else if digitsB d2 then (if digitsB d1 then 0 else 4) else 4) ((m0 || decide (200 < d1.length)) || decide (200 < d2.length)) t' c' := by
 have hf := fac_frac hst hn
 rw [frac_at, ← hd1, ← hk1, h47, ← hd2] at hf
 rw [hf]
 by_cases h1 : digitsB d1 = true
 ·rw [if_pos h1]
  by_cases h2 : digitsB d2 = true
  ·rw [if_pos h2]
   by_cases h3 : d2 = [48]
   ·simp only [h3, if_true]; rfl
   ·rw [if_neg h3, if_neg h3, if_pos h2, if_pos h1]
    refine ⟨rfl, rfl, ?_⟩
    simp only [Bool.or_assoc]
    refine DRel.number hr fun hm => ?_
    rw [← Bool.or_assoc] at hm
    have hlen : d1.length ≤ 200 ∧ d2.length ≤ 200 := by simp only [Bool.or_eq_false_iff, decide_eq_false_iff_not] at hm; omega
    rw [numZ_of hlen.1, numZ_of hlen.2]
    exact ht h1 h2 h3 hm
  ·rw [if_neg h2, if_neg h2]
   simp only [if_true]
   split <;> rfl
 ·rw [if_neg h1, if_neg h1]
  have e : (if d2 = [48] then (4 : Int) else if digitsB d2 = true then 4 else 4) = 4 := by split <;> (try split) <;> rfl
  rw [e]
  rfl
theorem FBox.setC {w0 w : World} {R : Nat} {t : Tm} (h : FBox w0 w R t) (g1 : Bool) (a1 : Option Addr) (n1 c1 : Nat) (d1 : List Nat) (g2 : Bool) (a2 : Option Addr) (n2 c2 : Nat) (d2 : List Nat) :
  FBox w0 ((((w.setCell ⟨w0.heap.size, 0, none⟩ (.bool g1)).setCell ⟨w0.heap.size, 1, none⟩ (.slice a1 n1 c1)).setCell ⟨w0.heap.size, 2, none⟩ (.bool g2)).setCell ⟨w0.heap.size, 3, none⟩ (.slice a2 n2 c2)) R ⟨g1, a1, n1, c1, d1, g2, a2, n2, c2, d2, t.m0, t.m1, t.m2, t.m3⟩ := by
 have hz := h.sz
 obtain ⟨⟨b0, b1, b2, b3, b4, b5, b6, b7⟩, hs, hf, hg, _, hgr⟩ := h
 simp only [Nat.zero_add] at b0 b1 b2 b3 b4 b5 b6 b7
 have p0 := hf 0 qC; have p1 := hf 1 qC; have p2 := hf 2 qC; have p3 := hf 3 qC
 exact qBh
theorem DocAt.setF {w : World} {R k : Nat} {L : List UInt8} {e : Int} {m : Bool} (h : DocAt w R L k e m) (T : Nat) (hT : T ≠ R) (v0 v1 v2 v3 : Value) :
  DocAt ((((w.setCell ⟨T, 0, none⟩ v0).setCell ⟨T, 1, none⟩ v1).setCell ⟨T, 2, none⟩ v2).setCell ⟨T, 3, none⟩ v3) R L k e m :=
 (((h.setOther _ _ hT).setOther _ _ hT).setOther _ _ hT).setOther _ _ hT
theorem grown_setF (w : World) (T : Nat) (v0 v1 v2 v3 : Value) : w.grownBy ((((w.setCell ⟨T, 0, none⟩ v0).setCell ⟨T, 1, none⟩ v1).setCell ⟨T, 2, none⟩ v2).setCell ⟨T, 3, none⟩ v3) (some T) :=
 grown_set _ (grown_set _ (grown_set _ (grown_set _ (grown_refl _ _))))
theorem grown_setS' (w : World) (T : Nat) (v0 v1 v2 v3 v4 v5 v6 v7 : Value) :
  w.grownBy ((((((((w.setCell ⟨T, 0, none⟩ v0).setCell ⟨T, 1, none⟩ v1).setCell ⟨T, 2, none⟩ v2).setCell ⟨T, 3, none⟩ v3).setCell ⟨T, 4, none⟩ v4).setCell ⟨T, 5, none⟩ v5).setCell ⟨T, 6, none⟩ v6).setCell ⟨T, 7, none⟩ v7) (some T) :=
 grown_set _ (grown_set _ (grown_set _ (grown_set _ (grown_set _ (grown_set _ (grown_set _ (grown_set _ (grown_refl _ _))))))))
theorem dig_text (L : List UInt8) (k : Nat) : (L.take (k + (digAt L k).length)).drop k = digAt L k := by
 unfold digAt
 rw [List.drop_take, Nat.add_sub_cancel_left]
 have h1 := List.take_left (l₁ := (L.drop k).takeWhile isDig) (l₂ := (L.drop k).dropWhile isDig)
 rwa [List.takeWhile_append_dropWhile] at h1
theorem dig_rest (L : List UInt8) (k : Nat) : L.drop k = digAt L k ++ L.drop (k + (digAt L k).length) := by
 have h1 := List.drop_left (l₁ := (L.drop k).takeWhile isDig) (l₂ := (L.drop k).dropWhile isDig)
 rw [List.takeWhile_append_dropWhile, List.drop_drop] at h1
 unfold digAt
 rw [h1, List.takeWhile_append_dropWhile]
theorem frac_text {L : List UInt8} {k k1 : Nat} {d1 d2 : List UInt8} (hd1 : d1 = digAt L k) (hk1 : k1 = k + d1.length) (hd2 : d2 = digAt L (k1 + 1)) (h47 : headIs (L.drop k1) 47 = true) : (L.take (k1 + 1 + d2.length)).drop k = d1 ++ 47 :: d2 := by
 have hlt := head_lt h47
 have e1 := dig_rest L k
 rw [← hd1, ← hk1, drop_head hlt] at e1
 have e2 := dig_rest L (k1 + 1)
 rw [← hd2] at e2
 rw [headIs_drop hlt, decide_eq_true_eq] at h47
 have e3 : L[k1] = 47 := UInt8.toNat_inj.1 (by show _ = 47; omega)
 rw [List.drop_take, e1, e2, e3]
 have e4 : k1 + 1 + d2.length - k = (d1 ++ 47 :: d2).length := by simp; omega
 rw [e4]
 have := List.take_left (l₁ := d1 ++ 47 :: d2) (l₂ := L.drop (k1 + 1 + d2.length))
 simpa using this
def CutP (w wx wc : World) (R : Nat) (L : List UInt8) (k : Nat) (t : Tm) (f : PC) (v : Value) : Prop :=
 ∃ b g1 a1 n1 c1 g2 a2 n2 c2, v = .pointer (some ⟨b, 0, none⟩) ∧ wc.cell? ⟨b, 0, none⟩ = some (.bool g1) ∧ wc.cell? ⟨b, 1, none⟩ = some (.slice a1 n1 c1) ∧ wc.cell? ⟨b, 2, none⟩ = some (.bool g2) ∧ wc.cell? ⟨b, 3, none⟩ = some (.slice a2 n2 c2) ∧
  FracAt wc g1 a1 n1 c1 f.1 g2 a2 n2 c2 f.2 ∧ DocAt wc R L k 0 false ∧ FBox w wc R t
theorem frac_fresh {w : World} {B T : Nat} {g1 : Bool} {a1 : Option Addr} {n1 c1 : Nat} {p : Int} {g2 : Bool} {a2 : Option Addr} {n2 c2 : Nat} {q : Int} (h : FracAt w g1 a1 n1 c1 p g2 a2 n2 c2 q) (h1 : Fresh B w a1 c1) (h2 : Fresh B w a2 c2) {w' : World} (hg : w.grownBy w' (some T)) (hT : T < B) : FracAt w' g1 a1 n1 c1 p g2 a2 n2 c2 q :=
 h.butR (Nw.mono (h1.newA h.top.rd) (Nat.le_refl _)) (Nw.mono (h2.newA h.low.rd) (Nat.le_refl _)) hg (fun k hk => by cases hk; exact hT)
theorem FT.over {w w' : World} {B A K B' T : Nat} {t : Tm} {c : PC} (h : FT w B A t c K) (hn : NwT B' t) (hg : w.grownBy w' (some T)) (hT : T < B') : FT w' B A t c K :=
 ⟨h.fr.butR hn.1 hn.2 hg (fun k hk => by cases hk; exact hT), h.few, h.nw, h.ap, h.m0, h.m1, h.m2, h.m3⟩
end Go.Proofs.YtdamegaedmckbaaGreatDoor
end
section
namespace Go.Proofs.YtdamegaedmckbaaGreatDoor
open Go.RowKit
def TRel (L : List UInt8) (X : Option TS) (k : Nat) (e : Int) (m : Bool) (t : Tm) (c : PC) : Prop :=
 (e = 4 ∧ X = none) ∨ (e = 0 ∧ ∃ st, st.L = L.drop k ∧ DRel st t c m ∧ ((startsL (L.drop k) = true ∧ rdLoop st = X) ∨ (startsL (L.drop k) = false ∧ X = some st)))
theorem TRel.begin {L : List UInt8} {k : Nat} {m : Bool} {t : Tm} {c : PC} {st : TS} (hst : st.L = L.drop k) (hr : DRel st t c m) (hs : startsL (L.drop k) = true) : TRel L (rdLoop st) k 0 m t c :=
 .inr ⟨rfl, st, hst, hr, .inl ⟨hs, rfl⟩⟩
theorem rdLoop_not {st : TS} (h : startsL st.L = false) : rdLoop st = none := by rw [rdLoop_eq, h]; rfl
theorem DRel.cut {st : TS} {t : Tm} {c : PC} {m : Bool} (h : DRel st t c m) (r : List UInt8) : DRel { st with L := r } t c m := ⟨h.many, h.eq⟩
theorem loop_next {L : List UInt8} {X : Option TS} {st : TS} {k1 k2 : Nat} {e1 : Int} {m1 : Bool} {t1 : Tm} {c1 : PC} (hs : startsL st.L = true) (hX : rdLoop st = X) (hf : FacRel L (rdFactor st) k1 e1 m1 t1 c1) (h2 : L.drop k2 = (L.drop k1).dropWhile isBlk) :
  (e1 = 4 ∧ X = none) ∨ (e1 = 0 ∧ ∃ u : TS, u.L = L.drop k1 ∧ DRel u t1 c1 m1 ∧
   (headIs (L.drop k2) 42 = true → X = rdLoop { u with L := skp (L.drop (k2 + 1)) }) ∧
   (headIs (L.drop k2) 42 = false → startsL (L.drop k2) = true → X = rdLoop { u with L := L.drop k2 }) ∧
   (headIs (L.drop k2) 42 = false → startsL (L.drop k2) = false → X = some { u with L := L.drop k2 })) := by
 rw [rdLoop_eq, hs] at hX
 simp only [if_true] at hX
 cases hu : rdFactor st with
 | none =>
  rw [hu] at hf hX
  exact .inl ⟨hf, hX.symm⟩
 | some u =>
  rw [hu] at hf hX
  obtain ⟨q1, q2, q3⟩ := hf
  have e : skp u.L = L.drop k2 := by rw [q2, h2]; rfl
  simp only [e] at hX
  refine .inr ⟨q1, u, q2, q3, fun h => ?_, fun h h' => ?_, fun h h' => ?_⟩
  ·rw [if_pos h, tail_drop] at hX
   exact hX.symm
  ·rw [if_neg (by rw [h]; decide), if_pos h'] at hX
   exact hX.symm
  ·rw [if_neg (by rw [h]; decide), if_neg (by rw [h']; decide)] at hX
   exact hX.symm
def docMeas (w : World) (R n : Nat) : Nat :=
 2 * (n - (match w.cell? ⟨R, 1, none⟩ with | some v => (intOf v).toNat | none => 0)) + (match w.cell? ⟨R, 2, none⟩ with | some v => if intOf v = 0 then 1 else 0 | none => 0)
theorem docMeas_at {w : World} {R k : Nat} {L : List UInt8} {e : Int} {m : Bool} (h : DocAt w R L k e m) : docMeas w R L.length = 2 * (L.length - k) + (if e = 0 then 1 else 0) := by
 unfold docMeas
 rw [h.c1, h.c2]
 by_cases he : e = 0 <;> simp [intOf, he]
structure DBox (w : World) (T : Nat) (t : Tm) : Prop where
 tm : TmAt w T 0 t
 tf : ∀ i, i < 8 → w.frozen? ⟨T, i, none⟩ = false
 lt : T < w.heap.size
theorem DBox.next {w w' : World} {R T : Nat} {t : Tm} (h : DBox w T t) (hg : w.grownBy w' (some R)) (hR : T ≠ R) : DBox w' T t := by
 have h1 := hg.size
 have h2 := h.lt
 exact ⟨h.tm.butR hg (by simpa using hR), fun i hi => (grown_frozen hg qB (by simpa using hR)).trans (h.tf i hi), by omega⟩
theorem DBox.keep {w w' : World} {T : Nat} {t : Tm} (h : DBox w T t) (hb : Below w.heap.size w w') : DBox w' T t := by
 have h1 := hb.size
 have h2 := h.lt
 exact ⟨h.tm.keep hb, fun i hi => (Below.frozen hb (by show T < _; omega)).trans (h.tf i hi), by omega⟩
theorem DBox.setS {w : World} {T : Nat} {t : Tm} (h : DBox w T t) (s : Tm) :
  DBox ((((((((w.setCell ⟨T, 0, none⟩ (.bool s.g1)).setCell ⟨T, 1, none⟩ (.slice s.a1 s.n1 s.c1)).setCell ⟨T, 2, none⟩ (.bool s.g2)).setCell ⟨T, 3, none⟩ (.slice s.a2 s.n2 s.c2)).setCell ⟨T, 4, none⟩ (.int .u16 s.m0)).setCell ⟨T, 5, none⟩ (.int .u16 s.m1)).setCell ⟨T, 6, none⟩ (.int .u16 s.m2)).setCell ⟨T, 7, none⟩ (.int .u16 s.m3)) T s := by
 obtain ⟨⟨b0, b1, b2, b3, b4, b5, b6, b7⟩, hf, hz⟩ := h
 simp only [Nat.zero_add] at b0 b1 b2 b3 b4 b5 b6 b7
 refine ⟨⟨?_, ?_, ?_, ?_, ?_, ?_, ?_, ?_⟩, fun i hi => ?_, by simpa using hz⟩
 ·simp [go_sem, b0]
 ·simp [go_sem, b1]
 ·simp [go_sem, b2]
 ·simp [go_sem, b3]
 ·simp [go_sem, b4]
 ·simp [go_sem, b5]
 ·simp [go_sem, b6]
 ·simp [go_sem, b7]
 ·rw [← hf i hi]; simp [go_sem]
structure DSt (wo w : World) (R T : Nat) (L : List UInt8) (X : Option TS) (k : Nat) (e : Int) (m : Bool) (t : Tm) (c : PC) : Prop where
 doc : DocAt w R L k e m
 box : DBox w T t
 ft : FT w wo.heap.size T t c (1 + k)
 grown : wo.grownBy w (some R)
 rel : TRel L X k e m t c
def closeT (x : Option TS) : Option (List PT × List UInt8 × Bool) :=
 match x with
 | none => none
 | some t => some (oneT (keyO t.o) t.c, t.L, t.many || over t.o)
theorem rdTerm_close (L : List UInt8) (many neg : Bool) : rdTerm L many neg = closeT (rdLoop ⟨(if neg then -1 else 1, 1), fun _ => 0, skp L, many⟩) := by
 unfold rdTerm closeT
 cases rdLoop ⟨(if neg then -1 else 1, 1), fun _ => 0, skp L, many⟩ <;> rfl
def DTermRel (L : List UInt8) (x : Option (List PT × List UInt8 × Bool)) (k' : Nat) (e' : Int) (m' : Bool) (l : List PT) : Prop :=
 match x with
 | none => e' = 4 ∧ l = []
 | some (l0, r, m) => e' = 0 ∧ r = L.drop k' ∧ m' = m ∧ l = if m then [] else l0
def DTermPost (w : World) (R : Nat) (L : List UInt8) (k : Nat) (m0 neg : Bool) (e : Ending) (w' : World) : Prop :=
 ∃ (a : Option Addr) (n c k' : Nat) (e' : Int) (m' : Bool) (l : List PT), e = .returned (.slice a n c) ∧ w.grownBy w' (some R) ∧ DocAt w' R L k' e' m' ∧ PolyAt w' w.heap.size a n c l ∧ DTermRel L (rdTerm (L.drop k) m0 neg) k' e' m' l
theorem one_poly {w : World} {B A K b : Nat} {t : Tm} {c : PC} {key : Nat} (h : TmAt w b 0 t) (hF : FT w B A t c K) (hb : B ≤ b) (hk : key4 t.m0 t.m1 t.m2 t.m3 = key) : PolyAt w B (some ⟨b, 0, none⟩) 1 1 [(key, c)] := by
 refine ⟨rfl, .inr (fun y hy => by cases hy; exact hb), fun e => (by cases e), fun _ => { t with d1 := dg c.1.natAbs, d2 := dg c.2.natAbs }, ⟨Nat.le_refl _, by omega, by omega, fun i hi => ⟨hF.fr.top.rd, hF.fr.low.rd, hF.m0, hF.m1, hF.m2, hF.m3⟩, .inr ⟨b, 0, rfl, fun i hi => ?_⟩⟩, fun i x hx => ?_⟩
 ·obtain rfl : i = 0 := by omega
  exact ⟨h.e0, h.e1, h.e2, h.e3, h.e4, h.e5, h.e6, h.e7⟩
 ·cases i with
  | zero =>
   simp only [List.getElem?_cons_zero, Option.some.injEq] at hx
   subst hx
   exact ⟨⟨hF.fr.top.neg, rfl, hF.fr.low.neg, rfl, hk⟩, hF.nw.1, hF.nw.2⟩
  | succ i => simp at hx
theorem key_clamp {st : TS} {t : Tm} {c : PC} {w : World} {B A K : Nat} (hr : DRel st t c false) (hF : FT w B A t c K) : key4 t.m0 t.m1 t.m2 t.m3 = keyO st.o := by
 obtain ⟨_, e0, e1, e2, e3⟩ := hr.eq rfl
 have h0 := hF.m0; have h1 := hF.m1; have h2 := hF.m2; have h3 := hF.m3
 unfold keyO
 have : ∀ n, n < 65536 → clamp n = n := fun n hn => by unfold clamp; omega
 rw [← e0, ← e1, ← e2, ← e3, this _ h0, this _ h1, this _ h2, this _ h3]
theorem done_many {L : List UInt8} {k : Nat} {st : TS} {t : Tm} {c : PC} (hst : st.L = L.drop k) (hr : DRel st t c true) : DTermRel L (closeT (some st)) k 0 true [] := by
 have := hr.many
 exact ⟨rfl, hst, this, by rw [← this]; rfl⟩
theorem done_zero {L : List UInt8} {k : Nat} {st : TS} {t : Tm} {c : PC} (hst : st.L = L.drop k) (hr : DRel st t c false) (h0 : c.1 = 0) : DTermRel L (closeT (some st)) k 0 false [] := by
 have := hr.many
 refine ⟨rfl, hst, this, ?_⟩
 rw [← this]
 have e := (hr.eq rfl).1
 unfold oneT
 rw [← e, if_pos h0]
 rfl
theorem done_one {L : List UInt8} {k : Nat} {st : TS} {t : Tm} {c : PC} (hst : st.L = L.drop k) (hr : DRel st t c false) (h0 : ¬ c.1 = 0) : DTermRel L (closeT (some st)) k 0 false [(keyO st.o, c)] := by
 have := hr.many
 refine ⟨rfl, hst, this, ?_⟩
 rw [← this]
 have e := (hr.eq rfl).1
 unfold oneT
 rw [← e, if_neg h0]
 rfl
theorem meas_lt {n kk k' : Nat} {e' : Int} (h0 : e' = 0 → kk < k') (hle : kk ≤ k') (hk : k' ≤ n) : 2 * (n - k') + (if e' = 0 then 1 else 0) < 2 * (n - kk) + (if (0 : Int) = 0 then 1 else 0) := by
 rw [if_pos rfl]
 by_cases he : e' = 0
 ·have := h0 he
  rw [if_pos he]; omega
 ·rw [if_neg he]; omega
theorem blk_le {L : List UInt8} {k1 k2 : Nat} (h : L.drop k2 = (L.drop k1).dropWhile isBlk) (h1 : k1 ≤ L.length) (h2 : k2 ≤ L.length) : k1 ≤ k2 := by
 have := congrArg List.length h
 have h3 : ((L.drop k1).dropWhile isBlk).length ≤ (L.drop k1).length := (List.dropWhile_sublist _).length_le
 simp only [List.length_drop] at this h3
 omega
theorem fac_lt {L : List UInt8} {st : TS} {kk k1 : Nat} {e1 : Int} {m1 : Bool} {t1 : Tm} {c1 : PC} (h : FacRel L (rdFactor st) k1 e1 m1 t1 c1) (hst : st.L = L.drop kk) (he : e1 = 0) : kk < k1 := by
 cases hu : rdFactor st with
 | none => rw [hu] at h; have h' : e1 = 4 := h; omega
 | some u =>
  rw [hu] at h
  have h1 := rdFactor_len hu
  rw [h.2.1, hst] at h1
  simp only [List.length_drop] at h1
  omega
theorem FT.setT {w w' : World} {B A K : Nat} {t : Tm} {c : PC} (h : FT w B A t c K) (hg : w.grownBy w' (some A)) : FT w' B A t c K :=
 ⟨h.fr.ap h.ap.1 h.ap.2 hg, h.few, h.nw, h.ap, h.m0, h.m1, h.m2, h.m3⟩
theorem TRel.plain {L : List UInt8} {X : Option TS} {k1 k2 : Nat} {e1 : Int} {m1 : Bool} {t1 : Tm} {c1 : PC} (h42 : headIs (L.drop k2) 42 = false)
  (hN : (e1 = 4 ∧ X = none) ∨ (e1 = 0 ∧ ∃ u : TS, u.L = L.drop k1 ∧ DRel u t1 c1 m1 ∧ (headIs (L.drop k2) 42 = true → X = rdLoop { u with L := skp (L.drop (k2 + 1)) }) ∧ (headIs (L.drop k2) 42 = false → startsL (L.drop k2) = true → X = rdLoop { u with L := L.drop k2 }) ∧ (headIs (L.drop k2) 42 = false → startsL (L.drop k2) = false → X = some { u with L := L.drop k2 }))) :
  TRel L X k2 e1 m1 t1 c1 := by
 rcases hN with h | ⟨he, u, hu, hr, _, h2, h3⟩
 ·exact .inl h
 ·refine .inr ⟨he, { u with L := L.drop k2 }, rfl, hr.cut _, ?_⟩
  cases hs : startsL (L.drop k2)
  ·exact .inr ⟨rfl, h3 h42 hs⟩
  ·exact .inl ⟨rfl, (h2 h42 hs).symm⟩
theorem TRel.star {L : List UInt8} {X : Option TS} {k1 k2 k4 : Nat} {e1 : Int} {m1 : Bool} {t1 : Tm} {c1 : PC} (h42 : headIs (L.drop k2) 42 = true) (hk : L.drop k4 = (L.drop (k2 + 1)).dropWhile isBlk)
  (hN : (e1 = 4 ∧ X = none) ∨ (e1 = 0 ∧ ∃ u : TS, u.L = L.drop k1 ∧ DRel u t1 c1 m1 ∧ (headIs (L.drop k2) 42 = true → X = rdLoop { u with L := skp (L.drop (k2 + 1)) }) ∧ (headIs (L.drop k2) 42 = false → startsL (L.drop k2) = true → X = rdLoop { u with L := L.drop k2 }) ∧ (headIs (L.drop k2) 42 = false → startsL (L.drop k2) = false → X = some { u with L := L.drop k2 }))) :
  (startsL (L.drop k4) = true → TRel L X k4 e1 m1 t1 c1) ∧ (startsL (L.drop k4) = false → TRel L X k4 4 m1 t1 c1) := by
 rcases hN with h | ⟨he, u, hu, hr, h1, _, _⟩
 ·exact ⟨fun _ => .inl h, fun _ => .inl ⟨rfl, h.2⟩⟩
 ·have e := h1 h42
  have e2 : skp (L.drop (k2 + 1)) = L.drop k4 := hk.symm
  rw [e2] at e
  refine ⟨fun hs => .inr ⟨he, { u with L := L.drop k4 }, rfl, hr.cut _, .inl ⟨hs, e.symm⟩⟩, fun hs => .inl ⟨rfl, ?_⟩⟩
  rw [e]
  exact rdLoop_not hs
end Go.Proofs.YtdamegaedmckbaaGreatDoor
end
