/- The reader's term under way: what lies in memory. No condition. -/
import Derived.Test.YtdamegaedmckbaaGreatDoorM40
import Derived.Test.YtdamegaedmckbaaGreatDoorM37
set_option linter.unusedSimpArgs false
set_option linter.unusedVariables false
section
namespace Go.Proofs.YtdamegaedmckbaaGreatDoor
open Go.RowKit

/-- Nothing, or not in block k. -/
def Ap (k n : Nat) (a : Option Addr) : Prop := n = 0 ∨ ∀ x, a = some x → x.block ≠ k
theorem RdL.ap {w w' : World} {a : Option Addr} {n c k : Nat} {d : List Nat} (h : RdL w a n c d) (ha : Ap k n a) (hg : w.grownBy w' (some k)) : RdL w' a n c d := by
  refine ⟨h.len, h.cap, h.few, h.top, h.small, ?_⟩
  rcases h.cell with h0 | ⟨b, o, hb, hc⟩
  · exact .inl h0
  · rcases ha with h0 | ha
    · exact .inl h0
    · exact .inr ⟨b, o, hb, fun i hi => hg.cell (hc i hi) fun e => ha _ hb (by simpa using e)⟩
theorem FracAt.ap {w w' : World} {g1 : Bool} {a1 : Option Addr} {n1 c1 : Nat} {p : Int} {g2 : Bool} {a2 : Option Addr} {n2 c2 k : Nat} {q : Int} (h : FracAt w g1 a1 n1 c1 p g2 a2 n2 c2 q) (h1 : Ap k n1 a1) (h2 : Ap k n2 a2) (hg : w.grownBy w' (some k)) : FracAt w' g1 a1 n1 c1 p g2 a2 n2 c2 q :=
  ⟨⟨h.top.neg, h.top.rd.ap h1 hg⟩, ⟨h.low.neg, h.low.rd.ap h2 hg⟩, h.pos, h.red⟩
theorem Nw.ap {B n k : Nat} {a : Option Addr} (h : Nw B n a) (hk : k < B) : Ap k n a := h.imp id fun h x hx e => by have := h x hx; omega
theorem RdL.ap_of {w : World} {a : Option Addr} {n c k : Nat} {d : List Nat} (h : RdL w a n c d) (hk : w.heap.size ≤ k) : Ap k n a := by
  rcases h.cell with h0 | ⟨b, o, hb, hc⟩
  · exact .inl h0
  · by_cases h0 : n = 0
    · exact .inl h0
    · right
      intro x hx e
      rw [hb] at hx
      cases hx
      have := World.block_lt_of_cell? _ _ (hc 0 (by omega))
      simp at this e
      omega
/-- The fraction of a term under way, in its box. -/
def BoxAt (w0 w : World) (CB OB : Nat) (c : PC) : Prop :=
  ∃ g1 a1 n1 c1 g2 a2 n2 c2, w.cell? ⟨CB, 0, none⟩ = some (.bool g1) ∧ w.cell? ⟨CB, 1, none⟩ = some (.slice a1 n1 c1) ∧ w.cell? ⟨CB, 2, none⟩ = some (.bool g2) ∧ w.cell? ⟨CB, 3, none⟩ = some (.slice a2 n2 c2) ∧
    FracAt w g1 a1 n1 c1 c.1 g2 a2 n2 c2 c.2 ∧ Nw w0.heap.size n1 a1 ∧ Nw w0.heap.size n2 a2 ∧ Ap CB n1 a1 ∧ Ap CB n2 a2 ∧ Ap OB n1 a1 ∧ Ap OB n2 a2
structure TermAt (w0 w : World) (R CB OB : Nat) (st : TS) : Prop where
  rdr : RdrAt w R st.L st.many
  fr : BoxAt w0 w CB OB st.c
  cf : ∀ i, i < 4 → w.frozen? ⟨CB, i, none⟩ = false
  oc : ∀ i, i < 4 → w.cell? ⟨OB, i, none⟩ = some (.int .i64 (st.o i : Nat))
  of : ∀ i, i < 4 → w.frozen? ⟨OB, i, none⟩ = false
  grown : w0.grownBy w (some R)
  h1 : R < w0.heap.size
  h2 : w0.heap.size ≤ CB
  h3 : CB < OB
  h4 : OB < w.heap.size
theorem BoxAt.grown {w0 w w' : World} {R CB OB : Nat} {c : PC} (h : BoxAt w0 w CB OB c) (hg : w.grownBy w' (some R)) (hR : R < w0.heap.size) (hC : CB ≠ R) : BoxAt w0 w' CB OB c := by
  obtain ⟨g1, a1, n1, c1, g2, a2, n2, c2, e0, e1, e2, e3, hf, k1, k2, k3, k4, k5, k6⟩ := h
  have hne : ∀ i, some (⟨CB, i, none⟩ : Addr).block ≠ some R := fun i => by simpa using hC
  exact ⟨g1, a1, n1, c1, g2, a2, n2, c2, hg.cell e0 (hne 0), hg.cell e1 (hne 1), hg.cell e2 (hne 2), hg.cell e3 (hne 3), hf.butR k1 k2 hg (fun k hk => by cases hk; exact hR), k1, k2, k3, k4, k5, k6⟩
theorem BoxAt.keep {w0 w w' : World} {CB OB : Nat} {c : PC} (h : BoxAt w0 w CB OB c) (hb : Below w.heap.size w w') : BoxAt w0 w' CB OB c := by
  obtain ⟨g1, a1, n1, c1, g2, a2, n2, c2, e0, e1, e2, e3, hf, k1, k2, k3, k4, k5, k6⟩ := h
  exact ⟨g1, a1, n1, c1, g2, a2, n2, c2, cell_keep hb e0, cell_keep hb e1, cell_keep hb e2, cell_keep hb e3, hf.keep hb, k1, k2, k3, k4, k5, k6⟩
/-- The reader has read on. -/
theorem TermAt.rd {w0 w w' : World} {R CB OB : Nat} {st : TS} (h : TermAt w0 w R CB OB st) (hg : w.grownBy w' (some R)) {L : List UInt8} {m : Bool} (hr : RdrAt w' R L m) : TermAt w0 w' R CB OB ⟨st.c, st.o, L, m⟩ := by
  have k1 := h.h1; have k2 := h.h2; have k3 := h.h3; have k4 := h.h4
  have hsz := hg.size
  refine ⟨hr, h.fr.grown hg h.h1 (by omega), fun i hi => ?_, fun i hi => hg.cell (h.oc i hi) (by simp; omega), fun i hi => ?_, h.grown.trans hg, h.h1, h.h2, h.h3, by omega⟩
  · exact (grown_frozen hg (by omega) (by simp; omega)).trans (h.cf i hi)
  · exact (grown_frozen hg (by omega) (by simp; omega)).trans (h.of i hi)
/-- New memory has been laid. -/
theorem TermAt.keep {w0 w w' : World} {R CB OB : Nat} {st : TS} (h : TermAt w0 w R CB OB st) (hb : Below w.heap.size w w') : TermAt w0 w' R CB OB st := by
  have k3 := h.h3; have k4 := h.h4
  have hsz := hb.size
  exact ⟨h.rdr.keep hb, h.fr.keep hb, fun i hi => (Below.frozen hb (by show CB < _; omega)).trans (h.cf i hi), fun i hi => cell_keep hb (h.oc i hi), fun i hi => (Below.frozen hb (by show OB < _; omega)).trans (h.of i hi), h.grown.trans (grown_below hb _), h.h1, h.h2, h.h3, by omega⟩
/-- A power has been added. -/
theorem TermAt.setO {w0 w : World} {R CB OB : Nat} {st : TS} (h : TermAt w0 w R CB OB st) (i : Nat) (hi : i < 4) (n : Nat) : TermAt w0 (w.setCell ⟨OB, i, none⟩ (.int .i64 (st.o i + n : Nat))) R CB OB ⟨st.c, bump st.o i n, st.L, st.many⟩ := by
  have k1 := h.h1; have k2 := h.h2; have k3 := h.h3; have k4 := h.h4
  have hg : w.grownBy (w.setCell ⟨OB, i, none⟩ (.int .i64 (st.o i + n : Nat))) (some OB) := grown_set _ (grown_refl _ _)
  obtain ⟨g1, a1, n1, c1, g2, a2, n2, c2, e0, e1, e2, e3, hf, q1, q2, q3, q4, q5, q6⟩ := h.fr
  have hne : ∀ j, some (⟨CB, j, none⟩ : Addr).block ≠ some OB := fun j => by simp; omega
  refine ⟨h.rdr.setOther _ (by show OB ≠ R; omega), ⟨g1, a1, n1, c1, g2, a2, n2, c2, hg.cell e0 (hne 0), hg.cell e1 (hne 1), hg.cell e2 (hne 2), hg.cell e3 (hne 3), hf.ap q5 q6 hg, q1, q2, q3, q4, q5, q6⟩, fun j hj => ?_, fun j hj => ?_, fun j hj => ?_, grown_setNew _ h.grown (by show w0.heap.size ≤ OB; omega), h.h1, h.h2, h.h3, by simpa using h.h4⟩
  · exact (grown_frozen hg (by omega) (by simp; omega)).trans (h.cf j hj)
  · show World.cell? _ _ = some (Value.int .i64 (bump st.o i n j : Nat))
    unfold bump
    by_cases e : j = i
    · subst e
      rw [if_pos rfl]
      have := h.oc j hi
      simp [*, go_sem]
    · rw [if_neg e, ← h.oc j hj]
      exact World.cell?_setCell_other (w := w) (a := ⟨OB, i, none⟩) (b := ⟨OB, j, none⟩) _ (by intro e'; injection e' with e1' e2'; exact e e2'.symm)
  · rw [← h.of j hj]; simp [go_sem]
/-- The fraction has been multiplied. -/
theorem TermAt.setC {w0 w : World} {R CB OB : Nat} {st : TS} (h : TermAt w0 w R CB OB st) {g1 : Bool} {a1 : Option Addr} {n1 c1 : Nat} {g2 : Bool} {a2 : Option Addr} {n2 c2 : Nat} {c : PC} (hf : FracAt w g1 a1 n1 c1 c.1 g2 a2 n2 c2 c.2) (k1 : Nw (OB + 1) n1 a1) (k2 : Nw (OB + 1) n2 a2) :
    TermAt w0 ((((w.setCell ⟨CB, 0, none⟩ (.bool g1)).setCell ⟨CB, 1, none⟩ (.slice a1 n1 c1)).setCell ⟨CB, 2, none⟩ (.bool g2)).setCell ⟨CB, 3, none⟩ (.slice a2 n2 c2)) R CB OB ⟨c, st.o, st.L, st.many⟩ := by
  have q1 := h.h1; have q2 := h.h2; have q3 := h.h3; have q4 := h.h4
  have hg : w.grownBy ((((w.setCell ⟨CB, 0, none⟩ (.bool g1)).setCell ⟨CB, 1, none⟩ (.slice a1 n1 c1)).setCell ⟨CB, 2, none⟩ (.bool g2)).setCell ⟨CB, 3, none⟩ (.slice a2 n2 c2)) (some CB) := grown_set _ (grown_set _ (grown_set _ (grown_set _ (grown_refl _ _))))
  obtain ⟨_, _, _, _, _, _, _, _, e0, e1, e2, e3, _⟩ := h.fr
  have hCR : CB ≠ R := by omega
  have cz : ∀ i, i < 4 → w.frozen? ⟨CB, i, none⟩ = false := h.cf
  refine ⟨(((h.rdr.setOther _ hCR).setOther _ hCR).setOther _ hCR).setOther _ hCR, ⟨g1, a1, n1, c1, g2, a2, n2, c2, by simp [*, go_sem], by simp [*, go_sem], by simp [*, go_sem], by simp [*, go_sem], hf.ap (k1.ap (by omega)) (k2.ap (by omega)) hg, k1.mono (by omega), k2.mono (by omega), k1.ap (by omega), k2.ap (by omega), k1.ap (by omega), k2.ap (by omega)⟩, fun j hj => ?_, fun j hj => hg.cell (h.oc j hj) (by simp; omega), fun j hj => (grown_frozen hg (by omega) (by simp; omega)).trans (h.of j hj), grown_setNew _ (grown_setNew _ (grown_setNew _ (grown_setNew _ h.grown h.h2) h.h2) h.h2) h.h2, h.h1, h.h2, h.h3, by simpa using h.h4⟩
  rw [← h.cf j hj]; simp [go_sem]
end Go.Proofs.YtdamegaedmckbaaGreatDoor
end
