/- The reader of the shipped package: term. Condition: the variable ErrRange holds something. -/
import Derived.Test.YtdamegaedmckbaaGreatDoorX34
set_option linter.unusedSimpArgs false
set_option linter.unusedVariables false
section
namespace Go.Proofs.YtdamegaedmckbaaGreatDoor
open Go.RowKit

/-- What term ends with. -/
def TermPost (w : World) (R : Nat) (x : Option (List PT × List UInt8 × Bool)) (e : Ending) (w' : World) : Prop :=
  w.grownBy w' (some R) ∧ match x with | none => e = .panicked noSum | some (l, r, m) => ∃ a n c, e = .returned (.slice a n c) ∧ PolyAt w' w.heap.size a n c l ∧ RdrAt w' R r m
theorem TermPost.no {w w' : World} {R : Nat} (h : w.grownBy w' (some R)) : TermPost w R none (.panicked noSum) w' := ⟨h, rfl⟩
/-- fracs.Mul by what a fraction of the reader's may be. -/
theorem mulV_c (w : World) (g1 : Bool) (a1 : Option Addr) (n1 c1 : Nat) (g2 : Bool) (a2 : Option Addr) (n2 c2 : Nat) (x : PC) (h : FracAt w g1 a1 n1 c1 x.1 g2 a2 n2 c2 x.2) (B : Nat) (v : Value) (y : PC) (hv : FrVal w B v y) (hb1 : n1 ≤ 1000000000) (hb2 : n2 ≤ 1000000000) (hy : FewC 1000000000 y) :
    Calls Tryz.prog 106 #[frV g1 a1 n1 c1 g2 a2 n2 c2, v] w (RetFrac w (mulC x y).1 (mulC x y).2) := by
  rcases hv with ⟨g3, a3, n3, c3, g4, a4, n4, c4, rfl, hf, _, _⟩ | ⟨rfl, rfl⟩
  · have e3 := hf.top.rd.len
    have e4 := hf.low.rd.len
    obtain ⟨i1, i2⟩ := hy
    exact fMul_c w _ _ _ _ _ _ _ _ _ _ h _ _ _ _ _ _ _ _ _ _ hf hb1 hb2 (by omega) (by omega)
  · exact fMul_g w _ _ _ _ _ _ _ _ _ _ h _ _ _ _ 0 _ _ _ _ 1 1 (fun W hW => fof_no w W false _ _ _ [] (rdl_nil _) false _ _ _ [] (rdl_nil _) (by omega) (by omega) (fun h => h.2.2.2.1 rfl)) hb1 hb2 (by omega)
/-- What the loop has still to answer. -/
def contX (again : Bool) (st : TS) : Option TS := if again || startsL st.L then rdLoop st else some st
set_option maxRecDepth 100000 in
theorem letter_index (b : UInt8) : Lib.indexByte [120, 121, 122, 116] b = (match letterOf b with | some i => (i : Int) | none => -1) := by
  have h : ∀ n : Fin 256, Lib.indexByte [120, 121, 122, 116] (UInt8.ofNat n) = (match letterOf (UInt8.ofNat n) with | some i => (i : Int) | none => -1) := by decide
  have := h ⟨b.toNat, b.toNat_lt⟩
  simpa only [UInt8.ofNat_toNat] using this
theorem letter_lt {b : UInt8} {i : Nat} (h : letterOf b = some i) : i < 4 := by
  unfold letterOf at h
  split at h
  · cases h; omega
  · split at h
    · cases h; omega
    · split at h
      · cases h; omega
      · split at h
        · cases h; omega
        · cases h
theorem index224 (W : World) (a b c d : Int) :
    (Instr.index 224 (.agg #[.int .i64 a, .int .i64 b, .int .i64 c, .int .i64 d]) (.int .i64 0)).run Tryz.prog W = .ok (.int .i64 a) W ∧
    (Instr.index 224 (.agg #[.int .i64 a, .int .i64 b, .int .i64 c, .int .i64 d]) (.int .i64 1)).run Tryz.prog W = .ok (.int .i64 b) W ∧
    (Instr.index 224 (.agg #[.int .i64 a, .int .i64 b, .int .i64 c, .int .i64 d]) (.int .i64 2)).run Tryz.prog W = .ok (.int .i64 c) W ∧
    (Instr.index 224 (.agg #[.int .i64 a, .int .i64 b, .int .i64 c, .int .i64 d]) (.int .i64 3)).run Tryz.prog W = .ok (.int .i64 d) W :=
  ⟨by kernel_rfl, by kernel_rfl, by kernel_rfl, by kernel_rfl⟩
/-- Is one of the first k powers above the greatest? -/
def overK (o : Nat → Nat) : Nat → Bool
  | 0 => false
  | k + 1 => overK o k || decide (65535 < o k)
theorem overK_four (o : Nat → Nat) : overK o 4 = over o := by simp [overK, over]
/-- A count of the term, as far as they have been set. -/
def tv (o : Nat → Nat) (i k : Nat) : Nat := if k < i then clamp (o k) else 0
theorem tv_lt (o : Nat → Nat) (i k : Nat) : tv o i k < 65536 := by unfold tv clamp; split <;> omega
theorem tv_key (o : Nat → Nat) : key4 (tv o 4 0) (tv o 4 1) (tv o 4 2) (tv o 4 3) = keyO o := by simp [tv, keyO]
theorem index224i (W : World) (o : Nat → Nat) (i : Nat) (hi : i < 4) : (Instr.index 224 (.agg #[.int .i64 (o 0 : Nat), .int .i64 (o 1 : Nat), .int .i64 (o 2 : Nat), .int .i64 (o 3 : Nat)]) (.int .i64 (i : Nat))).run Tryz.prog W = .ok (.int .i64 (o i : Nat)) W := by
  obtain ⟨h0, h1, h2, h3⟩ := index224 W (o 0 : Nat) (o 1 : Nat) (o 2 : Nat) (o 3 : Nat)
  match i, hi with
  | 0, _ => exact h0
  | 1, _ => exact h1
  | 2, _ => exact h2
  | 3, _ => exact h3
/-- The term's box, the first i counts set. -/
structure TBox (w : World) (TB : Nat) (g5 : Bool) (a5 : Option Addr) (n5 c5 : Nat) (g6 : Bool) (a6 : Option Addr) (n6 c6 : Nat) (o : Nat → Nat) (i : Nat) : Prop where
  e0 : w.cell? ⟨TB, 0, none⟩ = some (.bool g5)
  e1 : w.cell? ⟨TB, 1, none⟩ = some (.slice a5 n5 c5)
  e2 : w.cell? ⟨TB, 2, none⟩ = some (.bool g6)
  e3 : w.cell? ⟨TB, 3, none⟩ = some (.slice a6 n6 c6)
  m : ∀ k, k < 4 → w.cell? ⟨TB, 4 + k, none⟩ = some (.int .u16 (tv o i k : Nat))
  f : ∀ k, w.frozen? ⟨TB, k, none⟩ = false
theorem TBox.butR {w w' : World} {TB : Nat} {g5 : Bool} {a5 : Option Addr} {n5 c5 : Nat} {g6 : Bool} {a6 : Option Addr} {n6 c6 : Nat} {o : Nat → Nat} {i R : Nat} (h : TBox w TB g5 a5 n5 c5 g6 a6 n6 c6 o i) (hg : w.grownBy w' (some R)) (hne : TB ≠ R) : TBox w' TB g5 a5 n5 c5 g6 a6 n6 c6 o i := by
  have hn : ∀ k, some (⟨TB, k, none⟩ : Addr).block ≠ some R := fun k => by simpa using hne
  have hlt : TB < w.heap.size := World.block_lt_of_cell? _ _ h.e0
  exact ⟨hg.cell h.e0 (hn 0), hg.cell h.e1 (hn 1), hg.cell h.e2 (hn 2), hg.cell h.e3 (hn 3), fun k hk => hg.cell (h.m k hk) (hn _), fun k => (grown_frozen hg hlt (by simpa using hne)).trans (h.f k)⟩
theorem TBox.next {w : World} {TB : Nat} {g5 : Bool} {a5 : Option Addr} {n5 c5 : Nat} {g6 : Bool} {a6 : Option Addr} {n6 c6 : Nat} {o : Nat → Nat} {i : Nat} (h : TBox w TB g5 a5 n5 c5 g6 a6 n6 c6 o i) (hi : i < 4) : TBox (w.setCell ⟨TB, 4 + i, none⟩ (.int .u16 (clamp (o i) : Nat))) TB g5 a5 n5 c5 g6 a6 n6 c6 o (i + 1) := by
  have ho : ∀ j v, j ≠ 4 + i → w.cell? ⟨TB, j, none⟩ = some v → (w.setCell ⟨TB, 4 + i, none⟩ (.int .u16 (clamp (o i) : Nat))).cell? ⟨TB, j, none⟩ = some v := fun j v hj hv => by
    rw [← hv]
    exact World.cell?_setCell_other (w := w) (a := ⟨TB, 4 + i, none⟩) (b := ⟨TB, j, none⟩) _ (by intro e; injection e with e1 e2; exact hj e2.symm)
  refine ⟨ho 0 _ (by omega) h.e0, ho 1 _ (by omega) h.e1, ho 2 _ (by omega) h.e2, ho 3 _ (by omega) h.e3, fun k hk => ?_, fun k => by rw [← h.f k]; simp [go_sem]⟩
  by_cases e : k = i
  · subst e
    have := h.m k hk
    have hx : tv o (k + 1) k = clamp (o k) := by simp [tv]
    rw [hx]
    simp [*, go_sem]
  · have hx : tv o (i + 1) k = tv o i k := by
      unfold tv
      by_cases h1 : k < i
      · rw [if_pos (by omega), if_pos h1]
      · rw [if_neg (by omega), if_neg h1]
    rw [hx]
    exact ho _ _ (by omega) (h.m k hk)
/-- A sum of one term. -/
theorem poly_one {w : World} {B b : Nat} {g1 : Bool} {a1 : Option Addr} {n1 c1 : Nat} {g2 : Bool} {a2 : Option Addr} {n2 c2 : Nat} {c : PC} (h : FracAt w g1 a1 n1 c1 c.1 g2 a2 n2 c2 c.2) (k1 : Nw B n1 a1) (k2 : Nw B n2 a2) {m0 m1 m2 m3 : Nat} (h0 : m0 < 65536) (h1 : m1 < 65536) (h2 : m2 < 65536) (h3 : m3 < 65536)
    (hb : B ≤ b) (ht : TmAt w b 0 ⟨g1, a1, n1, c1, dg c.1.natAbs, g2, a2, n2, c2, dg c.2.natAbs, m0, m1, m2, m3⟩) : PolyAt w B (some ⟨b, 0, none⟩) 1 1 [(key4 m0 m1 m2 m3, c)] := by
  refine ⟨rfl, .inr (fun x hx => by cases hx; exact hb), fun h => (by cases h), fun _ => ⟨g1, a1, n1, c1, dg c.1.natAbs, g2, a2, n2, c2, dg c.2.natAbs, m0, m1, m2, m3⟩, ⟨Nat.le_refl _, by omega, by omega, fun i hi => ⟨h.top.rd, h.low.rd, h0, h1, h2, h3⟩, .inr ⟨b, 0, rfl, fun i hi => ?_⟩⟩, fun i x hx => ?_⟩
  · obtain rfl : i = 0 := by omega
    exact ht
  · cases i with
    | zero =>
      simp only [List.getElem?_cons_zero, Option.some.injEq] at hx
      subst hx
      exact ⟨⟨h.top.neg, rfl, h.low.neg, rfl, rfl⟩, k1, k2⟩
    | succ i => simp at hx
/-- What is kept of a term, one factor on. -/
theorem step_Q {L : List UInt8} {st u : TS} (hQ : CW st.c ∧ FewC (1 + (L.length - st.L.length)) st.c ∧ st.L.length ≤ L.length ∧ ∀ i, st.o i ≤ 1000 * (L.length - st.L.length)) (hF : rdFactor st = some u) (L' : List UInt8) (hL' : L'.length ≤ u.L.length) :
    CW u.c ∧ FewC (1 + (L.length - L'.length)) u.c ∧ L'.length ≤ L.length ∧ ∀ i, u.o i ≤ 1000 * (L.length - L'.length) := by
  obtain ⟨h1, h2, h3, h4⟩ := hQ
  obtain ⟨g1, g2⟩ := rdFactor_good hF h1 h2
  have g3 := rdFactor_o hF h4
  have g4 := rdFactor_len hF
  exact ⟨g1, g2.mono (by omega), by omega, fun i => by have := g3 i; omega⟩
/-- The length of what the reader has left. -/
def rdrLen (w : World) (R : Nat) : Nat := strLen ((w.cell? ⟨R, 0, none⟩).getD undef)
theorem rdrLen_at {w : World} {R : Nat} {L : List UInt8} {m : Bool} (h : RdrAt w R L m) : rdrLen w R = L.length := by
  unfold rdrLen
  rw [h.c0]
  exact strLen_list L
theorem frozen_keep' {w w' : World} {b i : Nat} (hb : Below w.heap.size w w') (hlt : b < w.heap.size) : w'.frozen? ⟨b, i, none⟩ = w.frozen? ⟨b, i, none⟩ := (bcell hb).2 b i hlt
/-- The box of the fraction is set afresh, before the counts have theirs. -/
theorem box_set {wo w : World} {CB : Nat} {v0 v1 v2 v3 : Value} (e0 : w.cell? ⟨CB, 0, none⟩ = some v0) (e1 : w.cell? ⟨CB, 1, none⟩ = some v1) (e2 : w.cell? ⟨CB, 2, none⟩ = some v2) (e3 : w.cell? ⟨CB, 3, none⟩ = some v3)
    {g1 : Bool} {a1 : Option Addr} {n1 c1 : Nat} {g2 : Bool} {a2 : Option Addr} {n2 c2 : Nat} {c : PC} (hf : FracAt w g1 a1 n1 c1 c.1 g2 a2 n2 c2 c.2) (k1 : Nw (CB + 1) n1 a1) (k2 : Nw (CB + 1) n2 a2) (hw : wo.heap.size ≤ CB) :
    BoxAt wo ((((w.setCell ⟨CB, 0, none⟩ (.bool g1)).setCell ⟨CB, 1, none⟩ (.slice a1 n1 c1)).setCell ⟨CB, 2, none⟩ (.bool g2)).setCell ⟨CB, 3, none⟩ (.slice a2 n2 c2)) CB w.heap.size c := by
  have hg : w.grownBy ((((w.setCell ⟨CB, 0, none⟩ (.bool g1)).setCell ⟨CB, 1, none⟩ (.slice a1 n1 c1)).setCell ⟨CB, 2, none⟩ (.bool g2)).setCell ⟨CB, 3, none⟩ (.slice a2 n2 c2)) (some CB) := grown_set _ (grown_set _ (grown_set _ (grown_set _ (grown_refl _ _))))
  exact ⟨g1, a1, n1, c1, g2, a2, n2, c2, by simp [*, go_sem], by simp [*, go_sem], by simp [*, go_sem], by simp [*, go_sem], hf.ap (k1.ap (by omega)) (k2.ap (by omega)) hg, k1.mono (by omega), k2.mono (by omega), k1.ap (by omega), k2.ap (by omega), hf.top.rd.ap_of (Nat.le_refl _), hf.low.rd.ap_of (Nat.le_refl _)⟩
set_option maxRecDepth 100000 in
set_option maxHeartbeats 4000000 in
theorem term_c (wo : World) (R : Nat) (L : List UInt8) (many neg : Bool) (h : RdrAt wo R L many) (hL : L.length < 1000000) (hV : ErrV wo) (hR : 7 < R) :
    Calls Tryz.prog 128 #[.pointer (some ⟨R, 0, none⟩), .bool neg] wo (TermPost wo R (rdTerm L many neg)) := by
  have hRlt := h.lt
  have hne7 : some 7 ≠ some R := by simp; omega
  cases neg
  · go_enter Tryz.func128, Tryz.ntmps128
    go_wp2_with fail
    refine (fOf_c _ 1 (by omega) (by omega)).mono ?_
    rintro e w1 ⟨g1, a1, n1, c1, g2, a2, n2, c2, rfl, hf1, hfr1, hfr2, hb1⟩
    have hz1 := hb1.size
    have hr1 := h.keep hb1
    have hB1 : Below w1.heap.size w1 ((w1.alloc (.cells #[.bool g1, .slice a1 n1 c1, .bool g2, .slice a2 n2 c2] 64)).alloc (.cells #[.int .i64 0, .int .i64 0, .int .i64 0, .int .i64 0] 224)) := by go_grown
    have hT0 : TermAt wo ((w1.alloc (.cells #[.bool g1, .slice a1 n1 c1, .bool g2, .slice a2 n2 c2] 64)).alloc (.cells #[.int .i64 0, .int .i64 0, .int .i64 0, .int .i64 0] 224)) R w1.heap.size (w1.heap.size + 1) ⟨(1, 1), fun _ => 0, L, many⟩ := by
      refine ⟨hr1.keep hB1, ⟨g1, a1, n1, c1, g2, a2, n2, c2, by simp [go_sem], by simp [go_sem], by simp [go_sem], by simp [go_sem], hf1.keep hB1, hfr1.newA hf1.top.rd, hfr2.newA hf1.low.rd, hf1.top.rd.ap_of (Nat.le_refl _), hf1.low.rd.ap_of (Nat.le_refl _), hf1.top.rd.ap_of (by omega), hf1.low.rd.ap_of (by omega)⟩, fun i hi => by simp [go_sem], fun i hi => ?_, fun i hi => by simp [go_sem], (grown_below hb1 _).trans (grown_below hB1 _), hRlt, hz1, by omega, by simp⟩
      match i, hi with
      | 0, _ => simp [go_sem]
      | 1, _ => simp [go_sem]
      | 2, _ => simp [go_sem]
      | 3, _ => simp [go_sem]
    go_wp2_with (first | (go_at_call 127; refine (skip_c _ R L many hT0.rdr (by omega)).mono ?_; rintro e w2 ⟨rfl, hr2, hg2⟩))
    have hT2 := hT0.rd hg2 hr2
    have hX := Lib.hid (show rdLoop ⟨(1, 1), fun _ => 0, skp L, many⟩ = contX true ⟨(1, 1), fun _ => 0, skp L, many⟩ from rfl)
    have hcw := one_cw false
    have hfew := one_few false
    have hsl := skp_le L
    obtain ⟨s0, hs0⟩ : ∃ s0 : TS, s0 = ⟨(1, 1), fun _ => 0, skp L, many⟩ := ⟨_, rfl⟩
    rw [← hs0] at hX hT2
    have hq0 : CW s0.c ∧ FewC (1 + (L.length - s0.L.length)) s0.c ∧ s0.L.length ≤ L.length ∧ ∀ i, s0.o i ≤ 1000 * (L.length - s0.L.length) := by
      rw [hs0]
      exact ⟨hcw, hfew.mono (by omega), hsl, fun i => Nat.zero_le _⟩
    have hTR : Hid (rdTerm L many false = match rdLoop s0 with | none => none | some t => some (oneT (keyO t.o) t.c, t.L, t.many || over t.o)) := Lib.hid (by rw [hs0]; rfl)
    clear hs0 hcw hfew hsl hT0 hB1 hr1 hr2 hg2 hf1 hfr1 hfr2 hb1
    go_loopw [7] (fun v7 wr => ∃ (again : Bool) (st : TS), v7 = .bool again ∧ Hid (rdLoop s0 = contX again st) ∧ Hid (TermAt wo wr R w1.heap.size (w1.heap.size + 1) st) ∧ Hid (CW st.c ∧ FewC (1 + (L.length - st.L.length)) st.c ∧ st.L.length ≤ L.length ∧ ∀ i, st.o i ≤ 1000 * (L.length - st.L.length))) (fun _ wr => rdrLen wr R)
    case atStart => exact ⟨true, s0, rfl, hX, Lib.hid hT2, Lib.hid hq0⟩
    case round =>
      clear hX hT2 hq0
      obtain ⟨again, st, rfl, hX, hT, hQ⟩ := hrel
      have hlen : st.L.length < 1000000000 := by have := hQ.out.2.2.1; omega
      cases hs : startsL st.L
      · cases again
        · have hbeg := fun (W : World) (hr : RdrAt W R st.L st.many) => begins_c W R st.L st.many hr hlen
          simp only [hs] at hbeg
          have hXX : Hid (rdLoop s0 = some st) := Lib.hid (by rw [hX.out]; unfold contX; rw [hs]; rfl)
          clear hX
          go_wp2_with (first | (go_at_call 192; refine (hbeg _ hT.out.rdr).mono ?_; rintro e w3 ⟨rfl, hb3⟩; have hT3 := hT.out.keep hb3; obtain ⟨g5, a5, n5, c5, g6, a6, n6, c6, e0, e1, e2, e3, hf5, q1, q2, q3, q4, q5, q6⟩ := hT3.fr; have o0 := hT3.oc 0 (by omega); have o1 := hT3.oc 1 (by omega); have o2 := hT3.oc 2 (by omega); have o3 := hT3.oc 3 (by omega); have hCB3 : w1.heap.size < w3.heap.size := World.block_lt_of_cell? _ _ e0; have hOB3 := hT3.h4; have hR3 : R < w3.heap.size := hT3.rdr.lt; have r0 := hT3.rdr.c0; have r1 := hT3.rdr.c1; have f0 := hT3.rdr.f0; have f1 := hT3.rdr.f1))
          clear hT hbeg
          have e51 := hf5.top.rd.len
          have e52 := hf5.low.rd.len
          obtain ⟨u1, u2⟩ := hQ.out.2.1
          have s1 : n5 < 35184372088829 := by omega
          have s2 : n6 < 35184372088829 := by omega
          clear e51 e52 u1 u2
          have hix := fun W i hi => index224i W st.o i hi
          have hW3 : Below w3.heap.size w3 (w3.alloc (.cells #[.bool g5, .slice a5 n5 c5, .bool g6, .slice a6 n6 c6, .int .u16 0, .int .u16 0, .int .u16 0, .int .u16 0] 68)) := by go_grown
          have hTB0 : TBox (w3.alloc (.cells #[.bool g5, .slice a5 n5 c5, .bool g6, .slice a6 n6 c6, .int .u16 0, .int .u16 0, .int .u16 0, .int .u16 0] 68)) w3.heap.size g5 a5 n5 c5 g6 a6 n6 c6 st.o 0 := by
            refine ⟨by simp [go_sem], by simp [go_sem], by simp [go_sem], by simp [go_sem], fun k hk => ?_, fun k => by simp [go_sem]⟩
            match k, hk with
            | 0, _ => simp [go_sem, tv]
            | 1, _ => simp [go_sem, tv]
            | 2, _ => simp [go_sem, tv]
            | 3, _ => simp [go_sem, tv]
          have hRd0 := hT3.rdr.keep hW3
          clear o0 o1 o2 o3 r0 r1 f0 f1
          go_loopw [62] (fun v62 wr => ∃ i : Nat, i ≤ 4 ∧ v62 = .int .i64 i ∧ Hid (RdrAt wr R st.L (st.many || overK st.o i)) ∧ Hid (TBox wr w3.heap.size g5 a5 n5 c5 g6 a6 n6 c6 st.o i) ∧ w3.grownBy wr (some R)) (fun v62 _ => 4 - (intOf v62).toNat)
          case atStart => exact ⟨0, by omega, rfl, Lib.hid (by simpa [overK] using hRd0), Lib.hid hTB0, grown_below hW3 _⟩
          case round =>
            clear hTB0 hRd0 hW3
            obtain ⟨i, hi, rfl, hRd, hTB, hgr⟩ := hrel
            by_cases hlt : i < 4
            · have hxi := fun W => hix W i hlt
              have r1 := hRd.out.c1
              have f1 := hRd.out.f1
              have t1 := hTB.out.m i hlt
              have t2 := hTB.out.f (4 + i)
              have hRne : R ≠ w3.heap.size := by omega
              have hRne2 : ¬ w3.heap.size = R := by omega
              have hmin : min ((st.o i : Nat) : Int) 65535 = ((clamp (st.o i) : Nat) : Int) := by unfold clamp; omega
              have hRd1 := hRd.out
              cases hm : (st.many || overK st.o i)
              · rw [hm] at r1 hRd1
                have hnm : Hid (decide ((65535 : Int) < ((st.o i : Nat) : Int)) = (st.many || overK st.o (i + 1))) := Lib.hid (by
                  simp only [overK]
                  rw [← Bool.or_assoc, hm, Bool.false_or, decide_eq_decide]
                  omega)
                clear hm hRd
                go_wp2_with fail
                go_roundw
                case rel => exact ⟨i + 1, by omega, by go_num, Lib.hid (by rw [← hnm.out]; exact (hRd1.set1 _).setOther _ hRne2), Lib.hid (by exact ((hTB.out.butR (grown_set _ (grown_refl _ _)) hRne2).next hlt)), grown_setNew _ (grown_set _ hgr) (by show w3.heap.size ≤ w3.heap.size; exact Nat.le_refl _)⟩
                case measure => (first | (simp [intOf]; omega) | (simp [intOf]; done))
              · rw [hm] at r1 hRd1
                have hnm : Hid (true = (st.many || overK st.o (i + 1))) := Lib.hid (by
                  simp only [overK]
                  rw [← Bool.or_assoc, hm, Bool.true_or])
                clear hm hRd
                go_wp2_with fail
                go_roundw
                case rel => exact ⟨i + 1, by omega, by go_num, Lib.hid (by rw [← hnm.out]; exact (hRd1.set1 _).setOther _ hRne2), Lib.hid (by exact ((hTB.out.butR (grown_set _ (grown_refl _ _)) hRne2).next hlt)), grown_setNew _ (grown_set _ hgr) (by show w3.heap.size ≤ w3.heap.size; exact Nat.le_refl _)⟩
                case measure => (first | (simp [intOf]; omega) | (simp [intOf]; done))
            · obtain rfl : i = 4 := by omega
              have hRd1 := hRd.out
              rw [overK_four] at hRd1
              have hfw := hf5.butR q1 q2 hgr (fun k hk => by cases hk; exact hRlt)
              have hneC : some w1.heap.size ≠ some R := by simp; omega
              replace e0 := World.grownBy.cell hgr e0 hneC
              replace e1 := World.grownBy.cell hgr e1 hneC
              replace e2 := World.grownBy.cell hgr e2 hneC
              replace e3 := World.grownBy.cell hgr e3 hneC
              obtain ⟨b0, b1, b2, b3, bm, bf⟩ := hTB.out
              have bm0 := bm 0 (by omega)
              have bm1 := bm 1 (by omega)
              have bm2 := bm 2 (by omega)
              have bm3 := bm 3 (by omega)
              have hgw : wo.grownBy wr (some R) := hT3.grown.trans hgr
              have hTBlt : w3.heap.size < wr.heap.size := World.block_lt_of_cell? _ _ b0
              clear hRd hTB bm bf hix
              by_cases hc0 : st.c.1 = 0
              · have hcz : cmpI st.c.1 0 = 0 := by rw [hc0, cmpI_eq]
                have HC0 := Lib.hid hc0
                clear hc0
                go_wp2_with (first | (go_at_call 31; refine (fSign_c _ _ _ _ _ _ _ _ _ _ _ (hfw.keep (by go_grown)) s2 s1).mono ?_; rintro e w5 ⟨rfl, hb5⟩; rw [hcz]))
                refine bodyPost_ret (v := .slice none 0 0) (by simp [results, Tryz.results128, go_sem]) rfl ?_
                rw [hTR.out, hXX.out]
                have h1 : oneT (keyO st.o) st.c = [] := by unfold oneT; rw [if_pos HC0.out]
                show TermPost wo R (some (oneT (keyO st.o) st.c, st.L, st.many || over st.o)) _ _
                rw [h1]
                exact ⟨hgw.trans (grown_below hb5 _), none, 0, 0, rfl, PolyAt.nil _ _, hRd1.keep hb5⟩
              · have hcz : (cmpI st.c.1 0 == 0) = false := by rw [beq_eq_false_iff_ne]; exact fun e => hc0 (cmpI_zero.1 e)
                have HC0 := Lib.hid hc0
                clear hc0
                go_wp2_with (first | (go_at_call 31; refine (fSign_c _ _ _ _ _ _ _ _ _ _ _ (hfw.keep (by go_grown)) s2 s1).mono ?_; rintro e w5 ⟨rfl, hb5⟩; replace b0 := cell_keep hb5 b0; replace b1 := cell_keep hb5 b1; replace b2 := cell_keep hb5 b2; replace b3 := cell_keep hb5 b3; replace bm0 := cell_keep hb5 bm0; replace bm1 := cell_keep hb5 bm1; replace bm2 := cell_keep hb5 bm2; replace bm3 := cell_keep hb5 bm3))
                refine bodyPost_ret (v := .slice (some ⟨w5.heap.size, 0, none⟩) 1 1) (by simp [results, Tryz.results128, go_sem]) rfl ?_
                rw [hTR.out, hXX.out]
                have h1 : oneT (keyO st.o) st.c = [(keyO st.o, st.c)] := by unfold oneT; rw [if_neg HC0.out]
                show TermPost wo R (some (oneT (keyO st.o) st.c, st.L, st.many || over st.o)) _ _
                rw [h1, ← tv_key]
                have hsz5 := hb5.size
                have hgsz := hgw.size
                have hf6 := (hfw.keep hb5).keep ((Below.refl w5.heap.size w5).alloc (Nat.le_refl _) (.cells #[.bool g5, .slice a5 n5 c5, .bool g6, .slice a6 n6 c6, .int .u16 (tv st.o 4 0 : Nat), .int .u16 (tv st.o 4 1 : Nat), .int .u16 (tv st.o 4 2 : Nat), .int .u16 (tv st.o 4 3 : Nat)] 68))
                exact ⟨grown_allocR _ (hgw.trans (grown_below hb5 _)), _, 1, 1, rfl, poly_one hf6 q1 q2 (tv_lt _ _ _) (tv_lt _ _ _) (tv_lt _ _ _) (tv_lt _ _ _) (by omega) ⟨by simp [go_sem], by simp [go_sem], by simp [go_sem], by simp [go_sem], by simp [go_sem], by simp [go_sem], by simp [go_sem], by simp [go_sem]⟩, (hRd1.keep hb5).allocR _⟩
        · have hbeg := fun (W : World) (hr : RdrAt W R st.L st.many) => begins_c W R st.L st.many hr hlen
          simp only [hs] at hbeg
          have hXX : Hid (rdLoop s0 = none) := Lib.hid (by rw [hX.out]; unfold contX; rw [hs, rdLoop_eq, hs]; rfl)
          clear hX
          go_wp2_with (first | (go_at_call 192; refine (hbeg _ hT.out.rdr).mono ?_; rintro e w3 ⟨rfl, hb3⟩) | (go_at_call 130; refine (must_no _).mono ?_; rintro e w4 ⟨rfl, rfl⟩))
          refine ⟨rfl, ?_⟩
          rw [hTR.out, hXX.out]
          exact .no (hT.out.grown.trans (grown_below hb3 _))
      · obtain ⟨b, r, hLst⟩ : ∃ b r, st.L = b :: r := by
          cases hl : st.L with
          | nil => rw [hl] at hs; cases hs
          | cons b r => exact ⟨b, r, rfl⟩
        have hX1 : Hid (rdLoop s0 = rdLoop st) := Lib.hid (by rw [hX.out]; unfold contX; rw [hs]; cases again <;> rfl)
        clear hX
        have hbeg := fun (W : World) (hr : RdrAt W R st.L st.many) => begins_c W R st.L st.many hr hlen
        simp only [hs] at hbeg
        have hy : (⟨(b :: r).toArray⟩ : ByteArray)[0]'(by simp [ByteArray.size]) = b := by simp [ByteArray.getElem_eq_getElem_data]
        have hxt := extract_tail b r
        have hI : ∀ W : World, Calls Tryz.prog 193 #[.string ⟨#[120, 121, 122, 116]⟩, .int .u8 (b.toNat : Int)] W fun e w' => e = .returned (.int .i64 (Lib.indexByte [120, 121, 122, 116] b)) ∧ w' = W := fun W => by
          have := Tryz.strings_IndexByte ⟨#[120, 121, 122, 116]⟩ (b.toNat : Int) W
          have e : ((b.toNat : Int).toNat.toUInt8) = b := by simp
          rw [e] at this
          exact this
        have hix := letter_index b
        have hrl : r.length < 1000000000 := by rw [hLst] at hlen; simp at hlen; omega
        have HS := Lib.hid hs
        have HLN := Lib.hid hlen
        clear hs hlen
        cases hlet : letterOf b with
        | some i =>
          rw [hlet] at hix
          simp only [hix] at hI
          have hi4 := letter_lt hlet
          cases again
          · go_wp2_with (first | (go_at_call 192; refine (hbeg _ hT.out.rdr).mono ?_; rintro e w3 ⟨rfl, hb3⟩; have hT3 := hT.out.keep hb3; have r0 := hT3.rdr.c0; rw [hLst] at r0; have f0 := hT3.rdr.f0) | (go_at_call 192; refine (hbeg _ hT3.rdr).mono ?_; rintro e w4 ⟨rfl, hb4⟩; have hT4 := hT3.keep hb4; replace r0 := cell_keep hb4 r0; replace f0 := hT4.rdr.f0) | (go_at_call 130; refine (must_yes _).mono ?_; rintro e wm ⟨rfl, rfl⟩) | (go_at_call 193; refine (hI _).mono ?_; rintro e wi ⟨rfl, rfl⟩))
            have hTr := hT4.rd (grown_set (o := 0) (.string ⟨r.toArray⟩) (grown_refl _ _)) (hT4.rdr.set0 r)
            have hoi := hTr.oc i hi4
            have hi4i : ((i : Nat) : Int) < 4 := by omega
            have hVq := hV.grown hTr.grown hne7
            have hob : st.o i ≤ 1000 * (L.length - st.L.length) := hQ.out.2.2.2 i
            have hHT := Lib.hid hTr
            have hm0 := Lib.hid (rdrLen_at hT.out.rdr)
            clear r0 f0 hT3 hbeg hTr hT
            generalize wi.setCell ⟨R, 0, none⟩ (.string ⟨r.toArray⟩) = wq at *
            have hTd : TermAt wo wq.drew R w1.heap.size (w1.heap.size + 1) ⟨st.c, st.o, r, st.many⟩ := hHT.out.keep ((Below.refl _ _).drew)
            have hVd : ErrV wq.drew := hVq
            cases hx : rdPow r st.many with
            | none =>
              have hXN : Hid (rdLoop s0 = none) := Lib.hid (by rw [hX1.out, rdLoop_eq, HS.out]; simp only [if_true]; rw [show rdFactor st = none by unfold rdFactor; rw [hLst]; simp only; rw [hlet]; simp only; rw [hx]])
              refine wp_region_C (fun W => W.cell? ⟨w1.heap.size + 1, i, none⟩ = some (.int .i64 (st.o i : Nat))) 7 (by kernel_rfl) (by ((try dsimp only); (repeat' apply And.intro); all_goals (first | (with_reducible assumption) | (go_keep; done) | (simp [*, go_sem]; done)))) (fun hHeld => ?_)
              (refine AnyC.take 7 (i := 0) (v := ?_) rfl (by kernel_rfl) (fun _ _ _ h => h) (Or.inl ⟨by rfl, ?_⟩) (by assumption) ?_; rotate_left; (focus (intro w' hSw; (try dsimp only at hSw); go_simp; (try with_reducible rfl))); (try simp only [Act.put, List.setIfInBounds_toArray, List.set_cons_zero, List.set_cons_succ]))
              (refine AnyC.take 7 (i := 1) (v := ?_) rfl (by kernel_rfl) (fun _ _ _ h => h) (Or.inl ⟨by rfl, ?_⟩) (by assumption) ?_; rotate_left; (focus (intro w' hSw; (try dsimp only at hSw); go_simp; (try with_reducible rfl))); (try simp only [Act.put, List.setIfInBounds_toArray, List.set_cons_zero, List.set_cons_succ]))
              (refine AnyC.take 7 (i := 2) (v := ?_) rfl (by kernel_rfl) (fun _ _ _ h => h) (Or.inl ⟨by rfl, ?_⟩) (by assumption) ?_; rotate_left; (focus (intro w' hSw; (try dsimp only at hSw); go_simp; (try with_reducible rfl))); (try simp only [Act.put, List.setIfInBounds_toArray, List.set_cons_zero, List.set_cons_succ]))
              (refine AnyC.take 7 (i := 3) (v := ?_) rfl (by kernel_rfl) (fun _ _ _ h => h) (Or.inl ⟨by rfl, ?_⟩) (by assumption) ?_; rotate_left; (focus (intro w' hSw; (try dsimp only at hSw); go_simp; (try with_reducible rfl))); (try simp only [Act.put, List.setIfInBounds_toArray, List.set_cons_zero, List.set_cons_succ]))
              refine AnyC.one (i := 4) rfl (by kernel_rfl) (fun K hK => ?_)
              go_simp
              go_at_call 194
              refine (power_c _ R r st.many hTd.rdr hrl hVd hR).mono ?_
              rintro e w6 ⟨hg6, hp6⟩
              rw [hx] at hp6
              subst hp6
              refine ⟨rfl, ?_⟩
              rw [hTR.out, hXN.out]
              exact .no (hTd.grown.trans hg6)
            | some x =>
              obtain ⟨n, r', m'⟩ := x
              have hn := rdPow_le hx
              have hrlen := rdPow_len hx
              have hwr : IntKind.i64.wrap (((st.o i : Nat) : Int) + ((n : Nat) : Int)) = ((st.o i : Nat) : Int) + ((n : Nat) : Int) := by simp [IntKind.wrap, IntKind.bits, IntKind.signed]; omega
              have hF : Hid (rdFactor st = some ⟨st.c, bump st.o i n, r', m'⟩) := Lib.hid (by unfold rdFactor; rw [hLst]; simp only; rw [hlet]; simp only; rw [hx])
              refine wp_region_C (fun W => W.cell? ⟨w1.heap.size + 1, i, none⟩ = some (.int .i64 (st.o i : Nat))) 7 (by kernel_rfl) (by ((try dsimp only); (repeat' apply And.intro); all_goals (first | (with_reducible assumption) | (go_keep; done) | (simp [*, go_sem]; done)))) (fun hHeld => ?_)
              (refine AnyC.take 7 (i := 0) (v := ?_) rfl (by kernel_rfl) (fun _ _ _ h => h) (Or.inl ⟨by rfl, ?_⟩) (by assumption) ?_; rotate_left; (focus (intro w' hSw; (try dsimp only at hSw); go_simp; (try with_reducible rfl))); (try simp only [Act.put, List.setIfInBounds_toArray, List.set_cons_zero, List.set_cons_succ]))
              (refine AnyC.take 7 (i := 1) (v := ?_) rfl (by kernel_rfl) (fun _ _ _ h => h) (Or.inl ⟨by rfl, ?_⟩) (by assumption) ?_; rotate_left; (focus (intro w' hSw; (try dsimp only at hSw); go_simp; (try with_reducible rfl))); (try simp only [Act.put, List.setIfInBounds_toArray, List.set_cons_zero, List.set_cons_succ]))
              (refine AnyC.take 7 (i := 2) (v := ?_) rfl (by kernel_rfl) (fun _ _ _ h => h) (Or.inl ⟨by rfl, ?_⟩) (by assumption) ?_; rotate_left; (focus (intro w' hSw; (try dsimp only at hSw); go_simp; (try with_reducible rfl))); (try simp only [Act.put, List.setIfInBounds_toArray, List.set_cons_zero, List.set_cons_succ]))
              (refine AnyC.take 7 (i := 3) (v := ?_) rfl (by kernel_rfl) (fun _ _ _ h => h) (Or.inl ⟨by rfl, ?_⟩) (by assumption) ?_; rotate_left; (focus (intro w' hSw; (try dsimp only at hSw); go_simp; (try with_reducible rfl))); (try simp only [Act.put, List.setIfInBounds_toArray, List.set_cons_zero, List.set_cons_succ]))
              (refine AnyC.one (i := 4) rfl (by kernel_rfl) (fun K hK => ?_); go_simp; (go_at_call 194; refine (power_c _ R r st.many hTd.rdr hrl hVd hR).mono ?_; rintro e w6 ⟨hg6, hp6⟩; rw [hx] at hp6; obtain ⟨rfl, hr6⟩ := hp6; have hT6 := hTd.rd hg6 hr6; have hoi6 := hT6.oc i hi4; have hof6 := hT6.of i hi4); (try go_wp2_with fail); refine hK.out _ _ (fun _ => (by ((try dsimp only); (repeat' apply And.intro); all_goals (first | (with_reducible assumption) | (go_keep; done) | (simp [*, go_sem]; done))))) ?_; clear hK K; (try simp only [Act.put, List.setIfInBounds_toArray, List.set_cons_zero, List.set_cons_succ]))
              (refine AnyC.one (i := 5) rfl (by kernel_rfl) (fun K hK => ?_); go_simp; skip; (try go_wp2_with fail); refine hK.out _ _ (fun _ => (by ((try dsimp only); (repeat' apply And.intro); all_goals (first | (with_reducible assumption) | (go_keep; done) | (simp [*, go_sem]; done))))) ?_; clear hK K; (try simp only [Act.put, List.setIfInBounds_toArray, List.set_cons_zero, List.set_cons_succ]))
              (refine AnyC.one (i := 6) rfl (by kernel_rfl) (fun K hK => ?_); go_simp; (try rw [if_pos hi4i]); (try go_wp2_with fail); refine hK.out _ _ (fun _ => (by ((try dsimp only); (repeat' apply And.intro); all_goals (first | (with_reducible assumption) | (go_keep; done) | (simp [*, go_sem]; done))))) ?_; clear hK K; (try simp only [Act.put, List.setIfInBounds_toArray, List.set_cons_zero, List.set_cons_succ]))
              (refine AnyC.one (i := 7) rfl (by kernel_rfl) (fun K hK => ?_); go_simp; refine hK.out _ _ (fun h => absurd h (by decide)) ?_; clear hK K; (try simp only [Act.put, List.setIfInBounds_toArray, List.set_cons_zero, List.set_cons_succ]))
              refine AnyC.done (by kernel_rfl) ?_ _
              (try rw [hwr])
              obtain ⟨u, hu⟩ : ∃ u : TS, u = ⟨st.c, bump st.o i n, r', m'⟩ := ⟨_, rfl⟩
              have hT7 : TermAt wo (w6.setCell ⟨w1.heap.size + 1, i, none⟩ (.int .i64 (((st.o i : Nat) : Int) + ((n : Nat) : Int)))) R w1.heap.size (w1.heap.size + 1) u := by
                have h7 := hT6.setO i hi4 n
                rw [Int.natCast_add] at h7
                exact hu ▸ h7
              rw [← hu] at hF
              clear hoi hoi6 hof6 hT6 hTd hHT hVq hVd hu hx hn hrlen hob hwr
              generalize w6.setCell ⟨w1.heap.size + 1, i, none⟩ (.int .i64 (((st.o i : Nat) : Int) + ((n : Nat) : Int))) = w7 at *
              have hul : u.L.length < 1000000000 := by have h1 := rdFactor_len hF.out; have h2 := HLN.out; omega
              have HT7 := Lib.hid hT7
              have hsk := skp_le u.L
              have hfl := rdFactor_len hF.out
              cases h42 : headIs (skp u.L) 42
              · have hXn : Hid (rdLoop s0 = contX false ⟨u.c, u.o, skp u.L, u.many⟩) := Lib.hid (by rw [hX1.out, rdLoop_eq, HS.out, hF.out]; simp only [if_true]; rw [h42]; rfl)
                have hQn := Lib.hid (step_Q hQ.out hF.out (skp u.L) hsk)
                have hRn := Lib.hid h42
                clear hT7
                go_wp2_with (first | (go_at_call 127; refine (skip_c _ R u.L u.many HT7.out.rdr hul).mono ?_; rintro e w8 ⟨rfl, hr8, hg8⟩; have hT8 := HT7.out.rd hg8 hr8) | (go_at_call 129; refine (rdTakes_c _ R (skp u.L) u.many 42 hT8.rdr (by omega) (by omega) (by omega)).mono ?_; rintro e w9 ⟨rfl, hr9, hg9⟩; rw [hRn.out] at hr9; simp only [hRn.out]; have hT9 := hT8.rd hg9 hr9))
                go_roundw
                case rel => exact ⟨false, ⟨u.c, u.o, skp u.L, u.many⟩, rfl, hXn, Lib.hid hT9, hQn⟩
                case measure => rw [rdrLen_at hT9.rdr, hm0.out]; show (skp u.L).length < _; omega
              · have hs2 := skp_le (skp u.L).tail
                have hs3 : (skp u.L).tail.length ≤ (skp u.L).length := by simp
                have hXn : Hid (rdLoop s0 = contX true ⟨u.c, u.o, skp (skp u.L).tail, u.many⟩) := Lib.hid (by rw [hX1.out, rdLoop_eq, HS.out, hF.out]; simp only [if_true]; rw [h42]; rfl)
                have hQn := Lib.hid (step_Q hQ.out hF.out (skp (skp u.L).tail) (by omega))
                have hRn := Lib.hid h42
                clear hT7
                go_wp2_with (first | (go_at_call 129; refine (rdTakes_c _ R (skp u.L) u.many 42 hT8.rdr (by omega) (by omega) (by omega)).mono ?_; rintro e w9 ⟨rfl, hr9, hg9⟩; rw [hRn.out] at hr9; simp only [if_true] at hr9; simp only [hRn.out]; have hT9 := hT8.rd hg9 hr9) | (go_at_call 127; refine (skip_c _ R (skp u.L).tail u.many hT9.rdr (by omega)).mono ?_; rintro e wa ⟨rfl, hra, hga⟩; have hTa := hT9.rd hga hra) | (go_at_call 127; refine (skip_c _ R u.L u.many HT7.out.rdr hul).mono ?_; rintro e w8 ⟨rfl, hr8, hg8⟩; have hT8 := HT7.out.rd hg8 hr8))
                go_roundw
                case rel => exact ⟨true, ⟨u.c, u.o, skp (skp u.L).tail, u.many⟩, rfl, hXn, Lib.hid hTa, hQn⟩
                case measure => rw [rdrLen_at hTa.rdr, hm0.out]; show (skp (skp u.L).tail).length < _; omega
          · go_wp2_with (first | (go_at_call 192; refine (hbeg _ hT.out.rdr).mono ?_; rintro e w3 ⟨rfl, hb3⟩; have hT3 := hT.out.keep hb3; have r0 := hT3.rdr.c0; rw [hLst] at r0; have f0 := hT3.rdr.f0) | (go_at_call 130; refine (must_yes _).mono ?_; rintro e wm ⟨rfl, rfl⟩) | (go_at_call 193; refine (hI _).mono ?_; rintro e wi ⟨rfl, rfl⟩))
            have hTr := hT3.rd (grown_set (o := 0) (.string ⟨r.toArray⟩) (grown_refl _ _)) (hT3.rdr.set0 r)
            have hoi := hTr.oc i hi4
            have hi4i : ((i : Nat) : Int) < 4 := by omega
            have hVq := hV.grown hTr.grown hne7
            have hob : st.o i ≤ 1000 * (L.length - st.L.length) := hQ.out.2.2.2 i
            have hHT := Lib.hid hTr
            have hm0 := Lib.hid (rdrLen_at hT.out.rdr)
            clear r0 f0 hT3 hbeg hTr hT
            generalize wi.setCell ⟨R, 0, none⟩ (.string ⟨r.toArray⟩) = wq at *
            have hTd : TermAt wo wq.drew R w1.heap.size (w1.heap.size + 1) ⟨st.c, st.o, r, st.many⟩ := hHT.out.keep ((Below.refl _ _).drew)
            have hVd : ErrV wq.drew := hVq
            cases hx : rdPow r st.many with
            | none =>
              have hXN : Hid (rdLoop s0 = none) := Lib.hid (by rw [hX1.out, rdLoop_eq, HS.out]; simp only [if_true]; rw [show rdFactor st = none by unfold rdFactor; rw [hLst]; simp only; rw [hlet]; simp only; rw [hx]])
              refine wp_region_C (fun W => W.cell? ⟨w1.heap.size + 1, i, none⟩ = some (.int .i64 (st.o i : Nat))) 7 (by kernel_rfl) (by ((try dsimp only); (repeat' apply And.intro); all_goals (first | (with_reducible assumption) | (go_keep; done) | (simp [*, go_sem]; done)))) (fun hHeld => ?_)
              (refine AnyC.take 7 (i := 0) (v := ?_) rfl (by kernel_rfl) (fun _ _ _ h => h) (Or.inl ⟨by rfl, ?_⟩) (by assumption) ?_; rotate_left; (focus (intro w' hSw; (try dsimp only at hSw); go_simp; (try with_reducible rfl))); (try simp only [Act.put, List.setIfInBounds_toArray, List.set_cons_zero, List.set_cons_succ]))
              (refine AnyC.take 7 (i := 1) (v := ?_) rfl (by kernel_rfl) (fun _ _ _ h => h) (Or.inl ⟨by rfl, ?_⟩) (by assumption) ?_; rotate_left; (focus (intro w' hSw; (try dsimp only at hSw); go_simp; (try with_reducible rfl))); (try simp only [Act.put, List.setIfInBounds_toArray, List.set_cons_zero, List.set_cons_succ]))
              (refine AnyC.take 7 (i := 2) (v := ?_) rfl (by kernel_rfl) (fun _ _ _ h => h) (Or.inl ⟨by rfl, ?_⟩) (by assumption) ?_; rotate_left; (focus (intro w' hSw; (try dsimp only at hSw); go_simp; (try with_reducible rfl))); (try simp only [Act.put, List.setIfInBounds_toArray, List.set_cons_zero, List.set_cons_succ]))
              (refine AnyC.take 7 (i := 3) (v := ?_) rfl (by kernel_rfl) (fun _ _ _ h => h) (Or.inl ⟨by rfl, ?_⟩) (by assumption) ?_; rotate_left; (focus (intro w' hSw; (try dsimp only at hSw); go_simp; (try with_reducible rfl))); (try simp only [Act.put, List.setIfInBounds_toArray, List.set_cons_zero, List.set_cons_succ]))
              refine AnyC.one (i := 4) rfl (by kernel_rfl) (fun K hK => ?_)
              go_simp
              go_at_call 194
              refine (power_c _ R r st.many hTd.rdr hrl hVd hR).mono ?_
              rintro e w6 ⟨hg6, hp6⟩
              rw [hx] at hp6
              subst hp6
              refine ⟨rfl, ?_⟩
              rw [hTR.out, hXN.out]
              exact .no (hTd.grown.trans hg6)
            | some x =>
              obtain ⟨n, r', m'⟩ := x
              have hn := rdPow_le hx
              have hrlen := rdPow_len hx
              have hwr : IntKind.i64.wrap (((st.o i : Nat) : Int) + ((n : Nat) : Int)) = ((st.o i : Nat) : Int) + ((n : Nat) : Int) := by simp [IntKind.wrap, IntKind.bits, IntKind.signed]; omega
              have hF : Hid (rdFactor st = some ⟨st.c, bump st.o i n, r', m'⟩) := Lib.hid (by unfold rdFactor; rw [hLst]; simp only; rw [hlet]; simp only; rw [hx])
              refine wp_region_C (fun W => W.cell? ⟨w1.heap.size + 1, i, none⟩ = some (.int .i64 (st.o i : Nat))) 7 (by kernel_rfl) (by ((try dsimp only); (repeat' apply And.intro); all_goals (first | (with_reducible assumption) | (go_keep; done) | (simp [*, go_sem]; done)))) (fun hHeld => ?_)
              (refine AnyC.take 7 (i := 0) (v := ?_) rfl (by kernel_rfl) (fun _ _ _ h => h) (Or.inl ⟨by rfl, ?_⟩) (by assumption) ?_; rotate_left; (focus (intro w' hSw; (try dsimp only at hSw); go_simp; (try with_reducible rfl))); (try simp only [Act.put, List.setIfInBounds_toArray, List.set_cons_zero, List.set_cons_succ]))
              (refine AnyC.take 7 (i := 1) (v := ?_) rfl (by kernel_rfl) (fun _ _ _ h => h) (Or.inl ⟨by rfl, ?_⟩) (by assumption) ?_; rotate_left; (focus (intro w' hSw; (try dsimp only at hSw); go_simp; (try with_reducible rfl))); (try simp only [Act.put, List.setIfInBounds_toArray, List.set_cons_zero, List.set_cons_succ]))
              (refine AnyC.take 7 (i := 2) (v := ?_) rfl (by kernel_rfl) (fun _ _ _ h => h) (Or.inl ⟨by rfl, ?_⟩) (by assumption) ?_; rotate_left; (focus (intro w' hSw; (try dsimp only at hSw); go_simp; (try with_reducible rfl))); (try simp only [Act.put, List.setIfInBounds_toArray, List.set_cons_zero, List.set_cons_succ]))
              (refine AnyC.take 7 (i := 3) (v := ?_) rfl (by kernel_rfl) (fun _ _ _ h => h) (Or.inl ⟨by rfl, ?_⟩) (by assumption) ?_; rotate_left; (focus (intro w' hSw; (try dsimp only at hSw); go_simp; (try with_reducible rfl))); (try simp only [Act.put, List.setIfInBounds_toArray, List.set_cons_zero, List.set_cons_succ]))
              (refine AnyC.one (i := 4) rfl (by kernel_rfl) (fun K hK => ?_); go_simp; (go_at_call 194; refine (power_c _ R r st.many hTd.rdr hrl hVd hR).mono ?_; rintro e w6 ⟨hg6, hp6⟩; rw [hx] at hp6; obtain ⟨rfl, hr6⟩ := hp6; have hT6 := hTd.rd hg6 hr6; have hoi6 := hT6.oc i hi4; have hof6 := hT6.of i hi4); (try go_wp2_with fail); refine hK.out _ _ (fun _ => (by ((try dsimp only); (repeat' apply And.intro); all_goals (first | (with_reducible assumption) | (go_keep; done) | (simp [*, go_sem]; done))))) ?_; clear hK K; (try simp only [Act.put, List.setIfInBounds_toArray, List.set_cons_zero, List.set_cons_succ]))
              (refine AnyC.one (i := 5) rfl (by kernel_rfl) (fun K hK => ?_); go_simp; skip; (try go_wp2_with fail); refine hK.out _ _ (fun _ => (by ((try dsimp only); (repeat' apply And.intro); all_goals (first | (with_reducible assumption) | (go_keep; done) | (simp [*, go_sem]; done))))) ?_; clear hK K; (try simp only [Act.put, List.setIfInBounds_toArray, List.set_cons_zero, List.set_cons_succ]))
              (refine AnyC.one (i := 6) rfl (by kernel_rfl) (fun K hK => ?_); go_simp; (try rw [if_pos hi4i]); (try go_wp2_with fail); refine hK.out _ _ (fun _ => (by ((try dsimp only); (repeat' apply And.intro); all_goals (first | (with_reducible assumption) | (go_keep; done) | (simp [*, go_sem]; done))))) ?_; clear hK K; (try simp only [Act.put, List.setIfInBounds_toArray, List.set_cons_zero, List.set_cons_succ]))
              (refine AnyC.one (i := 7) rfl (by kernel_rfl) (fun K hK => ?_); go_simp; refine hK.out _ _ (fun h => absurd h (by decide)) ?_; clear hK K; (try simp only [Act.put, List.setIfInBounds_toArray, List.set_cons_zero, List.set_cons_succ]))
              refine AnyC.done (by kernel_rfl) ?_ _
              (try rw [hwr])
              obtain ⟨u, hu⟩ : ∃ u : TS, u = ⟨st.c, bump st.o i n, r', m'⟩ := ⟨_, rfl⟩
              have hT7 : TermAt wo (w6.setCell ⟨w1.heap.size + 1, i, none⟩ (.int .i64 (((st.o i : Nat) : Int) + ((n : Nat) : Int)))) R w1.heap.size (w1.heap.size + 1) u := by
                have h7 := hT6.setO i hi4 n
                rw [Int.natCast_add] at h7
                exact hu ▸ h7
              rw [← hu] at hF
              clear hoi hoi6 hof6 hT6 hTd hHT hVq hVd hu hx hn hrlen hob hwr
              generalize w6.setCell ⟨w1.heap.size + 1, i, none⟩ (.int .i64 (((st.o i : Nat) : Int) + ((n : Nat) : Int))) = w7 at *
              have hul : u.L.length < 1000000000 := by have h1 := rdFactor_len hF.out; have h2 := HLN.out; omega
              have HT7 := Lib.hid hT7
              have hsk := skp_le u.L
              have hfl := rdFactor_len hF.out
              cases h42 : headIs (skp u.L) 42
              · have hXn : Hid (rdLoop s0 = contX false ⟨u.c, u.o, skp u.L, u.many⟩) := Lib.hid (by rw [hX1.out, rdLoop_eq, HS.out, hF.out]; simp only [if_true]; rw [h42]; rfl)
                have hQn := Lib.hid (step_Q hQ.out hF.out (skp u.L) hsk)
                have hRn := Lib.hid h42
                clear hT7
                go_wp2_with (first | (go_at_call 127; refine (skip_c _ R u.L u.many HT7.out.rdr hul).mono ?_; rintro e w8 ⟨rfl, hr8, hg8⟩; have hT8 := HT7.out.rd hg8 hr8) | (go_at_call 129; refine (rdTakes_c _ R (skp u.L) u.many 42 hT8.rdr (by omega) (by omega) (by omega)).mono ?_; rintro e w9 ⟨rfl, hr9, hg9⟩; rw [hRn.out] at hr9; simp only [hRn.out]; have hT9 := hT8.rd hg9 hr9))
                go_roundw
                case rel => exact ⟨false, ⟨u.c, u.o, skp u.L, u.many⟩, rfl, hXn, Lib.hid hT9, hQn⟩
                case measure => rw [rdrLen_at hT9.rdr, hm0.out]; show (skp u.L).length < _; omega
              · have hs2 := skp_le (skp u.L).tail
                have hs3 : (skp u.L).tail.length ≤ (skp u.L).length := by simp
                have hXn : Hid (rdLoop s0 = contX true ⟨u.c, u.o, skp (skp u.L).tail, u.many⟩) := Lib.hid (by rw [hX1.out, rdLoop_eq, HS.out, hF.out]; simp only [if_true]; rw [h42]; rfl)
                have hQn := Lib.hid (step_Q hQ.out hF.out (skp (skp u.L).tail) (by omega))
                have hRn := Lib.hid h42
                clear hT7
                go_wp2_with (first | (go_at_call 129; refine (rdTakes_c _ R (skp u.L) u.many 42 hT8.rdr (by omega) (by omega) (by omega)).mono ?_; rintro e w9 ⟨rfl, hr9, hg9⟩; rw [hRn.out] at hr9; simp only [if_true] at hr9; simp only [hRn.out]; have hT9 := hT8.rd hg9 hr9) | (go_at_call 127; refine (skip_c _ R (skp u.L).tail u.many hT9.rdr (by omega)).mono ?_; rintro e wa ⟨rfl, hra, hga⟩; have hTa := hT9.rd hga hra) | (go_at_call 127; refine (skip_c _ R u.L u.many HT7.out.rdr hul).mono ?_; rintro e w8 ⟨rfl, hr8, hg8⟩; have hT8 := HT7.out.rd hg8 hr8))
                go_roundw
                case rel => exact ⟨true, ⟨u.c, u.o, skp (skp u.L).tail, u.many⟩, rfl, hXn, Lib.hid hTa, hQn⟩
                case measure => rw [rdrLen_at hTa.rdr, hm0.out]; show (skp (skp u.L).tail).length < _; omega
        | none =>
          rw [hlet] at hix
          simp only [hix] at hI
          cases again
          · go_wp2_with (first | (go_at_call 192; refine (hbeg _ hT.out.rdr).mono ?_; rintro e w3 ⟨rfl, hb3⟩; have hT3 := hT.out.keep hb3; have r0 := hT3.rdr.c0; rw [hLst] at r0; have f0 := hT3.rdr.f0) | (go_at_call 192; refine (hbeg _ hT3.rdr).mono ?_; rintro e w4 ⟨rfl, hb4⟩; have hT4 := hT3.keep hb4; replace r0 := cell_keep hb4 r0; replace f0 := hT4.rdr.f0) | (go_at_call 130; refine (must_yes _).mono ?_; rintro e wm ⟨rfl, rfl⟩) | (go_at_call 193; refine (hI _).mono ?_; rintro e wi ⟨rfl, rfl⟩))
            have hTd : TermAt wo wi.drew R w1.heap.size (w1.heap.size + 1) st := hT4.keep ((Below.refl _ _).drew)
            obtain ⟨g5, a5, n5, c5, g6, a6, n6, c6, e0, e1, e2, e3, hf5, q1, q2, q3, q4, q5, q6⟩ := hT4.fr
            have hf5d : FracAt wi.drew g5 a5 n5 c5 st.c.1 g6 a6 n6 c6 st.c.2 := hf5.keep ((Below.refl _ _).drew)
            have hm0 := Lib.hid (rdrLen_at hT.out.rdr)
            have hneC : some w1.heap.size ≠ some R := by simp; omega
            have hrd : RdrAt wi.drew R (b :: r) st.many := hLst ▸ hTd.rdr
            have hbl : (b :: r).length < 1000000000 := by rw [← hLst]; exact HLN.out
            have e51 := hf5.top.rd.len
            have e52 := hf5.low.rd.len
            obtain ⟨i1, i2⟩ := hQ.out.2.1
            have s1 : n5 ≤ 1000000000 := by omega
            have s2 : n6 ≤ 1000000000 := by omega
            have hLL := hQ.out.2.2.1
            clear r0 f0 hT3 hbeg hT e51 e52 i1 i2 hT4
            cases hx : rdFrac (b :: r) st.many with
            | none =>
              have hXN : Hid (rdLoop s0 = none) := Lib.hid (by rw [hX1.out, rdLoop_eq, HS.out]; simp only [if_true]; rw [show rdFactor st = none by unfold rdFactor; rw [hLst]; simp only; rw [hlet]; simp only; rw [hx]])
              refine wp_region_C (fun W => W.cell? ⟨w1.heap.size, 0, none⟩ = some (.bool g5) ∧ W.cell? ⟨w1.heap.size, 1, none⟩ = some (.slice a5 n5 c5) ∧ W.cell? ⟨w1.heap.size, 2, none⟩ = some (.bool g6) ∧ W.cell? ⟨w1.heap.size, 3, none⟩ = some (.slice a6 n6 c6)) 4 (by kernel_rfl) (by ((try dsimp only); (repeat' apply And.intro); all_goals (first | (with_reducible assumption) | (go_keep; done) | (simp [*, go_sem]; done)))) (fun hHeld => ?_)
              (refine AnyC.take 3 (i := 0) (v := ?_) rfl (by kernel_rfl) (fun _ _ _ h => h) (Or.inl ⟨by rfl, ?_⟩) (by assumption) ?_; rotate_left; (focus (intro w' hSw; (try dsimp only at hSw); go_simp; (try with_reducible rfl))); (try simp only [Act.put, List.setIfInBounds_toArray, List.set_cons_zero, List.set_cons_succ]))
              (refine AnyC.take 4 (i := 1) (v := ?_) rfl (by kernel_rfl) (fun _ _ _ h => h) (Or.inl ⟨by rfl, ?_⟩) (by assumption) ?_; rotate_left; (focus (intro w' hSw; (try dsimp only at hSw); go_simp; (try with_reducible rfl))); (try simp only [Act.put, List.setIfInBounds_toArray, List.set_cons_zero, List.set_cons_succ]))
              refine AnyC.one (i := 2) rfl (by kernel_rfl) (fun K hK => ?_)
              go_simp
              go_at_call 195
              refine (fraction_c _ R (b :: r) st.many hrd hbl).mono ?_
              rintro e w6 ⟨hg6, hp6⟩
              rw [hx] at hp6
              subst hp6
              refine ⟨rfl, ?_⟩
              rw [hTR.out, hXN.out]
              exact .no (hTd.grown.trans hg6)
            | some x =>
              obtain ⟨cn, r', m'⟩ := x
              have hF : Hid (rdFactor st = some ⟨mulC st.c cn, st.o, r', m'⟩) := Lib.hid (by unfold rdFactor; rw [hLst]; simp only; rw [hlet]; simp only; rw [hx])
              have hfw := (rdFrac_good hx).2
              have hbL : (b :: r).length ≤ 1000000 := by rw [← hLst]; omega
              have hf9 : FewC 1000000000 cn := hfw.mono (by omega)
              clear hfw
              refine wp_region_C (fun W => W.cell? ⟨w1.heap.size, 0, none⟩ = some (.bool g5) ∧ W.cell? ⟨w1.heap.size, 1, none⟩ = some (.slice a5 n5 c5) ∧ W.cell? ⟨w1.heap.size, 2, none⟩ = some (.bool g6) ∧ W.cell? ⟨w1.heap.size, 3, none⟩ = some (.slice a6 n6 c6)) 4 (by kernel_rfl) (by ((try dsimp only); (repeat' apply And.intro); all_goals (first | (with_reducible assumption) | (go_keep; done) | (simp [*, go_sem]; done)))) (fun hHeld => ?_)
              (refine AnyC.take 3 (i := 0) (v := ?_) rfl (by kernel_rfl) (fun _ _ _ h => h) (Or.inl ⟨by rfl, ?_⟩) (by assumption) ?_; rotate_left; (focus (intro w' hSw; (try dsimp only at hSw); go_simp; (try with_reducible rfl))); (try simp only [Act.put, List.setIfInBounds_toArray, List.set_cons_zero, List.set_cons_succ]))
              (refine AnyC.take 4 (i := 1) (v := ?_) rfl (by kernel_rfl) (fun _ _ _ h => h) (Or.inl ⟨by rfl, ?_⟩) (by assumption) ?_; rotate_left; (focus (intro w' hSw; (try dsimp only at hSw); go_simp; (try with_reducible rfl))); (try simp only [Act.put, List.setIfInBounds_toArray, List.set_cons_zero, List.set_cons_succ]))
              (refine AnyC.one (i := 2) rfl (by kernel_rfl) (fun K hK => ?_); go_simp; (go_at_call 195; refine (fraction_c _ R (b :: r) st.many hrd hbl).mono ?_; rintro e w6 ⟨hg6, hp6⟩; rw [hx] at hp6; obtain ⟨v, rfl, hv, hr6⟩ := hp6; have hT6 := hTd.rd hg6 hr6; have hf56 := hf5d.butR q1 q2 hg6 (fun k hk => by cases hk; exact hRlt); replace e0 := World.grownBy.cell hg6 (show wi.drew.cell? _ = _ from e0) hneC; replace e1 := World.grownBy.cell hg6 (show wi.drew.cell? _ = _ from e1) hneC; replace e2 := World.grownBy.cell hg6 (show wi.drew.cell? _ = _ from e2) hneC; replace e3 := World.grownBy.cell hg6 (show wi.drew.cell? _ = _ from e3) hneC); (try go_wp2_with fail); refine hK.out _ _ (fun _ => (by ((try dsimp only); (repeat' apply And.intro); all_goals (first | (with_reducible assumption) | (go_keep; done) | (simp [*, go_sem]; done))))) ?_; clear hK K; (try simp only [Act.put, List.setIfInBounds_toArray, List.set_cons_zero, List.set_cons_succ]))
              (refine AnyC.one (i := 3) rfl (by kernel_rfl) (fun K hK => ?_); go_simp; (go_at_call 106; refine (mulV_c _ g5 a5 n5 c5 g6 a6 n6 c6 st.c hf56 _ v cn hv s1 s2 hf9).mono ?_; rintro e w7 ⟨gm1, am1, nm1, cm1, gm2, am2, nm2, cm2, rfl, hmul, hm1, hm2, hb7⟩; have hT7 := hT6.keep hb7; replace e0 := cell_keep hb7 e0; replace e1 := cell_keep hb7 e1; replace e2 := cell_keep hb7 e2; replace e3 := cell_keep hb7 e3; have z0 := hT7.cf 0 (by omega); have z1 := hT7.cf 1 (by omega); have z2 := hT7.cf 2 (by omega); have z3 := hT7.cf 3 (by omega)); (try go_wp2_with fail); refine hK.out _ _ (fun _ => (by ((try dsimp only); (repeat' apply And.intro); all_goals (first | (with_reducible assumption) | (go_keep; done) | (simp [*, go_sem]; done))))) ?_; clear hK K; (try simp only [Act.put, List.setIfInBounds_toArray, List.set_cons_zero, List.set_cons_succ]))
              (refine AnyC.one (i := 4) rfl (by kernel_rfl) (fun K hK => ?_); go_simp; refine hK.out _ _ (fun h => absurd h (by decide)) ?_; clear hK K; (try simp only [Act.put, List.setIfInBounds_toArray, List.set_cons_zero, List.set_cons_succ]))
              refine AnyC.done (by kernel_rfl) ?_ _
              have h46 := hT6.h4
              have km1 : Nw (w1.heap.size + 1 + 1) nm1 am1 := Nw.mono (hm1.newA hmul.top.rd) (by omega)
              have km2 : Nw (w1.heap.size + 1 + 1) nm2 am2 := Nw.mono (hm2.newA hmul.low.rd) (by omega)
              obtain ⟨u, hu⟩ : ∃ u : TS, u = ⟨mulC st.c cn, st.o, r', m'⟩ := ⟨_, rfl⟩
              have hT8 := hT7.setC (c := mulC st.c cn) hmul km1 km2
              have hT7' : TermAt wo ((((w7.setCell ⟨w1.heap.size, 0, none⟩ (.bool gm1)).setCell ⟨w1.heap.size, 1, none⟩ (.slice am1 nm1 cm1)).setCell ⟨w1.heap.size, 2, none⟩ (.bool gm2)).setCell ⟨w1.heap.size, 3, none⟩ (.slice am2 nm2 cm2)) R w1.heap.size (w1.heap.size + 1) u := hu ▸ hT8
              rw [← hu] at hF
              clear hT6 hT7 hT8 hTd hf5 hf5d hf56 hmul hm1 hm2 km1 km2 e0 e1 e2 e3 z0 z1 z2 z3 hv hrd hu hx hf9 hb7 hg6 hr6
              generalize (((w7.setCell ⟨w1.heap.size, 0, none⟩ (.bool gm1)).setCell ⟨w1.heap.size, 1, none⟩ (.slice am1 nm1 cm1)).setCell ⟨w1.heap.size, 2, none⟩ (.bool gm2)).setCell ⟨w1.heap.size, 3, none⟩ (.slice am2 nm2 cm2) = wz at *
              have hT7 := hT7'
              clear hT7'
              have hul : u.L.length < 1000000000 := by have h1 := rdFactor_len hF.out; have h2 := HLN.out; omega
              have HT7 := Lib.hid hT7
              have hsk := skp_le u.L
              have hfl := rdFactor_len hF.out
              cases h42 : headIs (skp u.L) 42
              · have hXn : Hid (rdLoop s0 = contX false ⟨u.c, u.o, skp u.L, u.many⟩) := Lib.hid (by rw [hX1.out, rdLoop_eq, HS.out, hF.out]; simp only [if_true]; rw [h42]; rfl)
                have hQn := Lib.hid (step_Q hQ.out hF.out (skp u.L) hsk)
                have hRn := Lib.hid h42
                clear hT7
                go_wp2_with (first | (go_at_call 127; refine (skip_c _ R u.L u.many HT7.out.rdr hul).mono ?_; rintro e w8 ⟨rfl, hr8, hg8⟩; have hT8 := HT7.out.rd hg8 hr8) | (go_at_call 129; refine (rdTakes_c _ R (skp u.L) u.many 42 hT8.rdr (by omega) (by omega) (by omega)).mono ?_; rintro e w9 ⟨rfl, hr9, hg9⟩; rw [hRn.out] at hr9; simp only [hRn.out]; have hT9 := hT8.rd hg9 hr9))
                go_roundw
                case rel => exact ⟨false, ⟨u.c, u.o, skp u.L, u.many⟩, rfl, hXn, Lib.hid hT9, hQn⟩
                case measure => rw [rdrLen_at hT9.rdr, hm0.out]; show (skp u.L).length < _; omega
              · have hs2 := skp_le (skp u.L).tail
                have hs3 : (skp u.L).tail.length ≤ (skp u.L).length := by simp
                have hXn : Hid (rdLoop s0 = contX true ⟨u.c, u.o, skp (skp u.L).tail, u.many⟩) := Lib.hid (by rw [hX1.out, rdLoop_eq, HS.out, hF.out]; simp only [if_true]; rw [h42]; rfl)
                have hQn := Lib.hid (step_Q hQ.out hF.out (skp (skp u.L).tail) (by omega))
                have hRn := Lib.hid h42
                clear hT7
                go_wp2_with (first | (go_at_call 129; refine (rdTakes_c _ R (skp u.L) u.many 42 hT8.rdr (by omega) (by omega) (by omega)).mono ?_; rintro e w9 ⟨rfl, hr9, hg9⟩; rw [hRn.out] at hr9; simp only [if_true] at hr9; simp only [hRn.out]; have hT9 := hT8.rd hg9 hr9) | (go_at_call 127; refine (skip_c _ R (skp u.L).tail u.many hT9.rdr (by omega)).mono ?_; rintro e wa ⟨rfl, hra, hga⟩; have hTa := hT9.rd hga hra) | (go_at_call 127; refine (skip_c _ R u.L u.many HT7.out.rdr hul).mono ?_; rintro e w8 ⟨rfl, hr8, hg8⟩; have hT8 := HT7.out.rd hg8 hr8))
                go_roundw
                case rel => exact ⟨true, ⟨u.c, u.o, skp (skp u.L).tail, u.many⟩, rfl, hXn, Lib.hid hTa, hQn⟩
                case measure => rw [rdrLen_at hTa.rdr, hm0.out]; show (skp (skp u.L).tail).length < _; omega
          · go_wp2_with (first | (go_at_call 192; refine (hbeg _ hT.out.rdr).mono ?_; rintro e w3 ⟨rfl, hb3⟩; have hT3 := hT.out.keep hb3; have r0 := hT3.rdr.c0; rw [hLst] at r0; have f0 := hT3.rdr.f0) | (go_at_call 130; refine (must_yes _).mono ?_; rintro e wm ⟨rfl, rfl⟩) | (go_at_call 193; refine (hI _).mono ?_; rintro e wi ⟨rfl, rfl⟩))
            have hTd : TermAt wo wi.drew R w1.heap.size (w1.heap.size + 1) st := hT3.keep ((Below.refl _ _).drew)
            obtain ⟨g5, a5, n5, c5, g6, a6, n6, c6, e0, e1, e2, e3, hf5, q1, q2, q3, q4, q5, q6⟩ := hT3.fr
            have hf5d : FracAt wi.drew g5 a5 n5 c5 st.c.1 g6 a6 n6 c6 st.c.2 := hf5.keep ((Below.refl _ _).drew)
            have hm0 := Lib.hid (rdrLen_at hT.out.rdr)
            have hneC : some w1.heap.size ≠ some R := by simp; omega
            have hrd : RdrAt wi.drew R (b :: r) st.many := hLst ▸ hTd.rdr
            have hbl : (b :: r).length < 1000000000 := by rw [← hLst]; exact HLN.out
            have e51 := hf5.top.rd.len
            have e52 := hf5.low.rd.len
            obtain ⟨i1, i2⟩ := hQ.out.2.1
            have s1 : n5 ≤ 1000000000 := by omega
            have s2 : n6 ≤ 1000000000 := by omega
            have hLL := hQ.out.2.2.1
            clear r0 f0 hT3 hbeg hT e51 e52 i1 i2 
            cases hx : rdFrac (b :: r) st.many with
            | none =>
              have hXN : Hid (rdLoop s0 = none) := Lib.hid (by rw [hX1.out, rdLoop_eq, HS.out]; simp only [if_true]; rw [show rdFactor st = none by unfold rdFactor; rw [hLst]; simp only; rw [hlet]; simp only; rw [hx]])
              refine wp_region_C (fun W => W.cell? ⟨w1.heap.size, 0, none⟩ = some (.bool g5) ∧ W.cell? ⟨w1.heap.size, 1, none⟩ = some (.slice a5 n5 c5) ∧ W.cell? ⟨w1.heap.size, 2, none⟩ = some (.bool g6) ∧ W.cell? ⟨w1.heap.size, 3, none⟩ = some (.slice a6 n6 c6)) 4 (by kernel_rfl) (by ((try dsimp only); (repeat' apply And.intro); all_goals (first | (with_reducible assumption) | (go_keep; done) | (simp [*, go_sem]; done)))) (fun hHeld => ?_)
              (refine AnyC.take 3 (i := 0) (v := ?_) rfl (by kernel_rfl) (fun _ _ _ h => h) (Or.inl ⟨by rfl, ?_⟩) (by assumption) ?_; rotate_left; (focus (intro w' hSw; (try dsimp only at hSw); go_simp; (try with_reducible rfl))); (try simp only [Act.put, List.setIfInBounds_toArray, List.set_cons_zero, List.set_cons_succ]))
              (refine AnyC.take 4 (i := 1) (v := ?_) rfl (by kernel_rfl) (fun _ _ _ h => h) (Or.inl ⟨by rfl, ?_⟩) (by assumption) ?_; rotate_left; (focus (intro w' hSw; (try dsimp only at hSw); go_simp; (try with_reducible rfl))); (try simp only [Act.put, List.setIfInBounds_toArray, List.set_cons_zero, List.set_cons_succ]))
              refine AnyC.one (i := 2) rfl (by kernel_rfl) (fun K hK => ?_)
              go_simp
              go_at_call 195
              refine (fraction_c _ R (b :: r) st.many hrd hbl).mono ?_
              rintro e w6 ⟨hg6, hp6⟩
              rw [hx] at hp6
              subst hp6
              refine ⟨rfl, ?_⟩
              rw [hTR.out, hXN.out]
              exact .no (hTd.grown.trans hg6)
            | some x =>
              obtain ⟨cn, r', m'⟩ := x
              have hF : Hid (rdFactor st = some ⟨mulC st.c cn, st.o, r', m'⟩) := Lib.hid (by unfold rdFactor; rw [hLst]; simp only; rw [hlet]; simp only; rw [hx])
              have hfw := (rdFrac_good hx).2
              have hbL : (b :: r).length ≤ 1000000 := by rw [← hLst]; omega
              have hf9 : FewC 1000000000 cn := hfw.mono (by omega)
              clear hfw
              refine wp_region_C (fun W => W.cell? ⟨w1.heap.size, 0, none⟩ = some (.bool g5) ∧ W.cell? ⟨w1.heap.size, 1, none⟩ = some (.slice a5 n5 c5) ∧ W.cell? ⟨w1.heap.size, 2, none⟩ = some (.bool g6) ∧ W.cell? ⟨w1.heap.size, 3, none⟩ = some (.slice a6 n6 c6)) 4 (by kernel_rfl) (by ((try dsimp only); (repeat' apply And.intro); all_goals (first | (with_reducible assumption) | (go_keep; done) | (simp [*, go_sem]; done)))) (fun hHeld => ?_)
              (refine AnyC.take 3 (i := 0) (v := ?_) rfl (by kernel_rfl) (fun _ _ _ h => h) (Or.inl ⟨by rfl, ?_⟩) (by assumption) ?_; rotate_left; (focus (intro w' hSw; (try dsimp only at hSw); go_simp; (try with_reducible rfl))); (try simp only [Act.put, List.setIfInBounds_toArray, List.set_cons_zero, List.set_cons_succ]))
              (refine AnyC.take 4 (i := 1) (v := ?_) rfl (by kernel_rfl) (fun _ _ _ h => h) (Or.inl ⟨by rfl, ?_⟩) (by assumption) ?_; rotate_left; (focus (intro w' hSw; (try dsimp only at hSw); go_simp; (try with_reducible rfl))); (try simp only [Act.put, List.setIfInBounds_toArray, List.set_cons_zero, List.set_cons_succ]))
              (refine AnyC.one (i := 2) rfl (by kernel_rfl) (fun K hK => ?_); go_simp; (go_at_call 195; refine (fraction_c _ R (b :: r) st.many hrd hbl).mono ?_; rintro e w6 ⟨hg6, hp6⟩; rw [hx] at hp6; obtain ⟨v, rfl, hv, hr6⟩ := hp6; have hT6 := hTd.rd hg6 hr6; have hf56 := hf5d.butR q1 q2 hg6 (fun k hk => by cases hk; exact hRlt); replace e0 := World.grownBy.cell hg6 (show wi.drew.cell? _ = _ from e0) hneC; replace e1 := World.grownBy.cell hg6 (show wi.drew.cell? _ = _ from e1) hneC; replace e2 := World.grownBy.cell hg6 (show wi.drew.cell? _ = _ from e2) hneC; replace e3 := World.grownBy.cell hg6 (show wi.drew.cell? _ = _ from e3) hneC); (try go_wp2_with fail); refine hK.out _ _ (fun _ => (by ((try dsimp only); (repeat' apply And.intro); all_goals (first | (with_reducible assumption) | (go_keep; done) | (simp [*, go_sem]; done))))) ?_; clear hK K; (try simp only [Act.put, List.setIfInBounds_toArray, List.set_cons_zero, List.set_cons_succ]))
              (refine AnyC.one (i := 3) rfl (by kernel_rfl) (fun K hK => ?_); go_simp; (go_at_call 106; refine (mulV_c _ g5 a5 n5 c5 g6 a6 n6 c6 st.c hf56 _ v cn hv s1 s2 hf9).mono ?_; rintro e w7 ⟨gm1, am1, nm1, cm1, gm2, am2, nm2, cm2, rfl, hmul, hm1, hm2, hb7⟩; have hT7 := hT6.keep hb7; replace e0 := cell_keep hb7 e0; replace e1 := cell_keep hb7 e1; replace e2 := cell_keep hb7 e2; replace e3 := cell_keep hb7 e3; have z0 := hT7.cf 0 (by omega); have z1 := hT7.cf 1 (by omega); have z2 := hT7.cf 2 (by omega); have z3 := hT7.cf 3 (by omega)); (try go_wp2_with fail); refine hK.out _ _ (fun _ => (by ((try dsimp only); (repeat' apply And.intro); all_goals (first | (with_reducible assumption) | (go_keep; done) | (simp [*, go_sem]; done))))) ?_; clear hK K; (try simp only [Act.put, List.setIfInBounds_toArray, List.set_cons_zero, List.set_cons_succ]))
              (refine AnyC.one (i := 4) rfl (by kernel_rfl) (fun K hK => ?_); go_simp; refine hK.out _ _ (fun h => absurd h (by decide)) ?_; clear hK K; (try simp only [Act.put, List.setIfInBounds_toArray, List.set_cons_zero, List.set_cons_succ]))
              refine AnyC.done (by kernel_rfl) ?_ _
              have h46 := hT6.h4
              have km1 : Nw (w1.heap.size + 1 + 1) nm1 am1 := Nw.mono (hm1.newA hmul.top.rd) (by omega)
              have km2 : Nw (w1.heap.size + 1 + 1) nm2 am2 := Nw.mono (hm2.newA hmul.low.rd) (by omega)
              obtain ⟨u, hu⟩ : ∃ u : TS, u = ⟨mulC st.c cn, st.o, r', m'⟩ := ⟨_, rfl⟩
              have hT8 := hT7.setC (c := mulC st.c cn) hmul km1 km2
              have hT7' : TermAt wo ((((w7.setCell ⟨w1.heap.size, 0, none⟩ (.bool gm1)).setCell ⟨w1.heap.size, 1, none⟩ (.slice am1 nm1 cm1)).setCell ⟨w1.heap.size, 2, none⟩ (.bool gm2)).setCell ⟨w1.heap.size, 3, none⟩ (.slice am2 nm2 cm2)) R w1.heap.size (w1.heap.size + 1) u := hu ▸ hT8
              rw [← hu] at hF
              clear hT6 hT7 hT8 hTd hf5 hf5d hf56 hmul hm1 hm2 km1 km2 e0 e1 e2 e3 z0 z1 z2 z3 hv hrd hu hx hf9 hb7 hg6 hr6
              generalize (((w7.setCell ⟨w1.heap.size, 0, none⟩ (.bool gm1)).setCell ⟨w1.heap.size, 1, none⟩ (.slice am1 nm1 cm1)).setCell ⟨w1.heap.size, 2, none⟩ (.bool gm2)).setCell ⟨w1.heap.size, 3, none⟩ (.slice am2 nm2 cm2) = wz at *
              have hT7 := hT7'
              clear hT7'
              have hul : u.L.length < 1000000000 := by have h1 := rdFactor_len hF.out; have h2 := HLN.out; omega
              have HT7 := Lib.hid hT7
              have hsk := skp_le u.L
              have hfl := rdFactor_len hF.out
              cases h42 : headIs (skp u.L) 42
              · have hXn : Hid (rdLoop s0 = contX false ⟨u.c, u.o, skp u.L, u.many⟩) := Lib.hid (by rw [hX1.out, rdLoop_eq, HS.out, hF.out]; simp only [if_true]; rw [h42]; rfl)
                have hQn := Lib.hid (step_Q hQ.out hF.out (skp u.L) hsk)
                have hRn := Lib.hid h42
                clear hT7
                go_wp2_with (first | (go_at_call 127; refine (skip_c _ R u.L u.many HT7.out.rdr hul).mono ?_; rintro e w8 ⟨rfl, hr8, hg8⟩; have hT8 := HT7.out.rd hg8 hr8) | (go_at_call 129; refine (rdTakes_c _ R (skp u.L) u.many 42 hT8.rdr (by omega) (by omega) (by omega)).mono ?_; rintro e w9 ⟨rfl, hr9, hg9⟩; rw [hRn.out] at hr9; simp only [hRn.out]; have hT9 := hT8.rd hg9 hr9))
                go_roundw
                case rel => exact ⟨false, ⟨u.c, u.o, skp u.L, u.many⟩, rfl, hXn, Lib.hid hT9, hQn⟩
                case measure => rw [rdrLen_at hT9.rdr, hm0.out]; show (skp u.L).length < _; omega
              · have hs2 := skp_le (skp u.L).tail
                have hs3 : (skp u.L).tail.length ≤ (skp u.L).length := by simp
                have hXn : Hid (rdLoop s0 = contX true ⟨u.c, u.o, skp (skp u.L).tail, u.many⟩) := Lib.hid (by rw [hX1.out, rdLoop_eq, HS.out, hF.out]; simp only [if_true]; rw [h42]; rfl)
                have hQn := Lib.hid (step_Q hQ.out hF.out (skp (skp u.L).tail) (by omega))
                have hRn := Lib.hid h42
                clear hT7
                go_wp2_with (first | (go_at_call 129; refine (rdTakes_c _ R (skp u.L) u.many 42 hT8.rdr (by omega) (by omega) (by omega)).mono ?_; rintro e w9 ⟨rfl, hr9, hg9⟩; rw [hRn.out] at hr9; simp only [if_true] at hr9; simp only [hRn.out]; have hT9 := hT8.rd hg9 hr9) | (go_at_call 127; refine (skip_c _ R (skp u.L).tail u.many hT9.rdr (by omega)).mono ?_; rintro e wa ⟨rfl, hra, hga⟩; have hTa := hT9.rd hga hra) | (go_at_call 127; refine (skip_c _ R u.L u.many HT7.out.rdr hul).mono ?_; rintro e w8 ⟨rfl, hr8, hg8⟩; have hT8 := HT7.out.rd hg8 hr8))
                go_roundw
                case rel => exact ⟨true, ⟨u.c, u.o, skp (skp u.L).tail, u.many⟩, rfl, hXn, Lib.hid hTa, hQn⟩
                case measure => rw [rdrLen_at hTa.rdr, hm0.out]; show (skp (skp u.L).tail).length < _; omega
  · go_enter Tryz.func128, Tryz.ntmps128
    go_wp2_with fail
    refine (fOf_c _ 1 (by omega) (by omega)).mono ?_
    rintro e w1 ⟨g1, a1, n1, c1, g2, a2, n2, c2, rfl, hf1, hfr1, hfr2, hb1⟩
    have hz1 := hb1.size
    have hr1 := h.keep hb1
    have hb0 : Below w1.heap.size w1 (w1.alloc (.cells #[.bool g1, .slice a1 n1 c1, .bool g2, .slice a2 n2 c2] 64)) := by go_grown
    go_wp2_with (first | (go_at_call 30; refine (fOf_c _ (-1) (by omega) (by omega)).mono ?_; rintro e wy ⟨gy1, ay1, ny1, cy1, gy2, ay2, ny2, cy2, rfl, hfy, hfry1, hfry2, hby⟩; have c0 : wy.cell? ⟨w1.heap.size, 0, none⟩ = some (.bool g1) := cell_keep hby (by simp [go_sem]); have c1' : wy.cell? ⟨w1.heap.size, 1, none⟩ = some (.slice a1 n1 c1) := cell_keep hby (by simp [go_sem]); have c2' : wy.cell? ⟨w1.heap.size, 2, none⟩ = some (.bool g2) := cell_keep hby (by simp [go_sem]); have c3 : wy.cell? ⟨w1.heap.size, 3, none⟩ = some (.slice a2 n2 c2) := cell_keep hby (by simp [go_sem]); have hzy := hby.size; simp only [go_sem] at hzy; have z0 : wy.frozen? ⟨w1.heap.size, 0, none⟩ = false := by rw [frozen_keep' hby (by simp [go_sem])]; simp [go_sem]; have z1 : wy.frozen? ⟨w1.heap.size, 1, none⟩ = false := by rw [frozen_keep' hby (by simp [go_sem])]; simp [go_sem]; have z2 : wy.frozen? ⟨w1.heap.size, 2, none⟩ = false := by rw [frozen_keep' hby (by simp [go_sem])]; simp [go_sem]; have z3 : wy.frozen? ⟨w1.heap.size, 3, none⟩ = false := by rw [frozen_keep' hby (by simp [go_sem])]; simp [go_sem]))
    go_wp2_with fail
    refine (fOf_c _ (-1) (by omega) (by omega)).mono ?_
    rintro e wy ⟨gy1, ay1, ny1, cy1, gy2, ay2, ny2, cy2, rfl, hfy, hfry1, hfry2, hby⟩
    have hr2 : RdrAt wy R L many := (hr1.keep hb0).keep hby
    have hgy : wo.grownBy wy (some R) := ((grown_below hb1 _).trans (grown_below hb0 _)).trans (grown_below hby _)
    have c0 : wy.cell? ⟨w1.heap.size, 0, none⟩ = some (.bool g1) := cell_keep hby (by simp [go_sem])
    have c1' : wy.cell? ⟨w1.heap.size, 1, none⟩ = some (.slice a1 n1 c1) := cell_keep hby (by simp [go_sem])
    have c2' : wy.cell? ⟨w1.heap.size, 2, none⟩ = some (.bool g2) := cell_keep hby (by simp [go_sem])
    have c3 : wy.cell? ⟨w1.heap.size, 3, none⟩ = some (.slice a2 n2 c2) := cell_keep hby (by simp [go_sem])
    have hzy : w1.heap.size + 1 ≤ wy.heap.size := by have := hby.size; simpa using this
    have z0 : wy.frozen? ⟨w1.heap.size, 0, none⟩ = false := by rw [frozen_keep' hby (by simp [go_sem])]; simp [go_sem]
    have z1 : wy.frozen? ⟨w1.heap.size, 1, none⟩ = false := by rw [frozen_keep' hby (by simp [go_sem])]; simp [go_sem]
    have z2 : wy.frozen? ⟨w1.heap.size, 2, none⟩ = false := by rw [frozen_keep' hby (by simp [go_sem])]; simp [go_sem]
    have z3 : wy.frozen? ⟨w1.heap.size, 3, none⟩ = false := by rw [frozen_keep' hby (by simp [go_sem])]; simp [go_sem]
    have ky1 : Nw (w1.heap.size + 1) ny1 ay1 := Nw.mono (hfry1.newA hfy.top.rd) (by simp [go_sem])
    have ky2 : Nw (w1.heap.size + 1) ny2 ay2 := Nw.mono (hfry2.newA hfy.low.rd) (by simp [go_sem])
    have hX0 := box_set (wo := wo) (c := (-1, 1)) c0 c1' c2' c3 hfy ky1 ky2 hz1
    have hRne : w1.heap.size ≠ R := by omega
    have hB1 : Below ((((wy.setCell ⟨w1.heap.size, 0, none⟩ (.bool gy1)).setCell ⟨w1.heap.size, 1, none⟩ (.slice ay1 ny1 cy1)).setCell ⟨w1.heap.size, 2, none⟩ (.bool gy2)).setCell ⟨w1.heap.size, 3, none⟩ (.slice ay2 ny2 cy2)).heap.size ((((wy.setCell ⟨w1.heap.size, 0, none⟩ (.bool gy1)).setCell ⟨w1.heap.size, 1, none⟩ (.slice ay1 ny1 cy1)).setCell ⟨w1.heap.size, 2, none⟩ (.bool gy2)).setCell ⟨w1.heap.size, 3, none⟩ (.slice ay2 ny2 cy2)) (((((wy.setCell ⟨w1.heap.size, 0, none⟩ (.bool gy1)).setCell ⟨w1.heap.size, 1, none⟩ (.slice ay1 ny1 cy1)).setCell ⟨w1.heap.size, 2, none⟩ (.bool gy2)).setCell ⟨w1.heap.size, 3, none⟩ (.slice ay2 ny2 cy2)).alloc (.cells #[.int .i64 0, .int .i64 0, .int .i64 0, .int .i64 0] 224)) := by go_grown
    have hr3 := (((hr2.setOther (.bool gy1) (p := ⟨w1.heap.size, 0, none⟩) hRne).setOther (.slice ay1 ny1 cy1) (p := ⟨w1.heap.size, 1, none⟩) hRne).setOther (.bool gy2) (p := ⟨w1.heap.size, 2, none⟩) hRne).setOther (.slice ay2 ny2 cy2) (p := ⟨w1.heap.size, 3, none⟩) hRne
    have hT0 : TermAt wo (((((wy.setCell ⟨w1.heap.size, 0, none⟩ (.bool gy1)).setCell ⟨w1.heap.size, 1, none⟩ (.slice ay1 ny1 cy1)).setCell ⟨w1.heap.size, 2, none⟩ (.bool gy2)).setCell ⟨w1.heap.size, 3, none⟩ (.slice ay2 ny2 cy2)).alloc (.cells #[.int .i64 0, .int .i64 0, .int .i64 0, .int .i64 0] 224)) R w1.heap.size wy.heap.size ⟨(-1, 1), fun _ => 0, L, many⟩ := by
      refine ⟨hr3.keep hB1, hX0.keep hB1, fun i hi => ?_, fun i hi => ?_, fun i hi => by simp [go_sem], ?_, hRlt, hz1, by omega, by simp⟩
      · match i, hi with
        | 0, _ => exact (frozen_keep' hB1 (by simp; omega)).trans (by rw [← z0]; simp [go_sem])
        | 1, _ => exact (frozen_keep' hB1 (by simp; omega)).trans (by rw [← z1]; simp [go_sem])
        | 2, _ => exact (frozen_keep' hB1 (by simp; omega)).trans (by rw [← z2]; simp [go_sem])
        | 3, _ => exact (frozen_keep' hB1 (by simp; omega)).trans (by rw [← z3]; simp [go_sem])
      · match i, hi with
        | 0, _ => simp [go_sem]
        | 1, _ => simp [go_sem]
        | 2, _ => simp [go_sem]
        | 3, _ => simp [go_sem]
      · exact (grown_setNew _ (grown_setNew _ (grown_setNew _ (grown_setNew _ hgy hz1) hz1) hz1) hz1).trans (grown_below hB1 _)
    go_wp2_with (first | (go_at_call 127; refine (skip_c _ R L many hT0.rdr (by omega)).mono ?_; rintro e w2 ⟨rfl, hr2, hg2⟩))
    have hT2 := hT0.rd hg2 hr2
    have hX := Lib.hid (show rdLoop ⟨(-1, 1), fun _ => 0, skp L, many⟩ = contX true ⟨(-1, 1), fun _ => 0, skp L, many⟩ from rfl)
    have hcw := one_cw true
    have hfew := one_few true
    have hsl := skp_le L
    obtain ⟨s0, hs0⟩ : ∃ s0 : TS, s0 = ⟨(-1, 1), fun _ => 0, skp L, many⟩ := ⟨_, rfl⟩
    rw [← hs0] at hX hT2
    have hq0 : CW s0.c ∧ FewC (1 + (L.length - s0.L.length)) s0.c ∧ s0.L.length ≤ L.length ∧ ∀ i, s0.o i ≤ 1000 * (L.length - s0.L.length) := by
      rw [hs0]
      exact ⟨hcw, hfew.mono (by omega), hsl, fun i => Nat.zero_le _⟩
    have hTR : Hid (rdTerm L many true = match rdLoop s0 with | none => none | some t => some (oneT (keyO t.o) t.c, t.L, t.many || over t.o)) := Lib.hid (by rw [hs0]; rfl)
    clear hs0 hcw hfew hsl hT0 hB1 hr1 hr2 hg2 hf1 hfr1 hfr2 hb1 hfy hfry1 hfry2 hby hX0 hb0 hr3 hgy c0 c1' c2' c3 z0 z1 z2 z3
    go_loopw [7] (fun v7 wr => ∃ (again : Bool) (st : TS), v7 = .bool again ∧ Hid (rdLoop s0 = contX again st) ∧ Hid (TermAt wo wr R w1.heap.size wy.heap.size st) ∧ Hid (CW st.c ∧ FewC (1 + (L.length - st.L.length)) st.c ∧ st.L.length ≤ L.length ∧ ∀ i, st.o i ≤ 1000 * (L.length - st.L.length))) (fun _ wr => rdrLen wr R)
    case atStart => exact ⟨true, s0, rfl, hX, Lib.hid hT2, Lib.hid hq0⟩
    case round =>
      clear hX hT2 hq0
      obtain ⟨again, st, rfl, hX, hT, hQ⟩ := hrel
      have hlen : st.L.length < 1000000000 := by have := hQ.out.2.2.1; omega
      cases hs : startsL st.L
      · cases again
        · have hbeg := fun (W : World) (hr : RdrAt W R st.L st.many) => begins_c W R st.L st.many hr hlen
          simp only [hs] at hbeg
          have hXX : Hid (rdLoop s0 = some st) := Lib.hid (by rw [hX.out]; unfold contX; rw [hs]; rfl)
          clear hX
          go_wp2_with (first | (go_at_call 192; refine (hbeg _ hT.out.rdr).mono ?_; rintro e w3 ⟨rfl, hb3⟩; have hT3 := hT.out.keep hb3; obtain ⟨g5, a5, n5, c5, g6, a6, n6, c6, e0, e1, e2, e3, hf5, q1, q2, q3, q4, q5, q6⟩ := hT3.fr; have o0 := hT3.oc 0 (by omega); have o1 := hT3.oc 1 (by omega); have o2 := hT3.oc 2 (by omega); have o3 := hT3.oc 3 (by omega); have hCB3 : w1.heap.size < w3.heap.size := World.block_lt_of_cell? _ _ e0; have hOB3 := hT3.h4; have hR3 : R < w3.heap.size := hT3.rdr.lt; have r0 := hT3.rdr.c0; have r1 := hT3.rdr.c1; have f0 := hT3.rdr.f0; have f1 := hT3.rdr.f1))
          clear hT hbeg
          have e51 := hf5.top.rd.len
          have e52 := hf5.low.rd.len
          obtain ⟨u1, u2⟩ := hQ.out.2.1
          have s1 : n5 < 35184372088829 := by omega
          have s2 : n6 < 35184372088829 := by omega
          clear e51 e52 u1 u2
          have hix := fun W i hi => index224i W st.o i hi
          have hW3 : Below w3.heap.size w3 (w3.alloc (.cells #[.bool g5, .slice a5 n5 c5, .bool g6, .slice a6 n6 c6, .int .u16 0, .int .u16 0, .int .u16 0, .int .u16 0] 68)) := by go_grown
          have hTB0 : TBox (w3.alloc (.cells #[.bool g5, .slice a5 n5 c5, .bool g6, .slice a6 n6 c6, .int .u16 0, .int .u16 0, .int .u16 0, .int .u16 0] 68)) w3.heap.size g5 a5 n5 c5 g6 a6 n6 c6 st.o 0 := by
            refine ⟨by simp [go_sem], by simp [go_sem], by simp [go_sem], by simp [go_sem], fun k hk => ?_, fun k => by simp [go_sem]⟩
            match k, hk with
            | 0, _ => simp [go_sem, tv]
            | 1, _ => simp [go_sem, tv]
            | 2, _ => simp [go_sem, tv]
            | 3, _ => simp [go_sem, tv]
          have hRd0 := hT3.rdr.keep hW3
          clear o0 o1 o2 o3 r0 r1 f0 f1
          go_loopw [62] (fun v62 wr => ∃ i : Nat, i ≤ 4 ∧ v62 = .int .i64 i ∧ Hid (RdrAt wr R st.L (st.many || overK st.o i)) ∧ Hid (TBox wr w3.heap.size g5 a5 n5 c5 g6 a6 n6 c6 st.o i) ∧ w3.grownBy wr (some R)) (fun v62 _ => 4 - (intOf v62).toNat)
          case atStart => exact ⟨0, by omega, rfl, Lib.hid (by simpa [overK] using hRd0), Lib.hid hTB0, grown_below hW3 _⟩
          case round =>
            clear hTB0 hRd0 hW3
            obtain ⟨i, hi, rfl, hRd, hTB, hgr⟩ := hrel
            by_cases hlt : i < 4
            · have hxi := fun W => hix W i hlt
              have r1 := hRd.out.c1
              have f1 := hRd.out.f1
              have t1 := hTB.out.m i hlt
              have t2 := hTB.out.f (4 + i)
              have hRne : R ≠ w3.heap.size := by omega
              have hRne2 : ¬ w3.heap.size = R := by omega
              have hmin : min ((st.o i : Nat) : Int) 65535 = ((clamp (st.o i) : Nat) : Int) := by unfold clamp; omega
              have hRd1 := hRd.out
              cases hm : (st.many || overK st.o i)
              · rw [hm] at r1 hRd1
                have hnm : Hid (decide ((65535 : Int) < ((st.o i : Nat) : Int)) = (st.many || overK st.o (i + 1))) := Lib.hid (by
                  simp only [overK]
                  rw [← Bool.or_assoc, hm, Bool.false_or, decide_eq_decide]
                  omega)
                clear hm hRd
                go_wp2_with fail
                go_roundw
                case rel => exact ⟨i + 1, by omega, by go_num, Lib.hid (by rw [← hnm.out]; exact (hRd1.set1 _).setOther _ hRne2), Lib.hid (by exact ((hTB.out.butR (grown_set _ (grown_refl _ _)) hRne2).next hlt)), grown_setNew _ (grown_set _ hgr) (by show w3.heap.size ≤ w3.heap.size; exact Nat.le_refl _)⟩
                case measure => (first | (simp [intOf]; omega) | (simp [intOf]; done))
              · rw [hm] at r1 hRd1
                have hnm : Hid (true = (st.many || overK st.o (i + 1))) := Lib.hid (by
                  simp only [overK]
                  rw [← Bool.or_assoc, hm, Bool.true_or])
                clear hm hRd
                go_wp2_with fail
                go_roundw
                case rel => exact ⟨i + 1, by omega, by go_num, Lib.hid (by rw [← hnm.out]; exact (hRd1.set1 _).setOther _ hRne2), Lib.hid (by exact ((hTB.out.butR (grown_set _ (grown_refl _ _)) hRne2).next hlt)), grown_setNew _ (grown_set _ hgr) (by show w3.heap.size ≤ w3.heap.size; exact Nat.le_refl _)⟩
                case measure => (first | (simp [intOf]; omega) | (simp [intOf]; done))
            · obtain rfl : i = 4 := by omega
              have hRd1 := hRd.out
              rw [overK_four] at hRd1
              have hfw := hf5.butR q1 q2 hgr (fun k hk => by cases hk; exact hRlt)
              have hneC : some w1.heap.size ≠ some R := by simp; omega
              replace e0 := World.grownBy.cell hgr e0 hneC
              replace e1 := World.grownBy.cell hgr e1 hneC
              replace e2 := World.grownBy.cell hgr e2 hneC
              replace e3 := World.grownBy.cell hgr e3 hneC
              obtain ⟨b0, b1, b2, b3, bm, bf⟩ := hTB.out
              have bm0 := bm 0 (by omega)
              have bm1 := bm 1 (by omega)
              have bm2 := bm 2 (by omega)
              have bm3 := bm 3 (by omega)
              have hgw : wo.grownBy wr (some R) := hT3.grown.trans hgr
              have hTBlt : w3.heap.size < wr.heap.size := World.block_lt_of_cell? _ _ b0
              clear hRd hTB bm bf hix
              by_cases hc0 : st.c.1 = 0
              · have hcz : cmpI st.c.1 0 = 0 := by rw [hc0, cmpI_eq]
                have HC0 := Lib.hid hc0
                clear hc0
                go_wp2_with (first | (go_at_call 31; refine (fSign_c _ _ _ _ _ _ _ _ _ _ _ (hfw.keep (by go_grown)) s2 s1).mono ?_; rintro e w5 ⟨rfl, hb5⟩; rw [hcz]))
                refine bodyPost_ret (v := .slice none 0 0) (by simp [results, Tryz.results128, go_sem]) rfl ?_
                rw [hTR.out, hXX.out]
                have h1 : oneT (keyO st.o) st.c = [] := by unfold oneT; rw [if_pos HC0.out]
                show TermPost wo R (some (oneT (keyO st.o) st.c, st.L, st.many || over st.o)) _ _
                rw [h1]
                exact ⟨hgw.trans (grown_below hb5 _), none, 0, 0, rfl, PolyAt.nil _ _, hRd1.keep hb5⟩
              · have hcz : (cmpI st.c.1 0 == 0) = false := by rw [beq_eq_false_iff_ne]; exact fun e => hc0 (cmpI_zero.1 e)
                have HC0 := Lib.hid hc0
                clear hc0
                go_wp2_with (first | (go_at_call 31; refine (fSign_c _ _ _ _ _ _ _ _ _ _ _ (hfw.keep (by go_grown)) s2 s1).mono ?_; rintro e w5 ⟨rfl, hb5⟩; replace b0 := cell_keep hb5 b0; replace b1 := cell_keep hb5 b1; replace b2 := cell_keep hb5 b2; replace b3 := cell_keep hb5 b3; replace bm0 := cell_keep hb5 bm0; replace bm1 := cell_keep hb5 bm1; replace bm2 := cell_keep hb5 bm2; replace bm3 := cell_keep hb5 bm3))
                refine bodyPost_ret (v := .slice (some ⟨w5.heap.size, 0, none⟩) 1 1) (by simp [results, Tryz.results128, go_sem]) rfl ?_
                rw [hTR.out, hXX.out]
                have h1 : oneT (keyO st.o) st.c = [(keyO st.o, st.c)] := by unfold oneT; rw [if_neg HC0.out]
                show TermPost wo R (some (oneT (keyO st.o) st.c, st.L, st.many || over st.o)) _ _
                rw [h1, ← tv_key]
                have hsz5 := hb5.size
                have hgsz := hgw.size
                have hf6 := (hfw.keep hb5).keep ((Below.refl w5.heap.size w5).alloc (Nat.le_refl _) (.cells #[.bool g5, .slice a5 n5 c5, .bool g6, .slice a6 n6 c6, .int .u16 (tv st.o 4 0 : Nat), .int .u16 (tv st.o 4 1 : Nat), .int .u16 (tv st.o 4 2 : Nat), .int .u16 (tv st.o 4 3 : Nat)] 68))
                exact ⟨grown_allocR _ (hgw.trans (grown_below hb5 _)), _, 1, 1, rfl, poly_one hf6 q1 q2 (tv_lt _ _ _) (tv_lt _ _ _) (tv_lt _ _ _) (tv_lt _ _ _) (by omega) ⟨by simp [go_sem], by simp [go_sem], by simp [go_sem], by simp [go_sem], by simp [go_sem], by simp [go_sem], by simp [go_sem], by simp [go_sem]⟩, (hRd1.keep hb5).allocR _⟩
        · have hbeg := fun (W : World) (hr : RdrAt W R st.L st.many) => begins_c W R st.L st.many hr hlen
          simp only [hs] at hbeg
          have hXX : Hid (rdLoop s0 = none) := Lib.hid (by rw [hX.out]; unfold contX; rw [hs, rdLoop_eq, hs]; rfl)
          clear hX
          go_wp2_with (first | (go_at_call 192; refine (hbeg _ hT.out.rdr).mono ?_; rintro e w3 ⟨rfl, hb3⟩) | (go_at_call 130; refine (must_no _).mono ?_; rintro e w4 ⟨rfl, rfl⟩))
          refine ⟨rfl, ?_⟩
          rw [hTR.out, hXX.out]
          exact .no (hT.out.grown.trans (grown_below hb3 _))
      · obtain ⟨b, r, hLst⟩ : ∃ b r, st.L = b :: r := by
          cases hl : st.L with
          | nil => rw [hl] at hs; cases hs
          | cons b r => exact ⟨b, r, rfl⟩
        have hX1 : Hid (rdLoop s0 = rdLoop st) := Lib.hid (by rw [hX.out]; unfold contX; rw [hs]; cases again <;> rfl)
        clear hX
        have hbeg := fun (W : World) (hr : RdrAt W R st.L st.many) => begins_c W R st.L st.many hr hlen
        simp only [hs] at hbeg
        have hy : (⟨(b :: r).toArray⟩ : ByteArray)[0]'(by simp [ByteArray.size]) = b := by simp [ByteArray.getElem_eq_getElem_data]
        have hxt := extract_tail b r
        have hI : ∀ W : World, Calls Tryz.prog 193 #[.string ⟨#[120, 121, 122, 116]⟩, .int .u8 (b.toNat : Int)] W fun e w' => e = .returned (.int .i64 (Lib.indexByte [120, 121, 122, 116] b)) ∧ w' = W := fun W => by
          have := Tryz.strings_IndexByte ⟨#[120, 121, 122, 116]⟩ (b.toNat : Int) W
          have e : ((b.toNat : Int).toNat.toUInt8) = b := by simp
          rw [e] at this
          exact this
        have hix := letter_index b
        have hrl : r.length < 1000000000 := by rw [hLst] at hlen; simp at hlen; omega
        have HS := Lib.hid hs
        have HLN := Lib.hid hlen
        clear hs hlen
        cases hlet : letterOf b with
        | some i =>
          rw [hlet] at hix
          simp only [hix] at hI
          have hi4 := letter_lt hlet
          cases again
          · go_wp2_with (first | (go_at_call 192; refine (hbeg _ hT.out.rdr).mono ?_; rintro e w3 ⟨rfl, hb3⟩; have hT3 := hT.out.keep hb3; have r0 := hT3.rdr.c0; rw [hLst] at r0; have f0 := hT3.rdr.f0) | (go_at_call 192; refine (hbeg _ hT3.rdr).mono ?_; rintro e w4 ⟨rfl, hb4⟩; have hT4 := hT3.keep hb4; replace r0 := cell_keep hb4 r0; replace f0 := hT4.rdr.f0) | (go_at_call 130; refine (must_yes _).mono ?_; rintro e wm ⟨rfl, rfl⟩) | (go_at_call 193; refine (hI _).mono ?_; rintro e wi ⟨rfl, rfl⟩))
            have hTr := hT4.rd (grown_set (o := 0) (.string ⟨r.toArray⟩) (grown_refl _ _)) (hT4.rdr.set0 r)
            have hoi := hTr.oc i hi4
            have hi4i : ((i : Nat) : Int) < 4 := by omega
            have hVq := hV.grown hTr.grown hne7
            have hob : st.o i ≤ 1000 * (L.length - st.L.length) := hQ.out.2.2.2 i
            have hHT := Lib.hid hTr
            have hm0 := Lib.hid (rdrLen_at hT.out.rdr)
            clear r0 f0 hT3 hbeg hTr hT
            generalize wi.setCell ⟨R, 0, none⟩ (.string ⟨r.toArray⟩) = wq at *
            have hTd : TermAt wo wq.drew R w1.heap.size wy.heap.size ⟨st.c, st.o, r, st.many⟩ := hHT.out.keep ((Below.refl _ _).drew)
            have hVd : ErrV wq.drew := hVq
            cases hx : rdPow r st.many with
            | none =>
              have hXN : Hid (rdLoop s0 = none) := Lib.hid (by rw [hX1.out, rdLoop_eq, HS.out]; simp only [if_true]; rw [show rdFactor st = none by unfold rdFactor; rw [hLst]; simp only; rw [hlet]; simp only; rw [hx]])
              refine wp_region_C (fun W => W.cell? ⟨wy.heap.size, i, none⟩ = some (.int .i64 (st.o i : Nat))) 7 (by kernel_rfl) (by ((try dsimp only); (repeat' apply And.intro); all_goals (first | (with_reducible assumption) | (go_keep; done) | (simp [*, go_sem]; done)))) (fun hHeld => ?_)
              (refine AnyC.take 7 (i := 0) (v := ?_) rfl (by kernel_rfl) (fun _ _ _ h => h) (Or.inl ⟨by rfl, ?_⟩) (by assumption) ?_; rotate_left; (focus (intro w' hSw; (try dsimp only at hSw); go_simp; (try with_reducible rfl))); (try simp only [Act.put, List.setIfInBounds_toArray, List.set_cons_zero, List.set_cons_succ]))
              (refine AnyC.take 7 (i := 1) (v := ?_) rfl (by kernel_rfl) (fun _ _ _ h => h) (Or.inl ⟨by rfl, ?_⟩) (by assumption) ?_; rotate_left; (focus (intro w' hSw; (try dsimp only at hSw); go_simp; (try with_reducible rfl))); (try simp only [Act.put, List.setIfInBounds_toArray, List.set_cons_zero, List.set_cons_succ]))
              (refine AnyC.take 7 (i := 2) (v := ?_) rfl (by kernel_rfl) (fun _ _ _ h => h) (Or.inl ⟨by rfl, ?_⟩) (by assumption) ?_; rotate_left; (focus (intro w' hSw; (try dsimp only at hSw); go_simp; (try with_reducible rfl))); (try simp only [Act.put, List.setIfInBounds_toArray, List.set_cons_zero, List.set_cons_succ]))
              (refine AnyC.take 7 (i := 3) (v := ?_) rfl (by kernel_rfl) (fun _ _ _ h => h) (Or.inl ⟨by rfl, ?_⟩) (by assumption) ?_; rotate_left; (focus (intro w' hSw; (try dsimp only at hSw); go_simp; (try with_reducible rfl))); (try simp only [Act.put, List.setIfInBounds_toArray, List.set_cons_zero, List.set_cons_succ]))
              refine AnyC.one (i := 4) rfl (by kernel_rfl) (fun K hK => ?_)
              go_simp
              go_at_call 194
              refine (power_c _ R r st.many hTd.rdr hrl hVd hR).mono ?_
              rintro e w6 ⟨hg6, hp6⟩
              rw [hx] at hp6
              subst hp6
              refine ⟨rfl, ?_⟩
              rw [hTR.out, hXN.out]
              exact .no (hTd.grown.trans hg6)
            | some x =>
              obtain ⟨n, r', m'⟩ := x
              have hn := rdPow_le hx
              have hrlen := rdPow_len hx
              have hwr : IntKind.i64.wrap (((st.o i : Nat) : Int) + ((n : Nat) : Int)) = ((st.o i : Nat) : Int) + ((n : Nat) : Int) := by simp [IntKind.wrap, IntKind.bits, IntKind.signed]; omega
              have hF : Hid (rdFactor st = some ⟨st.c, bump st.o i n, r', m'⟩) := Lib.hid (by unfold rdFactor; rw [hLst]; simp only; rw [hlet]; simp only; rw [hx])
              refine wp_region_C (fun W => W.cell? ⟨wy.heap.size, i, none⟩ = some (.int .i64 (st.o i : Nat))) 7 (by kernel_rfl) (by ((try dsimp only); (repeat' apply And.intro); all_goals (first | (with_reducible assumption) | (go_keep; done) | (simp [*, go_sem]; done)))) (fun hHeld => ?_)
              (refine AnyC.take 7 (i := 0) (v := ?_) rfl (by kernel_rfl) (fun _ _ _ h => h) (Or.inl ⟨by rfl, ?_⟩) (by assumption) ?_; rotate_left; (focus (intro w' hSw; (try dsimp only at hSw); go_simp; (try with_reducible rfl))); (try simp only [Act.put, List.setIfInBounds_toArray, List.set_cons_zero, List.set_cons_succ]))
              (refine AnyC.take 7 (i := 1) (v := ?_) rfl (by kernel_rfl) (fun _ _ _ h => h) (Or.inl ⟨by rfl, ?_⟩) (by assumption) ?_; rotate_left; (focus (intro w' hSw; (try dsimp only at hSw); go_simp; (try with_reducible rfl))); (try simp only [Act.put, List.setIfInBounds_toArray, List.set_cons_zero, List.set_cons_succ]))
              (refine AnyC.take 7 (i := 2) (v := ?_) rfl (by kernel_rfl) (fun _ _ _ h => h) (Or.inl ⟨by rfl, ?_⟩) (by assumption) ?_; rotate_left; (focus (intro w' hSw; (try dsimp only at hSw); go_simp; (try with_reducible rfl))); (try simp only [Act.put, List.setIfInBounds_toArray, List.set_cons_zero, List.set_cons_succ]))
              (refine AnyC.take 7 (i := 3) (v := ?_) rfl (by kernel_rfl) (fun _ _ _ h => h) (Or.inl ⟨by rfl, ?_⟩) (by assumption) ?_; rotate_left; (focus (intro w' hSw; (try dsimp only at hSw); go_simp; (try with_reducible rfl))); (try simp only [Act.put, List.setIfInBounds_toArray, List.set_cons_zero, List.set_cons_succ]))
              (refine AnyC.one (i := 4) rfl (by kernel_rfl) (fun K hK => ?_); go_simp; (go_at_call 194; refine (power_c _ R r st.many hTd.rdr hrl hVd hR).mono ?_; rintro e w6 ⟨hg6, hp6⟩; rw [hx] at hp6; obtain ⟨rfl, hr6⟩ := hp6; have hT6 := hTd.rd hg6 hr6; have hoi6 := hT6.oc i hi4; have hof6 := hT6.of i hi4); (try go_wp2_with fail); refine hK.out _ _ (fun _ => (by ((try dsimp only); (repeat' apply And.intro); all_goals (first | (with_reducible assumption) | (go_keep; done) | (simp [*, go_sem]; done))))) ?_; clear hK K; (try simp only [Act.put, List.setIfInBounds_toArray, List.set_cons_zero, List.set_cons_succ]))
              (refine AnyC.one (i := 5) rfl (by kernel_rfl) (fun K hK => ?_); go_simp; skip; (try go_wp2_with fail); refine hK.out _ _ (fun _ => (by ((try dsimp only); (repeat' apply And.intro); all_goals (first | (with_reducible assumption) | (go_keep; done) | (simp [*, go_sem]; done))))) ?_; clear hK K; (try simp only [Act.put, List.setIfInBounds_toArray, List.set_cons_zero, List.set_cons_succ]))
              (refine AnyC.one (i := 6) rfl (by kernel_rfl) (fun K hK => ?_); go_simp; (try rw [if_pos hi4i]); (try go_wp2_with fail); refine hK.out _ _ (fun _ => (by ((try dsimp only); (repeat' apply And.intro); all_goals (first | (with_reducible assumption) | (go_keep; done) | (simp [*, go_sem]; done))))) ?_; clear hK K; (try simp only [Act.put, List.setIfInBounds_toArray, List.set_cons_zero, List.set_cons_succ]))
              (refine AnyC.one (i := 7) rfl (by kernel_rfl) (fun K hK => ?_); go_simp; refine hK.out _ _ (fun h => absurd h (by decide)) ?_; clear hK K; (try simp only [Act.put, List.setIfInBounds_toArray, List.set_cons_zero, List.set_cons_succ]))
              refine AnyC.done (by kernel_rfl) ?_ _
              (try rw [hwr])
              obtain ⟨u, hu⟩ : ∃ u : TS, u = ⟨st.c, bump st.o i n, r', m'⟩ := ⟨_, rfl⟩
              have hT7 : TermAt wo (w6.setCell ⟨wy.heap.size, i, none⟩ (.int .i64 (((st.o i : Nat) : Int) + ((n : Nat) : Int)))) R w1.heap.size wy.heap.size u := by
                have h7 := hT6.setO i hi4 n
                rw [Int.natCast_add] at h7
                exact hu ▸ h7
              rw [← hu] at hF
              clear hoi hoi6 hof6 hT6 hTd hHT hVq hVd hu hx hn hrlen hob hwr
              generalize w6.setCell ⟨wy.heap.size, i, none⟩ (.int .i64 (((st.o i : Nat) : Int) + ((n : Nat) : Int))) = w7 at *
              have hul : u.L.length < 1000000000 := by have h1 := rdFactor_len hF.out; have h2 := HLN.out; omega
              have HT7 := Lib.hid hT7
              have hsk := skp_le u.L
              have hfl := rdFactor_len hF.out
              cases h42 : headIs (skp u.L) 42
              · have hXn : Hid (rdLoop s0 = contX false ⟨u.c, u.o, skp u.L, u.many⟩) := Lib.hid (by rw [hX1.out, rdLoop_eq, HS.out, hF.out]; simp only [if_true]; rw [h42]; rfl)
                have hQn := Lib.hid (step_Q hQ.out hF.out (skp u.L) hsk)
                have hRn := Lib.hid h42
                clear hT7
                go_wp2_with (first | (go_at_call 127; refine (skip_c _ R u.L u.many HT7.out.rdr hul).mono ?_; rintro e w8 ⟨rfl, hr8, hg8⟩; have hT8 := HT7.out.rd hg8 hr8) | (go_at_call 129; refine (rdTakes_c _ R (skp u.L) u.many 42 hT8.rdr (by omega) (by omega) (by omega)).mono ?_; rintro e w9 ⟨rfl, hr9, hg9⟩; rw [hRn.out] at hr9; simp only [hRn.out]; have hT9 := hT8.rd hg9 hr9))
                go_roundw
                case rel => exact ⟨false, ⟨u.c, u.o, skp u.L, u.many⟩, rfl, hXn, Lib.hid hT9, hQn⟩
                case measure => rw [rdrLen_at hT9.rdr, hm0.out]; show (skp u.L).length < _; omega
              · have hs2 := skp_le (skp u.L).tail
                have hs3 : (skp u.L).tail.length ≤ (skp u.L).length := by simp
                have hXn : Hid (rdLoop s0 = contX true ⟨u.c, u.o, skp (skp u.L).tail, u.many⟩) := Lib.hid (by rw [hX1.out, rdLoop_eq, HS.out, hF.out]; simp only [if_true]; rw [h42]; rfl)
                have hQn := Lib.hid (step_Q hQ.out hF.out (skp (skp u.L).tail) (by omega))
                have hRn := Lib.hid h42
                clear hT7
                go_wp2_with (first | (go_at_call 129; refine (rdTakes_c _ R (skp u.L) u.many 42 hT8.rdr (by omega) (by omega) (by omega)).mono ?_; rintro e w9 ⟨rfl, hr9, hg9⟩; rw [hRn.out] at hr9; simp only [if_true] at hr9; simp only [hRn.out]; have hT9 := hT8.rd hg9 hr9) | (go_at_call 127; refine (skip_c _ R (skp u.L).tail u.many hT9.rdr (by omega)).mono ?_; rintro e wa ⟨rfl, hra, hga⟩; have hTa := hT9.rd hga hra) | (go_at_call 127; refine (skip_c _ R u.L u.many HT7.out.rdr hul).mono ?_; rintro e w8 ⟨rfl, hr8, hg8⟩; have hT8 := HT7.out.rd hg8 hr8))
                go_roundw
                case rel => exact ⟨true, ⟨u.c, u.o, skp (skp u.L).tail, u.many⟩, rfl, hXn, Lib.hid hTa, hQn⟩
                case measure => rw [rdrLen_at hTa.rdr, hm0.out]; show (skp (skp u.L).tail).length < _; omega
          · go_wp2_with (first | (go_at_call 192; refine (hbeg _ hT.out.rdr).mono ?_; rintro e w3 ⟨rfl, hb3⟩; have hT3 := hT.out.keep hb3; have r0 := hT3.rdr.c0; rw [hLst] at r0; have f0 := hT3.rdr.f0) | (go_at_call 130; refine (must_yes _).mono ?_; rintro e wm ⟨rfl, rfl⟩) | (go_at_call 193; refine (hI _).mono ?_; rintro e wi ⟨rfl, rfl⟩))
            have hTr := hT3.rd (grown_set (o := 0) (.string ⟨r.toArray⟩) (grown_refl _ _)) (hT3.rdr.set0 r)
            have hoi := hTr.oc i hi4
            have hi4i : ((i : Nat) : Int) < 4 := by omega
            have hVq := hV.grown hTr.grown hne7
            have hob : st.o i ≤ 1000 * (L.length - st.L.length) := hQ.out.2.2.2 i
            have hHT := Lib.hid hTr
            have hm0 := Lib.hid (rdrLen_at hT.out.rdr)
            clear r0 f0 hT3 hbeg hTr hT
            generalize wi.setCell ⟨R, 0, none⟩ (.string ⟨r.toArray⟩) = wq at *
            have hTd : TermAt wo wq.drew R w1.heap.size wy.heap.size ⟨st.c, st.o, r, st.many⟩ := hHT.out.keep ((Below.refl _ _).drew)
            have hVd : ErrV wq.drew := hVq
            cases hx : rdPow r st.many with
            | none =>
              have hXN : Hid (rdLoop s0 = none) := Lib.hid (by rw [hX1.out, rdLoop_eq, HS.out]; simp only [if_true]; rw [show rdFactor st = none by unfold rdFactor; rw [hLst]; simp only; rw [hlet]; simp only; rw [hx]])
              refine wp_region_C (fun W => W.cell? ⟨wy.heap.size, i, none⟩ = some (.int .i64 (st.o i : Nat))) 7 (by kernel_rfl) (by ((try dsimp only); (repeat' apply And.intro); all_goals (first | (with_reducible assumption) | (go_keep; done) | (simp [*, go_sem]; done)))) (fun hHeld => ?_)
              (refine AnyC.take 7 (i := 0) (v := ?_) rfl (by kernel_rfl) (fun _ _ _ h => h) (Or.inl ⟨by rfl, ?_⟩) (by assumption) ?_; rotate_left; (focus (intro w' hSw; (try dsimp only at hSw); go_simp; (try with_reducible rfl))); (try simp only [Act.put, List.setIfInBounds_toArray, List.set_cons_zero, List.set_cons_succ]))
              (refine AnyC.take 7 (i := 1) (v := ?_) rfl (by kernel_rfl) (fun _ _ _ h => h) (Or.inl ⟨by rfl, ?_⟩) (by assumption) ?_; rotate_left; (focus (intro w' hSw; (try dsimp only at hSw); go_simp; (try with_reducible rfl))); (try simp only [Act.put, List.setIfInBounds_toArray, List.set_cons_zero, List.set_cons_succ]))
              (refine AnyC.take 7 (i := 2) (v := ?_) rfl (by kernel_rfl) (fun _ _ _ h => h) (Or.inl ⟨by rfl, ?_⟩) (by assumption) ?_; rotate_left; (focus (intro w' hSw; (try dsimp only at hSw); go_simp; (try with_reducible rfl))); (try simp only [Act.put, List.setIfInBounds_toArray, List.set_cons_zero, List.set_cons_succ]))
              (refine AnyC.take 7 (i := 3) (v := ?_) rfl (by kernel_rfl) (fun _ _ _ h => h) (Or.inl ⟨by rfl, ?_⟩) (by assumption) ?_; rotate_left; (focus (intro w' hSw; (try dsimp only at hSw); go_simp; (try with_reducible rfl))); (try simp only [Act.put, List.setIfInBounds_toArray, List.set_cons_zero, List.set_cons_succ]))
              refine AnyC.one (i := 4) rfl (by kernel_rfl) (fun K hK => ?_)
              go_simp
              go_at_call 194
              refine (power_c _ R r st.many hTd.rdr hrl hVd hR).mono ?_
              rintro e w6 ⟨hg6, hp6⟩
              rw [hx] at hp6
              subst hp6
              refine ⟨rfl, ?_⟩
              rw [hTR.out, hXN.out]
              exact .no (hTd.grown.trans hg6)
            | some x =>
              obtain ⟨n, r', m'⟩ := x
              have hn := rdPow_le hx
              have hrlen := rdPow_len hx
              have hwr : IntKind.i64.wrap (((st.o i : Nat) : Int) + ((n : Nat) : Int)) = ((st.o i : Nat) : Int) + ((n : Nat) : Int) := by simp [IntKind.wrap, IntKind.bits, IntKind.signed]; omega
              have hF : Hid (rdFactor st = some ⟨st.c, bump st.o i n, r', m'⟩) := Lib.hid (by unfold rdFactor; rw [hLst]; simp only; rw [hlet]; simp only; rw [hx])
              refine wp_region_C (fun W => W.cell? ⟨wy.heap.size, i, none⟩ = some (.int .i64 (st.o i : Nat))) 7 (by kernel_rfl) (by ((try dsimp only); (repeat' apply And.intro); all_goals (first | (with_reducible assumption) | (go_keep; done) | (simp [*, go_sem]; done)))) (fun hHeld => ?_)
              (refine AnyC.take 7 (i := 0) (v := ?_) rfl (by kernel_rfl) (fun _ _ _ h => h) (Or.inl ⟨by rfl, ?_⟩) (by assumption) ?_; rotate_left; (focus (intro w' hSw; (try dsimp only at hSw); go_simp; (try with_reducible rfl))); (try simp only [Act.put, List.setIfInBounds_toArray, List.set_cons_zero, List.set_cons_succ]))
              (refine AnyC.take 7 (i := 1) (v := ?_) rfl (by kernel_rfl) (fun _ _ _ h => h) (Or.inl ⟨by rfl, ?_⟩) (by assumption) ?_; rotate_left; (focus (intro w' hSw; (try dsimp only at hSw); go_simp; (try with_reducible rfl))); (try simp only [Act.put, List.setIfInBounds_toArray, List.set_cons_zero, List.set_cons_succ]))
              (refine AnyC.take 7 (i := 2) (v := ?_) rfl (by kernel_rfl) (fun _ _ _ h => h) (Or.inl ⟨by rfl, ?_⟩) (by assumption) ?_; rotate_left; (focus (intro w' hSw; (try dsimp only at hSw); go_simp; (try with_reducible rfl))); (try simp only [Act.put, List.setIfInBounds_toArray, List.set_cons_zero, List.set_cons_succ]))
              (refine AnyC.take 7 (i := 3) (v := ?_) rfl (by kernel_rfl) (fun _ _ _ h => h) (Or.inl ⟨by rfl, ?_⟩) (by assumption) ?_; rotate_left; (focus (intro w' hSw; (try dsimp only at hSw); go_simp; (try with_reducible rfl))); (try simp only [Act.put, List.setIfInBounds_toArray, List.set_cons_zero, List.set_cons_succ]))
              (refine AnyC.one (i := 4) rfl (by kernel_rfl) (fun K hK => ?_); go_simp; (go_at_call 194; refine (power_c _ R r st.many hTd.rdr hrl hVd hR).mono ?_; rintro e w6 ⟨hg6, hp6⟩; rw [hx] at hp6; obtain ⟨rfl, hr6⟩ := hp6; have hT6 := hTd.rd hg6 hr6; have hoi6 := hT6.oc i hi4; have hof6 := hT6.of i hi4); (try go_wp2_with fail); refine hK.out _ _ (fun _ => (by ((try dsimp only); (repeat' apply And.intro); all_goals (first | (with_reducible assumption) | (go_keep; done) | (simp [*, go_sem]; done))))) ?_; clear hK K; (try simp only [Act.put, List.setIfInBounds_toArray, List.set_cons_zero, List.set_cons_succ]))
              (refine AnyC.one (i := 5) rfl (by kernel_rfl) (fun K hK => ?_); go_simp; skip; (try go_wp2_with fail); refine hK.out _ _ (fun _ => (by ((try dsimp only); (repeat' apply And.intro); all_goals (first | (with_reducible assumption) | (go_keep; done) | (simp [*, go_sem]; done))))) ?_; clear hK K; (try simp only [Act.put, List.setIfInBounds_toArray, List.set_cons_zero, List.set_cons_succ]))
              (refine AnyC.one (i := 6) rfl (by kernel_rfl) (fun K hK => ?_); go_simp; (try rw [if_pos hi4i]); (try go_wp2_with fail); refine hK.out _ _ (fun _ => (by ((try dsimp only); (repeat' apply And.intro); all_goals (first | (with_reducible assumption) | (go_keep; done) | (simp [*, go_sem]; done))))) ?_; clear hK K; (try simp only [Act.put, List.setIfInBounds_toArray, List.set_cons_zero, List.set_cons_succ]))
              (refine AnyC.one (i := 7) rfl (by kernel_rfl) (fun K hK => ?_); go_simp; refine hK.out _ _ (fun h => absurd h (by decide)) ?_; clear hK K; (try simp only [Act.put, List.setIfInBounds_toArray, List.set_cons_zero, List.set_cons_succ]))
              refine AnyC.done (by kernel_rfl) ?_ _
              (try rw [hwr])
              obtain ⟨u, hu⟩ : ∃ u : TS, u = ⟨st.c, bump st.o i n, r', m'⟩ := ⟨_, rfl⟩
              have hT7 : TermAt wo (w6.setCell ⟨wy.heap.size, i, none⟩ (.int .i64 (((st.o i : Nat) : Int) + ((n : Nat) : Int)))) R w1.heap.size wy.heap.size u := by
                have h7 := hT6.setO i hi4 n
                rw [Int.natCast_add] at h7
                exact hu ▸ h7
              rw [← hu] at hF
              clear hoi hoi6 hof6 hT6 hTd hHT hVq hVd hu hx hn hrlen hob hwr
              generalize w6.setCell ⟨wy.heap.size, i, none⟩ (.int .i64 (((st.o i : Nat) : Int) + ((n : Nat) : Int))) = w7 at *
              have hul : u.L.length < 1000000000 := by have h1 := rdFactor_len hF.out; have h2 := HLN.out; omega
              have HT7 := Lib.hid hT7
              have hsk := skp_le u.L
              have hfl := rdFactor_len hF.out
              cases h42 : headIs (skp u.L) 42
              · have hXn : Hid (rdLoop s0 = contX false ⟨u.c, u.o, skp u.L, u.many⟩) := Lib.hid (by rw [hX1.out, rdLoop_eq, HS.out, hF.out]; simp only [if_true]; rw [h42]; rfl)
                have hQn := Lib.hid (step_Q hQ.out hF.out (skp u.L) hsk)
                have hRn := Lib.hid h42
                clear hT7
                go_wp2_with (first | (go_at_call 127; refine (skip_c _ R u.L u.many HT7.out.rdr hul).mono ?_; rintro e w8 ⟨rfl, hr8, hg8⟩; have hT8 := HT7.out.rd hg8 hr8) | (go_at_call 129; refine (rdTakes_c _ R (skp u.L) u.many 42 hT8.rdr (by omega) (by omega) (by omega)).mono ?_; rintro e w9 ⟨rfl, hr9, hg9⟩; rw [hRn.out] at hr9; simp only [hRn.out]; have hT9 := hT8.rd hg9 hr9))
                go_roundw
                case rel => exact ⟨false, ⟨u.c, u.o, skp u.L, u.many⟩, rfl, hXn, Lib.hid hT9, hQn⟩
                case measure => rw [rdrLen_at hT9.rdr, hm0.out]; show (skp u.L).length < _; omega
              · have hs2 := skp_le (skp u.L).tail
                have hs3 : (skp u.L).tail.length ≤ (skp u.L).length := by simp
                have hXn : Hid (rdLoop s0 = contX true ⟨u.c, u.o, skp (skp u.L).tail, u.many⟩) := Lib.hid (by rw [hX1.out, rdLoop_eq, HS.out, hF.out]; simp only [if_true]; rw [h42]; rfl)
                have hQn := Lib.hid (step_Q hQ.out hF.out (skp (skp u.L).tail) (by omega))
                have hRn := Lib.hid h42
                clear hT7
                go_wp2_with (first | (go_at_call 129; refine (rdTakes_c _ R (skp u.L) u.many 42 hT8.rdr (by omega) (by omega) (by omega)).mono ?_; rintro e w9 ⟨rfl, hr9, hg9⟩; rw [hRn.out] at hr9; simp only [if_true] at hr9; simp only [hRn.out]; have hT9 := hT8.rd hg9 hr9) | (go_at_call 127; refine (skip_c _ R (skp u.L).tail u.many hT9.rdr (by omega)).mono ?_; rintro e wa ⟨rfl, hra, hga⟩; have hTa := hT9.rd hga hra) | (go_at_call 127; refine (skip_c _ R u.L u.many HT7.out.rdr hul).mono ?_; rintro e w8 ⟨rfl, hr8, hg8⟩; have hT8 := HT7.out.rd hg8 hr8))
                go_roundw
                case rel => exact ⟨true, ⟨u.c, u.o, skp (skp u.L).tail, u.many⟩, rfl, hXn, Lib.hid hTa, hQn⟩
                case measure => rw [rdrLen_at hTa.rdr, hm0.out]; show (skp (skp u.L).tail).length < _; omega
        | none =>
          rw [hlet] at hix
          simp only [hix] at hI
          cases again
          · go_wp2_with (first | (go_at_call 192; refine (hbeg _ hT.out.rdr).mono ?_; rintro e w3 ⟨rfl, hb3⟩; have hT3 := hT.out.keep hb3; have r0 := hT3.rdr.c0; rw [hLst] at r0; have f0 := hT3.rdr.f0) | (go_at_call 192; refine (hbeg _ hT3.rdr).mono ?_; rintro e w4 ⟨rfl, hb4⟩; have hT4 := hT3.keep hb4; replace r0 := cell_keep hb4 r0; replace f0 := hT4.rdr.f0) | (go_at_call 130; refine (must_yes _).mono ?_; rintro e wm ⟨rfl, rfl⟩) | (go_at_call 193; refine (hI _).mono ?_; rintro e wi ⟨rfl, rfl⟩))
            have hTd : TermAt wo wi.drew R w1.heap.size wy.heap.size st := hT4.keep ((Below.refl _ _).drew)
            obtain ⟨g5, a5, n5, c5, g6, a6, n6, c6, e0, e1, e2, e3, hf5, q1, q2, q3, q4, q5, q6⟩ := hT4.fr
            have hf5d : FracAt wi.drew g5 a5 n5 c5 st.c.1 g6 a6 n6 c6 st.c.2 := hf5.keep ((Below.refl _ _).drew)
            have hm0 := Lib.hid (rdrLen_at hT.out.rdr)
            have hneC : some w1.heap.size ≠ some R := by simp; omega
            have hrd : RdrAt wi.drew R (b :: r) st.many := hLst ▸ hTd.rdr
            have hbl : (b :: r).length < 1000000000 := by rw [← hLst]; exact HLN.out
            have e51 := hf5.top.rd.len
            have e52 := hf5.low.rd.len
            obtain ⟨i1, i2⟩ := hQ.out.2.1
            have s1 : n5 ≤ 1000000000 := by omega
            have s2 : n6 ≤ 1000000000 := by omega
            have hLL := hQ.out.2.2.1
            clear r0 f0 hT3 hbeg hT e51 e52 i1 i2 hT4
            cases hx : rdFrac (b :: r) st.many with
            | none =>
              have hXN : Hid (rdLoop s0 = none) := Lib.hid (by rw [hX1.out, rdLoop_eq, HS.out]; simp only [if_true]; rw [show rdFactor st = none by unfold rdFactor; rw [hLst]; simp only; rw [hlet]; simp only; rw [hx]])
              refine wp_region_C (fun W => W.cell? ⟨w1.heap.size, 0, none⟩ = some (.bool g5) ∧ W.cell? ⟨w1.heap.size, 1, none⟩ = some (.slice a5 n5 c5) ∧ W.cell? ⟨w1.heap.size, 2, none⟩ = some (.bool g6) ∧ W.cell? ⟨w1.heap.size, 3, none⟩ = some (.slice a6 n6 c6)) 4 (by kernel_rfl) (by ((try dsimp only); (repeat' apply And.intro); all_goals (first | (with_reducible assumption) | (go_keep; done) | (simp [*, go_sem]; done)))) (fun hHeld => ?_)
              (refine AnyC.take 3 (i := 0) (v := ?_) rfl (by kernel_rfl) (fun _ _ _ h => h) (Or.inl ⟨by rfl, ?_⟩) (by assumption) ?_; rotate_left; (focus (intro w' hSw; (try dsimp only at hSw); go_simp; (try with_reducible rfl))); (try simp only [Act.put, List.setIfInBounds_toArray, List.set_cons_zero, List.set_cons_succ]))
              (refine AnyC.take 4 (i := 1) (v := ?_) rfl (by kernel_rfl) (fun _ _ _ h => h) (Or.inl ⟨by rfl, ?_⟩) (by assumption) ?_; rotate_left; (focus (intro w' hSw; (try dsimp only at hSw); go_simp; (try with_reducible rfl))); (try simp only [Act.put, List.setIfInBounds_toArray, List.set_cons_zero, List.set_cons_succ]))
              refine AnyC.one (i := 2) rfl (by kernel_rfl) (fun K hK => ?_)
              go_simp
              go_at_call 195
              refine (fraction_c _ R (b :: r) st.many hrd hbl).mono ?_
              rintro e w6 ⟨hg6, hp6⟩
              rw [hx] at hp6
              subst hp6
              refine ⟨rfl, ?_⟩
              rw [hTR.out, hXN.out]
              exact .no (hTd.grown.trans hg6)
            | some x =>
              obtain ⟨cn, r', m'⟩ := x
              have hF : Hid (rdFactor st = some ⟨mulC st.c cn, st.o, r', m'⟩) := Lib.hid (by unfold rdFactor; rw [hLst]; simp only; rw [hlet]; simp only; rw [hx])
              have hfw := (rdFrac_good hx).2
              have hbL : (b :: r).length ≤ 1000000 := by rw [← hLst]; omega
              have hf9 : FewC 1000000000 cn := hfw.mono (by omega)
              clear hfw
              refine wp_region_C (fun W => W.cell? ⟨w1.heap.size, 0, none⟩ = some (.bool g5) ∧ W.cell? ⟨w1.heap.size, 1, none⟩ = some (.slice a5 n5 c5) ∧ W.cell? ⟨w1.heap.size, 2, none⟩ = some (.bool g6) ∧ W.cell? ⟨w1.heap.size, 3, none⟩ = some (.slice a6 n6 c6)) 4 (by kernel_rfl) (by ((try dsimp only); (repeat' apply And.intro); all_goals (first | (with_reducible assumption) | (go_keep; done) | (simp [*, go_sem]; done)))) (fun hHeld => ?_)
              (refine AnyC.take 3 (i := 0) (v := ?_) rfl (by kernel_rfl) (fun _ _ _ h => h) (Or.inl ⟨by rfl, ?_⟩) (by assumption) ?_; rotate_left; (focus (intro w' hSw; (try dsimp only at hSw); go_simp; (try with_reducible rfl))); (try simp only [Act.put, List.setIfInBounds_toArray, List.set_cons_zero, List.set_cons_succ]))
              (refine AnyC.take 4 (i := 1) (v := ?_) rfl (by kernel_rfl) (fun _ _ _ h => h) (Or.inl ⟨by rfl, ?_⟩) (by assumption) ?_; rotate_left; (focus (intro w' hSw; (try dsimp only at hSw); go_simp; (try with_reducible rfl))); (try simp only [Act.put, List.setIfInBounds_toArray, List.set_cons_zero, List.set_cons_succ]))
              (refine AnyC.one (i := 2) rfl (by kernel_rfl) (fun K hK => ?_); go_simp; (go_at_call 195; refine (fraction_c _ R (b :: r) st.many hrd hbl).mono ?_; rintro e w6 ⟨hg6, hp6⟩; rw [hx] at hp6; obtain ⟨v, rfl, hv, hr6⟩ := hp6; have hT6 := hTd.rd hg6 hr6; have hf56 := hf5d.butR q1 q2 hg6 (fun k hk => by cases hk; exact hRlt); replace e0 := World.grownBy.cell hg6 (show wi.drew.cell? _ = _ from e0) hneC; replace e1 := World.grownBy.cell hg6 (show wi.drew.cell? _ = _ from e1) hneC; replace e2 := World.grownBy.cell hg6 (show wi.drew.cell? _ = _ from e2) hneC; replace e3 := World.grownBy.cell hg6 (show wi.drew.cell? _ = _ from e3) hneC); (try go_wp2_with fail); refine hK.out _ _ (fun _ => (by ((try dsimp only); (repeat' apply And.intro); all_goals (first | (with_reducible assumption) | (go_keep; done) | (simp [*, go_sem]; done))))) ?_; clear hK K; (try simp only [Act.put, List.setIfInBounds_toArray, List.set_cons_zero, List.set_cons_succ]))
              (refine AnyC.one (i := 3) rfl (by kernel_rfl) (fun K hK => ?_); go_simp; (go_at_call 106; refine (mulV_c _ g5 a5 n5 c5 g6 a6 n6 c6 st.c hf56 _ v cn hv s1 s2 hf9).mono ?_; rintro e w7 ⟨gm1, am1, nm1, cm1, gm2, am2, nm2, cm2, rfl, hmul, hm1, hm2, hb7⟩; have hT7 := hT6.keep hb7; replace e0 := cell_keep hb7 e0; replace e1 := cell_keep hb7 e1; replace e2 := cell_keep hb7 e2; replace e3 := cell_keep hb7 e3; have z0 := hT7.cf 0 (by omega); have z1 := hT7.cf 1 (by omega); have z2 := hT7.cf 2 (by omega); have z3 := hT7.cf 3 (by omega)); (try go_wp2_with fail); refine hK.out _ _ (fun _ => (by ((try dsimp only); (repeat' apply And.intro); all_goals (first | (with_reducible assumption) | (go_keep; done) | (simp [*, go_sem]; done))))) ?_; clear hK K; (try simp only [Act.put, List.setIfInBounds_toArray, List.set_cons_zero, List.set_cons_succ]))
              (refine AnyC.one (i := 4) rfl (by kernel_rfl) (fun K hK => ?_); go_simp; refine hK.out _ _ (fun h => absurd h (by decide)) ?_; clear hK K; (try simp only [Act.put, List.setIfInBounds_toArray, List.set_cons_zero, List.set_cons_succ]))
              refine AnyC.done (by kernel_rfl) ?_ _
              have h46 := hT6.h4
              have km1 : Nw (wy.heap.size + 1) nm1 am1 := Nw.mono (hm1.newA hmul.top.rd) (by omega)
              have km2 : Nw (wy.heap.size + 1) nm2 am2 := Nw.mono (hm2.newA hmul.low.rd) (by omega)
              obtain ⟨u, hu⟩ : ∃ u : TS, u = ⟨mulC st.c cn, st.o, r', m'⟩ := ⟨_, rfl⟩
              have hT8 := hT7.setC (c := mulC st.c cn) hmul km1 km2
              have hT7' : TermAt wo ((((w7.setCell ⟨w1.heap.size, 0, none⟩ (.bool gm1)).setCell ⟨w1.heap.size, 1, none⟩ (.slice am1 nm1 cm1)).setCell ⟨w1.heap.size, 2, none⟩ (.bool gm2)).setCell ⟨w1.heap.size, 3, none⟩ (.slice am2 nm2 cm2)) R w1.heap.size wy.heap.size u := hu ▸ hT8
              rw [← hu] at hF
              clear hT6 hT7 hT8 hTd hf5 hf5d hf56 hmul hm1 hm2 km1 km2 e0 e1 e2 e3 z0 z1 z2 z3 hv hrd hu hx hf9 hb7 hg6 hr6
              generalize (((w7.setCell ⟨w1.heap.size, 0, none⟩ (.bool gm1)).setCell ⟨w1.heap.size, 1, none⟩ (.slice am1 nm1 cm1)).setCell ⟨w1.heap.size, 2, none⟩ (.bool gm2)).setCell ⟨w1.heap.size, 3, none⟩ (.slice am2 nm2 cm2) = wz at *
              have hT7 := hT7'
              clear hT7'
              have hul : u.L.length < 1000000000 := by have h1 := rdFactor_len hF.out; have h2 := HLN.out; omega
              have HT7 := Lib.hid hT7
              have hsk := skp_le u.L
              have hfl := rdFactor_len hF.out
              cases h42 : headIs (skp u.L) 42
              · have hXn : Hid (rdLoop s0 = contX false ⟨u.c, u.o, skp u.L, u.many⟩) := Lib.hid (by rw [hX1.out, rdLoop_eq, HS.out, hF.out]; simp only [if_true]; rw [h42]; rfl)
                have hQn := Lib.hid (step_Q hQ.out hF.out (skp u.L) hsk)
                have hRn := Lib.hid h42
                clear hT7
                go_wp2_with (first | (go_at_call 127; refine (skip_c _ R u.L u.many HT7.out.rdr hul).mono ?_; rintro e w8 ⟨rfl, hr8, hg8⟩; have hT8 := HT7.out.rd hg8 hr8) | (go_at_call 129; refine (rdTakes_c _ R (skp u.L) u.many 42 hT8.rdr (by omega) (by omega) (by omega)).mono ?_; rintro e w9 ⟨rfl, hr9, hg9⟩; rw [hRn.out] at hr9; simp only [hRn.out]; have hT9 := hT8.rd hg9 hr9))
                go_roundw
                case rel => exact ⟨false, ⟨u.c, u.o, skp u.L, u.many⟩, rfl, hXn, Lib.hid hT9, hQn⟩
                case measure => rw [rdrLen_at hT9.rdr, hm0.out]; show (skp u.L).length < _; omega
              · have hs2 := skp_le (skp u.L).tail
                have hs3 : (skp u.L).tail.length ≤ (skp u.L).length := by simp
                have hXn : Hid (rdLoop s0 = contX true ⟨u.c, u.o, skp (skp u.L).tail, u.many⟩) := Lib.hid (by rw [hX1.out, rdLoop_eq, HS.out, hF.out]; simp only [if_true]; rw [h42]; rfl)
                have hQn := Lib.hid (step_Q hQ.out hF.out (skp (skp u.L).tail) (by omega))
                have hRn := Lib.hid h42
                clear hT7
                go_wp2_with (first | (go_at_call 129; refine (rdTakes_c _ R (skp u.L) u.many 42 hT8.rdr (by omega) (by omega) (by omega)).mono ?_; rintro e w9 ⟨rfl, hr9, hg9⟩; rw [hRn.out] at hr9; simp only [if_true] at hr9; simp only [hRn.out]; have hT9 := hT8.rd hg9 hr9) | (go_at_call 127; refine (skip_c _ R (skp u.L).tail u.many hT9.rdr (by omega)).mono ?_; rintro e wa ⟨rfl, hra, hga⟩; have hTa := hT9.rd hga hra) | (go_at_call 127; refine (skip_c _ R u.L u.many HT7.out.rdr hul).mono ?_; rintro e w8 ⟨rfl, hr8, hg8⟩; have hT8 := HT7.out.rd hg8 hr8))
                go_roundw
                case rel => exact ⟨true, ⟨u.c, u.o, skp (skp u.L).tail, u.many⟩, rfl, hXn, Lib.hid hTa, hQn⟩
                case measure => rw [rdrLen_at hTa.rdr, hm0.out]; show (skp (skp u.L).tail).length < _; omega
          · go_wp2_with (first | (go_at_call 192; refine (hbeg _ hT.out.rdr).mono ?_; rintro e w3 ⟨rfl, hb3⟩; have hT3 := hT.out.keep hb3; have r0 := hT3.rdr.c0; rw [hLst] at r0; have f0 := hT3.rdr.f0) | (go_at_call 130; refine (must_yes _).mono ?_; rintro e wm ⟨rfl, rfl⟩) | (go_at_call 193; refine (hI _).mono ?_; rintro e wi ⟨rfl, rfl⟩))
            have hTd : TermAt wo wi.drew R w1.heap.size wy.heap.size st := hT3.keep ((Below.refl _ _).drew)
            obtain ⟨g5, a5, n5, c5, g6, a6, n6, c6, e0, e1, e2, e3, hf5, q1, q2, q3, q4, q5, q6⟩ := hT3.fr
            have hf5d : FracAt wi.drew g5 a5 n5 c5 st.c.1 g6 a6 n6 c6 st.c.2 := hf5.keep ((Below.refl _ _).drew)
            have hm0 := Lib.hid (rdrLen_at hT.out.rdr)
            have hneC : some w1.heap.size ≠ some R := by simp; omega
            have hrd : RdrAt wi.drew R (b :: r) st.many := hLst ▸ hTd.rdr
            have hbl : (b :: r).length < 1000000000 := by rw [← hLst]; exact HLN.out
            have e51 := hf5.top.rd.len
            have e52 := hf5.low.rd.len
            obtain ⟨i1, i2⟩ := hQ.out.2.1
            have s1 : n5 ≤ 1000000000 := by omega
            have s2 : n6 ≤ 1000000000 := by omega
            have hLL := hQ.out.2.2.1
            clear r0 f0 hT3 hbeg hT e51 e52 i1 i2 
            cases hx : rdFrac (b :: r) st.many with
            | none =>
              have hXN : Hid (rdLoop s0 = none) := Lib.hid (by rw [hX1.out, rdLoop_eq, HS.out]; simp only [if_true]; rw [show rdFactor st = none by unfold rdFactor; rw [hLst]; simp only; rw [hlet]; simp only; rw [hx]])
              refine wp_region_C (fun W => W.cell? ⟨w1.heap.size, 0, none⟩ = some (.bool g5) ∧ W.cell? ⟨w1.heap.size, 1, none⟩ = some (.slice a5 n5 c5) ∧ W.cell? ⟨w1.heap.size, 2, none⟩ = some (.bool g6) ∧ W.cell? ⟨w1.heap.size, 3, none⟩ = some (.slice a6 n6 c6)) 4 (by kernel_rfl) (by ((try dsimp only); (repeat' apply And.intro); all_goals (first | (with_reducible assumption) | (go_keep; done) | (simp [*, go_sem]; done)))) (fun hHeld => ?_)
              (refine AnyC.take 3 (i := 0) (v := ?_) rfl (by kernel_rfl) (fun _ _ _ h => h) (Or.inl ⟨by rfl, ?_⟩) (by assumption) ?_; rotate_left; (focus (intro w' hSw; (try dsimp only at hSw); go_simp; (try with_reducible rfl))); (try simp only [Act.put, List.setIfInBounds_toArray, List.set_cons_zero, List.set_cons_succ]))
              (refine AnyC.take 4 (i := 1) (v := ?_) rfl (by kernel_rfl) (fun _ _ _ h => h) (Or.inl ⟨by rfl, ?_⟩) (by assumption) ?_; rotate_left; (focus (intro w' hSw; (try dsimp only at hSw); go_simp; (try with_reducible rfl))); (try simp only [Act.put, List.setIfInBounds_toArray, List.set_cons_zero, List.set_cons_succ]))
              refine AnyC.one (i := 2) rfl (by kernel_rfl) (fun K hK => ?_)
              go_simp
              go_at_call 195
              refine (fraction_c _ R (b :: r) st.many hrd hbl).mono ?_
              rintro e w6 ⟨hg6, hp6⟩
              rw [hx] at hp6
              subst hp6
              refine ⟨rfl, ?_⟩
              rw [hTR.out, hXN.out]
              exact .no (hTd.grown.trans hg6)
            | some x =>
              obtain ⟨cn, r', m'⟩ := x
              have hF : Hid (rdFactor st = some ⟨mulC st.c cn, st.o, r', m'⟩) := Lib.hid (by unfold rdFactor; rw [hLst]; simp only; rw [hlet]; simp only; rw [hx])
              have hfw := (rdFrac_good hx).2
              have hbL : (b :: r).length ≤ 1000000 := by rw [← hLst]; omega
              have hf9 : FewC 1000000000 cn := hfw.mono (by omega)
              clear hfw
              refine wp_region_C (fun W => W.cell? ⟨w1.heap.size, 0, none⟩ = some (.bool g5) ∧ W.cell? ⟨w1.heap.size, 1, none⟩ = some (.slice a5 n5 c5) ∧ W.cell? ⟨w1.heap.size, 2, none⟩ = some (.bool g6) ∧ W.cell? ⟨w1.heap.size, 3, none⟩ = some (.slice a6 n6 c6)) 4 (by kernel_rfl) (by ((try dsimp only); (repeat' apply And.intro); all_goals (first | (with_reducible assumption) | (go_keep; done) | (simp [*, go_sem]; done)))) (fun hHeld => ?_)
              (refine AnyC.take 3 (i := 0) (v := ?_) rfl (by kernel_rfl) (fun _ _ _ h => h) (Or.inl ⟨by rfl, ?_⟩) (by assumption) ?_; rotate_left; (focus (intro w' hSw; (try dsimp only at hSw); go_simp; (try with_reducible rfl))); (try simp only [Act.put, List.setIfInBounds_toArray, List.set_cons_zero, List.set_cons_succ]))
              (refine AnyC.take 4 (i := 1) (v := ?_) rfl (by kernel_rfl) (fun _ _ _ h => h) (Or.inl ⟨by rfl, ?_⟩) (by assumption) ?_; rotate_left; (focus (intro w' hSw; (try dsimp only at hSw); go_simp; (try with_reducible rfl))); (try simp only [Act.put, List.setIfInBounds_toArray, List.set_cons_zero, List.set_cons_succ]))
              (refine AnyC.one (i := 2) rfl (by kernel_rfl) (fun K hK => ?_); go_simp; (go_at_call 195; refine (fraction_c _ R (b :: r) st.many hrd hbl).mono ?_; rintro e w6 ⟨hg6, hp6⟩; rw [hx] at hp6; obtain ⟨v, rfl, hv, hr6⟩ := hp6; have hT6 := hTd.rd hg6 hr6; have hf56 := hf5d.butR q1 q2 hg6 (fun k hk => by cases hk; exact hRlt); replace e0 := World.grownBy.cell hg6 (show wi.drew.cell? _ = _ from e0) hneC; replace e1 := World.grownBy.cell hg6 (show wi.drew.cell? _ = _ from e1) hneC; replace e2 := World.grownBy.cell hg6 (show wi.drew.cell? _ = _ from e2) hneC; replace e3 := World.grownBy.cell hg6 (show wi.drew.cell? _ = _ from e3) hneC); (try go_wp2_with fail); refine hK.out _ _ (fun _ => (by ((try dsimp only); (repeat' apply And.intro); all_goals (first | (with_reducible assumption) | (go_keep; done) | (simp [*, go_sem]; done))))) ?_; clear hK K; (try simp only [Act.put, List.setIfInBounds_toArray, List.set_cons_zero, List.set_cons_succ]))
              (refine AnyC.one (i := 3) rfl (by kernel_rfl) (fun K hK => ?_); go_simp; (go_at_call 106; refine (mulV_c _ g5 a5 n5 c5 g6 a6 n6 c6 st.c hf56 _ v cn hv s1 s2 hf9).mono ?_; rintro e w7 ⟨gm1, am1, nm1, cm1, gm2, am2, nm2, cm2, rfl, hmul, hm1, hm2, hb7⟩; have hT7 := hT6.keep hb7; replace e0 := cell_keep hb7 e0; replace e1 := cell_keep hb7 e1; replace e2 := cell_keep hb7 e2; replace e3 := cell_keep hb7 e3; have z0 := hT7.cf 0 (by omega); have z1 := hT7.cf 1 (by omega); have z2 := hT7.cf 2 (by omega); have z3 := hT7.cf 3 (by omega)); (try go_wp2_with fail); refine hK.out _ _ (fun _ => (by ((try dsimp only); (repeat' apply And.intro); all_goals (first | (with_reducible assumption) | (go_keep; done) | (simp [*, go_sem]; done))))) ?_; clear hK K; (try simp only [Act.put, List.setIfInBounds_toArray, List.set_cons_zero, List.set_cons_succ]))
              (refine AnyC.one (i := 4) rfl (by kernel_rfl) (fun K hK => ?_); go_simp; refine hK.out _ _ (fun h => absurd h (by decide)) ?_; clear hK K; (try simp only [Act.put, List.setIfInBounds_toArray, List.set_cons_zero, List.set_cons_succ]))
              refine AnyC.done (by kernel_rfl) ?_ _
              have h46 := hT6.h4
              have km1 : Nw (wy.heap.size + 1) nm1 am1 := Nw.mono (hm1.newA hmul.top.rd) (by omega)
              have km2 : Nw (wy.heap.size + 1) nm2 am2 := Nw.mono (hm2.newA hmul.low.rd) (by omega)
              obtain ⟨u, hu⟩ : ∃ u : TS, u = ⟨mulC st.c cn, st.o, r', m'⟩ := ⟨_, rfl⟩
              have hT8 := hT7.setC (c := mulC st.c cn) hmul km1 km2
              have hT7' : TermAt wo ((((w7.setCell ⟨w1.heap.size, 0, none⟩ (.bool gm1)).setCell ⟨w1.heap.size, 1, none⟩ (.slice am1 nm1 cm1)).setCell ⟨w1.heap.size, 2, none⟩ (.bool gm2)).setCell ⟨w1.heap.size, 3, none⟩ (.slice am2 nm2 cm2)) R w1.heap.size wy.heap.size u := hu ▸ hT8
              rw [← hu] at hF
              clear hT6 hT7 hT8 hTd hf5 hf5d hf56 hmul hm1 hm2 km1 km2 e0 e1 e2 e3 z0 z1 z2 z3 hv hrd hu hx hf9 hb7 hg6 hr6
              generalize (((w7.setCell ⟨w1.heap.size, 0, none⟩ (.bool gm1)).setCell ⟨w1.heap.size, 1, none⟩ (.slice am1 nm1 cm1)).setCell ⟨w1.heap.size, 2, none⟩ (.bool gm2)).setCell ⟨w1.heap.size, 3, none⟩ (.slice am2 nm2 cm2) = wz at *
              have hT7 := hT7'
              clear hT7'
              have hul : u.L.length < 1000000000 := by have h1 := rdFactor_len hF.out; have h2 := HLN.out; omega
              have HT7 := Lib.hid hT7
              have hsk := skp_le u.L
              have hfl := rdFactor_len hF.out
              cases h42 : headIs (skp u.L) 42
              · have hXn : Hid (rdLoop s0 = contX false ⟨u.c, u.o, skp u.L, u.many⟩) := Lib.hid (by rw [hX1.out, rdLoop_eq, HS.out, hF.out]; simp only [if_true]; rw [h42]; rfl)
                have hQn := Lib.hid (step_Q hQ.out hF.out (skp u.L) hsk)
                have hRn := Lib.hid h42
                clear hT7
                go_wp2_with (first | (go_at_call 127; refine (skip_c _ R u.L u.many HT7.out.rdr hul).mono ?_; rintro e w8 ⟨rfl, hr8, hg8⟩; have hT8 := HT7.out.rd hg8 hr8) | (go_at_call 129; refine (rdTakes_c _ R (skp u.L) u.many 42 hT8.rdr (by omega) (by omega) (by omega)).mono ?_; rintro e w9 ⟨rfl, hr9, hg9⟩; rw [hRn.out] at hr9; simp only [hRn.out]; have hT9 := hT8.rd hg9 hr9))
                go_roundw
                case rel => exact ⟨false, ⟨u.c, u.o, skp u.L, u.many⟩, rfl, hXn, Lib.hid hT9, hQn⟩
                case measure => rw [rdrLen_at hT9.rdr, hm0.out]; show (skp u.L).length < _; omega
              · have hs2 := skp_le (skp u.L).tail
                have hs3 : (skp u.L).tail.length ≤ (skp u.L).length := by simp
                have hXn : Hid (rdLoop s0 = contX true ⟨u.c, u.o, skp (skp u.L).tail, u.many⟩) := Lib.hid (by rw [hX1.out, rdLoop_eq, HS.out, hF.out]; simp only [if_true]; rw [h42]; rfl)
                have hQn := Lib.hid (step_Q hQ.out hF.out (skp (skp u.L).tail) (by omega))
                have hRn := Lib.hid h42
                clear hT7
                go_wp2_with (first | (go_at_call 129; refine (rdTakes_c _ R (skp u.L) u.many 42 hT8.rdr (by omega) (by omega) (by omega)).mono ?_; rintro e w9 ⟨rfl, hr9, hg9⟩; rw [hRn.out] at hr9; simp only [if_true] at hr9; simp only [hRn.out]; have hT9 := hT8.rd hg9 hr9) | (go_at_call 127; refine (skip_c _ R (skp u.L).tail u.many hT9.rdr (by omega)).mono ?_; rintro e wa ⟨rfl, hra, hga⟩; have hTa := hT9.rd hga hra) | (go_at_call 127; refine (skip_c _ R u.L u.many HT7.out.rdr hul).mono ?_; rintro e w8 ⟨rfl, hr8, hg8⟩; have hT8 := HT7.out.rd hg8 hr8))
                go_roundw
                case rel => exact ⟨true, ⟨u.c, u.o, skp (skp u.L).tail, u.many⟩, rfl, hXn, Lib.hid hTa, hQn⟩
                case measure => rw [rdrLen_at hTa.rdr, hm0.out]; show (skp (skp u.L).tail).length < _; omega
end Go.Proofs.YtdamegaedmckbaaGreatDoor
end
