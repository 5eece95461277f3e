/- The document's answer, layer 4: Add (function 51). -/
import Derived.Test.YtdamegaedmckbaaGreatDoorQP37
import Derived.Test.YtdamegaedmckbaaGreatDoorQP38
set_option linter.unusedSimpArgs false
set_option linter.unusedVariables false
set_option maxRecDepth 100000
set_option maxHeartbeats 4000000
section
namespace Go.Proofs.YtdamegaedmckbaaGreatDoor
open Go.RowKit
theorem H2 (b : List PT) : Bt [] b = b := by rw [Bt]
theorem I2 (a : List PT) : Bt a [] = a := by cases a <;> rw [Bt]
theorem Rf (w : World) (B : Nat) (a : Option Addr) (n c : Nat) (l : List PT) (h : Bk w B a n c l) (hl : PW l) (K : Nat) (hK : Da K l) (hKK : K ≤ 1000000) :
  Calls Tryz.prog 40 #[.slice a n c] w fun e w' => e = .returned (.slice a n c) ∧ Below w.heap.size w w' := by
 obtain ⟨p, hp, hpx⟩ := h.ts
 exact W9 w a n c p hp (fun k hk => by have := h.few hK hp hpx k hk; omega) (h.pok hl hp hpx)
theorem PW.tl {x : PT} {l : List PT} (h : PW (x :: l)) : PW l :=
 ⟨(List.pairwise_cons.1 h.falls).2, fun t ht => h.good t (List.mem_cons_of_mem _ ht), fun t ht => h.key t (List.mem_cons_of_mem _ ht)⟩
theorem Da.tl {K : Nat} {x : PT} {l : List PT} (h : Da K (x :: l)) : Da K l := fun t ht => h t (List.mem_cons_of_mem _ ht)
def Mn : Value → Nat
 | .slice _ n _ => n
 | _ => 0
def fJ (w wc : World) (f : PC) (v : Value) : Prop :=
 ∃ b g1 a1 n1 c1 g2 a2 n2 c2, v = .pointer (some ⟨b, 0, none⟩) ∧ w.heap.size ≤ b ∧ wc.cell? ⟨b, 0, none⟩ = some (.bool g1) ∧ wc.cell? ⟨b, 1, none⟩ = some (.slice a1 n1 c1) ∧ wc.cell? ⟨b, 2, none⟩ = some (.bool g2) ∧ wc.cell? ⟨b, 3, none⟩ = some (.slice a2 n2 c2) ∧
  Bj wc g1 a1 n1 c1 f.1 g2 a2 n2 c2 f.2 ∧ Nw w.heap.size n1 a1 ∧ Nw w.heap.size n2 a2 ∧ Below w.heap.size w wc
theorem Vs {w w' : World} (h : Below w.heap.size w w') (T : Nat) (hT : w.heap.size ≤ T) (v0 v1 v2 v3 : Value) : Below w.heap.size w ((((w'.setCell ⟨T, 0, none⟩ v0).setCell ⟨T, 1, none⟩ v1).setCell ⟨T, 2, none⟩ v2).setCell ⟨T, 3, none⟩ v3) :=
 (((h.setCell (p := ⟨T, 0, none⟩) hT v0).setCell (p := ⟨T, 1, none⟩) hT v1).setCell (p := ⟨T, 2, none⟩) hT v2).setCell (p := ⟨T, 3, none⟩) hT v3
def gY : Tm := ⟨false, none, 0, 0, [], false, none, 0, 0, [], 0, 0, 0, 0⟩
theorem Su (wo : World) (B : Nat) (a0 : Option Addr) (n0 c0 : Nat) (l0 : List PT) (h : Bk wo B a0 n0 c0 l0) (hl : PW l0) (K : Nat) (hK : Da K l0) (B' : Nat) (a0' : Option Addr) (n0' c0' : Nat) (l0' : List PT) (h' : Bk wo B' a0' n0' c0' l0') (hl' : PW l0') (K' : Nat) (hK' : Da K' l0')
  (hKK : K + K' < 1000000) (hn : n0 ≤ 500000) (hn' : n0' ≤ 500000) :
  Calls Tryz.prog 51 #[.slice a0 n0 c0, .slice a0' n0' c0'] wo (bV wo (Bt l0 l0')) := by
 obtain ⟨i0, hi, hz0, hz1, hz2⟩ := info_parts Og
 go_enter Tryz.func51, Tryz.ntmps51
 go_wp2_with fail
 refine (Rf _ B a0 n0 c0 l0 h hl K hK qB).mono ?_
 rintro e w1 ⟨rfl, hb1⟩
 go_wp2_with fail
 refine (Rf _ B' a0' n0' c0' l0' (h'.keep hb1) hl' K' hK' qB).mono ?_
 rintro e w2 ⟨rfl, hb2⟩
 have HB2 : Below wo.heap.size wo w2 := hb1.trans (hb2.mono hb1.size)
 have HS : Hid (n0 = l0.length ∧ n0' = l0'.length) := Ae ⟨h.len.symm, h'.len.symm⟩
 clear hb1 hb2
 go_wp2_with fail
 go_loopw [0, 1, 5] (fun v0 v1 v5 wr => ∃ (a : Option Addr) (n c : Nat) (l : List PT) (a' : Option Addr) (n' c' : Nat) (l' : List PT) (s : Nat → Tm) (out : List PT), v0 = .slice a n c ∧ v1 = .slice a' n' c' ∧ Bk wo B a n c l ∧ Bk wo B' a' n' c' l' ∧ Hid (PW l ∧ PW l' ∧ Da K l ∧ Da K' l') ∧ Hid (Bt l0 l0' = out ++ Bt l l') ∧ Fu wr wo.heap.size v5 s out ∧ out.length + l.length + l'.length ≤ 1000000 ∧ Below wo.heap.size wo wr) (fun v0 v1 _ _ => Mn v0 + Mn v1)
 case atStart => exact ⟨a0, n0, c0, l0, a0', n0', c0', l0', fun _ => gY, [], rfl, rfl, h, h', Ae ⟨hl, hl', hK, hK'⟩, Ae rfl, Fu.nil _ _ _, by have := HS.out; simp; omega, HB2⟩
 case round =>
  clear h h' hl hl' hK hK' HB2 HS
  obtain ⟨a, n, c, l, a', n', c', l', s, out, rfl, rfl, hp, hp', HW, HE, HO, hlen, HB⟩ := hrel
  obtain ⟨v5, rfl⟩ : ∃ v5, v5 = u5 := ⟨_, rfl⟩
  cases l with
  | nil =>
   obtain rfl : n = 0 := hp.len.symm
   cases l' with
   | nil =>
    obtain rfl : n' = 0 := hp'.len.symm
    obtain ⟨ao, co, rfl, hP⟩ := HO.poly (by simp at hlen; omega)
    have hz := Ae (show Bt l0 l0' = out by rw [HE.out, H2, List.append_nil])
    clear HE
    go_wp2_with fail
    go_ret
    exact ⟨ao, _, co, rfl, by rw [hz.out]; exact hP, HB⟩
   | cons y l' =>
    obtain ⟨g', o', t', rfl, rfl, hc', hat', hrd', hti'⟩ := hp'.head
    have hfr := (hti'.frac hrd' (HW.out.2.1.good y (List.mem_cons_self ..)).1).keep HB
    have hrd2 := hrd'.keep HB
    obtain ⟨e0, e1, e2, e3, e4, e5, e6, e7⟩ := hat'.keep HB
    have hTI := Ae hti'
    have hgB := Aa _ _ hat'.e0
    have hHO := Ae HO
    have hlen2 := hlen
    simp only [List.length_cons, List.length_nil] at hlen2
    have f1 := (HW.out.2.2.2 y (List.mem_cons_self ..)).1
    have f2 := (HW.out.2.2.2 y (List.mem_cons_self ..)).2
    have hs1 := hfr.top.rd.len
    have hs2 := hfr.low.rd.len
    have g1 : _ ≤ 1000000 := Ah (Nat.le_of_eq hs1.symm) (Ah f1 qB)
    have g2 : _ ≤ 1000000 := Ah (Nat.le_of_eq hs2.symm) (Ah f2 qB)
    clear f1 f2 hs1 hs2
    go_wp2_with fail
    go_region_held3 (fun W => W.cell? ⟨g', o', none⟩ = some (.bool (t').g1) ∧ W.cell? ⟨g', o' + 1, none⟩ = some (.slice (t').a1 (t').n1 (t').c1) ∧ W.cell? ⟨g', o' + 2, none⟩ = some (.bool (t').g2) ∧ W.cell? ⟨g', o' + 3, none⟩ = some (.slice (t').a2 (t').n2 (t').c2) ∧ W.cell? ⟨g', o' + 4, none⟩ = some (.int .u16 (t').m0) ∧ W.cell? ⟨g', o' + 5, none⟩ = some (.int .u16 (t').m1) ∧ W.cell? ⟨g', o' + 6, none⟩ = some (.int .u16 (t').m2) ∧ W.cell? ⟨g', o' + 7, none⟩ = some (.int .u16 (t').m3)) (first | ((try dsimp only); (repeat' apply And.intro); all_goals (first | (with_reducible assumption) | (go_keep; done) | (simp [*, go_sem]; done)))) (first
     | (go_at_call 135; (with_reducible refine (K0 _ _ _ _ _ _ _ _ _ _ _ (hfr.keep qF) g2 g1).mono ?_); rintro e w6 ⟨ge, ae, ne, ce, gf, af, nf, cf, rfl, hfx, hfx1, hfx2, hb6⟩; have HB6 := zD wr hb6; replace e0 := Au HB6 e0; replace e1 := Au HB6 e1; replace e2 := Au HB6 e2; replace e3 := Au HB6 e3; replace e4 := Au HB6 e4; replace e5 := Au HB6 e5; replace e6 := Au HB6 e6; replace e7 := Au HB6 e7)
     | (refine step_append_lies _ qP _ _ _ qP wo.heap.size 68 i0 (.agg #[.bool false, .slice none 0 0, .bool false, .slice none 0 0, .int .u16 0, .int .u16 0, .int .u16 0, .int .u16 0]) 8 72 Tryz.underlying23 hi hz0 hz1 hz2 rfl qC _ out.length (Co s out.length) qP ((Bm hHO.out.own HB6).alloc _) ⟨w6.heap.size, 0, none⟩ 1 1 (Tm.cells ⟨ge, ae, ne, ce, dg (y).2.1.natAbs, gf, af, nf, cf, dg (y).2.2.natAbs, (t').m0, (t').m1, (t').m2, (t').m3⟩) qP qP (Ep _ _ _) (by simp [Tm.cells, Value.oneCell']) qC qO qB (by have := HB.size; have := HB6.size; simp only [Aj]; omega) _ rfl ?_; intro gg cap w7 hown7 hgrow7 hat7 hlt7; have hne7 : some g' ≠ Value.ownBlock v5 := (fun e => by have := Eu hHO.out.own _ e.symm; omega); replace e0 := hgrow7.cell (Au ((Ac w6.heap.size w6).alloc (Ad _) _) e0) hne7; replace e1 := hgrow7.cell (Au ((Ac w6.heap.size w6).alloc (Ad _) _) e1) hne7; replace e2 := hgrow7.cell (Au ((Ac w6.heap.size w6).alloc (Ad _) _) e2) hne7; replace e3 := hgrow7.cell (Au ((Ac w6.heap.size w6).alloc (Ad _) _) e3) hne7; replace e4 := hgrow7.cell (Au ((Ac w6.heap.size w6).alloc (Ad _) _) e4) hne7; replace e5 := hgrow7.cell (Au ((Ac w6.heap.size w6).alloc (Ad _) _) e5) hne7; replace e6 := hgrow7.cell (Au ((Ac w6.heap.size w6).alloc (Ad _) _) e6) hne7; replace e7 := hgrow7.cell (Au ((Ac w6.heap.size w6).alloc (Ad _) _) e7) hne7))
    have hz6 := HB6.size
    have hzo := HB.size
    have HO7 : Fu w7 wo.heap.size (.slice (some ⟨gg, 0, none⟩) (out.length + 1) cap) (fun j => if j = out.length then (⟨ge, ae, ne, ce, dg (y).2.1.natAbs, gf, af, nf, cf, dg (y).2.2.natAbs, (t').m0, (t').m1, (t').m2, (t').m3⟩ : Tm) else s j) (out ++ [y]) := by
     exact qFh
    have HB7 : Below wo.heap.size wo w7 := ((HB.trans (HB6.mono HB.size)).alloc qB _).grown hgrow7 (by simp only [Aj]; omega) (fun k hk => Eu hHO.out.own k hk)
    clear hown7 hgrow7 hat7 hfx hfx1 hfx2 hb6 HB6 e0 e1 e2 e3 e4 e5 e6 e7 hHO hfr hrd2 hne7 hz6 HO HB
    have hq := fun W => Ib W g' o' l'.length c' hc'
    have HW2 : Hid (PW [] ∧ PW l' ∧ Da K [] ∧ Da K' l') := Ae ⟨HW.out.1, HW.out.2.1.tl, HW.out.2.2.1, HW.out.2.2.2.tl⟩
    have HE2 : Hid (Bt l0 l0' = (out ++ [y]) ++ Bt [] l') := Ae (by rw [HE.out, H2, H2]; simp)
    clear HW HE
    go_wp2_with fail
    go_roundw
    case rel => exact ⟨a, 0, c, [], some (tlA g' o' c'), l'.length, c' - 1, l', _, out ++ [y], rfl, rfl, hp, hp'.tail, HW2, HE2, HO7, by simp only [List.length_append, List.length_singleton, List.length_cons, List.length_nil] at hlen ⊢; omega, HB7⟩
    case measure => (simp only [Mn]; omega)
  | cons x l =>
   obtain ⟨g, o, t, rfl, rfl, hc, hat, hrd, hti⟩ := hp.head
   cases l' with
   | nil =>
    obtain rfl : n' = 0 := hp'.len.symm
    have hfr := (hti.frac hrd (HW.out.1.good x (List.mem_cons_self ..)).1).keep HB
    have hrd2 := hrd.keep HB
    obtain ⟨e0, e1, e2, e3, e4, e5, e6, e7⟩ := hat.keep HB
    have hTI := Ae hti
    have hgB := Aa _ _ hat.e0
    have hHO := Ae HO
    have hlen2 := hlen
    simp only [List.length_cons, List.length_nil] at hlen2
    have f1 := (HW.out.2.2.1 x (List.mem_cons_self ..)).1
    have f2 := (HW.out.2.2.1 x (List.mem_cons_self ..)).2
    have hs1 := hfr.top.rd.len
    have hs2 := hfr.low.rd.len
    have g1 : _ ≤ 1000000 := Ah (Nat.le_of_eq hs1.symm) (Ah f1 qB)
    have g2 : _ ≤ 1000000 := Ah (Nat.le_of_eq hs2.symm) (Ah f2 qB)
    clear f1 f2 hs1 hs2
    go_wp2_with fail
    go_region_held3 (fun W => W.cell? ⟨g, o, none⟩ = some (.bool (t).g1) ∧ W.cell? ⟨g, o + 1, none⟩ = some (.slice (t).a1 (t).n1 (t).c1) ∧ W.cell? ⟨g, o + 2, none⟩ = some (.bool (t).g2) ∧ W.cell? ⟨g, o + 3, none⟩ = some (.slice (t).a2 (t).n2 (t).c2) ∧ W.cell? ⟨g, o + 4, none⟩ = some (.int .u16 (t).m0) ∧ W.cell? ⟨g, o + 5, none⟩ = some (.int .u16 (t).m1) ∧ W.cell? ⟨g, o + 6, none⟩ = some (.int .u16 (t).m2) ∧ W.cell? ⟨g, o + 7, none⟩ = some (.int .u16 (t).m3)) (first | ((try dsimp only); (repeat' apply And.intro); all_goals (first | (with_reducible assumption) | (go_keep; done) | (simp [*, go_sem]; done)))) (first
     | (go_at_call 135; (with_reducible refine (K0 _ _ _ _ _ _ _ _ _ _ _ (hfr.keep qF) g2 g1).mono ?_); rintro e w6 ⟨ge, ae, ne, ce, gf, af, nf, cf, rfl, hfx, hfx1, hfx2, hb6⟩; have HB6 := zD wr hb6; replace e0 := Au HB6 e0; replace e1 := Au HB6 e1; replace e2 := Au HB6 e2; replace e3 := Au HB6 e3; replace e4 := Au HB6 e4; replace e5 := Au HB6 e5; replace e6 := Au HB6 e6; replace e7 := Au HB6 e7)
     | (refine step_append_lies _ qP _ _ _ qP wo.heap.size 68 i0 (.agg #[.bool false, .slice none 0 0, .bool false, .slice none 0 0, .int .u16 0, .int .u16 0, .int .u16 0, .int .u16 0]) 8 72 Tryz.underlying23 hi hz0 hz1 hz2 rfl qC _ out.length (Co s out.length) qP ((Bm hHO.out.own HB6).alloc _) ⟨w6.heap.size, 0, none⟩ 1 1 (Tm.cells ⟨ge, ae, ne, ce, dg (x).2.1.natAbs, gf, af, nf, cf, dg (x).2.2.natAbs, (t).m0, (t).m1, (t).m2, (t).m3⟩) qP qP (Ep _ _ _) (by simp [Tm.cells, Value.oneCell']) qC qO qB (by have := HB.size; have := HB6.size; simp only [Aj]; omega) _ rfl ?_; intro gg cap w7 hown7 hgrow7 hat7 hlt7; have hne7 : some g ≠ Value.ownBlock v5 := (fun e => by have := Eu hHO.out.own _ e.symm; omega); replace e0 := hgrow7.cell (Au ((Ac w6.heap.size w6).alloc (Ad _) _) e0) hne7; replace e1 := hgrow7.cell (Au ((Ac w6.heap.size w6).alloc (Ad _) _) e1) hne7; replace e2 := hgrow7.cell (Au ((Ac w6.heap.size w6).alloc (Ad _) _) e2) hne7; replace e3 := hgrow7.cell (Au ((Ac w6.heap.size w6).alloc (Ad _) _) e3) hne7; replace e4 := hgrow7.cell (Au ((Ac w6.heap.size w6).alloc (Ad _) _) e4) hne7; replace e5 := hgrow7.cell (Au ((Ac w6.heap.size w6).alloc (Ad _) _) e5) hne7; replace e6 := hgrow7.cell (Au ((Ac w6.heap.size w6).alloc (Ad _) _) e6) hne7; replace e7 := hgrow7.cell (Au ((Ac w6.heap.size w6).alloc (Ad _) _) e7) hne7))
    have hz6 := HB6.size
    have hzo := HB.size
    have HO7 : Fu w7 wo.heap.size (.slice (some ⟨gg, 0, none⟩) (out.length + 1) cap) (fun j => if j = out.length then (⟨ge, ae, ne, ce, dg (x).2.1.natAbs, gf, af, nf, cf, dg (x).2.2.natAbs, (t).m0, (t).m1, (t).m2, (t).m3⟩ : Tm) else s j) (out ++ [x]) := by
     exact qFh
    have HB7 : Below wo.heap.size wo w7 := ((HB.trans (HB6.mono HB.size)).alloc qB _).grown hgrow7 (by simp only [Aj]; omega) (fun k hk => Eu hHO.out.own k hk)
    clear hown7 hgrow7 hat7 hfx hfx1 hfx2 hb6 HB6 e0 e1 e2 e3 e4 e5 e6 e7 hHO hfr hrd2 hne7 hz6 HO HB
    have hq := fun W => Ib W g o l.length c hc
    have HW2 : Hid (PW l ∧ PW [] ∧ Da K l ∧ Da K' []) := Ae ⟨HW.out.1.tl, HW.out.2.1, HW.out.2.2.1.tl, HW.out.2.2.2⟩
    have HE2 : Hid (Bt l0 l0' = (out ++ [x]) ++ Bt l []) := Ae (by rw [HE.out, I2, I2]; simp)
    clear HW HE
    go_wp2_with fail
    go_roundw
    case rel => exact ⟨some (tlA g o c), l.length, c - 1, l, a', 0, c', [], _, out ++ [x], rfl, rfl, hp.tail, hp', HW2, HE2, HO7, by simp only [List.length_append, List.length_singleton, List.length_cons, List.length_nil] at hlen ⊢; omega, HB7⟩
    case measure => (simp only [Mn]; omega)
   | cons y l' =>
    obtain ⟨g', o', t', rfl, rfl, hc', hat', hrd', hti'⟩ := hp'.head
    have hk1 : Dh t.m0 t.m1 t.m2 t.m3 = x.1 := hti.key
    have hk2 : Dh t'.m0 t'.m1 t'.m2 t'.m3 = y.1 := hti'.key
    have hlex := Oa hrd.s0 hrd.s1 hrd.s2 hrd.s3 hrd'.s0 hrd'.s1 hrd'.s2 hrd'.s3
    rw [hk1, hk2] at hlex
    have HLX := Ae hlex
    have HCmp : Hid (∀ W, Calls Tryz.prog 134 #[.int .u8 0, .agg #[.int .u16 t.m0, .int .u16 t.m1, .int .u16 t.m2, .int .u16 t.m3], .agg #[.int .u16 t'.m0, .int .u16 t'.m1, .int .u16 t'.m2, .int .u16 t'.m3]] W fun e w' => e = .returned (.int .i64 (Fk (Bw t.m0 t.m1 t.m2 t.m3) (Bw t'.m0 t'.m1 t'.m2 t'.m3))) ∧ Below W.heap.size W w') := Ae fun W => Qx W _ _ _ _ _ _ _ _ ⟨by omega, by have := hrd.s0; omega⟩ ⟨by omega, by have := hrd.s1; omega⟩ ⟨by omega, by have := hrd.s2; omega⟩ ⟨by omega, by have := hrd.s3; omega⟩ ⟨by omega, by have := hrd'.s0; omega⟩ ⟨by omega, by have := hrd'.s1; omega⟩ ⟨by omega, by have := hrd'.s2; omega⟩ ⟨by omega, by have := hrd'.s3; omega⟩
    clear hk1 hk2 hlex
    obtain ⟨e0, e1, e2, e3, e4, e5, e6, e7⟩ := hat.keep HB
    obtain ⟨i0', i1', i2', i3', i4', i5', i6', i7'⟩ := hat'.keep HB
    rcases (by omega : x.1 < y.1 ∨ y.1 < x.1 ∨ x.1 = y.1) with hlt | hlt | heq
    ·have hv : Fk (Bw t.m0 t.m1 t.m2 t.m3) (Bw t'.m0 t'.m1 t'.m2 t'.m3) = -1 := by rw [HLX.out]; exact Dm qB
     have HC := HCmp.out
     simp only [hv] at HC
     clear hv HLX HCmp
     replace e4 := A8 e4; replace e5 := A8 e5; replace e6 := A8 e6; replace e7 := A8 e7
     replace i4' := A8 i4'; replace i5' := A8 i5'; replace i6' := A8 i6'; replace i7' := A8 i7'
     clear e0 e1 e2 e3 i0' i1' i2' i3'
     go_wp2_with fail
     (refine A9 qG qG ?_; (repeat (go_big_quiet_step (first | (go_at_call 134; exact Cz (HC _))))); refine wpQuiet_nil ?_; intro _ hw0; obtain ⟨nq, hw0⟩ := hw0; subst hw0)
     obtain ⟨w3, hb3⟩ := nq
     try dsimp only
     clear e4 e5 e6 e7 i4' i5' i6' i7' HC
     replace HO := HO.keep hb3
     replace HB := HB.trans (hb3.mono HB.size)
     have hfr := (hti'.frac hrd' (HW.out.2.1.good y (List.mem_cons_self ..)).1).keep HB
     have hrd2 := hrd'.keep HB
     obtain ⟨e0, e1, e2, e3, e4, e5, e6, e7⟩ := hat'.keep HB
     have hTI := Ae hti'
     have hgB := Aa _ _ hat'.e0
     have hHO := Ae HO
     have hlen2 := hlen
     simp only [List.length_cons, List.length_nil] at hlen2
     have f1 := (HW.out.2.2.2 y (List.mem_cons_self ..)).1
     have f2 := (HW.out.2.2.2 y (List.mem_cons_self ..)).2
     have hs1 := hfr.top.rd.len
     have hs2 := hfr.low.rd.len
     have g1 : _ ≤ 1000000 := Ah (Nat.le_of_eq hs1.symm) (Ah f1 qB)
     have g2 : _ ≤ 1000000 := Ah (Nat.le_of_eq hs2.symm) (Ah f2 qB)
     clear f1 f2 hs1 hs2
     go_wp2_with fail
     go_region_held3 (fun W => W.cell? ⟨g', o', none⟩ = some (.bool (t').g1) ∧ W.cell? ⟨g', o' + 1, none⟩ = some (.slice (t').a1 (t').n1 (t').c1) ∧ W.cell? ⟨g', o' + 2, none⟩ = some (.bool (t').g2) ∧ W.cell? ⟨g', o' + 3, none⟩ = some (.slice (t').a2 (t').n2 (t').c2) ∧ W.cell? ⟨g', o' + 4, none⟩ = some (.int .u16 (t').m0) ∧ W.cell? ⟨g', o' + 5, none⟩ = some (.int .u16 (t').m1) ∧ W.cell? ⟨g', o' + 6, none⟩ = some (.int .u16 (t').m2) ∧ W.cell? ⟨g', o' + 7, none⟩ = some (.int .u16 (t').m3)) (first | ((try dsimp only); (repeat' apply And.intro); all_goals (first | (with_reducible assumption) | (go_keep; done) | (simp [*, go_sem]; done)))) (first
      | (go_at_call 135; (with_reducible refine (K0 _ _ _ _ _ _ _ _ _ _ _ (hfr.keep qF) g2 g1).mono ?_); rintro e w6 ⟨ge, ae, ne, ce, gf, af, nf, cf, rfl, hfx, hfx1, hfx2, hb6⟩; have HB6 := zD w3 hb6; replace e0 := Au HB6 e0; replace e1 := Au HB6 e1; replace e2 := Au HB6 e2; replace e3 := Au HB6 e3; replace e4 := Au HB6 e4; replace e5 := Au HB6 e5; replace e6 := Au HB6 e6; replace e7 := Au HB6 e7)
      | (refine step_append_lies _ qP _ _ _ qP wo.heap.size 68 i0 (.agg #[.bool false, .slice none 0 0, .bool false, .slice none 0 0, .int .u16 0, .int .u16 0, .int .u16 0, .int .u16 0]) 8 72 Tryz.underlying23 hi hz0 hz1 hz2 rfl qC _ out.length (Co s out.length) qP ((Bm hHO.out.own HB6).alloc _) ⟨w6.heap.size, 0, none⟩ 1 1 (Tm.cells ⟨ge, ae, ne, ce, dg (y).2.1.natAbs, gf, af, nf, cf, dg (y).2.2.natAbs, (t').m0, (t').m1, (t').m2, (t').m3⟩) qP qP (Ep _ _ _) (by simp [Tm.cells, Value.oneCell']) qC qO qB (by have := HB.size; have := HB6.size; simp only [Aj]; omega) _ rfl ?_; intro gg cap w7 hown7 hgrow7 hat7 hlt7; have hne7 : some g' ≠ Value.ownBlock v5 := (fun e => by have := Eu hHO.out.own _ e.symm; omega); replace e0 := hgrow7.cell (Au ((Ac w6.heap.size w6).alloc (Ad _) _) e0) hne7; replace e1 := hgrow7.cell (Au ((Ac w6.heap.size w6).alloc (Ad _) _) e1) hne7; replace e2 := hgrow7.cell (Au ((Ac w6.heap.size w6).alloc (Ad _) _) e2) hne7; replace e3 := hgrow7.cell (Au ((Ac w6.heap.size w6).alloc (Ad _) _) e3) hne7; replace e4 := hgrow7.cell (Au ((Ac w6.heap.size w6).alloc (Ad _) _) e4) hne7; replace e5 := hgrow7.cell (Au ((Ac w6.heap.size w6).alloc (Ad _) _) e5) hne7; replace e6 := hgrow7.cell (Au ((Ac w6.heap.size w6).alloc (Ad _) _) e6) hne7; replace e7 := hgrow7.cell (Au ((Ac w6.heap.size w6).alloc (Ad _) _) e7) hne7))
     have hz6 := HB6.size
     have hzo := HB.size
     have HO7 : Fu w7 wo.heap.size (.slice (some ⟨gg, 0, none⟩) (out.length + 1) cap) (fun j => if j = out.length then (⟨ge, ae, ne, ce, dg (y).2.1.natAbs, gf, af, nf, cf, dg (y).2.2.natAbs, (t').m0, (t').m1, (t').m2, (t').m3⟩ : Tm) else s j) (out ++ [y]) := by
      exact qFi
     have HB7 : Below wo.heap.size wo w7 := ((HB.trans (HB6.mono HB.size)).alloc qB _).grown hgrow7 (by simp only [Aj]; omega) (fun k hk => Eu hHO.out.own k hk)
     clear hown7 hgrow7 hat7 hfx hfx1 hfx2 hb6 HB6 e0 e1 e2 e3 e4 e5 e6 e7 hHO hfr hrd2 hne7 hz6 HO HB
     have hq := fun W => Ib W g' o' l'.length c' hc'
     have HW2 : Hid (PW (x :: l) ∧ PW l' ∧ Da K (x :: l) ∧ Da K' l') := Ae ⟨HW.out.1, HW.out.2.1.tl, HW.out.2.2.1, HW.out.2.2.2.tl⟩
     have HE2 : Hid (Bt l0 l0' = (out ++ [y]) ++ Bt (x :: l) l') := Ae (by rw [HE.out, Bt, if_neg qB, if_pos hlt]; simp)
     clear HW HE hlt
     go_wp2_with fail
     go_roundw
     case rel => exact ⟨some ⟨g, o, none⟩, l.length + 1, c, x :: l, some (tlA g' o' c'), l'.length, c' - 1, l', _, out ++ [y], rfl, rfl, hp, hp'.tail, HW2, HE2, HO7, by simp only [List.length_append, List.length_singleton, List.length_cons, List.length_nil] at hlen ⊢; omega, HB7⟩
     case measure => (simp only [Mn]; omega)
    ·have hv : Fk (Bw t.m0 t.m1 t.m2 t.m3) (Bw t'.m0 t'.m1 t'.m2 t'.m3) = 1 := by rw [HLX.out]; exact Ct qB
     have HC := HCmp.out
     simp only [hv] at HC
     clear hv HLX HCmp
     replace e4 := A8 e4; replace e5 := A8 e5; replace e6 := A8 e6; replace e7 := A8 e7
     replace i4' := A8 i4'; replace i5' := A8 i5'; replace i6' := A8 i6'; replace i7' := A8 i7'
     clear e0 e1 e2 e3 i0' i1' i2' i3'
     go_wp2_with fail
     (refine A9 qG qG ?_; (repeat (go_big_quiet_step (first | (go_at_call 134; exact Cz (HC _))))); refine wpQuiet_nil ?_; intro _ hw0; obtain ⟨nq, hw0⟩ := hw0; subst hw0)
     obtain ⟨w3, hb3⟩ := nq
     try dsimp only
     clear e4 e5 e6 e7 i4' i5' i6' i7' HC
     replace HO := HO.keep hb3
     replace HB := HB.trans (hb3.mono HB.size)
     have hfr := (hti.frac hrd (HW.out.1.good x (List.mem_cons_self ..)).1).keep HB
     have hrd2 := hrd.keep HB
     obtain ⟨e0, e1, e2, e3, e4, e5, e6, e7⟩ := hat.keep HB
     have hTI := Ae hti
     have hgB := Aa _ _ hat.e0
     have hHO := Ae HO
     have hlen2 := hlen
     simp only [List.length_cons, List.length_nil] at hlen2
     have f1 := (HW.out.2.2.1 x (List.mem_cons_self ..)).1
     have f2 := (HW.out.2.2.1 x (List.mem_cons_self ..)).2
     have hs1 := hfr.top.rd.len
     have hs2 := hfr.low.rd.len
     have g1 : _ ≤ 1000000 := Ah (Nat.le_of_eq hs1.symm) (Ah f1 qB)
     have g2 : _ ≤ 1000000 := Ah (Nat.le_of_eq hs2.symm) (Ah f2 qB)
     clear f1 f2 hs1 hs2
     go_wp2_with fail
     go_region_held3 (fun W => W.cell? ⟨g, o, none⟩ = some (.bool (t).g1) ∧ W.cell? ⟨g, o + 1, none⟩ = some (.slice (t).a1 (t).n1 (t).c1) ∧ W.cell? ⟨g, o + 2, none⟩ = some (.bool (t).g2) ∧ W.cell? ⟨g, o + 3, none⟩ = some (.slice (t).a2 (t).n2 (t).c2) ∧ W.cell? ⟨g, o + 4, none⟩ = some (.int .u16 (t).m0) ∧ W.cell? ⟨g, o + 5, none⟩ = some (.int .u16 (t).m1) ∧ W.cell? ⟨g, o + 6, none⟩ = some (.int .u16 (t).m2) ∧ W.cell? ⟨g, o + 7, none⟩ = some (.int .u16 (t).m3)) (first | ((try dsimp only); (repeat' apply And.intro); all_goals (first | (with_reducible assumption) | (go_keep; done) | (simp [*, go_sem]; done)))) (first
      | (go_at_call 135; (with_reducible refine (K0 _ _ _ _ _ _ _ _ _ _ _ (hfr.keep qF) g2 g1).mono ?_); rintro e w6 ⟨ge, ae, ne, ce, gf, af, nf, cf, rfl, hfx, hfx1, hfx2, hb6⟩; have HB6 := zD w3 hb6; replace e0 := Au HB6 e0; replace e1 := Au HB6 e1; replace e2 := Au HB6 e2; replace e3 := Au HB6 e3; replace e4 := Au HB6 e4; replace e5 := Au HB6 e5; replace e6 := Au HB6 e6; replace e7 := Au HB6 e7)
      | (refine step_append_lies _ qP _ _ _ qP wo.heap.size 68 i0 (.agg #[.bool false, .slice none 0 0, .bool false, .slice none 0 0, .int .u16 0, .int .u16 0, .int .u16 0, .int .u16 0]) 8 72 Tryz.underlying23 hi hz0 hz1 hz2 rfl qC _ out.length (Co s out.length) qP ((Bm hHO.out.own HB6).alloc _) ⟨w6.heap.size, 0, none⟩ 1 1 (Tm.cells ⟨ge, ae, ne, ce, dg (x).2.1.natAbs, gf, af, nf, cf, dg (x).2.2.natAbs, (t).m0, (t).m1, (t).m2, (t).m3⟩) qP qP (Ep _ _ _) (by simp [Tm.cells, Value.oneCell']) qC qO qB (by have := HB.size; have := HB6.size; simp only [Aj]; omega) _ rfl ?_; intro gg cap w7 hown7 hgrow7 hat7 hlt7; have hne7 : some g ≠ Value.ownBlock v5 := (fun e => by have := Eu hHO.out.own _ e.symm; omega); replace e0 := hgrow7.cell (Au ((Ac w6.heap.size w6).alloc (Ad _) _) e0) hne7; replace e1 := hgrow7.cell (Au ((Ac w6.heap.size w6).alloc (Ad _) _) e1) hne7; replace e2 := hgrow7.cell (Au ((Ac w6.heap.size w6).alloc (Ad _) _) e2) hne7; replace e3 := hgrow7.cell (Au ((Ac w6.heap.size w6).alloc (Ad _) _) e3) hne7; replace e4 := hgrow7.cell (Au ((Ac w6.heap.size w6).alloc (Ad _) _) e4) hne7; replace e5 := hgrow7.cell (Au ((Ac w6.heap.size w6).alloc (Ad _) _) e5) hne7; replace e6 := hgrow7.cell (Au ((Ac w6.heap.size w6).alloc (Ad _) _) e6) hne7; replace e7 := hgrow7.cell (Au ((Ac w6.heap.size w6).alloc (Ad _) _) e7) hne7))
     have hz6 := HB6.size
     have hzo := HB.size
     have HO7 : Fu w7 wo.heap.size (.slice (some ⟨gg, 0, none⟩) (out.length + 1) cap) (fun j => if j = out.length then (⟨ge, ae, ne, ce, dg (x).2.1.natAbs, gf, af, nf, cf, dg (x).2.2.natAbs, (t).m0, (t).m1, (t).m2, (t).m3⟩ : Tm) else s j) (out ++ [x]) := by
      exact qFi
     have HB7 : Below wo.heap.size wo w7 := ((HB.trans (HB6.mono HB.size)).alloc qB _).grown hgrow7 (by simp only [Aj]; omega) (fun k hk => Eu hHO.out.own k hk)
     clear hown7 hgrow7 hat7 hfx hfx1 hfx2 hb6 HB6 e0 e1 e2 e3 e4 e5 e6 e7 hHO hfr hrd2 hne7 hz6 HO HB
     have hq := fun W => Ib W g o l.length c hc
     have HW2 : Hid (PW l ∧ PW (y :: l') ∧ Da K l ∧ Da K' (y :: l')) := Ae ⟨HW.out.1.tl, HW.out.2.1, HW.out.2.2.1.tl, HW.out.2.2.2⟩
     have HE2 : Hid (Bt l0 l0' = (out ++ [x]) ++ Bt l (y :: l')) := Ae (by rw [HE.out, Bt, if_pos hlt]; simp)
     clear HW HE hlt
     go_wp2_with fail
     go_roundw
     case rel => exact ⟨some (tlA g o c), l.length, c - 1, l, some ⟨g', o', none⟩, l'.length + 1, c', y :: l', _, out ++ [x], rfl, rfl, hp.tail, hp', HW2, HE2, HO7, by simp only [List.length_append, List.length_singleton, List.length_cons, List.length_nil] at hlen ⊢; omega, HB7⟩
     case measure => (simp only [Mn]; omega)
    ·have hv : Fk (Bw t.m0 t.m1 t.m2 t.m3) (Bw t'.m0 t'.m1 t'.m2 t'.m3) = 0 := by rw [HLX.out, heq]; exact C9 _
     have HC := HCmp.out
     simp only [hv] at HC
     clear hv HLX HCmp
     replace e4 := A8 e4; replace e5 := A8 e5; replace e6 := A8 e6; replace e7 := A8 e7
     replace i4' := A8 i4'; replace i5' := A8 i5'; replace i6' := A8 i6'; replace i7' := A8 i7'
     clear e0 e1 e2 e3 i0' i1' i2' i3'
     go_wp2_with fail
     (refine A9 qG qG ?_; (repeat (go_big_quiet_step (first | (go_at_call 134; exact Cz (HC _))))); refine wpQuiet_nil ?_; intro _ hw0; obtain ⟨nq, hw0⟩ := hw0; subst hw0)
     obtain ⟨w3, hb3⟩ := nq
     try dsimp only
     clear e4 e5 e6 e7 i4' i5' i6' i7' HC
     replace HO := HO.keep hb3
     replace HB := HB.trans (hb3.mono HB.size)
     have hfx := (hti.frac hrd (HW.out.1.good x (List.mem_cons_self ..)).1).keep HB
     have hfy := (hti'.frac hrd' (HW.out.2.1.good y (List.mem_cons_self ..)).1).keep HB
     have fx := HW.out.2.2.1 x (List.mem_cons_self ..)
     have fy := HW.out.2.2.2 y (List.mem_cons_self ..)
     have b1 : t.n1 ≤ 1000000000 := by have h1 := fx.1; have h2 := hfx.top.rd.len; omega
     have b2 : t.n2 ≤ 1000000000 := by have h1 := fx.2; have h2 := hfx.low.rd.len; omega
     have b3 : t'.n1 ≤ 1000000000 := by have h1 := fy.1; have h2 := hfy.top.rd.len; omega
     have b4 : t'.n2 ≤ 1000000000 := by have h1 := fy.2; have h2 := hfy.low.rd.len; omega
     have HFEW := Ae (Cv.add (HW.out.1.good x (List.mem_cons_self ..)).1 (HW.out.2.1.good y (List.mem_cons_self ..)).1 fx fy)
     clear fx fy
     obtain ⟨e0, e1, e2, e3, e4, e5, e6, e7⟩ := hat.keep HB
     obtain ⟨i0', i1', i2', i3', i4', i5', i6', i7'⟩ := hat'.keep HB
     have hgl := Nat.lt_of_lt_of_le (Aa _ _ hat.e0) HB.size
     have hgl' := Nat.lt_of_lt_of_le (Aa _ _ hat'.e0) HB.size
     simp only at hgl hgl'
     have hne1 : ¬ g = w3.heap.size := by omega
     have hne2 : ¬ g' = w3.heap.size := by omega
     have hne3 : ¬ w3.heap.size = g := by omega
     have hne4 : ¬ w3.heap.size = g' := by omega
     go_upto_region 12 with fail
     go_cut [7] (fun v7 wc => fJ w3 wc (Hu x.2 y.2) v7)
     case first =>
      clear e4 e5 e6 e7 i4' i5' i6' i7'
      go_region_held3 (fun W => W.cell? ⟨g, o, none⟩ = some (.bool t.g1) ∧ W.cell? ⟨g, o + 1, none⟩ = some (.slice t.a1 t.n1 t.c1) ∧ W.cell? ⟨g, o + 2, none⟩ = some (.bool t.g2) ∧ W.cell? ⟨g, o + 3, none⟩ = some (.slice t.a2 t.n2 t.c2) ∧ W.cell? ⟨g', o', none⟩ = some (.bool t'.g1) ∧ W.cell? ⟨g', o' + 1, none⟩ = some (.slice t'.a1 t'.n1 t'.c1) ∧ W.cell? ⟨g', o' + 2, none⟩ = some (.bool t'.g2) ∧ W.cell? ⟨g', o' + 3, none⟩ = some (.slice t'.a2 t'.n2 t'.c2)) (first | ((try dsimp only); (repeat' apply And.intro); all_goals (first | (with_reducible assumption) | (go_keep; done) | (simp [*, go_sem]; done)))) (first
       | (go_at_call 136; (with_reducible refine (Wo (World.drew (World.alloc _ _)) _ _ _ _ _ _ _ _ _ _ (hfx.keep qF) _ _ _ _ _ _ _ _ _ _ (hfy.keep qF) b1 b2 b3 b4).mono ?_); rintro e w6 ⟨ge, ae, ne, ce, gf, af, nf, cf, rfl, hf6, hf61, hf62, hb6⟩; have HB6 := zD w3 hb6; replace e0 := Au HB6 e0; replace e1 := Au HB6 e1; replace e2 := Au HB6 e2; replace e3 := Au HB6 e3; replace i0' := Au HB6 i0'; replace i1' := Au HB6 i1'; replace i2' := Au HB6 i2'; replace i3' := Au HB6 i3'; have zc0 : w6.cell? ⟨w3.heap.size, 0, none⟩ = some (.bool false) := Au hb6 qJ; have zf0 : w6.frozen? ⟨w3.heap.size, 0, none⟩ = false := (Ab hb6 qJ).trans qJ; have zc1 : w6.cell? ⟨w3.heap.size, 1, none⟩ = some (.slice none 0 0) := Au hb6 qJ; have zf1 : w6.frozen? ⟨w3.heap.size, 1, none⟩ = false := (Ab hb6 qJ).trans qJ; have zc2 : w6.cell? ⟨w3.heap.size, 2, none⟩ = some (.bool false) := Au hb6 qJ; have zf2 : w6.frozen? ⟨w3.heap.size, 2, none⟩ = false := (Ab hb6 qJ).trans qJ; have zc3 : w6.cell? ⟨w3.heap.size, 3, none⟩ = some (.slice none 0 0) := Au hb6 qJ; have zf3 : w6.frozen? ⟨w3.heap.size, 3, none⟩ = false := (Ab hb6 qJ).trans qJ)
       | (go_at_call 136; (with_reducible refine (Wo _ _ _ _ _ _ _ _ _ _ _ (hfx.keep qF) _ _ _ _ _ _ _ _ _ _ (hfy.keep qF) b1 b2 b3 b4).mono ?_); rintro e w6 ⟨ge, ae, ne, ce, gf, af, nf, cf, rfl, hf6, hf61, hf62, hb6⟩; have HB6 := zD w3 hb6; replace e0 := Au HB6 e0; replace e1 := Au HB6 e1; replace e2 := Au HB6 e2; replace e3 := Au HB6 e3; replace i0' := Au HB6 i0'; replace i1' := Au HB6 i1'; replace i2' := Au HB6 i2'; replace i3' := Au HB6 i3'))
      ·go_wp2_with fail
       go_meet
       case rel =>
        exact ⟨_, _, _, _, _, _, _, _, _, rfl, HB6.size, by simp [go_sem], by simp [go_sem], by simp [go_sem], by simp [go_sem], hf6.keep ((Ac _ _).alloc (Ad _) _), Nw.mono (hf61.newA hf6.top.rd) qH, Nw.mono (hf62.newA hf6.low.rd) qH, HB6.alloc HB6.size _⟩
      ·go_wp2_with fail
       go_meet
       case rel =>
        have hT1 : w3.heap.size < (World.drew (World.alloc w3 (Obj.cells #[Value.bool false, Value.slice none 0 0, Value.bool false, Value.slice none 0 0] 64))).heap.size := by simp
        have m1 : Nw (w3.heap.size + 1) ne ae := Nw.mono (hf61.newA hf6.top.rd) qH
        have m2 : Nw (w3.heap.size + 1) nf af := Nw.mono (hf62.newA hf6.low.rd) qH
        exact ⟨_, _, _, _, _, _, _, _, _, rfl, Ad _, by simp [go_sem, zc0, zf0], by simp [go_sem, zc1, zf1], by simp [go_sem, zc2, zf2], by simp [go_sem, zc3, zf3], hf6.butR m1 m2 (Aw _ (Aw _ (Aw _ (Aw _ (Bc _ _))))) (fun k hk => by cases hk; exact Ag _), m1.mono (Nat.le_succ _), m2.mono (Nat.le_succ _), Vs HB6 _ (Ad _) _ _ _ _⟩
     case rest =>
      obtain ⟨b, ge, ae, ne, ce, gf, af, nf, cf, rfl, hbb, k0, k1, k2, k3, hfc, m1, m2, hbc⟩ := hcut
      have HV := Ae (fun gb e => (HO.own.lt gb e).2)
      have HOc := HO.keep hbc
      have HBc := HB.trans (hbc.mono HB.size)
      have hz3 := HB.size
      clear e0 e1 e2 e3 e4 e5 e6 e7 i0' i1' i2' i3' i4' i5' i6' i7' b1 b2 b3 b4 hfx hfy HO HB hne1 hne2 hne3 hne4 hgl hgl'
      have l1 : ne < 35184372088829 := by have h1 := HFEW.out.1; have h2 := hfc.top.rd.len; omega
      have l2 : nf < 35184372088829 := by have h1 := HFEW.out.2; have h2 := hfc.low.rd.len; omega
      have hq := fun W => Ib W g o l.length c hc
      have hq' := fun W => Ib W g' o' l'.length c' hc'
      have HW2 : Hid (PW l ∧ PW l' ∧ Da K l ∧ Da K' l') := Ae ⟨HW.out.1.tl, HW.out.2.1.tl, HW.out.2.2.1.tl, HW.out.2.2.2.tl⟩
      by_cases hz : (Hu x.2 y.2).1 = 0
      ·have hc0 : Br (Hu x.2 y.2).1 0 = 0 := by rw [hz, C9]
       have HE2 : Hid (Bt l0 l0' = out ++ Bt l l') := Ae (by rw [HE.out, Bt, if_neg qB, if_neg qB, if_pos hz])
       clear HW HE hz heq
       go_wp2_with (first | (go_at_call 41; refine (Fy wc ge ae ne ce _ gf af nf cf _ hfc l2 l1).mono ?_; rintro e w8 ⟨rfl, hb8⟩; rw [hc0]))
       go_roundw
       case rel => exact ⟨some (tlA g o c), l.length, c - 1, l, some (tlA g' o' c'), l'.length, c' - 1, l', s, out, rfl, rfl, hp.tail, hp'.tail, HW2, HE2, HOc.keep hb8, by simp only [List.length_cons] at hlen ⊢; omega, HBc.trans (hb8.mono HBc.size)⟩
       case measure => (simp only [Mn]; omega)
      ·have hc0 : (Br (Hu x.2 y.2).1 0 == 0) = false := by rw [beq_eq_false_iff_ne]; exact fun e => hz (En.1 e)
       have HE2 : Hid (Bt l0 l0' = (out ++ [(x.1, Hu x.2 y.2)]) ++ Bt l l') := Ae (by rw [HE.out, Bt, if_neg qB, if_neg qB, if_neg hz]; simp)
       clear HW HE hz
       go_wp2_with (first | (go_at_call 41; refine (Fy wc ge ae ne ce _ gf af nf cf _ hfc l2 l1).mono ?_; rintro e w8 ⟨rfl, hb8⟩))
       have HB8 := HBc.trans (hb8.mono HBc.size)
       obtain ⟨e0, e1, e2, e3, e4, e5, e6, e7⟩ := hat.keep HB8
       clear e0 e1 e2 e3
       replace k0 := Au hb8 k0; replace k1 := Au hb8 k1; replace k2 := Au hb8 k2; replace k3 := Au hb8 k3
       have hfx := hfc.keep hb8
       have hHO := Ae (HOc.keep hb8)
       have hgB := Aa _ _ hat.e0
       have hrd2 := Ae (And.intro hrd.s0 (And.intro hrd.s1 (And.intro hrd.s2 hrd.s3)))
       have hTI := Ae hti
       have hz8 := HB8.size
       have hlen2 := hlen
       simp only [List.length_cons] at hlen2
       have hne7 : ∀ q, some (⟨g, q, none⟩ : Addr).block ≠ Value.ownBlock v5 := fun q e => by have := Eu hHO.out.own _ e.symm; simp only at this hgB; omega
       have hne8 : ∀ q, some (⟨b, q, none⟩ : Addr).block ≠ Value.ownBlock v5 := fun q e => by have := HV.out _ e.symm; simp only at this; omega
       clear HOc hfc hb8 HBc hbc
       go_region_held3 (fun W => W.cell? ⟨g, o + 4, none⟩ = some (.int .u16 t.m0) ∧ W.cell? ⟨g, o + 5, none⟩ = some (.int .u16 t.m1) ∧ W.cell? ⟨g, o + 6, none⟩ = some (.int .u16 t.m2) ∧ W.cell? ⟨g, o + 7, none⟩ = some (.int .u16 t.m3) ∧ W.cell? ⟨b, 0, none⟩ = some (.bool ge) ∧ W.cell? ⟨b, 1, none⟩ = some (.slice ae ne ce) ∧ W.cell? ⟨b, 2, none⟩ = some (.bool gf) ∧ W.cell? ⟨b, 3, none⟩ = some (.slice af nf cf)) (first | ((try dsimp only); (repeat' apply And.intro); all_goals (first | (with_reducible assumption) | (go_keep; done) | (simp [*, go_sem]; done)))) (first
        | (refine step_append_lies _ qP _ _ _ qP wo.heap.size 68 i0 (.agg #[.bool false, .slice none 0 0, .bool false, .slice none 0 0, .int .u16 0, .int .u16 0, .int .u16 0, .int .u16 0]) 8 72 Tryz.underlying23 hi hz0 hz1 hz2 rfl qC _ out.length (Co s out.length) qP (Bm (hHO.out.own.alloc _) ((Ac _ _).drew)) ⟨w8.heap.size, 0, none⟩ 1 1 (Tm.cells ⟨ge, ae, ne, ce, dg (Hu x.2 y.2).1.natAbs, gf, af, nf, cf, dg (Hu x.2 y.2).2.natAbs, t.m0, t.m1, t.m2, t.m3⟩) qP qP (fun j u h => Ep w8 _ _ j u h) (by simp [Tm.cells, Value.oneCell']) qC qO qB qL _ rfl ?_; intro gg cap w7 hown7 hgrow7 hat7 hlt7; replace e4 := hgrow7.cell (Au (((Ac w8.heap.size w8).alloc (Ad _) _).drew) e4) (hne7 _); replace e5 := hgrow7.cell (Au (((Ac w8.heap.size w8).alloc (Ad _) _).drew) e5) (hne7 _); replace e6 := hgrow7.cell (Au (((Ac w8.heap.size w8).alloc (Ad _) _).drew) e6) (hne7 _); replace e7 := hgrow7.cell (Au (((Ac w8.heap.size w8).alloc (Ad _) _).drew) e7) (hne7 _); replace k0 := hgrow7.cell (Au (((Ac w8.heap.size w8).alloc (Ad _) _).drew) k0) (hne8 _); replace k1 := hgrow7.cell (Au (((Ac w8.heap.size w8).alloc (Ad _) _).drew) k1) (hne8 _); replace k2 := hgrow7.cell (Au (((Ac w8.heap.size w8).alloc (Ad _) _).drew) k2) (hne8 _); replace k3 := hgrow7.cell (Au (((Ac w8.heap.size w8).alloc (Ad _) _).drew) k3) (hne8 _)))
       have HO7 : Fu w7 wo.heap.size (.slice (some ⟨gg, 0, none⟩) (out.length + 1) cap) (fun j => if j = out.length then (⟨ge, ae, ne, ce, dg (Hu x.2 y.2).1.natAbs, gf, af, nf, cf, dg (Hu x.2 y.2).2.natAbs, t.m0, t.m1, t.m2, t.m3⟩ : Tm) else s j) (out ++ [(x.1, Hu x.2 y.2)]) := by
        refine Fu.add ((hHO.out.keep ((Ac _ _).alloc (Ad _) _)).keep ((Ac _ _).drew)) ⟨hfx.top.neg, rfl, hfx.low.neg, rfl, hTI.out.key⟩ ⟨(hfx.top.rd.alloc _).drew, (hfx.low.rd.alloc _).drew, hrd2.out.1, hrd2.out.2.1, hrd2.out.2.2.1, hrd2.out.2.2.2⟩ ⟨m1.mono hz3, m2.mono hz3⟩ (fun gb hgb => ⟨m1.ap (HV.out gb hgb), m2.ap (HV.out gb hgb)⟩) hgrow7 hown7 ?_
        rcases hat7 with h | h
        ·exact .inl h.symm
        ·exact .inr (congrArg some h)
       have HB7 : Below wo.heap.size wo w7 := (((HB8.alloc qB _).drew)).grown hgrow7 qL (fun k hk => Eu hHO.out.own k hk)
       clear hown7 hgrow7 hat7 e4 e5 e6 e7 k0 k1 k2 k3 hfx hHO hne7 hne8 HV
       go_wp2_with fail
       go_roundw
       case rel => exact ⟨some (tlA g o c), l.length, c - 1, l, some (tlA g' o' c'), l'.length, c' - 1, l', _, out ++ [(x.1, Hu x.2 y.2)], rfl, rfl, hp.tail, hp'.tail, HW2, HE2, HO7, by simp only [List.length_append, List.length_cons, List.length_nil] at hlen ⊢; omega, HB7⟩
       case measure => (simp only [Mn]; omega)
end Go.Proofs.YtdamegaedmckbaaGreatDoor
end
