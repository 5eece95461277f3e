/- Helpers: proofs that stand often. -/
import Derived.Test.YtdamegaedmckbaaGreatDoorProg
import Derived.WalkKit
import Derived.WalkLawsBesides
import Derived.WalkSpells
import Derived.Lib.Hide
import Derived.Handy
import Derived.ChangeKeysEq
import Derived.Maps.AppendAt
import Derived.Deep.RegionWith
import Derived.Deep.RegionHeld3
import Derived.Deep.QuietTactic
import Derived.BigQuiet
import Derived.StillTailTactics
import Derived.Lib.ItoaMem
import Derived.Lib.LaidTab
import Derived.Shelf.Strings.OnBuilder
import Derived.Shelf.Strings.Builder1
import Derived.Shelf.Strings.Builder2
import Derived.Shelf.Strconv.Itoa3
import Derived.Shelf.Strings.Repeat
import Derived.Shelf.Strings.Builder2Cap
import Derived.Shelf.LaysM
import Derived.Shelf.LaysC
import Derived.Lib.ItoaNum
import Derived.Lib.Repeat
import Derived.MapKept
import Derived.RangeFuncRecord
import Derived.Sort.Walk7a
import Derived.Deep.CutBlock
import Derived.Deep.RegionLaw
import Derived.Deep.LoopGhost
import Derived.Deep.DeepCutAuto
import Derived.Deep.AppendLies
import Derived.Shelf.Small.Bits
import Derived.Shelf.Strconv.AtoiAll
import Derived.Shelf.Pu.ParseUintPublic10
import Derived.Shelf.SlSortCmp.WholeK
import Derived.Shelf.SlSortCmp.NoneTotal
import Derived.Shelf.Spec.SlicesGrow
import Derived.Shelf.Strings.SlTrimAscii
import Derived.Shelf.Small.Wraps
import Derived.Shelf.Strings.Search1
import Derived.Maps.RangeWalk
import Derived.Maps.Views
import Derived.Maps.OwnSet
import Derived.DeepKeys4
import Derived.Laws.AppendOwnNone
import Derived.PlainAid
import Derived.Recover
import Derived.Defers
import Derived.Lib.Join
import Derived.Deep.Upon
import Derived.Sort.Row
import Derived.Deep.Slices
import Derived.ChangeSame
import Derived.OpenShut
import Derived.Laws.IdiomArrays
import Derived.SizedLaws
import Derived.Test.YtdamegaedmckbaaGreatDoorRows
import Derived.Stop.LaidErr
import Derived.RowKitTokens
import Derived.Test.YtdamegaedmckbaaGreatDoorCards
import Derived.Test.YtdamegaedmckbaaGreatDoorTie
import Derived.ProofKit
import Derived.WideKeyArgs
import Derived.Deep.DeepHandedRow
import Derived.JoinedOf
import Derived.JoinedCond
import Derived.KernelRfl
import Derived.RangeFuncBox
import Derived.RangeFuncNested
import Derived.RangeFuncBound
import Derived.RangeFuncCalls
import Derived.RangeFuncLeaves
import Derived.Shelf.Abstract
import Derived.Shelf.RegionOpen
import Derived.OwnWalkIn
import Derived.TacticsInMore
import Derived.LoopNIn
import Derived.LoopIn
import Derived.Laws.CopyOwn
import Derived.WalkMore
namespace Go.Proofs.YtdamegaedmckbaaGreatDoor
open Go.RowKit
abbrev Aa := @World.block_lt_of_cell?
abbrev Ab := @Below.frozen
abbrev Ac := @Below.refl
abbrev Ad := @Nat.le_refl
abbrev Ae := @Lib.hid
abbrev Af := @World.cell?_of_block
abbrev Ag := @Nat.lt_succ_self
abbrev Ah := @Nat.le_trans
abbrev Ai := @List.getElem?_eq_getElem
abbrev Aj := @World.size_alloc
abbrev Ak := @World.size_drew
abbrev Al := @Below.trans
abbrev Am := @World.size_setCell
abbrev An := @World.grownBy.cell
abbrev Ao := @List.mem_singleton
abbrev Aq := @Nat.eq_zero_or_pos
abbrev Ar := @Array.getElem?_eq_some_iff
abbrev As := @List.take_of_length_le
abbrev At := @Nat.mul_le_mul_left
theorem qA {p : Prop} (h : p := by go_size) : p := h
theorem qB {p : Prop} (h : p := by omega) : p := h
theorem qC {p : Prop} (h : p := by decide) : p := h
theorem qD {p : Prop} (h : p := by first | assumption | (simp [go_sem]; done) | (simp [*, go_sem]; done)) : p := h
theorem qE {p : Prop} (h : p := by first | assumption | (simp [go_sem]; done)) : p := h
theorem qF {p : Prop} (h : p := by go_grown) : p := h
theorem qG {p : Prop} (h : p := by kernel_rfl) : p := h
theorem qH {p : Prop} (h : p := by simp) : p := h
theorem qI {p : Prop} (h : p := by assumption) : p := h
theorem qJ {p : Prop} (h : p := by simp [go_sem]) : p := h
theorem qK {p : Prop} (h : p := by ((try dsimp only); (repeat' apply And.intro); all_goals (first | (with_reducible assumption) | (go_keep; done) | (simp [*, go_sem]; done)))) : p := h
theorem qL {p : Prop} (h : p := by simp; omega) : p := h
theorem qM {p : Prop} (h : p := by first | assumption | (simp [*, go_sem]; done)) : p := h
theorem qN {p : Prop} (h : p := by simp [*, go_sem]) : p := h
theorem qO {p : Prop} (h : p := by unfold maxLen; omega) : p := h
theorem qP {p : Prop} (h : p := by rfl) : p := h
theorem qQ {p : Prop} (h : p := by first | exact Ac _ _ | assumption | go_grown) : p := h
theorem qR {p : Prop} (h : p := by first | assumption | go_grown) : p := h
theorem qS {p : Prop} (h : p := by first | go_size | (simp; omega)) : p := h
theorem qT {p : Prop} (h : p := by first | rfl | simp) : p := h
theorem qU {p : Prop} (h : p := by first | go_size | omega | (simp; omega)) : p := h
theorem qV {W w1 : World} (hc : ∀ b o, b < W.heap.size → w1.cell? ⟨b, o, none⟩ = W.cell? ⟨b, o, none⟩) (b i : Nat) (v : Value) (h1 : b < W.heap.size := by go_size) (h2 : W.cell? ⟨b, i, none⟩ = some v := by first | assumption | (simp [go_sem]; done) | (simp [*, go_sem]; done)) : w1.cell? ⟨b, i, none⟩ = some v := (hc b i h1).trans h2
theorem qW {W w1 : World} (hf : ∀ b o, b < W.heap.size → w1.frozen? ⟨b, o, none⟩ = W.frozen? ⟨b, o, none⟩) (b i : Nat) (h1 : b < W.heap.size := by go_size) (h2 : W.frozen? ⟨b, i, none⟩ = false := by first | assumption | (simp [go_sem]; done) | (simp [*, go_sem]; done)) : w1.frozen? ⟨b, i, none⟩ = false := (hf b i h1).trans h2
theorem qX {W w1 : World} (hc : ∀ b o, b < W.heap.size → w1.cell? ⟨b, o, none⟩ = W.cell? ⟨b, o, none⟩) (b : Nat) (v u : Value) (h1 : b < W.heap.size := by go_size) (h2 : W.cell? ⟨b, 0, none⟩ = some v := by first | assumption | (simp [go_sem]; done) | (simp [*, go_sem]; done)) (h3 : W.cell? ⟨b, 1, none⟩ = some u := by first | assumption | (simp [go_sem]; done) | (simp [*, go_sem]; done)) : w1.cell? ⟨b, 0, none⟩ = some v ∧ w1.cell? ⟨b, 1, none⟩ = some u := ⟨(hc b 0 h1).trans h2, (hc b 1 h1).trans h3⟩
theorem qY {W w1 : World} (hc : ∀ b o, b < W.heap.size → w1.cell? ⟨b, o, none⟩ = W.cell? ⟨b, o, none⟩) (b : Nat) (v u : Value) (h1 : b < W.heap.size := by go_size) (h2 : W.cell? ⟨b, 2, none⟩ = some v := by first | assumption | (simp [go_sem]; done) | (simp [*, go_sem]; done)) (h3 : W.cell? ⟨b, 3, none⟩ = some u := by first | assumption | (simp [go_sem]; done) | (simp [*, go_sem]; done)) : w1.cell? ⟨b, 2, none⟩ = some v ∧ w1.cell? ⟨b, 3, none⟩ = some u := ⟨(hc b 2 h1).trans h2, (hc b 3 h1).trans h3⟩
theorem qZ {W w1 : World} (hc : ∀ b o, b < W.heap.size → w1.cell? ⟨b, o, none⟩ = W.cell? ⟨b, o, none⟩) (b : Nat) (h1 : b < W.heap.size := by go_size) (h2 : W.cell? ⟨b, 0, none⟩ = some (.bool false) := by first | assumption | (simp [go_sem]; done) | (simp [*, go_sem]; done)) (h3 : W.cell? ⟨b, 1, none⟩ = some (.slice none 0 0) := by first | assumption | (simp [go_sem]; done) | (simp [*, go_sem]; done)) : w1.cell? ⟨b, 0, none⟩ = some (.bool false) ∧ w1.cell? ⟨b, 1, none⟩ = some (.slice none 0 0) := ⟨(hc b 0 h1).trans h2, (hc b 1 h1).trans h3⟩
theorem zA {W w1 : World} (hf : ∀ b o, b < W.heap.size → w1.frozen? ⟨b, o, none⟩ = W.frozen? ⟨b, o, none⟩) (b : Nat) (h1 : b < W.heap.size := by go_size) (h2 : W.frozen? ⟨b, 0, none⟩ = false := by first | assumption | (simp [go_sem]; done) | (simp [*, go_sem]; done)) (h3 : W.frozen? ⟨b, 1, none⟩ = false := by first | assumption | (simp [go_sem]; done) | (simp [*, go_sem]; done)) : w1.frozen? ⟨b, 0, none⟩ = false ∧ w1.frozen? ⟨b, 1, none⟩ = false := ⟨(hf b 0 h1).trans h2, (hf b 1 h1).trans h3⟩
theorem zB {W w1 : World} (hf : ∀ b o, b < W.heap.size → w1.frozen? ⟨b, o, none⟩ = W.frozen? ⟨b, o, none⟩) (b : Nat) (h1 : b < W.heap.size := by go_size) (h2 : W.frozen? ⟨b, 2, none⟩ = false := by first | assumption | (simp [go_sem]; done) | (simp [*, go_sem]; done)) (h3 : W.frozen? ⟨b, 3, none⟩ = false := by first | assumption | (simp [go_sem]; done) | (simp [*, go_sem]; done)) : w1.frozen? ⟨b, 2, none⟩ = false ∧ w1.frozen? ⟨b, 3, none⟩ = false := ⟨(hf b 2 h1).trans h2, (hf b 3 h1).trans h3⟩
theorem zC {P : Nat → Prop} (h : ∀ i, i < 8 → P i) : P 0 ∧ P 1 ∧ P 2 ∧ P 3 ∧ P 4 ∧ P 5 ∧ P 6 ∧ P 7 := ⟨h 0 (by decide), h 1 (by decide), h 2 (by decide), h 3 (by decide), h 4 (by decide), h 5 (by decide), h 6 (by decide), h 7 (by decide)⟩
theorem zD (w : World) {W w1 : World} (hb : Below W.heap.size W w1) (h1 : Below w.heap.size w W := by go_grown) (h2 : w.heap.size ≤ W.heap.size := by go_size) : Below w.heap.size w w1 := h1.trans (hb.mono h2)
theorem qAa {p : Prop} (h : p := by
 have hul : u.L.length < 1000000000 := by have h1 := Cq hF.out; have h2 := HLN.out; omega
 have HT7 := Ae hT7
 have hsk := Ef u.L
 have hfl := Cq hF.out
 cases h42 : A6 (skp u.L) 42
 ·have hXn : Hid (Bo s0 = Kf false ⟨u.c, u.o, skp u.L, u.many⟩) := Ae (by rw [hX1.out, E3, HS.out, hF.out]; simp only [if_true]; rw [h42]; rfl)
  have hQn := Ae (Zz hQ.out hF.out (skp u.L) hsk)
  have hRn := Ae h42
  clear hT7
  go_wp2_with (first | (go_at_call 127; refine (Lv _ R u.L u.many HT7.out.rdr hul).mono ?_; rintro e w8 ⟨rfl, hr8, hg8⟩; have hT8 := HT7.out.rd hg8 hr8) | (go_at_call 129; refine (De _ R (skp u.L) u.many 42 hT8.rdr qB qB qB).mono ?_; rintro e w9 ⟨rfl, hr9, hg9⟩; rw [hRn.out] at hr9; simp only [hRn.out]; have hT9 := hT8.rd hg9 hr9))
  go_roundw
  case rel => exact ⟨false, ⟨u.c, u.o, skp u.L, u.many⟩, rfl, hXn, Ae hT9, hQn⟩
  case measure => rw [El hT9.rdr, hm0.out]; show (skp u.L).length < _; omega
 ·have hs2 := Ef (skp u.L).tail
  have hs3 : (skp u.L).tail.length ≤ (skp u.L).length := by simp
  have hXn : Hid (Bo s0 = Kf true ⟨u.c, u.o, skp (skp u.L).tail, u.many⟩) := Ae (by rw [hX1.out, E3, HS.out, hF.out]; simp only [if_true]; rw [h42]; rfl)
  have hQn := Ae (Zz hQ.out hF.out (skp (skp u.L).tail) qB)
  have hRn := Ae h42
  clear hT7
  go_wp2_with (first | (go_at_call 129; refine (De _ R (skp u.L) u.many 42 hT8.rdr qB qB qB).mono ?_; rintro e w9 ⟨rfl, hr9, hg9⟩; rw [hRn.out] at hr9; simp only [if_true] at hr9; simp only [hRn.out]; have hT9 := hT8.rd hg9 hr9) | (go_at_call 127; refine (Lv _ R (skp u.L).tail u.many hT9.rdr qB).mono ?_; rintro e wa ⟨rfl, hra, hga⟩; have hTa := hT9.rd hga hra) | (go_at_call 127; refine (Lv _ R u.L u.many HT7.out.rdr hul).mono ?_; rintro e w8 ⟨rfl, hr8, hg8⟩; have hT8 := HT7.out.rd hg8 hr8))
  go_roundw
  case rel => exact ⟨true, ⟨u.c, u.o, skp (skp u.L).tail, u.many⟩, rfl, hXn, Ae hTa, hQn⟩
  case measure => rw [El hTa.rdr, hm0.out]; show (skp (skp u.L).tail).length < _; omega) : p := h
theorem qAb {p : Prop} (h : p := by
 by_cases hlt : z.natAbs < z'.natAbs
 ·have hcm := Ae (Dm (x := (val (dg z.natAbs) : Int)) (y := val (dg z'.natAbs)) (by rw [Ba, Ba]; omega))
  go_wp2_with fail
  refine (Ek _ _ _ _ (dg z.natAbs) _ _ _ (dg z'.natAbs) (h.rd.keep HB) (h'.rd.keep HB) (Bp _) (Bp _)).mono ?_
  rintro e w3 ⟨rfl, hb⟩
  rw [hcm.out]
  have hbox3 := hbox.keep hb
  have e0 := hbox3.b01
  go_wp2_with fail
  refine (Lh _ _ _ _ (dg z.natAbs) (h.rd.keep hbox3.hb)).mono ?_
  rintro e w4 ⟨a4, c4, rfl, hr4, hf4, hb4⟩
  go_wp2_with fail
  go_meet
  case rel =>
   have hsz := hbox3.sz
   refine ⟨?_, ⟨a4, n, c4, _, rfl, hr4, Dj _, ?_, hf4.mono qB⟩, hbox3.keep hb4⟩
   ·rw [Nat.div_eq_of_lt hlt]; exact Hm.nil w w4
   ·rw [Ba, Nat.mod_eq_of_lt hlt]
 ·by_cases hone : n' = 1
  ·have hcm : 0 ≤ Br (val (dg z.natAbs)) (val (dg z'.natAbs)) := by
    rw [Ba, Ba]
    unfold Br
    rw [if_neg qB]
    split <;> omega
   obtain ⟨hl0, hlb⟩ := aW h'.rd.len hone
   have HL := Ae hl0
   obtain ⟨b', o', rfl, e1⟩ := h'.rd.at' (i := 0) qB
   rw [HL.out, Nat.add_zero] at e1
   have hzp : 0 < z'.natAbs := by omega
   have hd1 : ((n' : Int) == 1) = true := by rw [beq_iff_eq]; omega
   subst hone
   clear hl0
   go_wp2_with fail
   refine (Ek _ _ _ _ (dg z.natAbs) _ _ _ (dg z'.natAbs) (h.rd.keep HB) (h'.rd.keep HB) (Bp _) (Bp _)).mono ?_
   rintro e w3 ⟨rfl, hb⟩
   have hbox3 := hbox.keep hb
   have e0 := hbox3.b01
   have e2 := hbox3.b11
   have e3 := Au hbox3.hb e1
   clear hb HB hbox s0_0 s0_1 s1_0 s1_1 s2_0 s2_1 s3_0 s3_1 f2_0 f2_1 f3_0 f3_1
   go_wp2_with fail
   have hbox4 := hbox3.keep (Below.drew (Ac _ _))
   go_region_held3 (fun W => W.cell? ⟨w.heap.size, 1, none⟩ = some (.slice a n c) ∧ W.cell? ⟨w.heap.size + 1, 1, none⟩ = some (.slice (some ⟨b', o', none⟩) 1 c') ∧ W.cell? ⟨b', o', none⟩ = some (.int .u32 ((z'.natAbs : Nat) : Int))) (first | ((try dsimp only); (repeat' apply And.intro); all_goals (first | (with_reducible assumption) | (go_keep; done) | (simp [*, go_sem]; done)))) (first
    | (go_at_call 258; (with_reducible refine (Ws _ _ _ _ (dg z.natAbs) z'.natAbs (h.rd.keep hbox4.hb) (Dj _) hzp qB).mono ?_); rintro e w5 ⟨a5, q5, rfl, hr5, hv5, hl5, hf5, hb5⟩; have s0 := Au hb5 (Au (Below.drew (Ac _ _)) e0); have s1 := Au hb5 (Au (Below.drew (Ac _ _)) e2); have s2 := Au hb5 (Au (Below.drew (Ac _ _)) e3)))
   go_wp2_with fail
   go_meet
   case rel =>
    have hsz := hbox4.sz
    have hz5 := hb5.size
    have hbox5 := hbox4.keep hb5
    have hmod : z.natAbs % z'.natAbs < 1000000000 := Nat.lt_trans (Nat.mod_lt _ hzp) hlb
    rw [Ba] at hv5 ⊢
    have hba := (Ac w5.heap.size w5).alloc (Ad _) (.cells #[.int .u32 ((z.natAbs % z'.natAbs : Nat) : Int)] 112)
    refine ⟨⟨a5, n, n, q5, rfl, hr5.keep hba, hl5, hv5, (hf5.keep hba).mono qB⟩, ⟨some ⟨w5.heap.size, 0, none⟩, 1, 1, [z.natAbs % z'.natAbs], rfl, ?_, ?_, by simp [val], ?_⟩, hbox5.keep hba⟩
    ·refine ⟨rfl, Ad _, by omega, by omega, cQ _ qB, .inr ⟨w5.heap.size, 0, rfl, fun i hi => ?_⟩⟩
     obtain rfl : i = 0 := by omega
     simp [lim, go_sem]
    ·intro x hx; rw [Ao] at hx; omega
    ·exact .inr ⟨w5.heap.size, _, rfl, by omega, heap_alloc_new w5 _, by simp⟩
  ·have hd1 : ((n' : Int) == 1) = false := by rw [beq_eq_false_iff_ne]; omega
   have hcm : 0 ≤ Br (val (dg z.natAbs)) (val (dg z'.natAbs)) := by
    rw [Ba, Ba]
    unfold Br
    rw [if_neg qB]
    split <;> omega
   have hle : n' ≤ n := by
    have h1 := h.rd.len
    have h2 := h'.rd.len
    have h3 := Be (Nat.le_of_not_lt hlt)
    omega
   have h2 : 2 ≤ n' := by omega
   go_wp2_with fail
   refine (Ek _ _ _ _ (dg z.natAbs) _ _ _ (dg z'.natAbs) (h.rd.keep HB) (h'.rd.keep HB) (Bp _) (Bp _)).mono ?_
   rintro e w3 ⟨rfl, hb⟩
   have hcn : decide (Br (val (dg z.natAbs)) (val (dg z'.natAbs)) < 0) = false := decide_eq_false qB
   have hbox3 := hbox.keep hb
   have e0 := hbox3.b01
   have e2 := hbox3.b11
   go_wp2_with fail
   refine (aB _ _ _ _ (dg z.natAbs) _ _ _ (dg z'.natAbs) (h.rd.keep hbox3.hb) (h'.rd.keep hbox3.hb) (Bp _) (Bp _) h2 hle hb1).mono ?_
   rintro e w4 ⟨aq, kq, cq, lq, ar, kr, cr, lr, rfl, hq, hql, hqv, hr, hrl, hrv, hfq, hfr, hb4⟩
   rw [Ba, Ba] at hqv hrv
   have HQV := Ae hqv
   have HRV := Ae hrv
   clear hqv hrv
   go_wp2_with fail
   go_meet
   case rel =>
    have hsz := hbox3.sz
    exact ⟨⟨aq, kq, cq, lq, rfl, hq, hql, HQV.out, hfq.mono qB⟩, ⟨ar, kr, cr, lr, rfl, hr, hrl, HRV.out, hfr.mono qB⟩, hbox3.keep hb4⟩) : p := h
theorem qAc {p : Prop} (h : p := by
 obtain ⟨i0, hi, hz0, hz1, hz2⟩ := info_parts Cu
 have HD := Ae hD
 have HC := Ae hcall
 clear hD hcall
 go_enter Tryz.func271, Tryz.ntmps271
 go_wp2_with (refine wpList_make_full _ rfl _ _ 57 rfl w.heap.size 112 i0 (.int .u32 0) 1 Tryz.underlying57 hi hz0 hz1 .i64 .i64 _ _ m rfl rfl rfl rfl (by rw [hz2]; omega) qO (Ad _) ?_; intro w1 hown1 hgrow1)
 have HB : Below w.heap.size w w1 := (Ac _ _).grown hgrow1 (Ad _) (fun k h => by cases h)
 rw [Nat.mul_one, show Value.cells (.int .u32 0) = #[.int .u32 0] from rfl, toList_madeCells_one] at hown1
 clear hgrow1
 go_loopw [6, 7, 8, 13] (fun v6 _ _ v13 wr => ∃ (k : Nat) (on : Int), k ≤ m ∧ v13 = .int .i64 k ∧ v6 = .int .i64 on ∧ -5000000000 ≤ on ∧ on ≤ 5000000000 ∧ Hid (on = Cl D k / 1000000000 ^ k) ∧
   wr.ownsRow w.heap.size 112 1 (.slice (some ⟨w.heap.size, 0, none⟩) m m) m (Bv (fxI k (Cl D k)) ++ List.replicate (m - k) (.int .u32 0)) ∧ Below w.heap.size w wr) (fun _ _ _ v13 _ => m - (intOf v13).toNat)
 case atStart => exact ⟨0, 0, Nat.zero_le _, rfl, rfl, by omega, by omega, Ae (by simp [Cl]), by simpa [fxI, Bv] using hown1, HB⟩
 case round =>
  obtain ⟨k, on, hk, rfl, rfl, ho1, ho2, hon, hown, HB⟩ := hrel
  have HBz := HB.size
  have hlt1 := (hown.lt w.heap.size rfl).2
  clear hown1
  by_cases hlt : k < m
  ·have hDk := HD.out k hlt
   have hlen : (Bv (fxI k (Cl D k))).length = k := by rw [Cf, Ks]
   have hst : ∀ (W : World) (u : Value), W.ownsRow w.heap.size 112 1 (.slice (some ⟨w.heap.size, 0, none⟩) m m) m (Bv (fxI k (Cl D k)) ++ List.replicate (m - k) (.int .u32 0)) → (W.setCell ⟨w.heap.size, k, none⟩ u).ownsRow w.heap.size 112 1 (.slice (some ⟨w.heap.size, 0, none⟩) m m) m (Bv (fxI k (Cl D k)) ++ [u] ++ List.replicate (m - (k + 1)) (.int .u32 0)) := by
    intro W u h
    have := (h.stored k u).1
    rw [List.set_append_right _ _ qB, hlen, Nat.sub_self, show m - k = (m - (k + 1)) + 1 from by omega, List.replicate_succ, List.set_cons_zero] at this
    simpa using this
   have HST := Ae hst
   have hdig := Ae (Tn D k)
   have hdiv := Ae (Zg D k)
   clear hst hlen
   go_wp2_with fail
   refine (HC.out k wr hlt HB).mono ?_
   rintro e w2 ⟨rfl, hb⟩
   have hown2 := Bm hown hb
   have HB2 : Below w.heap.size w w2 := HB.trans (hb.mono HBz)
   have HBz2 := HB2.size
   have hlt2 := (hown2.lt w.heap.size rfl).2
   have hcell := hown2.cellAt k qB
   rw [List.getElem?_append_right (by rw [Cf, Ks]; omega), Cf, Ks, Nat.sub_self, List.getElem?_replicate, if_pos qB] at hcell
   have hfr := hown2.frozenAt k
   clear hown HB HBz hlt1
   obtain ⟨dk, hdk⟩ : ∃ dk, dk = D k := ⟨_, rfl⟩
   rw [← hdk] at hDk hdig hdiv ⊢
   have HDK := Ae hdk
   clear hdk
   by_cases hpos : 0 ≤ dk + on
   ·have hm1 : (0 : Int) ≤ (dk + on) % 1000000000 ∧ (dk + on) % 1000000000 < 1000000000 := by omega
    have hq1 : (0 : Int) ≤ (dk + on) / 1000000000 ∧ (dk + on) / 1000000000 ≤ 5000000000 := by omega
    obtain ⟨hm1, hm2⟩ := hm1
    obtain ⟨hq1, hq2⟩ := hq1
    go_wp2_with fail
    go_roundw
    case rel =>
     refine ⟨k + 1, _, by omega, by go_num, rfl, by omega, by omega, Ae (by rw [hdiv.out, ← hon.out]), ?_, by go_grown⟩
     have := HST.out w2 (.int .u32 ((dk + on) % 1000000000)) hown2
     rw [hdig.out, Ce, ← hon.out]
     have e : Bv [((dk + on) % 1000000000).toNat] = [.int .u32 ((dk + on) % 1000000000)] := by simp only [Bv, List.map_cons, List.map_nil]; rw [Int.toNat_of_nonneg hm1]
     rw [e]
     exact this
    case measure => (first | (simp [intOf]; omega) | (simp [intOf]; done))
   ·have ht := Zl (dk + on) qB
    have HT := Ae ht
    have hneg : dk + on < 0 := by omega
    clear hpos
    by_cases hz : (dk + on).tmod 1000000000 < 0
    ·have hm1 : -1000000000 < (dk + on).tmod 1000000000 := by rw [ht.2]; omega
     have hq1 : -5000000000 ≤ (dk + on).tdiv 1000000000 := by rw [ht.1]; omega
     have hq2 : (dk + on).tdiv 1000000000 ≤ 0 := by rw [ht.1]; omega
     clear ht
     go_wp2_with fail
     go_roundw
     case rel =>
      have ht := HT.out
      have e1 : (dk + on).tmod 1000000000 + 1000000000 = (dk + on) % 1000000000 := by rw [ht.2] at hz ⊢; omega
      have e2 : (dk + on).tdiv 1000000000 - 1 = (dk + on) / 1000000000 := by rw [ht.2] at hz; rw [ht.1]; omega
      refine ⟨k + 1, _, by omega, by go_num, rfl, by omega, by omega, Ae (by rw [hdiv.out, ← hon.out, e2]), ?_, by go_grown⟩
      have := HST.out w2 (.int .u32 ((dk + on).tmod 1000000000 + 1000000000)) hown2
      rw [hdig.out, Ce, ← hon.out]
      have e : Bv [((dk + on) % 1000000000).toNat] = [.int .u32 ((dk + on).tmod 1000000000 + 1000000000)] := by simp only [Bv, List.map_cons, List.map_nil]; rw [Int.toNat_of_nonneg qB, e1]
      rw [e]
      exact this
     case measure => (first | (simp [intOf]; omega) | (simp [intOf]; done))
    ·have hz0 : (dk + on).tmod 1000000000 = 0 := by rw [ht.2] at hz ⊢; omega
     have hq1 : -5000000000 ≤ (dk + on).tdiv 1000000000 := by rw [ht.1]; omega
     have hq2 : (dk + on).tdiv 1000000000 ≤ 0 := by rw [ht.1]; omega
     clear ht hz
     go_wp2_with fail
     go_roundw
     case rel =>
      have ht := HT.out
      have e1 : (dk + on) % 1000000000 = 0 := by rw [ht.2] at hz0; omega
      have e2 : (dk + on).tdiv 1000000000 = (dk + on) / 1000000000 := by rw [ht.1]; omega
      refine ⟨k + 1, _, by omega, by go_num, rfl, by omega, by omega, Ae (by rw [hdiv.out, ← hon.out, e2]), ?_, by go_grown⟩
      have := HST.out w2 (.int .u32 0) hown2
      rw [hdig.out, Ce, ← hon.out, e1]
      exact this
     case measure => (first | (simp [intOf]; omega) | (simp [intOf]; done))
  ·obtain rfl : k = m := by omega
   go_wp2_with fail
   go_ret
   rw [Nat.sub_self, List.replicate_zero, List.append_nil] at hown
   refine ⟨_, rfl, Cr hown hm (fun i => ?_), .of_owns hown, HB⟩
   by_cases hi2 : i < (fxI k (Cl D k)).length
   ·have := Lz k (Cl D k) _ (List.getElem_mem hi2)
    simp only [lim, List.getD, Ai hi2, Option.getD_some]
    omega
   ·simp only [lim, List.getD, List.getElem?_eq_none (Nat.le_of_not_lt hi2), Option.getD_none]
    omega) : p := h
theorem qAd {p : Prop} (h : p := by
 clear hd
 have hk5 : R < w5.heap.size := by have := F5.sz; omega
 go_upto_region 15 with fail
 refine Ck ?_
 intro w6 h6
 have D6 : Bh w6 R L (k + 1) 0 true := by rw [h6]; exact (D5.set3 true).allocR _
 have F6 : Dw w w6 R t := by rw [h6]; exact (F5.next (Aw _ (Bc _ _)) hRw).alloc _ hRw
 have n0 : w6.cell? ⟨w5.heap.size, 0, none⟩ = some (.int .u16 (r0 : Nat)) := by rw [h6, HR.out.1]; simp [go_sem, hk5]
 have n1 : w6.cell? ⟨w5.heap.size, 1, none⟩ = some (.int .u16 (r1 : Nat)) := by rw [h6, HR.out.2.1]; simp [go_sem, hk5]
 have n2 : w6.cell? ⟨w5.heap.size, 2, none⟩ = some (.int .u16 (r2 : Nat)) := by rw [h6, HR.out.2.2.1]; simp [go_sem, hk5]
 have n3 : w6.cell? ⟨w5.heap.size, 3, none⟩ = some (.int .u16 (r3 : Nat)) := by rw [h6, HR.out.2.2.2]; simp [go_sem, hk5]
 clear h6 D5 F5 y3 z3 hk5
 have hk0 : w.heap.size < w6.heap.size := by have := F6.sz; omega
 have hk1 : w.heap.size + 1 < w6.heap.size := by have := F6.sz; omega
 have hkR : R < w6.heap.size := by omega
 have hkn : ¬ R = w.heap.size := by omega
 have hkm : ¬ R = w.heap.size + 1 := by omega
 obtain ⟨b0, b1, b2, b3, b4, b5, b6, b7⟩ := F6.tm
 simp only [Nat.zero_add] at b0 b1 b2 b3 b4 b5 b6 b7
 obtain ⟨a0, a1, a2, a3, a4, a5, a6, a7⟩ := F6.sm
 simp only [Nat.zero_add, zTm] at a0 a1 a2 a3 a4 a5 a6 a7
 obtain ⟨p0, p1, p2, p3, p4, p5, p6, p7⟩ := zC F6.tf
 obtain ⟨o0, o1, o2, o3, o4, o5, o6, o7⟩ := zC F6.sf
 go_upto_region 16 with fail
 clear hk0 hk1 hkR hkn hkm b0 b1 b2 b3 b4 b5 b6 b7 a0 a1 a2 a3 a4 a5 a6 a7 p0 p1 p2 p3 p4 p5 p6 p7 o0 o1 o2 o3 o4 o5 o6 o7
 have D7 := D6.setT w.heap.size qB (.int .u16 (r0 : Nat)) (.int .u16 (r1 : Nat)) (.int .u16 (r2 : Nat)) (.int .u16 (r3 : Nat))
 have F7 := F6.setM r0 r1 r2 r3
 clear D6 F6 n0 n1 n2 n3
 generalize (((w6.setCell ⟨w.heap.size, 4, none⟩ (.int .u16 (r0 : Nat))).setCell ⟨w.heap.size, 5, none⟩ (.int .u16 (r1 : Nat))).setCell ⟨w.heap.size, 6, none⟩ (.int .u16 (r2 : Nat))).setCell ⟨w.heap.size, 7, none⟩ (.int .u16 (r3 : Nat)) = w7 at *
 obtain ⟨t', ht'⟩ : ∃ t', t' = { t with m0 := r0, m1 := r1, m2 := r2, m3 := r3 } := ⟨_, rfl⟩
 rw [← ht'] at F7 HX
 have HT := Ae ht'
 clear ht'
 have hk0 : w.heap.size < w7.heap.size := by have := F7.sz; omega
 have hk1 : w.heap.size + 1 < w7.heap.size := by have := F7.sz; omega
 have hkR : R < w7.heap.size := by omega
 have hkn : ¬ R = w.heap.size := by omega
 have hkm : ¬ R = w.heap.size + 1 := by omega
 obtain ⟨b0, b1, b2, b3, b4, b5, b6, b7⟩ := F7.tm
 simp only [Nat.zero_add] at b0 b1 b2 b3 b4 b5 b6 b7
 obtain ⟨a0, a1, a2, a3, a4, a5, a6, a7⟩ := F7.sm
 simp only [Nat.zero_add, zTm] at a0 a1 a2 a3 a4 a5 a6 a7
 obtain ⟨p0, p1, p2, p3, p4, p5, p6, p7⟩ := zC F7.tf
 obtain ⟨o0, o1, o2, o3, o4, o5, o6, o7⟩ := zC F7.sf
 go_wp2_with fail
 refine bodyPost_ret (v := t'.val) (by simp [results, Tryz.results133, go_sem, a0, a1, a2, a3, a4, a5, a6, a7, o0, o1, o2, o3, o4, o5, o6, o7, hk1]) rfl ?_
 have hg9 := C7 F7.grown (w.heap.size + 1) qB (.bool t'.g1) (.slice t'.a1 t'.n1 t'.c1) (.bool t'.g2) (.slice t'.a2 t'.n2 t'.c2) (.int .u16 t'.m0) (.int .u16 t'.m1) (.int .u16 t'.m2) (.int .u16 t'.m3)
 exact ⟨t', c, (k + 1), 0, true, rfl, hkk.out, hg9, D7.setS _ qB _ _ _ _ _ _ _ _, FT.setE HT.out ((hF.grown hg9 hRB).mono qB) HB.out, HX.out⟩) : p := h
theorem qAe {p : Prop} (h : p := by
 clear hd
 have hk5 : R < w5.heap.size := by have := F5.sz; omega
 go_upto_region 15 with fail
 refine Ck ?_
 intro w6 h6
 have D6 : Bh w6 R L kp ep true := by rw [h6]; exact (D5.set3 true).allocR _
 have F6 : Dw w w6 R t := by rw [h6]; exact (F5.next (Aw _ (Bc _ _)) hRw).alloc _ hRw
 have n0 : w6.cell? ⟨w5.heap.size, 0, none⟩ = some (.int .u16 (r0 : Nat)) := by rw [h6, HR.out.1]; simp [go_sem, hk5]
 have n1 : w6.cell? ⟨w5.heap.size, 1, none⟩ = some (.int .u16 (r1 : Nat)) := by rw [h6, HR.out.2.1]; simp [go_sem, hk5]
 have n2 : w6.cell? ⟨w5.heap.size, 2, none⟩ = some (.int .u16 (r2 : Nat)) := by rw [h6, HR.out.2.2.1]; simp [go_sem, hk5]
 have n3 : w6.cell? ⟨w5.heap.size, 3, none⟩ = some (.int .u16 (r3 : Nat)) := by rw [h6, HR.out.2.2.2]; simp [go_sem, hk5]
 clear h6 D5 F5 y3 z3 hk5
 have hk0 : w.heap.size < w6.heap.size := by have := F6.sz; omega
 have hk1 : w.heap.size + 1 < w6.heap.size := by have := F6.sz; omega
 have hkR : R < w6.heap.size := by omega
 have hkn : ¬ R = w.heap.size := by omega
 have hkm : ¬ R = w.heap.size + 1 := by omega
 obtain ⟨b0, b1, b2, b3, b4, b5, b6, b7⟩ := F6.tm
 simp only [Nat.zero_add] at b0 b1 b2 b3 b4 b5 b6 b7
 obtain ⟨a0, a1, a2, a3, a4, a5, a6, a7⟩ := F6.sm
 simp only [Nat.zero_add, zTm] at a0 a1 a2 a3 a4 a5 a6 a7
 obtain ⟨p0, p1, p2, p3, p4, p5, p6, p7⟩ := zC F6.tf
 obtain ⟨o0, o1, o2, o3, o4, o5, o6, o7⟩ := zC F6.sf
 go_upto_region 16 with fail
 clear hk0 hk1 hkR hkn hkm b0 b1 b2 b3 b4 b5 b6 b7 a0 a1 a2 a3 a4 a5 a6 a7 p0 p1 p2 p3 p4 p5 p6 p7 o0 o1 o2 o3 o4 o5 o6 o7
 have D7 := D6.setT w.heap.size qB (.int .u16 (r0 : Nat)) (.int .u16 (r1 : Nat)) (.int .u16 (r2 : Nat)) (.int .u16 (r3 : Nat))
 have F7 := F6.setM r0 r1 r2 r3
 clear D6 F6 n0 n1 n2 n3
 generalize (((w6.setCell ⟨w.heap.size, 4, none⟩ (.int .u16 (r0 : Nat))).setCell ⟨w.heap.size, 5, none⟩ (.int .u16 (r1 : Nat))).setCell ⟨w.heap.size, 6, none⟩ (.int .u16 (r2 : Nat))).setCell ⟨w.heap.size, 7, none⟩ (.int .u16 (r3 : Nat)) = w7 at *
 obtain ⟨t', ht'⟩ : ∃ t', t' = { t with m0 := r0, m1 := r1, m2 := r2, m3 := r3 } := ⟨_, rfl⟩
 rw [← ht'] at F7 HX
 have HT := Ae ht'
 clear ht'
 have hk0 : w.heap.size < w7.heap.size := by have := F7.sz; omega
 have hk1 : w.heap.size + 1 < w7.heap.size := by have := F7.sz; omega
 have hkR : R < w7.heap.size := by omega
 have hkn : ¬ R = w.heap.size := by omega
 have hkm : ¬ R = w.heap.size + 1 := by omega
 obtain ⟨b0, b1, b2, b3, b4, b5, b6, b7⟩ := F7.tm
 simp only [Nat.zero_add] at b0 b1 b2 b3 b4 b5 b6 b7
 obtain ⟨a0, a1, a2, a3, a4, a5, a6, a7⟩ := F7.sm
 simp only [Nat.zero_add, zTm] at a0 a1 a2 a3 a4 a5 a6 a7
 obtain ⟨p0, p1, p2, p3, p4, p5, p6, p7⟩ := zC F7.tf
 obtain ⟨o0, o1, o2, o3, o4, o5, o6, o7⟩ := zC F7.sf
 go_wp2_with fail
 refine bodyPost_ret (v := t'.val) (by simp [results, Tryz.results133, go_sem, a0, a1, a2, a3, a4, a5, a6, a7, o0, o1, o2, o3, o4, o5, o6, o7, hk1]) rfl ?_
 have hg9 := C7 F7.grown (w.heap.size + 1) qB (.bool t'.g1) (.slice t'.a1 t'.n1 t'.c1) (.bool t'.g2) (.slice t'.a2 t'.n2 t'.c2) (.int .u16 t'.m0) (.int .u16 t'.m1) (.int .u16 t'.m2) (.int .u16 t'.m3)
 exact ⟨t', c, kp, ep, true, rfl, hkk.out, hg9, D7.setS _ qB _ _ _ _ _ _ _ _, FT.setE HT.out ((hF.grown hg9 hRB).mono qB) HB.out, HX.out⟩) : p := h
theorem qAf {p : Prop} (h : p := by
 clear hd
 go_upto_region 15 with fail
 refine Ck ?_
 intro w6 h6
 have D6 : Bh w6 R L (k + 1) 0 m0 := by rw [h6]; exact D5.allocR _
 have F6 : Dw w w6 R t := by rw [h6]; exact F5.alloc _ hRw
 have n0 : w6.cell? ⟨w5.heap.size, 0, none⟩ = some (.int .u16 (r0 : Nat)) := by rw [h6, HR.out.1]; simp [go_sem]
 have n1 : w6.cell? ⟨w5.heap.size, 1, none⟩ = some (.int .u16 (r1 : Nat)) := by rw [h6, HR.out.2.1]; simp [go_sem]
 have n2 : w6.cell? ⟨w5.heap.size, 2, none⟩ = some (.int .u16 (r2 : Nat)) := by rw [h6, HR.out.2.2.1]; simp [go_sem]
 have n3 : w6.cell? ⟨w5.heap.size, 3, none⟩ = some (.int .u16 (r3 : Nat)) := by rw [h6, HR.out.2.2.2]; simp [go_sem]
 clear h6 D5 F5 y3 z3
 have hk0 : w.heap.size < w6.heap.size := by have := F6.sz; omega
 have hk1 : w.heap.size + 1 < w6.heap.size := by have := F6.sz; omega
 have hkR : R < w6.heap.size := by omega
 have hkn : ¬ R = w.heap.size := by omega
 have hkm : ¬ R = w.heap.size + 1 := by omega
 obtain ⟨b0, b1, b2, b3, b4, b5, b6, b7⟩ := F6.tm
 simp only [Nat.zero_add] at b0 b1 b2 b3 b4 b5 b6 b7
 obtain ⟨a0, a1, a2, a3, a4, a5, a6, a7⟩ := F6.sm
 simp only [Nat.zero_add, zTm] at a0 a1 a2 a3 a4 a5 a6 a7
 obtain ⟨p0, p1, p2, p3, p4, p5, p6, p7⟩ := zC F6.tf
 obtain ⟨o0, o1, o2, o3, o4, o5, o6, o7⟩ := zC F6.sf
 go_upto_region 16 with fail
 clear hk0 hk1 hkR hkn hkm b0 b1 b2 b3 b4 b5 b6 b7 a0 a1 a2 a3 a4 a5 a6 a7 p0 p1 p2 p3 p4 p5 p6 p7 o0 o1 o2 o3 o4 o5 o6 o7
 have D7 := D6.setT w.heap.size qB (.int .u16 (r0 : Nat)) (.int .u16 (r1 : Nat)) (.int .u16 (r2 : Nat)) (.int .u16 (r3 : Nat))
 have F7 := F6.setM r0 r1 r2 r3
 clear D6 F6 n0 n1 n2 n3
 generalize (((w6.setCell ⟨w.heap.size, 4, none⟩ (.int .u16 (r0 : Nat))).setCell ⟨w.heap.size, 5, none⟩ (.int .u16 (r1 : Nat))).setCell ⟨w.heap.size, 6, none⟩ (.int .u16 (r2 : Nat))).setCell ⟨w.heap.size, 7, none⟩ (.int .u16 (r3 : Nat)) = w7 at *
 obtain ⟨t', ht'⟩ : ∃ t', t' = { t with m0 := r0, m1 := r1, m2 := r2, m3 := r3 } := ⟨_, rfl⟩
 rw [← ht'] at F7 HX
 have HT := Ae ht'
 clear ht'
 have hk0 : w.heap.size < w7.heap.size := by have := F7.sz; omega
 have hk1 : w.heap.size + 1 < w7.heap.size := by have := F7.sz; omega
 have hkR : R < w7.heap.size := by omega
 have hkn : ¬ R = w.heap.size := by omega
 have hkm : ¬ R = w.heap.size + 1 := by omega
 obtain ⟨b0, b1, b2, b3, b4, b5, b6, b7⟩ := F7.tm
 simp only [Nat.zero_add] at b0 b1 b2 b3 b4 b5 b6 b7
 obtain ⟨a0, a1, a2, a3, a4, a5, a6, a7⟩ := F7.sm
 simp only [Nat.zero_add, zTm] at a0 a1 a2 a3 a4 a5 a6 a7
 obtain ⟨p0, p1, p2, p3, p4, p5, p6, p7⟩ := zC F7.tf
 obtain ⟨o0, o1, o2, o3, o4, o5, o6, o7⟩ := zC F7.sf
 go_wp2_with fail
 refine bodyPost_ret (v := t'.val) (by simp [results, Tryz.results133, go_sem, a0, a1, a2, a3, a4, a5, a6, a7, o0, o1, o2, o3, o4, o5, o6, o7, hk1]) rfl ?_
 have hg9 := C7 F7.grown (w.heap.size + 1) qB (.bool t'.g1) (.slice t'.a1 t'.n1 t'.c1) (.bool t'.g2) (.slice t'.a2 t'.n2 t'.c2) (.int .u16 t'.m0) (.int .u16 t'.m1) (.int .u16 t'.m2) (.int .u16 t'.m3)
 exact ⟨t', c, (k + 1), 0, m0, rfl, hkk.out, hg9, D7.setS _ qB _ _ _ _ _ _ _ _, FT.setE HT.out ((hF.grown hg9 hRB).mono qB) HB.out, HX.out⟩) : p := h
theorem qAg {p : Prop} (h : p := by
 clear hd
 go_upto_region 15 with fail
 refine Ck ?_
 intro w6 h6
 have D6 : Bh w6 R L kp ep mp := by rw [h6]; exact D5.allocR _
 have F6 : Dw w w6 R t := by rw [h6]; exact F5.alloc _ hRw
 have n0 : w6.cell? ⟨w5.heap.size, 0, none⟩ = some (.int .u16 (r0 : Nat)) := by rw [h6, HR.out.1]; simp [go_sem]
 have n1 : w6.cell? ⟨w5.heap.size, 1, none⟩ = some (.int .u16 (r1 : Nat)) := by rw [h6, HR.out.2.1]; simp [go_sem]
 have n2 : w6.cell? ⟨w5.heap.size, 2, none⟩ = some (.int .u16 (r2 : Nat)) := by rw [h6, HR.out.2.2.1]; simp [go_sem]
 have n3 : w6.cell? ⟨w5.heap.size, 3, none⟩ = some (.int .u16 (r3 : Nat)) := by rw [h6, HR.out.2.2.2]; simp [go_sem]
 clear h6 D5 F5 y3 z3
 have hk0 : w.heap.size < w6.heap.size := by have := F6.sz; omega
 have hk1 : w.heap.size + 1 < w6.heap.size := by have := F6.sz; omega
 have hkR : R < w6.heap.size := by omega
 have hkn : ¬ R = w.heap.size := by omega
 have hkm : ¬ R = w.heap.size + 1 := by omega
 obtain ⟨b0, b1, b2, b3, b4, b5, b6, b7⟩ := F6.tm
 simp only [Nat.zero_add] at b0 b1 b2 b3 b4 b5 b6 b7
 obtain ⟨a0, a1, a2, a3, a4, a5, a6, a7⟩ := F6.sm
 simp only [Nat.zero_add, zTm] at a0 a1 a2 a3 a4 a5 a6 a7
 obtain ⟨p0, p1, p2, p3, p4, p5, p6, p7⟩ := zC F6.tf
 obtain ⟨o0, o1, o2, o3, o4, o5, o6, o7⟩ := zC F6.sf
 go_upto_region 16 with fail
 clear hk0 hk1 hkR hkn hkm b0 b1 b2 b3 b4 b5 b6 b7 a0 a1 a2 a3 a4 a5 a6 a7 p0 p1 p2 p3 p4 p5 p6 p7 o0 o1 o2 o3 o4 o5 o6 o7
 have D7 := D6.setT w.heap.size qB (.int .u16 (r0 : Nat)) (.int .u16 (r1 : Nat)) (.int .u16 (r2 : Nat)) (.int .u16 (r3 : Nat))
 have F7 := F6.setM r0 r1 r2 r3
 clear D6 F6 n0 n1 n2 n3
 generalize (((w6.setCell ⟨w.heap.size, 4, none⟩ (.int .u16 (r0 : Nat))).setCell ⟨w.heap.size, 5, none⟩ (.int .u16 (r1 : Nat))).setCell ⟨w.heap.size, 6, none⟩ (.int .u16 (r2 : Nat))).setCell ⟨w.heap.size, 7, none⟩ (.int .u16 (r3 : Nat)) = w7 at *
 obtain ⟨t', ht'⟩ : ∃ t', t' = { t with m0 := r0, m1 := r1, m2 := r2, m3 := r3 } := ⟨_, rfl⟩
 rw [← ht'] at F7 HX
 have HT := Ae ht'
 clear ht'
 have hk0 : w.heap.size < w7.heap.size := by have := F7.sz; omega
 have hk1 : w.heap.size + 1 < w7.heap.size := by have := F7.sz; omega
 have hkR : R < w7.heap.size := by omega
 have hkn : ¬ R = w.heap.size := by omega
 have hkm : ¬ R = w.heap.size + 1 := by omega
 obtain ⟨b0, b1, b2, b3, b4, b5, b6, b7⟩ := F7.tm
 simp only [Nat.zero_add] at b0 b1 b2 b3 b4 b5 b6 b7
 obtain ⟨a0, a1, a2, a3, a4, a5, a6, a7⟩ := F7.sm
 simp only [Nat.zero_add, zTm] at a0 a1 a2 a3 a4 a5 a6 a7
 obtain ⟨p0, p1, p2, p3, p4, p5, p6, p7⟩ := zC F7.tf
 obtain ⟨o0, o1, o2, o3, o4, o5, o6, o7⟩ := zC F7.sf
 go_wp2_with fail
 refine bodyPost_ret (v := t'.val) (by simp [results, Tryz.results133, go_sem, a0, a1, a2, a3, a4, a5, a6, a7, o0, o1, o2, o3, o4, o5, o6, o7, hk1]) rfl ?_
 have hg9 := C7 F7.grown (w.heap.size + 1) qB (.bool t'.g1) (.slice t'.a1 t'.n1 t'.c1) (.bool t'.g2) (.slice t'.a2 t'.n2 t'.c2) (.int .u16 t'.m0) (.int .u16 t'.m1) (.int .u16 t'.m2) (.int .u16 t'.m3)
 exact ⟨t', c, kp, ep, mp, rfl, hkk.out, hg9, D7.setS _ qB _ _ _ _ _ _ _ _, FT.setE HT.out ((hF.grown hg9 hRB).mono qB) HB.out, HX.out⟩) : p := h
theorem qAh {p : Prop} (h : p := by
 cases again
 ·have hbeg := fun (W : World) (hr : By W R st.L st.many) => Ku W R st.L st.many hr hlen
  simp only [hs] at hbeg
  have hXX : Hid (Bo s0 = some st) := Ae (by rw [hX.out]; unfold Kf; rw [hs]; rfl)
  clear hX
  go_wp2_with (first | (go_at_call 192; refine (hbeg _ hT.out.rdr).mono ?_; rintro e w3 ⟨rfl, hb3⟩; have hT3 := hT.out.keep hb3; obtain ⟨g5, a5, n5, c5, g6, a6, n6, c6, e0, e1, e2, e3, hf5, q1, q2, q3, q4, q5, q6, q7⟩ := hT3.fr; have o0 := hT3.oc 0 qB; have o1 := hT3.oc 1 qB; have o2 := hT3.oc 2 qB; have o3 := hT3.oc 3 qB; have hCB3 : w1.heap.size < w3.heap.size := Aa _ _ e0; have hOB3 := hT3.h4; have hR3 : R < w3.heap.size := hT3.rdr.lt; have r0 := hT3.rdr.c0; have r1 := hT3.rdr.c1; have f0 := hT3.rdr.f0; have f1 := hT3.rdr.f1))
  clear hT hbeg
  have e51 := hf5.top.rd.len
  have e52 := hf5.low.rd.len
  obtain ⟨u1, u2⟩ := hQ.out.2.1
  have s1 : n5 < 35184372088829 := by omega
  have s2 : n6 < 35184372088829 := by omega
  clear e51 e52 u1 u2
  have hix := fun W i hi => Yq W st.o i hi
  have hW3 : Below w3.heap.size w3 (w3.alloc (.cells #[.bool g5, .slice a5 n5 c5, .bool g6, .slice a6 n6 c6, .int .u16 0, .int .u16 0, .int .u16 0, .int .u16 0] 68)) := by go_grown
  have hTB0 : Sv (w3.alloc (.cells #[.bool g5, .slice a5 n5 c5, .bool g6, .slice a6 n6 c6, .int .u16 0, .int .u16 0, .int .u16 0, .int .u16 0] 68)) w3.heap.size g5 a5 n5 c5 g6 a6 n6 c6 st.o 0 := by
   refine ⟨by simp [go_sem], by simp [go_sem], by simp [go_sem], by simp [go_sem], fun k hk => ?_, fun k => by simp [go_sem]⟩
   match k, hk with
   | 0, _ => simp [go_sem, tv]
   | 1, _ => simp [go_sem, tv]
   | 2, _ => simp [go_sem, tv]
   | 3, _ => simp [go_sem, tv]
  have hRd0 := hT3.rdr.keep hW3
  clear o0 o1 o2 o3 r0 r1 f0 f1
  go_loopw [62] (fun v62 wr => ∃ i : Nat, i ≤ 4 ∧ v62 = .int .i64 i ∧ Hid (By wr R st.L (st.many || Kh st.o i)) ∧ Hid (Sv wr w3.heap.size g5 a5 n5 c5 g6 a6 n6 c6 st.o i) ∧ w3.grownBy wr (some R)) (fun v62 _ => 4 - (intOf v62).toNat)
  case atStart => exact ⟨0, by omega, rfl, Ae (by simpa [Kh] using hRd0), Ae hTB0, Az hW3 _⟩
  case round =>
   clear hTB0 hRd0 hW3
   obtain ⟨i, hi, rfl, hRd, hTB, hgr⟩ := hrel
   by_cases hlt : i < 4
   ·have hxi := fun W => hix W i hlt
    have r1 := hRd.out.c1
    have f1 := hRd.out.f1
    have t1 := hTB.out.m i hlt
    have t2 := hTB.out.f (4 + i)
    have hRne : R ≠ w3.heap.size := by omega
    have hRne2 : ¬ w3.heap.size = R := by omega
    have hmin : min ((st.o i : Nat) : Int) 65535 = ((Hr (st.o i) : Nat) : Int) := by unfold Hr; omega
    have hRd1 := hRd.out
    cases hm : (st.many || Kh st.o i)
    ·rw [hm] at r1 hRd1
     have hnm : Hid (decide ((65535 : Int) < ((st.o i : Nat) : Int)) = (st.many || Kh st.o (i + 1))) := Ae (by
      simp only [Kh]
      rw [← Bool.or_assoc, hm, Bool.false_or, decide_eq_decide]
      omega)
     exact qEw
    ·rw [hm] at r1 hRd1
     have hnm : Hid (true = (st.many || Kh st.o (i + 1))) := Ae (by
      simp only [Kh]
      rw [← Bool.or_assoc, hm, Bool.true_or])
     exact qEw
   ·obtain rfl : i = 4 := by omega
    have hRd1 := hRd.out
    rw [Um] at hRd1
    have hfw := hf5.butR (q1.newA hf5.top.rd) (q2.newA hf5.low.rd) hgr (fun k hk => by cases hk; exact hRlt)
    have q1w := q1.butR hgr (fun k hk => by cases hk; exact hRlt)
    have q2w := q2.butR hgr (fun k hk => by cases hk; exact hRlt)
    have hneC : some w1.heap.size ≠ some R := by simp; omega
    replace e0 := An hgr e0 hneC
    replace e1 := An hgr e1 hneC
    replace e2 := An hgr e2 hneC
    replace e3 := An hgr e3 hneC
    obtain ⟨b0, b1, b2, b3, bm, bf⟩ := hTB.out
    have bm0 := bm 0 qB
    have bm1 := bm 1 qB
    have bm2 := bm 2 qB
    have bm3 := bm 3 qB
    have hgw : wo.grownBy wr (some R) := hT3.grown.trans hgr
    have hTBlt : w3.heap.size < wr.heap.size := Aa _ _ b0
    clear hRd hTB bm bf hix
    by_cases hc0 : st.c.1 = 0
    ·have hcz : Br st.c.1 0 = 0 := by rw [hc0, C9]
     have HC0 := Ae hc0
     clear hc0
     go_wp2_with (first | (go_at_call 31; refine (Hc _ _ _ _ _ _ _ _ _ _ _ (hfw.keep qF) s2 s1).mono ?_; rintro e w5 ⟨rfl, hb5⟩; rw [hcz]))
     refine bodyPost_ret (v := .slice none 0 0) (by simp [results, Tryz.results128, go_sem]) rfl ?_
     rw [hTR.out, hXX.out]
     have h1 : J8 (Iy st.o) st.c = [] := by unfold J8; rw [if_pos HC0.out]
     show Jg wo R (some (J8 (Iy st.o) st.c, st.L, st.many || Ez st.o)) _ _
     rw [h1]
     exact ⟨hgw.trans (Az hb5 _), none, 0, 0, rfl, Bk.nil _ _, Cb.nil _ _, hRd1.keep hb5⟩
    ·have hcz : (Br st.c.1 0 == 0) = false := by rw [beq_eq_false_iff_ne]; exact fun e => hc0 (En.1 e)
     have HC0 := Ae hc0
     clear hc0
     go_wp2_with (first | (go_at_call 31; refine (Hc _ _ _ _ _ _ _ _ _ _ _ (hfw.keep qF) s2 s1).mono ?_; rintro e w5 ⟨rfl, hb5⟩; replace b0 := Au hb5 b0; replace b1 := Au hb5 b1; replace b2 := Au hb5 b2; replace b3 := Au hb5 b3; replace bm0 := Au hb5 bm0; replace bm1 := Au hb5 bm1; replace bm2 := Au hb5 bm2; replace bm3 := Au hb5 bm3))
     refine bodyPost_ret (v := .slice (some ⟨w5.heap.size, 0, none⟩) 1 1) (by simp [results, Tryz.results128, go_sem]) rfl ?_
     rw [hTR.out, hXX.out]
     have h1 : J8 (Iy st.o) st.c = [(Iy st.o, st.c)] := by unfold J8; rw [if_neg HC0.out]
     show Jg wo R (some (J8 (Iy st.o) st.c, st.L, st.many || Ez st.o)) _ _
     rw [h1, ← fX]
     have hsz5 := hb5.size
     have hgsz := hgw.size
     have hb6 : Below w5.heap.size w5 (w5.alloc (.cells #[.bool g5, .slice a5 n5 c5, .bool g6, .slice a6 n6 c6, .int .u16 (tv st.o 4 0 : Nat), .int .u16 (tv st.o 4 1 : Nat), .int .u16 (tv st.o 4 2 : Nat), .int .u16 (tv st.o 4 3 : Nat)] 68)) := (Ac w5.heap.size w5).alloc (Ad _) _
     have hpo := Zj ((hfw.keep hb5).keep hb6) ((q1w.keep hb5).keep hb6) ((q2w.keep hb5).keep hb6) q7 (Wc st.o 4 0) (Wc st.o 4 1) (Wc st.o 4 2) (Wc st.o 4 3) (by omega : wo.heap.size ≤ w5.heap.size) ⟨_, Xz _ _ _, Ad 8⟩ ⟨by simp [go_sem], by simp [go_sem], by simp [go_sem], by simp [go_sem], by simp [go_sem], by simp [go_sem], by simp [go_sem], by simp [go_sem]⟩
     exact ⟨Fm _ (hgw.trans (Az hb5 _)), _, 1, 1, rfl, hpo.1, hpo.2, (hRd1.keep hb5).allocR _⟩
 ·have hbeg := fun (W : World) (hr : By W R st.L st.many) => Ku W R st.L st.many hr hlen
  simp only [hs] at hbeg
  have hXX : Hid (Bo s0 = none) := Ae (by rw [hX.out]; unfold Kf; rw [hs, E3, hs]; rfl)
  clear hX
  go_wp2_with (first | (go_at_call 192; refine (hbeg _ hT.out.rdr).mono ?_; rintro e w3 ⟨rfl, hb3⟩) | (go_at_call 130; refine (K5 _).mono ?_; rintro e w4 ⟨rfl, rfl⟩))
  refine ⟨rfl, ?_⟩
  rw [hTR.out, hXX.out]
  exact .no (hT.out.grown.trans (Az hb3 _))) : p := h
theorem qAi {p : Prop} (h : p := by
 obtain ⟨X, hX⟩ : ∃ X, X = E4 L := ⟨_, rfl⟩
 rw [← hX] at HS
 have HX := Ae hX
 clear hX
 go_wp2_with fail
 go_loopw [5, 6] (fun v5 v6 wr => ∃ (bb : Bool) (a : Option Addr) (n c k : Nat) (e : Int) (m : Bool) (pd : List PT), v5 = .bool bb ∧ v6 = .slice a n c ∧ Bh wr R L k e m ∧ Bk wr (R + 1) a n c pd ∧ Hid (Ml L X k e m pd) ∧ Below R w wr) (fun _ _ wr => Od wr R L.length)
 case atStart => exact ⟨_, _, _, _, _, _, _, _, rfl, rfl, D4, P4, HS, B4⟩
 case round =>
  clear D4 P4 HS B4
  obtain ⟨bb, a, n, c, k, e, m, pd, rfl, rfl, D, P, HS, HB⟩ := hrel
  have HM := Ae (I5 D)
  have hRr := D.lt
  rcases HS.out with ⟨rfl, hXn⟩ | ⟨rfl, hS⟩
  ·have HZ : Hid (Cs L = ([], 4)) := Ae (by unfold Cs; rw [if_neg h65n, ← HX.out, hXn])
   have y2 := D.c2
   clear HX hXn HS
   go_wp2_with fail
   go_quiet (fail)
   go_wp2_with fail
   exact bodyPost_ret (v := .tuple #[.slice none 0 0, .int .i64 4]) (by simp [results, Tryz.results18, go_sem]) rfl (by rw [HZ.out]; exact ⟨none, 0, 0, rfl, Bk.nil _ _, HRw.out ▸ Ay _ HB⟩)
  ·by_cases hk : k < L.length
   ·have y1 := D.c1
    have y2 := D.c2
    go_wp2_with fail
    clear y1 y2
    refine (Ev wr R L k D.le 45 D.c0 D.c1 qB).mono ?_
    rintro e w5 ⟨rfl, n5, hw5⟩
    have D5 : Bh w5 R L k 0 m := by rw [hw5]; exact D.drewN n5
    have B5 : Below R w w5 := by rw [hw5]; exact Ay n5 HB
    have P5 : Bk w5 (R + 1) a n c pd := by rw [hw5]; exact P.keep (Ay n5 (Ac _ _))
    clear hw5 D P HB HS
    have HSr := Ae hS
    clear hS
    cases h45 : A6 (L.drop k) 45
    ·go_wp2_with fail
     refine (Ev w5 R L k D5.le 43 D5.c0 D5.c1 qB).mono ?_
     rintro e w6 ⟨rfl, n6, hw6⟩
     have D6 : Bh w6 R L k 0 m := by rw [hw6]; exact D5.drewN n6
     have B6 : Below R w w6 := by rw [hw6]; exact Ay n6 B5
     have P6 : Bk w6 (R + 1) a n c pd := by rw [hw6]; exact P5.keep (Ay n6 (Ac _ _))
     clear hw6 D5 B5 P5
     cases h43 : A6 (L.drop k) 43
     ·have HZ : Hid (Cs L = ([], 4)) := Ae (by unfold Cs; rw [if_neg h65n, ← HX.out, HSr.out.bad hk h45 h43])
      clear HX HSr h45 h43
      go_wp2_with fail
      exact bodyPost_ret (v := .tuple #[.slice none 0 0, .int .i64 4]) (by simp [results, Tryz.results18, go_sem]) rfl (by rw [HZ.out]; exact ⟨none, 0, 0, rfl, Bk.nil _ _, HRw.out ▸ B6⟩)
     ·have HC : Hid (Y4 L k false) := Ae (.inr ⟨rfl, h45, h43⟩)
      clear h45 h43
      have y1 := (D6).c1
      have z1 := (D6).f1
      have hRW := (D6).lt
      go_wp2_with fail
      have D7 := (D6).set1 (k + 1) hk
      have hg7 := Aw (o := 1) (.int .i64 ((k + 1 : Nat) : Int)) (Bc w6 (some R))
      rw [show ((k + 1 : Nat) : Int) = (k : Int) + 1 from rfl] at D7 hg7
      have B7 := (B6).trans (Bq hg7 (Ad _) qB)
      have P7 := (P6).butR hg7 (fun j hj => by cases hj; omega)
      clear D6 B6 P6 y1 z1 hg7 hRW
      generalize (w6).setCell ⟨R, 1, none⟩ (.int .i64 ((k : Int) + 1)) = w7 at *
      refine (Jl w7 R L (k + 1) m false D7 qB).mono ?_
      rintro e w8 ⟨a8, n8, c8, k8, e8, m8, l8, rfl, hg8, D8, P8, hr8⟩
      have hR7 := D7.lt
      have B8 := B7.trans (Bq hg8 (Ad _) qB)
      have PS := P7.butR hg8 (fun j hj => by cases hj; omega)
      have HS2 := Ae (HSr.out.next hk HC.out hr8 D8.le)
      have HGT := Ae (fun he => Wq hr8 he)
      obtain ⟨f1, f2, f3⟩ := Rg hr8 (by rw [List.length_drop]; omega)
      obtain ⟨K, hK, hKK⟩ := HSr.out.few
      have hl8 := P8.len
      have hlp := PS.len
      have hlq := HSr.out.len
      have hpw := HSr.out.pw
      have HADD := fun (hh : True) => Su w8 (R + 1) a n c pd PS hpw K hK _ a8 n8 c8 l8 P8 f1 (L.length + 1) f2 qB qB qB
      clear D7 B7 P7 hg8 hr8 HSr HC hKK hlq hlp hl8 f3 hpw hK f1 f2 PS P8
      go_wp2_with fail
      refine (HADD trivial).mono ?_
      rintro e w9 ⟨a9, n9, c9, rfl, P9, hb9⟩
      have hR8 := D8.lt
      have D9 := D8.keep hb9
      have B9 := B8.trans (hb9.mono qB)
      clear HADD
      go_wp2_with fail
      go_roundw
      case rel => exact ⟨false, a9, n9, c9, k8, e8, m8, Bt pd l8, rfl, rfl, D9, P9.mono qB, HS2, B9⟩
      case measure => rw [I5 D9, HM.out]; exact Sn (fun he => HGT.out he) hk
    ·have HC : Hid (Y4 L k true) := Ae (.inl ⟨rfl, h45⟩)
     clear h45
     have y1 := (D5).c1
     have z1 := (D5).f1
     have hRW := (D5).lt
     go_wp2_with fail
     have D7 := (D5).set1 (k + 1) hk
     have hg7 := Aw (o := 1) (.int .i64 ((k + 1 : Nat) : Int)) (Bc w5 (some R))
     rw [show ((k + 1 : Nat) : Int) = (k : Int) + 1 from rfl] at D7 hg7
     have B7 := (B5).trans (Bq hg7 (Ad _) qB)
     have P7 := (P5).butR hg7 (fun j hj => by cases hj; omega)
     clear D5 B5 P5 y1 z1 hg7 hRW
     generalize (w5).setCell ⟨R, 1, none⟩ (.int .i64 ((k : Int) + 1)) = w7 at *
     refine (Jl w7 R L (k + 1) m true D7 qB).mono ?_
     rintro e w8 ⟨a8, n8, c8, k8, e8, m8, l8, rfl, hg8, D8, P8, hr8⟩
     have hR7 := D7.lt
     have B8 := B7.trans (Bq hg8 (Ad _) qB)
     have PS := P7.butR hg8 (fun j hj => by cases hj; omega)
     have HS2 := Ae (HSr.out.next hk HC.out hr8 D8.le)
     have HGT := Ae (fun he => Wq hr8 he)
     obtain ⟨f1, f2, f3⟩ := Rg hr8 (by rw [List.length_drop]; omega)
     obtain ⟨K, hK, hKK⟩ := HSr.out.few
     have hl8 := P8.len
     have hlp := PS.len
     have hlq := HSr.out.len
     have hpw := HSr.out.pw
     have HADD := fun (hh : True) => Su w8 (R + 1) a n c pd PS hpw K hK _ a8 n8 c8 l8 P8 f1 (L.length + 1) f2 qB qB qB
     clear D7 B7 P7 hg8 hr8 HSr HC hKK hlq hlp hl8 f3 hpw hK f1 f2 PS P8
     go_wp2_with fail
     refine (HADD trivial).mono ?_
     rintro e w9 ⟨a9, n9, c9, rfl, P9, hb9⟩
     have hR8 := D8.lt
     have D9 := D8.keep hb9
     have B9 := B8.trans (hb9.mono qB)
     clear HADD
     go_wp2_with fail
     go_roundw
     case rel => exact ⟨true, a9, n9, c9, k8, e8, m8, Bt pd l8, rfl, rfl, D9, P9.mono qB, HS2, B9⟩
     case measure => rw [I5 D9, HM.out]; exact Sn (fun he => HGT.out he) hk
   ·obtain ⟨p, hp, hpd⟩ := hS.done qB
    have hkl : k = L.length := by have := D.le; omega
    have y1 := D.c1
    have y2 := D.c2
    have y3 := D.c3
    cases m
    ·have HZ : Hid (Cs L = (pd, 0)) := Ae (by unfold Cs; rw [if_neg h65n, ← HX.out, hp, hpd rfl]; rfl)
     clear HX hp hpd HS hS
     go_wp2_with fail
     exact bodyPost_ret (v := .tuple #[.slice a n c, .int .i64 0]) (by simp [results, Tryz.results18, go_sem]) rfl (by rw [HZ.out]; exact ⟨a, n, c, rfl, P.mono (by have := HRw.out; omega), HRw.out ▸ HB⟩)
    ·have HZ : Hid (Cs L = ([], 3)) := Ae (by unfold Cs; rw [if_neg h65n, ← HX.out, hp]; rfl)
     clear HX hp hpd HS hS
     go_wp2_with fail
     exact bodyPost_ret (v := .tuple #[.slice none 0 0, .int .i64 3]) (by simp [results, Tryz.results18, go_sem]) rfl (by rw [HZ.out]; exact ⟨none, 0, 0, rfl, Bk.nil _ _, HRw.out ▸ HB⟩)) : p := h
theorem qAj {p : Prop} (h : p := by
 clear HD d0 d1 d2 d3 d4 d5 d6 d7 d8 d9 dsz HB
 obtain ⟨gq, aq, nq, cq, gr, ar, nr, cr, HD⟩ := hcut
 have d2 := HD.z20
 have d3 := HD.z21
 have d4 := HD.z30
 have d5 := HD.z31
 have d6 := HD.f20
 have d7 := HD.f21
 have d8 := HD.f30
 have d9 := HD.f31
 have dsz := HD.sz
 have HB := HD.hb
 go_wp2_with fail
 go_region_held3 (fun W => W.cell? ⟨w.heap.size + 1 + 1, 0, none⟩ = some (.bool gq) ∧ W.cell? ⟨w.heap.size + 1 + 1, 1, none⟩ = some (.slice aq nq cq) ∧ W.cell? ⟨w.heap.size + 1 + 1 + 1, 0, none⟩ = some (.bool gr) ∧ W.cell? ⟨w.heap.size + 1 + 1 + 1, 1, none⟩ = some (.slice ar nr cr)) (first | ((try dsimp only); (repeat' apply And.intro); all_goals (first | (with_reducible assumption) | (go_keep; done) | (simp [*, go_sem]; done)))) (fail)
 all_goals
  go_wp2_with fail
  refine bodyPost_ret (v := .tuple #[.agg #[.bool gq, .slice aq nq cq], .agg #[.bool gr, .slice ar nr cr], .int .i64 0]) (by simp [results, Tryz.results212, go_sem, d2, d3, d4, d5]) rfl ?_
  refine ⟨gq, aq, nq, cq, gr, ar, nr, cr, rfl, ?_, ?_, ?_, ?_, by go_grown⟩
  ·exact (HD.numq.set4 HD.frq _ _ _ _ _ _ _ _ (by show w.heap.size + 1 + 1 < _; omega) (by show w.heap.size + 1 + 1 < _; omega) (by show w.heap.size + 1 + 1 + 1 < _; omega) (by show w.heap.size + 1 + 1 + 1 < _; omega)).keep (Below.drew (Ac _ _))
  ·exact (HD.numr.set4 HD.frr _ _ _ _ _ _ _ _ (by show w.heap.size + 1 + 1 < _; omega) (by show w.heap.size + 1 + 1 < _; omega) (by show w.heap.size + 1 + 1 + 1 < _; omega) (by show w.heap.size + 1 + 1 + 1 < _; omega)).keep (Below.drew (Ac _ _))
  ·exact ((HD.frq.set4 _ _ _ _ _ _ _ _ (by show w.heap.size + 1 + 1 < _; omega) (by show w.heap.size + 1 + 1 < _; omega) (by show w.heap.size + 1 + 1 + 1 < _; omega) (by show w.heap.size + 1 + 1 + 1 < _; omega)).keep (Below.drew (Ac _ _))).mono qB
  ·exact ((HD.frr.set4 _ _ _ _ _ _ _ _ (by show w.heap.size + 1 + 1 < _; omega) (by show w.heap.size + 1 + 1 < _; omega) (by show w.heap.size + 1 + 1 + 1 < _; omega) (by show w.heap.size + 1 + 1 + 1 < _; omega)).keep (Below.drew (Ac _ _))).mono qB) : p := h
theorem qAk {p : Prop} (h : p := by
 go_wp2_with (first | (go_at_call 291; refine (hC _).mono ?_; rintro e w1 ⟨rfl, rfl⟩) | (go_at_call 292; (with_reducible refine (hT _).mono ?_); rintro e w1 ⟨rfl, hb⟩; obtain ⟨hc, hf⟩ := Ax hb; have hz := hb.size; (try simp only [Aj, Ak, Am] at hz); replace HB := zD w hb; obtain ⟨s0_0, s0_1⟩ := qZ hc (w.heap.size); obtain ⟨f0_0, f0_1⟩ := zA hf (w.heap.size)))
 clear hC hT hy hb48 hlen hl
 have hz1 := hb.size
 simp only [Aj] at hz1
 have HB1 : Below w.heap.size w w1 := HB
 clear hc hf hb hz HB
 have hst := Jc.start (b :: t)
 have h200 : (b :: t).length ≤ 200 := by simp; omega
 clear HD
 generalize b :: t = s at *
 go_loopw [4, 6] (fun v4 v6 wr => ∃ (j : Nat) (dl : List Nat), Hid (Jc s j dl) ∧ v4 = .string ⟨(s.take j).toArray⟩ ∧ wr.ownsRow (w.heap.size + 1) 112 1 v6 dl.length (Bv dl) ∧ Below (w.heap.size + 1) w1 wr) (fun v4 _ _ => Qe v4)
 case atStart => exact ⟨_, [], Ae hst, by rw [List.take_length], ⟨rfl, .inl ⟨rfl, rfl⟩⟩, Ac _ _⟩
 case round =>
  obtain ⟨j, dl, hSF, rfl, hown, HBr⟩ := hrel
  have hle := hSF.out.le
  obtain ⟨ao, co, rfl, hao⟩ := O4 hown
  have hzr := HBr.size
  by_cases hj : j = 0
  ·subst hj
   rw [List.take_zero]
   have hrd := dD hown rfl (fun i => aX hSF.out.small i) (by have := hSF.out.few; omega)
   have d0 := (HBr.cell (p := ⟨w.heap.size, 0, none⟩) (Ag _)).trans s0_0
   have d1 := (HBr.cell (p := ⟨w.heap.size, 1, none⟩) (Ag _)).trans s0_1
   have g0 := (HBr.frozen (p := ⟨w.heap.size, 0, none⟩) (Ag _)).trans f0_0
   have g1 := (HBr.frozen (p := ⟨w.heap.size, 1, none⟩) (Ag _)).trans f0_1
   have HBw : Below w.heap.size w wr := HB1.trans (HBr.mono qB)
   have hvd := hSF.out.done
   have hge : Qh (w.heap.size + 1) ao := fun x hx => Eu hown _ (by rw [hx]; rfl)
   have hsm := hSF.out.small
   clear hown HBr hSF s0_0 s0_1 f0_0 f0_1
   go_wp2_with (first | (go_at_call 102; refine (E6 _ false ao dl.length co dl hrd hsm).mono ?_; rintro e w5 ⟨g5, n5, rfl, hn5, hz5, hb5⟩; replace d0 := Au hb5 d0; replace d1 := Au hb5 d1; replace g0 := (Ab hb5 (by show w.heap.size < _; omega)).trans g0; replace g1 := (Ab hb5 (by show w.heap.size < _; omega)).trans g1))
   refine bodyPost_ret (v := .tuple #[.agg #[.bool g5, .slice ao n5 n5], .int .i64 0]) (by simp [*, results, Tryz.results245, go_sem]) rfl ?_
   have hlt0 : w.heap.size < wr.heap.size := by omega
   have hnz : A4 w5 g5 ao n5 n5 (Bd s) := by rw [hvd] at hz5; exact hz5
   refine ⟨g5, ao, n5, n5, 0, rfl, ?_, ?_⟩
   ·exact qFl
   ·have HB5 := HBw.trans (hb5.mono HBw.size)
    go_grown
  ·have hml : (s.take j).length = j := by rw [List.length_take]; omega
   have hmne : s.take j ≠ [] := fun e => by rw [e] at hml; simp at hml; omega
   have hne : (s.take j == []) = false := by simpa using hmne
   have hne2 : (s.take j).isEmpty = false := by simpa using hmne
   have hnx := Ae (hSF.out.next HA.out qB)
   have hmx : max (0 : Int) ((j : Int) - 9) = ((j - 9 : Nat) : Int) := by omega
   have q1 : ∀ W : World, (Instr.sliceAt 9 (.string ⟨(s.take j).toArray⟩) (some (.int .i64 ((j - 9 : Nat) : Int))) none none).run Tryz.prog W = .ok (.string ⟨((s.take j).drop (j - 9)).toArray⟩) W := fun W => by
    rw [L6 W _ _ (by show j - 9 ≤ (s.take j).toArray.size; simp; omega)]
    have : (⟨(s.take j).toArray⟩ : ByteArray).size = (s.take j).length := by simp [ByteArray.size]
    rw [this, Im]
   have q2 : ∀ W : World, (Instr.sliceAt 9 (.string ⟨(s.take j).toArray⟩) none (some (.int .i64 ((j - 9 : Nat) : Int))) none).run Tryz.prog W = .ok (.string ⟨(s.take (j - 9)).toArray⟩) W := fun W => by
    rw [Ir W _ _ (by show j - 9 ≤ (s.take j).toArray.size; simp; omega), Gm, List.take_take, Nat.min_eq_left qB]
   have hall2 : ((s.take j).drop (j - 9)).all Bl = true := by
    have := HA.out
    rw [List.all_eq_true] at this ⊢
    exact fun x hx => this x (List.mem_of_mem_take (List.mem_of_mem_drop hx))
   have hl9 : ((s.take j).drop (j - 9)).length = j - (j - 9) := by rw [List.length_drop, hml]
   have hP := fun W => Tryz.strconv_ParseUint_10_at32_ok ⟨((s.take j).drop (j - 9)).toArray⟩ (by simp [ByteArray.size]; omega) (Bd ((s.take j).drop (j - 9))) (Oe hall2 (fun e => by have h0 := congrArg List.length e; rw [hl9] at h0; simp at h0; omega) (by show ((s.take j).drop (j - 9)).length ≤ 9; omega)) W
   have hlt9 := J7 hall2 qB
   have hmod : (Bd ((s.take j).drop (j - 9)) : Int) % 4294967296 = (Bd ((s.take j).drop (j - 9)) : Nat) := by omega
   have hfw := hSF.out.few
   generalize (s.take j).drop (j - 9) = ch at *
   generalize s.take j = m at *
   go_wp2_with (first | (go_at_call 293; refine (hP _).mono ?_; rintro e w3 ⟨rfl, hw3⟩; have HB3 : Below wr.heap.size wr w3 := aY hw3; have hz3 := HB3.size; clear hw3) | (at_builtin; refine wpList_append_own _ rfl _ _ 57 rfl (w.heap.size + 1) 112 i0 (.int .u32 0) 1 4 Tryz.underlying57 hi hi0 hi1 hi2 rfl qC _ dl.length (Bv dl) rfl ((Bm hown HB3).alloc _) ⟨w3.heap.size, 0, none⟩ 1 1 [.int .u32 (Bd ch : Nat)] rfl rfl (cell_one_new _ _ _) (by simp [Value.oneCell']) qO qB qA ?_; intro v4 w4 hown4 hgrow4 _))
   go_roundw
   case rel => exact ⟨j - 9, dl ++ [Bd ch], hnx, rfl, by rw [Ce, List.length_append]; exact hown4, ((HBr.trans (HB3.mono qB)).alloc qB _).grown hgrow4 qL (Eu hown)⟩
   case measure => rw [Jh, Jh, List.length_take]; omega) : p := h
theorem qAl {p : Prop} (h : p := by
 clear HX
 go_wp2_with fail
 refine (Fi wr R L kk D6.le D6.c0 D6.c1 qB).mono ?_
 rintro e w7 ⟨rfl, n7, hw7⟩
 rw [hs2]
 have D7 : Bh w7 R L kk 0 m := by rw [hw7]; exact D6.drewN n7
 have T7 : Ht w7 T t := by rw [hw7]; exact ⟨T6.tm.drewN n7, T6.tf, T6.lt⟩
 have F7 : FT w7 wo.heap.size T t c (1 + kk) := by rw [hw7]; exact F6.keep (Ay n7 (Ac _ _))
 have G7 : wo.grownBy w7 (some R) := by rw [hw7]; exact C3 G6 n7
 clear hw7 D6 T6 F6 G6 HS y2
 have hkk := D7.le
 obtain ⟨b0, b1, b2, b3, b4, b5, b6, b7⟩ := T7.tm
 simp only [Nat.zero_add] at b0 b1 b2 b3 b4 b5 b6 b7
 go_wp2_with fail
 refine (Sc w7 R wo.heap.size T L kk (1 + kk) m D7 qB t c F7 hRo G7.size T7.lt st hst hr qB).mono ?_
 rintro e w8 ⟨t1, c1, k1, e1, m1, rfl, hk1, hg8, D8, F8, hFac⟩
 have T8 := T7.next hg8 hTR
 have G8 := G7.trans hg8
 have hlt := Ae (eY hFac hst)
 have HXr := Ae (And.intro hXr hs2)
 have HFac := Ae hFac
 clear b0 b1 b2 b3 b4 b5 b6 b7 D7 T7 F7 G7 hg8 hXr hs2 hFac
 obtain ⟨b0, b1, b2, b3, b4, b5, b6, b7⟩ := T8.tm
 simp only [Nat.zero_add] at b0 b1 b2 b3 b4 b5 b6 b7
 obtain ⟨p0, p1, p2, p3, p4, p5, p6, p7⟩ := zC T8.tf
 go_wp2_with fail
 refine Dv ?_
 intro w9 hw9
 have D9 : Bh w9 R L k1 e1 m1 := by rw [hw9]; exact D8.setS T hTR _ _ _ _ _ _ _ _
 have T9 : Ht w9 T t1 := by rw [hw9]; exact T8.setS t1
 have F9 : FT w9 wo.heap.size T t1 c1 (1 + k1) := by rw [hw9]; exact (F8.setT (Jb w8 T _ _ _ _ _ _ _ _)).mono qB
 have G9 : wo.grownBy w9 (some R) := by rw [hw9]; exact C7 G8 T hTo _ _ _ _ _ _ _ _
 clear hw9 D8 T8 F8 G8 b0 b1 b2 b3 b4 b5 b6 b7 p0 p1 p2 p3 p4 p5 p6 p7
 refine (Hq w9 R L k1 D9.le D9.c0 D9.c1 D9.f1 qB).mono ?_
 rintro e wA ⟨rfl, k2, hk2, hdk2, hcA, hBA⟩
 have h12 := bG hdk2 D9.le hk2
 have DA := D9.but hBA hcA hk2
 have TA := T9.next hBA.grown hTR
 have FA := (F9.grown hBA.grown hRo).mono (show 1 + k1 ≤ 1 + k2 by omega)
 have GA := G9.trans hBA.grown
 have HN := Ae (X4 (by rw [hst]; exact HXr.out.2) HXr.out.1 HFac.out hdk2)
 clear D9 T9 F9 G9 hBA hcA hdk2 HXr HFac
 go_wp2_with fail
 refine (Ev wA R L k2 hk2 42 DA.c0 DA.c1 qB).mono ?_
 rintro e wB ⟨rfl, nB, hwB⟩
 have DB : Bh wB R L k2 e1 m1 := by rw [hwB]; exact DA.drewN nB
 have TB : Ht wB T t1 := by rw [hwB]; exact ⟨TA.tm.drewN nB, TA.tf, TA.lt⟩
 have FB : FT wB wo.heap.size T t1 c1 (1 + k2) := by rw [hwB]; exact FA.keep (Ay nB (Ac _ _))
 have GB : wo.grownBy wB (some R) := by rw [hwB]; exact C3 GA nB
 clear hwB DA TA FA GA
 cases h42 : A6 (L.drop k2) 42
 ·have HT := Ae (Kz.plain h42 HN.out)
  clear HN h42
  go_wp2_with fail
  go_roundw
  case rel => exact ⟨k2, e1, m1, t1, c1, DB, TB, FB, GB, HT.out⟩
  case measure => rw [Hs DB, HM.out]; exact Qy (fun he => by have := hlt.out he; omega) qB hk2
 ·have hk3 := E9 h42
  have y1 := DB.c1
  have z1 := DB.f1
  go_wp2_with fail
  have DC := DB.set1 (k2 + 1) hk3
  have hgC := Aw (o := 1) (.int .i64 ((k2 + 1 : Nat) : Int)) (Bc wB (some R))
  rw [show ((k2 + 1 : Nat) : Int) = (k2 : Int) + 1 from rfl] at DC hgC
  have TC := TB.next hgC hTR
  have FC := FB.grown hgC hRo
  have GC := GB.trans hgC
  clear DB TB FB GB hgC y1 z1
  generalize wB.setCell ⟨R, 1, none⟩ (.int .i64 ((k2 : Int) + 1)) = wC at *
  refine (Hq wC R L (k2 + 1) DC.le DC.c0 DC.c1 DC.f1 qB).mono ?_
  rintro e wD ⟨rfl, k4, hk4, hdk4, hcD, hBD⟩
  have h24 := bG hdk4 DC.le hk4
  have DD := DC.but hBD hcD hk4
  have TD := TC.next hBD.grown hTR
  have FD := (FC.grown hBD.grown hRo).mono (show 1 + k2 ≤ 1 + k4 by omega)
  have GD := GC.trans hBD.grown
  have HT := Ae (Kz.star h42 hdk4 HN.out)
  clear DC TC FC GC hBD hcD hdk4 HN h42
  go_wp2_with fail
  refine (Fi wD R L k4 hk4 DD.c0 DD.c1 qB).mono ?_
  rintro e wE ⟨rfl, nE, hwE⟩
  have DE : Bh wE R L k4 e1 m1 := by rw [hwE]; exact DD.drewN nE
  have TE : Ht wE T t1 := by rw [hwE]; exact ⟨TD.tm.drewN nE, TD.tf, TD.lt⟩
  have FE : FT wE wo.heap.size T t1 c1 (1 + k4) := by rw [hwE]; exact FD.keep (Ay nE (Ac _ _))
  have GE : wo.grownBy wE (some R) := by rw [hwE]; exact C3 GD nE
  clear hwE DD TD FD GD
  cases hs4 : Bz (L.drop k4)
  ·have HT4 := Ae (HT.out.2 hs4)
   have y2 := DE.c2
   have z2 := DE.f2
   clear HT hs4
   go_wp2_with fail
   have hgF := Aw (o := 2) (.int .i64 4) (Bc wE (some R))
   go_roundw
   case rel => exact ⟨k4, 4, m1, t1, c1, DE.set2 4, TE.next hgF hTR, FE.grown hgF hRo, GE.trans hgF, HT4.out⟩
   case measure => rw [Hs (DE.set2 4), HM.out]; exact Qy (fun he => by cases he) qB hk4
  ·have HT4 := Ae (HT.out.1 hs4)
   clear HT hs4
   go_wp2_with fail
   go_roundw
   case rel => exact ⟨k4, e1, m1, t1, c1, DE, TE, FE, GE, HT4.out⟩
   case measure => rw [Hs DE, HM.out]; exact Qy (fun he => by have := hlt.out he; omega) qB hk4) : p := h
theorem qAm {p : Prop} (h : p := by
 have HB := HBX.hb
 have b11 := HBX.b11
 go_wp2_with fail
 go_meet
 case rel =>
  have hszd := HBX.sz
  have f8' := ((((f8.keep qF).keep hb5).keep hb6).less hnr)
  obtain ⟨k0, k1, k2, k3, k4, k5⟩ := Kl (.bool gq) (.slice a7 nq nq) (.bool gr) (.slice a8 nr nr) HBX.z20 HBX.z21 HBX.z30 HBX.z31
  refine ⟨gq, nq, gr, nr, ⟨(k4 _ (by show w.heap.size + 1 < w.heap.size + 1 + 1; omega)).trans HBX.b10, (k4 _ (by show w.heap.size + 1 < w.heap.size + 1 + 1; omega)).trans HBX.b11, k0, k1, k2, k3, (k5 _).trans HBX.f20, (k5 _).trans HBX.f21, (k5 _).trans HBX.f30, (k5 _).trans HBX.f31, ?_, ?_, ?_, ?_, by simp only [Am]; omega, by go_grown⟩⟩
  ·rw [V7.out] at hq
   exact (hq.keep hb6).set4 (f7'.keep hb6) _ _ _ _ _ _ _ _ (by show w.heap.size + 1 + 1 < _; omega) (by show w.heap.size + 1 + 1 < _; omega) (by show w.heap.size + 1 + 1 + 1 < _; omega) (by show w.heap.size + 1 + 1 + 1 < _; omega)
  ·rw [V8.out] at hr
   exact hr.set4 f8' _ _ _ _ _ _ _ _ (by show w.heap.size + 1 + 1 < _; omega) (by show w.heap.size + 1 + 1 < _; omega) (by show w.heap.size + 1 + 1 + 1 < _; omega) (by show w.heap.size + 1 + 1 + 1 < _; omega)
  ·exact (f7'.keep hb6).set4 _ _ _ _ _ _ _ _ (by show w.heap.size + 1 + 1 < _; omega) (by show w.heap.size + 1 + 1 < _; omega) (by show w.heap.size + 1 + 1 + 1 < _; omega) (by show w.heap.size + 1 + 1 + 1 < _; omega)
  ·exact f8'.set4 _ _ _ _ _ _ _ _ (by show w.heap.size + 1 + 1 < _; omega) (by show w.heap.size + 1 + 1 < _; omega) (by show w.heap.size + 1 + 1 + 1 < _; omega) (by show w.heap.size + 1 + 1 + 1 < _; omega)) : p := h
theorem qAn {p : Prop} (h : p := by
 go_wp2_with fail
 go_quiet (fail)
 obtain ⟨n1, rfl⟩ : ∃ n1, n1 = nq := ⟨_, rfl⟩
 go_wp2_with fail
 go_quiet (fail)
 obtain ⟨T1, T2⟩ := tail n1 nq
 clear tail q c0 c1 f1 HB
 generalize (wr.drewN n1).drewN nq = wx at *
 clear hD hG
 have T3 := T1.c2
 have T4 := T1.f2
 have T5 := T1.f3
 go_wp2_with fail
 refine (Mj _ D hdl).mono ?_
 rintro e w2 ⟨rfl, hb2⟩
 have U1 := T1.keep hb2
 have U2 := T2.trans (Az hb2 _)
 have U3 := U1.c2
 have U4 := U1.f2
 have U5 := U1.f3
 have U6 := U1.c3
 clear T1 T2 T3 T4 T5 hb2
 by_cases h200 : 200 < D.length
 ·have h200' : (200 : Int) < (D.length : Int) := by omega
  cases hB : Bb D
  ·go_wp2_with fail
   exact bodyPost_ret (v := .string ⟨D.toArray⟩) (by simp [results, Tryz.results198, go_sem]) rfl (by show Ih wo R L k0 e0 m0 _ _; rw [hP.out]; refine ⟨rfl, ?_⟩; simp only [hB, h200, decide_true, decide_false, Bool.or_true, Bool.or_false, if_true, Bool.false_eq_true, if_false]; exact ⟨Aw _ (Aw _ U2), (U1.set2 4).set3 true⟩)
  ·go_wp2_with fail
   exact bodyPost_ret (v := .string ⟨D.toArray⟩) (by simp [results, Tryz.results198, go_sem]) rfl (by show Ih wo R L k0 e0 m0 _ _; rw [hP.out]; refine ⟨rfl, ?_⟩; simp only [hB, h200, decide_true, decide_false, Bool.or_true, Bool.or_false, if_true, Bool.false_eq_true, if_false]; exact ⟨Aw _ U2, U1.set3 true⟩)
 ·have h200' : ¬ (200 : Int) < (D.length : Int) := by omega
  cases hB : Bb D
  ·go_wp2_with fail
   exact bodyPost_ret (v := .string ⟨D.toArray⟩) (by simp [results, Tryz.results198, go_sem]) rfl (by show Ih wo R L k0 e0 m0 _ _; rw [hP.out]; refine ⟨rfl, ?_⟩; simp only [hB, h200, decide_true, decide_false, Bool.or_true, Bool.or_false, if_true, Bool.false_eq_true, if_false]; exact ⟨Aw _ U2, U1.set2 4⟩)
  ·go_wp2_with fail
   exact bodyPost_ret (v := .string ⟨D.toArray⟩) (by simp [results, Tryz.results198, go_sem]) rfl (by show Ih wo R L k0 e0 m0 _ _; rw [hP.out]; refine ⟨rfl, ?_⟩; simp only [hB, h200, decide_true, decide_false, Bool.or_true, Bool.or_false, if_true, Bool.false_eq_true, if_false]; exact ⟨U2, U1⟩)) : p := h
theorem qAo {p : Prop} (h : p := by
 have hXN : Hid (Bo s0 = none) := Ae (by rw [hX1.out, E3, HS.out]; simp only [if_true]; rw [show A7 st = none by unfold A7; rw [hLst]; simp only; rw [hlet]; simp only; rw [hx]])
 refine Cg (fun W => W.cell? ⟨w1.heap.size, 0, none⟩ = some (.bool g5) ∧ W.cell? ⟨w1.heap.size, 1, none⟩ = some (.slice a5 n5 c5) ∧ W.cell? ⟨w1.heap.size, 2, none⟩ = some (.bool g6) ∧ W.cell? ⟨w1.heap.size, 3, none⟩ = some (.slice a6 n6 c6)) 4 qG qK (fun hHeld => ?_)
 (refine Bf.take 3 (i := 0) (v := ?_) rfl qG (fun _ _ _ h => h) (Or.inl ⟨by rfl, ?_⟩) qI ?_; rotate_left; (focus (intro w' hSw; (try dsimp only at hSw); go_simp; (try with_reducible rfl))); (try simp only [Act.put, List.setIfInBounds_toArray, List.set_cons_zero, List.set_cons_succ]))
 (refine Bf.take 4 (i := 1) (v := ?_) rfl qG (fun _ _ _ h => h) (Or.inl ⟨by rfl, ?_⟩) qI ?_; rotate_left; (focus (intro w' hSw; (try dsimp only at hSw); go_simp; (try with_reducible rfl))); (try simp only [Act.put, List.setIfInBounds_toArray, List.set_cons_zero, List.set_cons_succ]))
 refine Bf.one (i := 2) rfl qG (fun K hK => ?_)
 go_simp
 go_at_call 195
 refine (Kp _ R (b :: r) st.many hrd hbl).mono ?_
 exact qFn) : p := h
theorem qAp {p : Prop} (h : p := by
 have hl2 := Un hv.out qB hp
 have hst := Ae (Sa hv.out)
 go_wp2_with (at_builtin; refine wpList_append_own _ rfl _ _ 57 rfl (w.heap.size + 1) 112 i0 (.int .u32 0) 1 4 Tryz.underlying57 hi hz0 hz1 hz2 rfl qC _ _ _ rfl (hown.alloc _) ⟨wr.heap.size, 0, none⟩ 1 1 [.int .u32 ((v : Int) % 1000000000)] rfl rfl (cell_one_new _ _ _) (by simp [Value.oneCell']) qO qB qA ?_; intro v' w2 hown2 hgrow2 _)
 have hb2 : Below (w.heap.size + 1) wr w2 := ((Ac (w.heap.size + 1) wr).alloc qB _).grown hgrow2 qA (fun k hk => (hown.lt k hk).1)
 go_roundw
 case rel =>
  refine ⟨l ++ [v % 1000000000], v / 1000000000, by simp, Ae hst.out, by simp; omega, by omega, fun x hx => ?_, ?_, Nat.lt_of_lt_of_le hlr hb2.size, ?_, ?_, ?_, ?_, HB.trans (hb2.mono qB)⟩
  ·rcases List.mem_append.1 hx with h | h
   ·exact HLT.out x h
   ·rw [Ao] at h; omega
  ·rw [List.length_append, List.length_singleton, Ce]
   exact hown2
  ·rw [hb2.cell (by show w.heap.size < w.heap.size + 1; omega)]; exact k0
  ·rw [hb2.cell (by show w.heap.size < w.heap.size + 1; omega)]; exact k1
  ·rw [hb2.frozen (by show w.heap.size < w.heap.size + 1; omega)]; exact f0
  ·rw [hb2.frozen (by show w.heap.size < w.heap.size + 1; omega)]; exact f1
 case measure => simp [intOf]; omega) : p := h
theorem qAq {p : Prop} (h : p := by
 go_wp2_with fail
 refine (aG _ _ _ _ _ _ HG.numa _ _ _ _ _ HG.numb qB qB qB).mono ?_
 rintro e w2 ⟨gq, aq, nq, cq, gr, ar, nr, cr, rfl, hq, hr, hfq, hfr, hb2⟩
 clear b00 b01 b10 b11 z20 z21 f00 f01 f10 f11 f20 f21 HB hsz; replace HG := HG.keep hb2; have b00 := HG.b00; have b01 := HG.b01; have b10 := HG.b10; have b11 := HG.b11; have z20 := HG.z20; have z21 := HG.z21; have f00 := HG.f00; have f01 := HG.f01; have f10 := HG.f10; have f11 := HG.f11; have f20 := HG.f20; have f21 := HG.f21; have HB := HG.hb; have hsz := HG.sz
 go_wp2_with fail
 have hb3 : Below w2.heap.size w2 ((w2.alloc (.cells #[.bool gq, .slice aq nq cq] 59)).alloc (.cells #[.bool gr, .slice ar nr cr] 59)) := by go_grown
 have p1 : ((w2.alloc (.cells #[.bool gq, .slice aq nq cq] 59)).alloc (.cells #[.bool gr, .slice ar nr cr] 59)).cell? ⟨w2.heap.size + 1, 0, none⟩ = some (.bool gr) := by simp [go_sem]
 have p2 : ((w2.alloc (.cells #[.bool gq, .slice aq nq cq] 59)).alloc (.cells #[.bool gr, .slice ar nr cr] 59)).cell? ⟨w2.heap.size + 1, 1, none⟩ = some (.slice ar nr cr) := by simp [go_sem]
 have hr3 := hr.keep hb3
 have hfr3 := (hfr.keep hb3)
 have hoff : Off w.heap.size (w.heap.size + 1 + 1 + 1) nr ar := hfr.off hr.rd _ qB
 generalize ((w2.alloc (.cells #[.bool gq, .slice aq nq cq] 59)).alloc (.cells #[.bool gr, .slice ar nr cr] 59)) = w3 at *
 clear b00 b01 b10 b11 z20 z21 f00 f01 f10 f11 f20 f21 HB hsz; replace HG := HG.keep hb3; have b00 := HG.b00; have b01 := HG.b01; have b10 := HG.b10; have b11 := HG.b11; have z20 := HG.z20; have z21 := HG.z21; have f00 := HG.f00; have f01 := HG.f01; have f10 := HG.f10; have f11 := HG.f11; have f20 := HG.f20; have f21 := HG.f21; have HB := HG.hb; have hsz := HG.sz
 have hPP : w.heap.size + 1 + 1 < w2.heap.size + 1 := by have := hb2.size; omega
 generalize w2.heap.size + 1 = P at *
 have hyn := Int.emod_nonneg x (show y ≠ 0 by omega)
 have hyl := Int.emod_lt_of_pos x hyp
 have hnr : nr < 35184372088829 := by have h1 := hr3.rd.len; have h2 := HG.numb.rd.len; have h3 := Be (show (x % y).natAbs ≤ y.natAbs by omega); omega
 clear hr hfr hfq hq hb3 hb2
 refine Cg (fun W => W.cell? ⟨P, 0, none⟩ = some (.bool gr) ∧ W.cell? ⟨P, 1, none⟩ = some (.slice ar nr cr) ∧ W.cell? ⟨w.heap.size + 1, 0, none⟩ = some (.bool gb) ∧ W.cell? ⟨w.heap.size + 1, 1, none⟩ = some (.slice ab nb cb)) 3 qG qK (fun hHeld => ?_)
 (refine Bf.take 3 (i := 0) (v := ?_) rfl qG (fun _ _ _ h => h) (Or.inl ⟨by rfl, ?_⟩) qI ?_; rotate_left; (focus (intro w' hSw; (try dsimp only at hSw); go_simp; (try with_reducible rfl))); (try simp only [Act.put, List.setIfInBounds_toArray, List.set_cons_zero, List.set_cons_succ]))
 (refine Bf.take 3 (i := 1) (v := ?_) rfl qG (fun _ _ _ h => h) (Or.inl ⟨by rfl, ?_⟩) qI ?_; rotate_left; (focus (intro w' hSw; (try dsimp only at hSw); go_simp; (try with_reducible rfl))); (try simp only [Act.put, List.setIfInBounds_toArray, List.set_cons_zero, List.set_cons_succ]))
 (refine Bf.one (i := 2) rfl qG (fun K hK => ?_); go_simp; skip; (try go_wp2_with fail); refine hK.out _ _ (fun _ => qK) ?_; clear hK K; (try simp only [Act.put, List.setIfInBounds_toArray, List.set_cons_zero, List.set_cons_succ]))
 (refine Bf.one (i := 3) rfl qG (fun K hK => ?_); go_simp; refine hK.out _ _ (fun h => absurd h qC) ?_; clear hK K; (try simp only [Act.put, List.setIfInBounds_toArray, List.set_cons_zero, List.set_cons_succ]))
 refine Bf.done qG ?_ _
 all_goals
  go_wp2_with fail
  have HG2 := (HG.set HG.numb hr3 HG.offb hoff).keep (Below.drew (Ac _ _))
  refine ⟨⟨gb, ab, nb, cb, y, gr, ar, nr, cr, x % y, HG2, hyn, hnr, by omega, by rw [M7]; exact HGC.out⟩, ?_⟩
  rw [Lr HG2.b11 HG2.numb.rd, Ba, HV0.out]
  omega) : p := h
theorem qAr {p : Prop} (h : p := by
 go_upto_region 9 with fail
 go_region_held3 (fun W => W.cell? ⟨w4.heap.size, 0, none⟩ = some (.bool g4) ∧ W.cell? ⟨w4.heap.size, 1, none⟩ = some (.slice a1 n4 c1) ∧ W.cell? ⟨w5.heap.size, 0, none⟩ = some (.bool false) ∧ W.cell? ⟨w5.heap.size, 1, none⟩ = some (.slice a2 n5 c2)) (first | ((try dsimp only); (repeat' apply And.intro); all_goals (first | (with_reducible assumption) | (go_keep; done) | (simp [*, go_sem]; done)))) (fail)
 all_goals go_wp2_with fail
 all_goals
  refine bodyPost_ret (v := .tuple #[.agg #[.bool g4, .slice a1 n4 c1], .agg #[.bool false, .slice a2 n5 c2], .int .i64 0]) (by simp [results, Tryz.results253, go_sem, *]) rfl ?_
  have u2 : w.heap.size + 1 + 1 < w2.heap.size := by omega
  have u3 : w.heap.size + 1 + 1 + 1 < w2.heap.size := by omega
  refine ⟨g4, a1, n4, c1, false, a2, n5, c2, rfl, ?_, ?_, ?_, ?_, by go_grown⟩
  ·rw [HD1.out]
   first
    | exact (hnum4'.set4 hfq5 ⟨w.heap.size + 1 + 1, 0, none⟩ ⟨w.heap.size + 1 + 1, 1, none⟩ ⟨w.heap.size + 1 + 1 + 1, 0, none⟩ ⟨w.heap.size + 1 + 1 + 1, 1, none⟩ _ _ _ _ u2 u2 u3 u3).keep qF
    | exact (hnum4'.set4 hfq5 ⟨w.heap.size + 1 + 1 + 1, 0, none⟩ ⟨w.heap.size + 1 + 1 + 1, 1, none⟩ ⟨w.heap.size + 1 + 1, 0, none⟩ ⟨w.heap.size + 1 + 1, 1, none⟩ _ _ _ _ u3 u3 u2 u2).keep qF
  ·rw [HD2.out]
   first
    | exact (hnum5.set4 hfr5 ⟨w.heap.size + 1 + 1, 0, none⟩ ⟨w.heap.size + 1 + 1, 1, none⟩ ⟨w.heap.size + 1 + 1 + 1, 0, none⟩ ⟨w.heap.size + 1 + 1 + 1, 1, none⟩ _ _ _ _ u2 u2 u3 u3).keep qF
    | exact (hnum5.set4 hfr5 ⟨w.heap.size + 1 + 1 + 1, 0, none⟩ ⟨w.heap.size + 1 + 1 + 1, 1, none⟩ ⟨w.heap.size + 1 + 1, 0, none⟩ ⟨w.heap.size + 1 + 1, 1, none⟩ _ _ _ _ u3 u3 u2 u2).keep qF
  ·first
    | exact ((hfq5.set4 ⟨w.heap.size + 1 + 1, 0, none⟩ ⟨w.heap.size + 1 + 1, 1, none⟩ ⟨w.heap.size + 1 + 1 + 1, 0, none⟩ ⟨w.heap.size + 1 + 1 + 1, 1, none⟩ _ _ _ _ u2 u2 u3 u3).keep qF).mono qB
    | exact ((hfq5.set4 ⟨w.heap.size + 1 + 1 + 1, 0, none⟩ ⟨w.heap.size + 1 + 1 + 1, 1, none⟩ ⟨w.heap.size + 1 + 1, 0, none⟩ ⟨w.heap.size + 1 + 1, 1, none⟩ _ _ _ _ u3 u3 u2 u2).keep qF).mono qB
  ·first
    | exact ((hfr5.set4 ⟨w.heap.size + 1 + 1, 0, none⟩ ⟨w.heap.size + 1 + 1, 1, none⟩ ⟨w.heap.size + 1 + 1 + 1, 0, none⟩ ⟨w.heap.size + 1 + 1 + 1, 1, none⟩ _ _ _ _ u2 u2 u3 u3).keep qF).mono qB
    | exact ((hfr5.set4 ⟨w.heap.size + 1 + 1 + 1, 0, none⟩ ⟨w.heap.size + 1 + 1 + 1, 1, none⟩ ⟨w.heap.size + 1 + 1, 0, none⟩ ⟨w.heap.size + 1 + 1, 1, none⟩ _ _ _ _ u3 u3 u2 u2).keep qF).mono qB) : p := h
theorem qAs {p : Prop} (h : p := by
 go_wp2_with (first | (go_at_call 246; (with_reducible refine (Zc _ _ _ _ _ _ (hnt5.keep qF) _ _ _ _ _ (hnl.keep qF) qB qB qB).mono ?_); rintro e w6 ⟨ge, ae, ne, ce, gf, af, nf, cf, rfl, hfr, hfe, hff, hb6⟩; have HB56 := zD w5 hb6; have hz56 : w5.heap.size < w6.heap.size := (by have := hb6.size; simp only [Aj] at this; omega); replace g0 := (Ab HB56 (Aa _ _ d0)).trans g0; replace d0 := Au HB56 d0; replace g1 := (Ab HB56 (Aa _ _ d1)).trans g1; replace d1 := Au HB56 d1; replace g2 := (Ab HB56 (Aa _ _ d2)).trans g2; replace d2 := Au HB56 d2; replace g3 := (Ab HB56 (Aa _ _ d3)).trans g3; replace d3 := Au HB56 d3; have hk6 : w.heap.size < w6.heap.size := Aa _ _ d0))
 refine bodyPost_ret (v := frV ge ae ne ce gf af nf cf) (by simp [*, results, Tryz.results195, go_sem]) rfl ?_
 rw [HX.out, HX2.out]
 have hg6 := hgw5.trans (Az HB56 _)
 have hne' : w.heap.size ≠ R := by omega
 have hr6 := hr5.keep HB56
 have fe : Av (w.heap.size + 1) w6 ae ce := hfe.mono qA
 have ff : Av (w.heap.size + 1) w6 af cf := hff.mono qA
 have ke : Nw w.heap.size ne ae := Nw.mono (fe.newA hfr.top.rd) qB
 have kf : Nw w.heap.size nf af := Nw.mono (ff.newA hfr.low.rd) qB
 have u : w.heap.size < w.heap.size + 1 := Ag _
 exact ⟨Fm _ (A5 _ (A5 _ (A5 _ (A5 _ hg6 (Ad _)) (Ad _)) (Ad _)) (Ad _)), _, rfl, .inl (Sh.keep ⟨_, _, _, _, _, _, _, _, rfl, ⟨hfr.top.set4 fe _ _ _ _ _ _ _ _ u u u u, hfr.low.set4 ff _ _ _ _ _ _ _ _ u u u u, hfr.pos, hfr.red⟩, ke, kf⟩ ((Ac _ _).alloc (Ad _) _)), ((((hr6.setOther _ hne').setOther _ hne').setOther _ hne').setOther _ hne').allocR _⟩) : p := h
theorem qAt {p : Prop} (h : p := by
 obtain ⟨hc, hf⟩ := Ax hb; have hz := hb.size; (try simp only [Aj, Ak] at hz)
 replace HB := zD w hb
 obtain ⟨s0_0, s0_1⟩ := qX hc (w.heap.size) (.bool g1) (.slice a1 n1 c1); obtain ⟨s0_2, s0_3⟩ := qY hc (w.heap.size) (.bool g2) (.slice a2 n2 c2)
 clear hc hf hb
 go_wp2_with fail
 go_ret
 exact ⟨by first | rfl | simp, HB⟩) : p := h
theorem qAu {p : Prop} (h : p := by
 have hXN : Hid (Bo s0 = none) := Ae (by rw [hX1.out, E3, HS.out]; simp only [if_true]; rw [show A7 st = none by unfold A7; rw [hLst]; simp only; rw [hlet]; simp only; rw [hx]])
 refine Cg (fun W => W.cell? ⟨w1.heap.size + 1, i, none⟩ = some (.int .i64 (st.o i : Nat))) 7 qG qK (fun hHeld => ?_)
 (refine Bf.take 7 (i := 0) (v := ?_) rfl qG (fun _ _ _ h => h) (Or.inl ⟨by rfl, ?_⟩) qI ?_; rotate_left; (focus (intro w' hSw; (try dsimp only at hSw); go_simp; (try with_reducible rfl))); (try simp only [Act.put, List.setIfInBounds_toArray, List.set_cons_zero, List.set_cons_succ]))
 (refine Bf.take 7 (i := 1) (v := ?_) rfl qG (fun _ _ _ h => h) (Or.inl ⟨by rfl, ?_⟩) qI ?_; rotate_left; (focus (intro w' hSw; (try dsimp only at hSw); go_simp; (try with_reducible rfl))); (try simp only [Act.put, List.setIfInBounds_toArray, List.set_cons_zero, List.set_cons_succ]))
 (refine Bf.take 7 (i := 2) (v := ?_) rfl qG (fun _ _ _ h => h) (Or.inl ⟨by rfl, ?_⟩) qI ?_; rotate_left; (focus (intro w' hSw; (try dsimp only at hSw); go_simp; (try with_reducible rfl))); (try simp only [Act.put, List.setIfInBounds_toArray, List.set_cons_zero, List.set_cons_succ]))
 (refine Bf.take 7 (i := 3) (v := ?_) rfl qG (fun _ _ _ h => h) (Or.inl ⟨by rfl, ?_⟩) qI ?_; rotate_left; (focus (intro w' hSw; (try dsimp only at hSw); go_simp; (try with_reducible rfl))); (try simp only [Act.put, List.setIfInBounds_toArray, List.set_cons_zero, List.set_cons_succ]))
 exact qEx) : p := h
theorem qAv {p : Prop} (h : p := by
 have hXN : Hid (Bo s0 = none) := Ae (by rw [hX1.out, E3, HS.out]; simp only [if_true]; rw [show A7 st = none by unfold A7; rw [hLst]; simp only; rw [hlet]; simp only; rw [hx]])
 refine Cg (fun W => W.cell? ⟨wy.heap.size, i, none⟩ = some (.int .i64 (st.o i : Nat))) 7 qG qK (fun hHeld => ?_)
 (refine Bf.take 7 (i := 0) (v := ?_) rfl qG (fun _ _ _ h => h) (Or.inl ⟨by rfl, ?_⟩) qI ?_; rotate_left; (focus (intro w' hSw; (try dsimp only at hSw); go_simp; (try with_reducible rfl))); (try simp only [Act.put, List.setIfInBounds_toArray, List.set_cons_zero, List.set_cons_succ]))
 (refine Bf.take 7 (i := 1) (v := ?_) rfl qG (fun _ _ _ h => h) (Or.inl ⟨by rfl, ?_⟩) qI ?_; rotate_left; (focus (intro w' hSw; (try dsimp only at hSw); go_simp; (try with_reducible rfl))); (try simp only [Act.put, List.setIfInBounds_toArray, List.set_cons_zero, List.set_cons_succ]))
 (refine Bf.take 7 (i := 2) (v := ?_) rfl qG (fun _ _ _ h => h) (Or.inl ⟨by rfl, ?_⟩) qI ?_; rotate_left; (focus (intro w' hSw; (try dsimp only at hSw); go_simp; (try with_reducible rfl))); (try simp only [Act.put, List.setIfInBounds_toArray, List.set_cons_zero, List.set_cons_succ]))
 (refine Bf.take 7 (i := 3) (v := ?_) rfl qG (fun _ _ _ h => h) (Or.inl ⟨by rfl, ?_⟩) qI ?_; rotate_left; (focus (intro w' hSw; (try dsimp only at hSw); go_simp; (try with_reducible rfl))); (try simp only [Act.put, List.setIfInBounds_toArray, List.set_cons_zero, List.set_cons_succ]))
 exact qEx) : p := h
theorem qAw {p : Prop} (h : p := by
 have hN : ¬ Ld x0 x1 x2 x3 y0 y1 y2 y3 := fun h => hs (by unfold Ld at h; omega)
 have HN := Ae hN
 clear hN
 go_wp2_with fail
 go_quiet (fail)
 have HBq : Below w.heap.size w (wr.drewN nq) := Ay _ HBr
 go_wp2_with fail
 refine bodyPost_ret (v := .tuple #[.agg #[.int .u16 0, .int .u16 0, .int .u16 0, .int .u16 0], .int .i64 3]) (by simp [*, results, Tryz.results197, go_sem]) rfl ?_
 exact ⟨Or.inr ⟨HN.out, rfl⟩, by go_grown⟩) : p := h
theorem qAx {p : Prop} (h : p := by
 refine Fu.add ((hHO.out.keep HB6).keep ((Ac _ _).alloc (Ad _) _)) ⟨hfx.top.neg, rfl, hfx.low.neg, rfl, hTI.out.key⟩ ⟨hfx.top.rd.alloc _, hfx.low.rd.alloc _, hrd2.s0, hrd2.s1, hrd2.s2, hrd2.s3⟩ ⟨k1.mono hzo, k2.mono hzo⟩ (fun gb hgb => ?_) hgrow7 hown7 ?_
 ·have hlt := (hHO.out.own.lt gb hgb).2
  exact ⟨k1.ap hlt, k2.ap hlt⟩
 ·rcases hat7 with h | h
  ·exact .inl h.symm
  ·exact .inr (congrArg some h)) : p := h
theorem qAy {p : Prop} (h : p := by
 refine ⟨g3, ac, n3, n3, rfl, ?_, ?_, by go_grown⟩
 ·rw [hz']
  exact qFf
 ·exact qFk) : p := h
theorem qAz {p : Prop} (h : p := by
 have hk0 : w.heap.size < w5.heap.size := by have := F5.sz; omega
 have hk1 : w.heap.size + 1 < w5.heap.size := by have := F5.sz; omega
 have hkR : R < w5.heap.size := by omega
 have hkn : ¬ R = w.heap.size := by omega
 have hkm : ¬ R = w.heap.size + 1 := by omega
 obtain ⟨b0, b1, b2, b3, b4, b5, b6, b7⟩ := F5.tm
 simp only [Nat.zero_add] at b0 b1 b2 b3 b4 b5 b6 b7
 obtain ⟨a0, a1, a2, a3, a4, a5, a6, a7⟩ := F5.sm
 simp only [Nat.zero_add, zTm] at a0 a1 a2 a3 a4 a5 a6 a7
 obtain ⟨p0, p1, p2, p3, p4, p5, p6, p7⟩ := zC F5.tf
 obtain ⟨o0, o1, o2, o3, o4, o5, o6, o7⟩ := zC F5.sf
 have yy2 := D5.c2
 have yy3 := D5.c3
 go_wp2_with fail
 refine bodyPost_ret (v := t.val) (by simp [results, Tryz.results133, go_sem, a0, a1, a2, a3, a4, a5, a6, a7, o0, o1, o2, o3, o4, o5, o6, o7, hk1]) rfl ?_
 have hg9 := C7 F5.grown (w.heap.size + 1) qB (.bool t.g1) (.slice t.a1 t.n1 t.c1) (.bool t.g2) (.slice t.a2 t.n2 t.c2) (.int .u16 t.m0) (.int .u16 t.m1) (.int .u16 t.m2) (.int .u16 t.m3)
 exact ⟨t, c, k2, 4, m2, rfl, by omega, hg9, D5.setS _ qB _ _ _ _ _ _ _ _, (hF.grown hg9 hRB).mono qB, HX.out⟩) : p := h
theorem qBa {p : Prop} (h : p := by
 have hc0 : (Br c.1 0 == 0) = false := by rw [beq_eq_false_iff_ne]; exact fun e => hz (En.1 e)
 have HK := Ae (Xm hr F7)
 clear HX HXd hz
 go_wp2_with (first | (go_at_call 41; refine (Fy w7 t.g1 t.a1 t.n1 t.c1 c.1 t.g2 t.a2 t.n2 t.c2 c.2 F7.fr l2 l1).mono ?_; rintro e w8 ⟨rfl, hb8⟩; replace b0 := Au hb8 b0; replace b1 := Au hb8 b1; replace b2 := Au hb8 b2; replace b3 := Au hb8 b3; replace b4 := Au hb8 b4; replace b5 := Au hb8 b5; replace b6 := Au hb8 b6; replace b7 := Au hb8 b7))
 have hG9 := G7.trans (Az hb8 (some R))
 refine bodyPost_ret (v := .slice (some ⟨w8.heap.size, 0, none⟩) 1 1) (by simp [results, Tryz.results50, go_sem]) rfl ⟨_, 1, 1, kk, 0, false, _, rfl, Fm _ hG9, (D7.keep hb8).allocR _, Zd (t := t) ⟨by simp [go_sem], by simp [go_sem], by simp [go_sem], by simp [go_sem], by simp [go_sem], by simp [go_sem], by simp [go_sem], by simp [go_sem]⟩ ((F7.keep hb8).keep ((Ac _ _).alloc (Ad _) _)) hG9.size HK.out, HZ.out⟩) : p := h
theorem qBb {p : Prop} (h : p := by
 rintro e w3 ⟨g3, n3, rfl, hn3, hnum, hb⟩
 obtain ⟨hc, hf⟩ := Ax hb; have hz := hb.size
 replace HB : Below w.heap.size w w3 := HB.trans (hb.mono HBz)
 have r0 : w3.cell? ⟨w.heap.size, 0, none⟩ = some (.bool false) := (hc _ _ hlr).trans k0
 have r1 : w3.cell? ⟨w.heap.size, 1, none⟩ = some (.slice none 0 0) := (hc _ _ hlr).trans k1
 have r2 : w3.frozen? ⟨w.heap.size, 0, none⟩ = false := (hf _ _ hlr).trans f0
 have r3 : w3.frozen? ⟨w.heap.size, 1, none⟩ = false := (hf _ _ hlr).trans f1
 go_wp2_with fail
 refine bodyPost_ret (v := .agg #[.bool g3, .slice a' n3 n3]) (by simp [results, Tryz.results27, go_sem, r0, r1]) rfl ?_
 have hfr3 : Av (w.heap.size + 1) w3 a' n3 := (hfr.keep hb).less hn3
 refine ⟨g3, a', n3, n3, rfl, ?_, ?_, by go_grown⟩
 ·exact qFg
 ·exact qFc) : p := h
theorem qBc {p : Prop} (h : p := by
 rintro e w3 ⟨g3, n3, rfl, hn3, hnum, hb⟩
 obtain ⟨hc, hf⟩ := Ax hb; have hz := hb.size
 replace HB : Below w.heap.size w w3 := HB.trans (hb.mono HBz)
 have r0 : w3.cell? ⟨w.heap.size, 0, none⟩ = some (.bool false) := (hc _ _ hlr).trans k0
 have r1 : w3.cell? ⟨w.heap.size, 1, none⟩ = some (.slice none 0 0) := (hc _ _ hlr).trans k1
 have r2 : w3.frozen? ⟨w.heap.size, 0, none⟩ = false := (hf _ _ hlr).trans f0
 have r3 : w3.frozen? ⟨w.heap.size, 1, none⟩ = false := (hf _ _ hlr).trans f1
 go_wp2_with fail
 refine bodyPost_ret (v := .agg #[.bool g3, .slice a' n3 c']) (by simp [results, Tryz.results189, go_sem, r0, r1]) rfl ?_
 have hfr3 : Av (w.heap.size + 1) w3 a' c' := hfr.keep hb
 refine ⟨g3, a', n3, c', rfl, ?_, ?_, by go_grown⟩
 ·exact qFg
 ·exact qFc) : p := h
theorem qBd {p : Prop} (h : p := by
 rintro e w5 ⟨rfl, hb⟩
 obtain ⟨hc, hf⟩ := Ax hb; have hz := hb.size; (try simp only [Aj, Ak] at hz)
 replace HB := zD w hb
 obtain ⟨s0_0, s0_1⟩ := qX hc (w.heap.size) (.bool g1) (.slice a1 n1 c1); obtain ⟨s0_2, s0_3⟩ := qY hc (w.heap.size) (.bool g2) (.slice a2 n2 c2)
 clear hc hf hb
 go_wp2_with fail
 go_ret
 refine ⟨?_, HB⟩
 have hr := HR.out
 have e1 : FOk g1 d1 g2 d2 ↔ ((z1.gcd z2 : Nat) : Int) = 1 := by
  exact qFj
 by_cases h3 : ((z1.gcd z2 : Nat) : Int) = 1
 ·have := hr.1 (e1.2 h3)
  rw [this]
  show Ending.returned (.bool (decide (((z1.gcd z2 : Nat) : Int) = 1))) = _
  rw [decide_eq_true h3]
 ·have h4 : r = false := by
   cases r
   ·rfl
   ·exact absurd (e1.1 (hr.2 rfl)) h3
  rw [h4]
  show Ending.returned (.bool (decide (((z1.gcd z2 : Nat) : Int) = 1))) = _
  rw [decide_eq_false h3]) : p := h
theorem qBe {p : Prop} (h : p := by
 refine ⟨ge, ae, ne, ce, gf, af, nf, cf, rfl, ⟨?_, ?_, hr.pos, hr.red⟩, ?_, ?_, hap, by go_grown⟩
 ·exact hr.top.set4 fe _ _ _ _ _ _ _ _ u2 u2 u2 u2
 ·exact hr.low.set4 ff _ _ _ _ _ _ _ _ u2 u2 u2 u2
 ·exact (fe.set4 _ _ _ _ _ _ _ _ u2 u2 u2 u2).mono qB
 ·exact (ff.set4 _ _ _ _ _ _ _ _ u2 u2 u2 u2).mono qB) : p := h
theorem qBf {p : Prop} (h : p := by
 go_wp2_with fail
 refine bodyPost_ret (v := .agg #[.bool g3, .slice a1 n3 c1]) (by simp [results, Tryz.results202, go_sem, s2_0, s2_1]) rfl ?_
 rw [HQ1.out, ← HR.out] at hnum3
 have q3 : w.heap.size + 1 + 1 < w.heap.size + 1 + 1 + 1 := Ag _
 refine ⟨g3, a1, n3, c1, rfl, ?_, ((hfr2.setNew _ _ q3).setNew _ _ q3).mono qB, by go_grown⟩
 exact (hnum3.setFresh hfr2 _ _ q3).setFresh (hfr2.setNew _ _ q3) _ _ q3) : p := h
theorem qBg {p : Prop} (h : p := by
 have y2 := D4.c2
 have z2 := D4.f2
 clear hX4 hs HX HX3
 go_wp2_with fail
 have D5 := D4.set2 4
 have G5 := G4.trans (Aw (o := 2) (.int .i64 4) (Bc w4 (some R)))
 clear D4 T4 F4 G4 y2 z2
 generalize w4.setCell ⟨R, 2, none⟩ (.int .i64 4) = w5 at *
 go_loopw [] (fun wr => ∃ n, wr = w5.drewN n) (fun _ => 0)
 case atStart => exact ⟨0, rfl⟩
 case round =>
  obtain ⟨n6, hw6⟩ := hrel
  have D6 : Bh wr R L k3 4 m0 := by rw [hw6]; exact D5.drewN n6
  have G6 : wo.grownBy wr (some R) := by rw [hw6]; exact C3 G5 n6
  clear hw6 D5 G5
  have y2 := D6.c2
  have y3 := D6.c3
  go_wp2_with fail
  exact bodyPost_ret (v := .slice none 0 0) (by simp [results, Tryz.results50, go_sem]) rfl ⟨none, 0, 0, k3, 4, m0, [], rfl, G6, D6, Bk.nil _ _, HZ.out⟩) : p := h
theorem qBh {p : Prop} (h : p := by
 have hne : w0.heap.size + 1 ≠ w0.heap.size := by omega
 refine ⟨⟨?_, ?_, ?_, ?_, ?_, ?_, ?_, ?_⟩, ?_, fun i hi => ?_, fun i hi => ?_, by simpa using hz, A5 _ (A5 _ (A5 _ (A5 _ hgr (Ad _)) (Ad _)) (Ad _)) (Ad _)⟩
 ·simp [go_sem, b0]
 ·simp [go_sem, b1]
 ·simp [go_sem, b2]
 ·simp [go_sem, b3]
 ·simp [go_sem, b4]
 ·simp [go_sem, b5]
 ·simp [go_sem, b6]
 ·simp [go_sem, b7]
 ·obtain ⟨a0, a1, a2, a3, a4, a5, a6, a7⟩ := hs
  exact ⟨by simp [go_sem, a0], by simp [go_sem, a1], by simp [go_sem, a2], by simp [go_sem, a3], by simp [go_sem, a4], by simp [go_sem, a5], by simp [go_sem, a6], by simp [go_sem, a7]⟩
 ·rw [← hf i hi]; simp [go_sem]
 ·rw [← hg i hi]; simp [go_sem]) : p := h
theorem qBi {p : Prop} (h : p := by
 rcases List.mem_append.1 hp with hp | hp
 ·have hhp := Oz HBH.out hMp.out hp
  obtain ⟨q', hq1, hq2⟩ := O5 hMp.out hp
  exact (hGr2.out p hp).stay (B := B) hS4 hhp.nb (fun h1 h2 => by have := Mv HBA.out hq q' hq1 (by rw [hq2]; exact h1) h2; rw [hq2] at this; exact this) HbB.out qB hgw (fun h0 => hhp.lt h0) qB
 ·simp only [Ao] at hp
  subst hp
  have hhp := HBH.out _ hqm
  refine hGn.out.keepS (S := fun x => x = g) (Dk (Fg _ _) g _ _ rfl) (hhp.nb.imp id fun h => ⟨?_, ?_⟩) (fun h0 e => ?_) (fun x hx _ e => ?_)
  ·have h1 : b < B := h.2; have h2 := hS3.size; show b < _; omega
  ·exact fun e => by have h1 : b < B := h.2; have h2 : b = g := e; omega
  ·have h1 := HbB.out h0; simp only at e; omega
  ·omega) : p := h
theorem qBj {p : Prop} (h : p := by
 refine bodyPost_ret (v := .tuple #[.agg #[.bool ge, .slice ae ne ce, .bool gf, .slice af nf cf], .int .i64 0]) (by simp [*, results, Tryz.results199, go_sem]) rfl ?_
 rw [HM.out]
 have u : w.heap.size < w.heap.size + 1 := Ag _
 have fe : Av (w.heap.size + 1) w3 ae ce := hfe.mono (by simp only [Aj] at *; omega)
 have ff : Av (w.heap.size + 1) w3 af cf := hff.mono (by simp only [Aj] at *; omega)
 exact ⟨ge, ae, ne, ce, gf, af, nf, cf, rfl, ⟨hfr.top.set4 fe _ _ _ _ _ _ _ _ u u u u, hfr.low.set4 ff _ _ _ _ _ _ _ _ u u u u, hfr.pos, hfr.red⟩, ((((fe.setNew _ _ u).setNew _ _ u).setNew _ _ u).setNew _ _ u).mono qB, ((((ff.setNew _ _ u).setNew _ _ u).setNew _ _ u).setNew _ _ u).mono qB, by go_grown⟩) : p := h
theorem qBk {p : Prop} (h : p := by
 go_wp2_with (first | (go_at_call 49; refine (Ev _ R L k hLE.out 120 hDr.c0 hDr.c1 hL).mono ?_; rintro e w1 ⟨rfl, n1, rfl⟩; rw [hx0]))
 go_roundw
 case rel => exact ⟨1, by omega, by omega, rfl, _, rfl⟩
 case measure => decide) : p := h
theorem qBl {p : Prop} (h : p := by
 obtain ⟨g1, g2⟩ := hgo
 have hy : (⟨D.toArray⟩ : ByteArray)[i]'(by simpa [ByteArray.size] using g1) = D[i] := by simp [ByteArray.getElem_eq_getElem_data]
 have hb : Bl D[i] = true := List.all_eq_true.1 HA.out _ (List.getElem_mem g1)
 have HN := Ae (Na g1)
 generalize D[i] = b at *
 unfold Bl at hb
 rw [decide_eq_true_eq] at hb
 obtain ⟨b1, b2⟩ := hb
 generalize hx : Bd (D.take i) = x at *
 exact qFa) : p := h
theorem qBm {p : Prop} (h : p := by
 have hb2 : Below w.heap.size wr w2 := ((Ac w.heap.size wr).alloc qB _).grown hgrow2 qA (fun k hk => (hown.lt k hk).1)
 go_roundw
 case rel =>
  have ht := HT.out
  have hs := HST.out (t % 1000000000) (1 - t / 1000000000) qB
  rw [ET.out] at hown2
  refine ⟨k + 1, 1 - t / 1000000000, l ++ [t % 1000000000], by omega, by go_num, by rw [EO.out], by omega, Ae (by simp [HLL.out]), Ae hs, Ae (fun z hz => ?_), ?_, HBr.trans hb2⟩
  ·rcases List.mem_append.1 hz with h | h
   ·exact HQ.out z h
   ·rw [Ao] at h; omega
  ·rw [Ce]; exact hown2
 case measure => simp [intOf]; omega) : p := h
theorem qBn {p : Prop} (h : p := by
 have hF := Ae hF0
 have hr0 : r = false := by
  cases r
  ·rfl
  ·exact absurd (by have := (HR.out.2 rfl _ hlt).1.1; rw [HTK.out]; exact this) hF0
 subst hr0
 clear hF0
 (refine A9 qG qG ?_; (repeat (go_big_quiet_step (first | (go_at_call 186; exact Cz (Ge _ t.g1 t.a1 t.n1 t.c1 t.d1 (HT.top.keep (Subtype.property _)) t.g2 t.a2 t.n2 t.c2 t.d2 (HT.low.keep (Subtype.property _)) hs2 hs1 false ⟨fun e => absurd e hF.out, fun e => (by cases e)⟩))))); refine wpQuiet_nil ?_; intro _ hw0; obtain ⟨nq, hw0⟩ := hw0; subst hw0)
 go_wp2_with fail
 go_ret
 exact ⟨rfl, HBr.trans (nq.2.mono HBr.size)⟩) : p := h
theorem qBo {p : Prop} (h : p := by
 have hF := Ae hF0
 have hr0 : r = false := by
  cases r
  ·rfl
  ·exact absurd (by have := (HR.out.2 rfl _ hlt).1.1; rw [HTK.out]; exact this) hF0
 subst hr0
 clear hF0
 (refine A9 qG qG ?_; (repeat (go_big_quiet_step (first | (go_at_call 93; exact Cz (Gq _ t.g1 t.a1 t.n1 t.c1 t.d1 (HT.top.keep (Subtype.property _)) t.g2 t.a2 t.n2 t.c2 t.d2 (HT.low.keep (Subtype.property _)) hs2 hs1 false ⟨fun e => absurd e hF.out, fun e => (by cases e)⟩))))); refine wpQuiet_nil ?_; intro _ hw0; obtain ⟨nq, hw0⟩ := hw0; subst hw0)
 go_wp2_with fail
 go_ret
 exact ⟨rfl, HB1.trans (nq.2.mono HB1.size)⟩) : p := h
theorem qBp {p : Prop} (h : p := by
 have hg : k < T.length := by omega
 have hy : (⟨T.toArray⟩ : ByteArray)[k]'(by simpa [ByteArray.size] using hg) = T[k] := by simp [ByteArray.getElem_eq_getElem_data]
 have hb : ¬ (T[k].toNat : Int) = 47 := by
  have h1 : T[k] = t[k] := HT.out k hlt hg
  have h2 : Bl t[k] = true := List.all_eq_true.1 HA.out _ (List.getElem_mem hlt)
  unfold Bl at h2
  rw [decide_eq_true_eq] at h2
  rw [h1]
  omega
 generalize T[k] = b at *
 go_wp2_with fail
 go_roundw
 case rel => exact ⟨k + 1, by omega, by go_num, by first | assumption | go_grown⟩
 case measure => (first | (simp [intOf]; omega) | (simp [intOf]; done))) : p := h
theorem qBq {p : Prop} (h : p := by
 refine ⟨ge, ae, ne, ce, gf, af, nf, cf, rfl, ⟨?_, ?_, hr.pos, hr.red⟩, ?_, ?_, by go_grown⟩
 ·exact hr.top.set4 fe _ _ _ _ _ _ _ _ u2 u2 u2 u2
 ·exact hr.low.set4 ff _ _ _ _ _ _ _ _ u2 u2 u2 u2
 ·exact (fe.set4 _ _ _ _ _ _ _ _ u2 u2 u2 u2).mono qB
 ·exact (ff.set4 _ _ _ _ _ _ _ _ u2 u2 u2 u2).mono qB) : p := h
theorem qBr {p : Prop} (h : p := by
 obtain ⟨rfl, HB, hc⟩ := hrel
 go_wp2_with fail
 go_ret
 exact ⟨rfl, HB⟩) : p := h
theorem qBs {p : Prop} (h : p := by
 have f0_0 : w1.frozen? ⟨w.heap.size, 0, none⟩ = false := (hf _ _ qA).trans qJ
 have f0_1 : w1.frozen? ⟨w.heap.size, 1, none⟩ = false := (hf _ _ qA).trans qJ
 clear hc hf
 go_wp2_with fail
 go_ret
 exact ⟨by rw [HR.out]; rfl, by go_grown⟩) : p := h
theorem qBt {p : Prop} (h : p := by
 go_upto_region 12 with fail
 (refine A9 qG qG ?_; (repeat (go_big_quiet_step (fail))); refine wpQuiet_nil ?_; intro _ hw0; obtain ⟨nq, hw0⟩ := hw0; subst hw0)
 clear k0 k1 k2 k3 k4
 have hnb := nq.2
 replace hfG := (hnb.frozen (Aa _ _ hcG)).trans hfG
 replace hcG := Au hnb hcG
 replace hR := hR.keep hnp hnb
 generalize nq.val = wy at *
 clear nq hnb
 go_wp2_with fail
 go_meet
 case rel => exact ⟨gs', hgsb, HG2.out.le, hcG, hfG, hR⟩) : p := h
theorem qBu {p : Prop} (h : p := by
 go_wp2_with fail
 go_roundw
 case rel => exact ⟨k + 1, by omega, by go_num, HB5, b0, b1, b2⟩
 case measure => (first | (simp [intOf]; omega) | (simp [intOf]; done))) : p := h
theorem qBv {p : Prop} (h : p := by
 exact ((hf3.setNew _ _ (by show w.heap.size + 1 + 1 < _; omega)).setNew _ _ (by show w.heap.size + 1 + 1 < _; omega)).mono qB) : p := h
theorem qBw {p : Prop} (h : p := by
 go_wp2_with (first | (go_at_call 49; refine (Ev _ R L k hLE.out 121 hDr.c0 hDr.c1 hL).mono ?_; rintro e w1 ⟨rfl, n1, rfl⟩; rw [hx1]))
 go_roundw
 case rel => exact ⟨2, by omega, by omega, rfl, _, rfl⟩
 case measure => decide) : p := h
theorem qBx {p : Prop} (h : p := by
 rcases List.mem_append.1 hz with h | h
 ·exact HQ.out z h
 ·rw [Ao] at h; omega) : p := h
theorem qBy {p : Prop} (h : p := by
 have hc0 : Br c.1 0 = 0 := by rw [hz, C9]
 clear HX HXd hz
 go_wp2_with (first | (go_at_call 41; refine (Fy w7 t.g1 t.a1 t.n1 t.c1 c.1 t.g2 t.a2 t.n2 t.c2 c.2 F7.fr l2 l1).mono ?_; rintro e w8 ⟨rfl, hb8⟩; rw [hc0]))
 exact bodyPost_ret (v := .slice none 0 0) (by simp [results, Tryz.results50, go_sem]) rfl ⟨none, 0, 0, kk, 0, false, [], rfl, G7.trans (Az hb8 _), D7.keep hb8, Bk.nil _ _, HZ.out⟩) : p := h
theorem qBz {p : Prop} (h : p := by
 rw [show ((0 : Nat) : Int) - 1 = -1 from rfl]
 rw [List.replicate_zero, List.nil_append] at hown
 go_wp2_with fail
 go_ret2
 refine ⟨_, q, ?_, Cr hown hn (fun i => Bi (fun x hx => by have := hqlt.out x hx; omega) i), ?_, hqlt.out, .of_owns hown, HB⟩
 ·have := hr.out
  rw [List.drop_zero] at this
  rw [← this]; rfl
 ·have := hq.out
  rwa [List.drop_zero] at this) : p := h
theorem qCa {p : Prop} (h : p := by
 have hij : ((i : Int) + (k : Int)).toNat = i + k := by omega
 have HST := Ae (hown.stored (i + k) (.int .u32 (on : Int))).1
 clear hlen
 go_wp2_with fail
 go_roundw
 case rel =>
  refine ⟨i + 1, l1.set (i + k) on, by omega, by go_num, hst, ?_, by go_grown⟩
  rw [I4]
  exact HST.out
 case measure => (first | (simp [intOf]; omega) | (simp [intOf]; done))) : p := h
theorem qCb {p : Prop} (h : p := by
 go_wp2_with fail
 exact bodyPost_ret (v := .int .i64 0) (by simp [results, Tryz.results196, go_sem]) rfl ⟨0, k1, e1, true, rfl, by omega, HK.out, Aw _ HGx, HX.set3 true, HZ.out⟩) : p := h
theorem qCc {p : Prop} (h : p := by
 go_wp2_with fail
 go_meet
 case rel =>
  refine ⟨gq, a7, nq, nq, false, a8, nr, nr, ?_⟩
  rw [HEQ.out.1, HEQ.out.2]
  exact HD) : p := h
theorem qCd {p : Prop} (h : p := by
 go_wp2_with fail
 exact bodyPost_ret (v := .int .i64 0) (by simp [results, Tryz.results196, go_sem]) rfl ⟨0, k1, 4, true, rfl, by omega, HK.out, Aw _ HGx, HX.set3 true, HZ.out⟩) : p := h
theorem qCe {p : Prop} (h : p := by
 go_wp2_with fail
 go_roundw
 case rel =>
  refine ⟨k + 1, t / 1000000000, l1.set (i + k) (t % 1000000000), by omega, by go_num, by rw [HQ.out]; simp, ?_, hst, ?_, by go_grown⟩
  ·exact hst.out.few
  ·rw [I4]
   have := HST.out
   rw [HQ.out] at this ⊢
   simpa using this
 case measure => (first | (simp [intOf]; omega) | (simp [intOf]; done))) : p := h
theorem qCf {p : Prop} (h : p := by
 exact (hnum3.setFresh hf3 _ _ (by show w.heap.size + 1 + 1 < _; omega)).setFresh (hf3.setNew _ _ (by show w.heap.size + 1 + 1 < _; omega)) _ _ (by show w.heap.size + 1 + 1 < _; omega)) : p := h
theorem qCg {p : Prop} (h : p := by
 go_wp2_with fail
 go_ret
 exact ⟨by rw [HR.out]; rfl, by go_grown⟩) : p := h
theorem qCh {p : Prop} (h : p := by
 go_roundw
 case rel => exact ⟨a9, n9, c9, Bt p l', r', m', _, rfl, hX2, Ae (And.intro (hP9.mono (hg45.trans hg7).size) (hO9.mono (hg45.trans hg7).size)), hQ2, Ae (hr7.keep hb9), Ae ((hg45.trans hg7).trans (Az hb9 _))⟩
 case measure => rw [El (hr7.keep hb9), hm0.out]; simp only [List.length_cons]; omega) : p := h
theorem qCi {p : Prop} (h : p := by
 have hN := Ae (hw.out.trans (hT.out (by rw [hd.out]; simp [h])))
 clear hT hF hd hw
 go_wp2_with fail
 go_quiet (fail)
 go_wp2_with fail
 go_roundw
 case rel => exact ⟨k + 1, by omega, hN, by simp [*, go_sem], HB.step _ _⟩
 case measure => (simp [*, go_sem, intOf]; first | omega | exact Nat.sub_lt_sub_left hlt (Ag k))) : p := h
theorem qCj {p : Prop} (h : p := by
 refine (hS2.wide fun x hx => hx.imp (fun ⟨p, hp, h1, h2⟩ => ⟨p, ?_, h1, h2⟩) id).trans (hS4.wide fun x hx => hx.imp (fun ⟨h1, h2⟩ => ⟨((⟨a, b, n, c, m⟩ : Hl), .slice none 0 0), ?_, h1, h2⟩) fun h => by rw [h]; rfl)
 ·rw [He hq]; exact List.mem_append_left _ hp
 ·rw [He hq]; simp) : p := h
theorem qCk {p : Prop} (h : p := by
 exact ⟨by simp [*, go_sem], by simp [*, go_sem], by simp [*, go_sem], by simp [*, go_sem], by simp [*, go_sem], by simp [*, go_sem], by simp [*, go_sem], hk⟩) : p := h
theorem qCl {p : Prop} (h : p := by
 go_enter Tryz.func303, Tryz.ntmps303
 go_wp2_with (go_at_call 329; refine (Xj _ _).mono ?_; rintro e w' ⟨rfl, rfl⟩)
 go_ret
 exact ⟨rfl, rfl⟩) : p := h
theorem qCm {p : Prop} (h : p := by
 go_enter Tryz.func270, Tryz.ntmps270
 go_wp2_with (go_at_call 307; refine (Xr _ _).mono ?_; rintro e w' ⟨rfl, rfl⟩)
 go_ret
 exact ⟨rfl, rfl⟩) : p := h
theorem qCn {p : Prop} (h : p := by
 go_enter Tryz.func269, Tryz.ntmps269
 go_wp2_with (go_at_call 306; refine (Xf _ _).mono ?_; rintro e w' ⟨rfl, rfl⟩)
 go_ret
 exact ⟨rfl, rfl⟩) : p := h
theorem qCo {p : Prop} (h : p := by
 cases r
 ·rfl
 ·exact absurd hd0.out (by have := (HR.out.2 rfl _ hlt).1.2; rw [HTK.out]; exact this)) : p := h
theorem qCp {p : Prop} (h : p := by
 refine ⟨h.1, ?_⟩
 rcases h.2 with ⟨hn, _⟩ | ⟨g', cap, cur, hv, hb, hg, rest⟩
 ·cases hn
 ·simp only [Value.slice.injEq, Option.some.injEq, Addr.mk.injEq, and_true, true_and] at hv
  obtain ⟨rfl, rfl⟩ := hv
  exact .inr ⟨g, c, cur, rfl, hb, e.trans hg, rest⟩) : p := h
theorem qCq {p : Prop} (h : p := by
 rw [I4, e]
 have := HS.out
 first | exact this | (rw [List.set_set] at this; exact this)) : p := h
theorem qCr {p : Prop} (h : p := by
 have h0 : (0 : Int) ≤ (k : Int) := by omega
 simp [Instr.sliceAt, Instr.slice, Instr.sliceBounds, Instr.sliceBound, go_sem, h0, hk]) : p := h
theorem qCs {p : Prop} (h : p := by
 rw [Ba, Ba]
 cases g
 ·have h1 : ¬ z < 0 := by simpa using h.symm
  have h2 : z' < 0 := by simpa using h'.symm
  simp [sgn]; omega
 ·have h1 : z < 0 := by simpa using h.symm
  have h2 : ¬ z' < 0 := by simpa using h'.symm
  simp [sgn]; omega) : p := h
theorem qCt {p : Prop} (h : p := by
 go_wp2_with fail
 go_ret
 exact ⟨rfl, HBr.trans (nq.2.mono HBr.size)⟩) : p := h
theorem qCu {p : Prop} (h : p := by
 go_wp2_with fail
 go_ret
 exact ⟨rfl, HB1.trans (nq.2.mono HB1.size)⟩) : p := h
theorem qCv {p : Prop} (h : p := by
 rw [List.set_append_left _ _ qH, List.replicate_succ', List.set_append_right _ _ qH] at this
 simp only [List.length_replicate, Nat.sub_self, List.set_cons_zero, List.append_assoc, List.singleton_append] at this
 rw [T1.out] at this ⊢
 exact this) : p := h
theorem qCw {p : Prop} (h : p := by
 have hN := Ae (hF.out (by rw [hd.out]; rw [decide_eq_false_iff_not]; omega))
 clear hT hF hd ha
 go_wp2_with fail
 exact bodyPost_ret (v := .bool false) (by simp [results, Tryz.results247, go_sem]) rfl ⟨by rw [hN.out], by go_grown⟩) : p := h
theorem qCx {p : Prop} (h : p := by
 go_wp2_with (first | (go_at_call 49; refine (Ev _ R L k hLE.out 122 hDr.c0 hDr.c1 hL).mono ?_; rintro e w1 ⟨rfl, n1, rfl⟩; rw [hx2]))
 go_roundw
 case rel => exact ⟨3, by omega, by omega, rfl, _, rfl⟩
 case measure => decide) : p := h
theorem qCy {p : Prop} (h : p := by
 have h1 := h.neg
 have h2 := h'.neg
 unfold sgn
 cases g <;> simp at h1 h2 ⊢ <;> omega) : p := h
theorem qCz {p : Prop} (h : p := by
 rcases hown.2 with ⟨h0, _⟩ | ⟨g', _, _, h0, _, h3, _⟩
 ·cases h0
 ·simp only [Value.slice.injEq, Option.some.injEq, Addr.mk.injEq, and_true, true_and] at h0
  rw [h0.1]
  exact (Ar.1 h3).1) : p := h
theorem qDa {p : Prop} (h : p := by
 clear HX hXn
 have y2 := D6.c2
 have y3 := D6.c3
 go_wp2_with fail
 exact bodyPost_ret (v := .slice none 0 0) (by simp [results, Tryz.results50, go_sem]) rfl ⟨none, 0, 0, kk, 4, m, [], rfl, G6, D6, Bk.nil _ _, HZ.out⟩) : p := h
theorem qDb {p : Prop} (h : p := by
 have hd2 := I6 hU7 b2 HHb.out
 have hsh := hU7.shape
 clear hU6 hU
 go_roundw
 case rel => exact ⟨k + 1, _, by omega, by go_num, hsh, hU7, hd2⟩
 case measure => (first | (simp [intOf]; omega) | (simp [intOf]; done))) : p := h
theorem qDc {p : Prop} (h : p := by
 rintro e w2 ⟨rfl, hb⟩
 obtain ⟨hc, hf⟩ := Ax hb; have hz := hb.size; (try simp only [Aj, Ak] at hz)
 replace HB := zD w hb
 clear hc hf hb
 go_wp2_with fail
 go_ret
 exact ⟨rfl, HB⟩) : p := h
theorem qDd {p : Prop} (h : p := by
 have HC := Ae hcm
 clear hcm
 go_enter Tryz.func225, Tryz.ntmps225
 go_wp2_with (go_at_call 269; refine (Mc _ _ _).mono ?_; rintro e w' ⟨rfl, rfl⟩; rw [HC.out])
 go_ret
 exact ⟨rfl, Ac _ _⟩) : p := h
theorem qDe {p : Prop} (h : p := by
 refine Bf.done qG ?_ _
 all_goals
  go_wp2_with fail
  go_meet
  case rel =>
   refine ⟨gx, ax, nx, cx, gy, ay, ny, cy, ?_⟩
   rw [HEQ.out.1, HEQ.out.2]
   exact HD.set hx hy (fx.mono qA) (fy.mono qA)) : p := h
theorem qDf {p : Prop} (h : p := by
 have h1 := Eg (dg z'.natAbs) (Dj _)
 have h2 := Nat.pow_le_pow_right (show 0 < 1000000000 by omega) (show (dg z'.natAbs).length ≤ n' by omega)
 rw [Ba] at h1 ⊢
 rw [Ba, Nat.pow_succ]
 omega) : p := h
theorem qDg {p : Prop} (h : p := by
 have h1 := (HBH.out _ hqm).lt hc0
 rcases e with ⟨p, hp, hpc, he⟩ | e
 ·exact Mv HBA.out hq p hp hpc hc0 he.symm
 ·simp only [Value.ownBlock, Option.some.injEq] at e
  have : b < B := h1
  omega) : p := h
theorem qDh {p : Prop} (h : p := by
 refine ⟨h.len, h.cap, h.few, h.top, h.small, ?_⟩
 rcases Aq n with h0 | h0
 ·exact .inl h0
 ·exact .inr ⟨b, o, rfl, fun i hi => (Af (w := w) e).trans (h.at hi)⟩) : p := h
theorem qDi {p : Prop} (h : p := by
 have h1 := Eg (dg z.natAbs) (Dj _)
 have h2 := Nat.pow_le_pow_right (show 0 < 1000000000 by omega) (show (dg z.natAbs).length ≤ n by omega)
 rw [Ba] at h1 ⊢
 rw [Ba, Nat.pow_succ]
 omega) : p := h
theorem qDj {p : Prop} (h : p := by
 clear hS3 hS4 hS5 hGn hst hcame hF2 hGr2
 go_roundw
 case rel => exact ⟨i + 1, _, by omega, by go_num, hMp', hown4, hGr', hS6⟩
 case measure => (first | (simp [intOf]; omega) | (simp [intOf]; done))) : p := h
theorem qDk {p : Prop} (h : p := by
 have hhp := Oz HBH.out hMp.out hp
 exact (hGr.out p hp).keepS (S := fun _ => False) (Ey hb2 _) (hhp.nb.imp id fun h => ⟨by have := h.2; omega, id⟩) (fun _ => id) (fun _ _ _ => id)) : p := h
theorem qDl {p : Prop} (h : p := by
 rw [List.all_eq_true] at ha ⊢
 exact fun x hx => ha x (List.mem_of_mem_take (List.mem_of_mem_drop hx))) : p := h
theorem qDm {p : Prop} (h : p := by
 clear HX HXd
 go_wp2_with fail
 exact bodyPost_ret (v := .slice none 0 0) (by simp [results, Tryz.results50, go_sem]) rfl ⟨none, 0, 0, kk, 0, true, [], rfl, G7, D7, Bk.nil _ _, HZ.out⟩) : p := h
theorem qDn {p : Prop} (h : p := by
 obtain rfl : k = n + 40 := by omega
 go_wp2_with fail
 go_roundw
 case rel => exact ⟨i + 1, by omega, by go_num, HB⟩
 case measure => (first | (simp [intOf]; omega) | (simp [intOf]; done))) : p := h
theorem qDo {p : Prop} (h : p := by
 have h7 := hT6.setO i hi4 n
 rw [Int.natCast_add] at h7
 exact hu ▸ h7) : p := h
theorem qDp {p : Prop} (h : p := by
 exact (hn3.setFresh hf3 _ _ (by show w.heap.size + 1 + 1 < _; omega)).setFresh (hf3.setNew _ _ (by show w.heap.size + 1 + 1 < _; omega)) _ _ (by show w.heap.size + 1 + 1 < _; omega)) : p := h
theorem qDq {p : Prop} (h : p := by
 refine bodyPost_ret (v := .int .i64 0) (by simp [results, Tryz.results194, go_sem]) rfl ?_
 rw [HX.out]
 exact .yes (Aw _ (hg12.trans (Az hw3 _))) (hr3.set1 true)) : p := h
theorem qDr {p : Prop} (h : p := by
 clear hF hF1
 go_wp2_with fail
 go_roundw
 case rel => exact ⟨i + 1, by omega, by go_num, hBk, hF', hS⟩
 case measure => (first | (simp [intOf]; omega) | (simp [intOf]; done))) : p := h
theorem qDs {p : Prop} (h : p := by
 go_wp2_with fail
 go_quiet (fail)
 go_wp2_with fail
 go_ret
 exact ⟨by rw [HR.out]; rfl, (by first | exact Ay _ HBr | exact Ay _ (Ay _ HBr))⟩) : p := h
theorem qDt {p : Prop} (h : p := by
 unfold Br
 rcases Nat.lt_trichotomy x y with h | h | h
 ·rw [if_pos qB]; simp [h]
 ·rw [h, if_neg qB, if_pos rfl]; simp
 ·rw [if_neg qB, if_neg qB]; simp; omega) : p := h
theorem qDu {p : Prop} (h : p := by
 unfold Tm.mN
 rcases (by omega : i = 0 ∨ i = 1 ∨ i = 2 ∨ i = 3) with rfl | rfl | rfl | rfl
 ·exact e0.symm
 ·exact e1.symm
 ·exact e2.symm
 ·exact e3.symm) : p := h
theorem qDv {p : Prop} (h : p := by
 go_roundw
 case rel => exact ⟨k + 1, by omega, by go_num, hBk', hF', hF1', hS', c0', c2'⟩
 case measure => (first | (simp [intOf]; omega) | (simp [intOf]; done))) : p := h
theorem qDw {p : Prop} (h : p := by
 rw [List.drop_eq_getElem_cons h, List.dropWhile_cons, hb]; rfl) : p := h
theorem qDx {p : Prop} (h : p := by
 obtain ⟨b', o', hbo, hcl⟩ := h.cell.resolve_left qB
 simp only [Option.some.injEq, Addr.mk.injEq, and_true] at hbo
 obtain ⟨rfl, rfl⟩ := hbo
 exact hcl i hi) : p := h
theorem qDy {p : Prop} (h : p := by
 rcases h.2 with ⟨rfl, _⟩ | ⟨g, cap, cur, rfl, hg, _⟩
 ·intro k hk; cases hk
 ·intro k hk
  simp only [Value.ownBlock, Option.some.injEq] at hk
  omega) : p := h
theorem qDz {p : Prop} (h : p := by
 have := Tryz.strings_IndexByte ⟨#[120, 121, 122, 116]⟩ (b.toNat : Int) W
 have e : ((b.toNat : Int).toNat.toUInt8) = b := by simp
 rw [e] at this
 exact this) : p := h
theorem qEa {p : Prop} (h : p := by
 rw [Bt, if_neg h1, if_pos h2]
 intro t ht
 rcases List.mem_cons.1 ht with rfl | ht
 ·exact hb _ qH
 ·exact ih ha (fun t h => hb t (by simp [h])) t ht) : p := h
theorem qEb {p : Prop} (h : p := by
 simp only [lim, List.getD, Ai hi, Option.getD_some]
 omega) : p := h
theorem qEc {p : Prop} (h : p := by
 rw [Bt, if_pos hlt]
 intro t ht
 rcases List.mem_cons.1 ht with rfl | ht
 ·exact ha _ qH
 ·exact ih (fun t h => ha t (by simp [h])) hb t ht) : p := h
theorem qEd {p : Prop} (h : p := by
 rintro e w2 ⟨rfl, hb2⟩
 replace HB := HB.trans (hb2.mono HB.size)
 go_wp2_with fail
 go_ret
 exact ⟨by rw [HR.out]; rfl, HB⟩) : p := h
theorem qEe {p : Prop} (h : p := by
 refine .inr ⟨b, o, ha, fun i hi => (hc i hi).butR hg fun e => ?_⟩
 have h1 := hr _ e.symm
 have h2 := hn _ ha
 simp at h2
 omega) : p := h
theorem qEf {p : Prop} (h : p := by
 obtain ⟨c0, c1, f0, f1⟩ := h
 exact ⟨by simp [*, go_sem], by simp [*, go_sem], by simp [*, go_sem], by simp [*, go_sem]⟩) : p := h
theorem qEg {p : Prop} (h : p := by
 cases r
 ·rfl
 ·refine absurd ((HR.out.2 rfl _ hlt).2 qB) ?_
  rw [← HTK.out, Nat.add_sub_cancel, ← HUK.out]; exact hl0) : p := h
theorem qEh {p : Prop} (h : p := by
 have := Pr r (10 * 0 + (b.toNat - 48))
 simp only [Nat.mul_zero, Nat.zero_add] at this
 rw [← this]; simp [Bd]) : p := h
theorem qEi {p : Prop} (h : p := by
 clear hr
 go_enter Tryz.func209, Tryz.ntmps209
 go_wp2
 go_ret
 exact ⟨by first | (simp; done) | (simp; omega), rfl⟩) : p := h
theorem qEj {p : Prop} (h : p := by
 rw [Bt, if_neg h1, if_neg h2, if_pos h3]
 exact ih (fun t h => ha t (by simp [h])) (fun t h => hb t (by simp [h]))) : p := h
theorem qEk {p : Prop} (h : p := by
 have h1 := h.low.rd.len
 have h2 := h'.low.rd.len
 rw [Int.natAbs_mul]
 have h3 := Io q.natAbs q'.natAbs
 omega) : p := h
theorem qEl {p : Prop} (h : p := by
 obtain rfl : k = n := by omega
 have hr := HR.out.1 he.out
 subst hr
 go_wp2_with fail
 go_ret
 exact ⟨rfl, HBr⟩) : p := h
theorem qEm {p : Prop} (h : p := by
 go_wp2
 go_ret
 exact ⟨rfl, Ay _ (Ac _ _)⟩) : p := h
theorem qEn {p : Prop} (h : p := by
 by_cases h : i < 6
 ·rw [As qB, As qB]
 ·rw [show i = 6 by omega]) : p := h
theorem qEo {p : Prop} (h : p := by
 refine wpS_of_wp ?_
 go_wp2_with fail
 cases c₀
 simp_all [bodyPostS, results, Tryz.results46, Exit.thenS]) : p := h
theorem qEp {p : Prop} (h : p := by
 obtain rfl : k = n := by omega
 go_wp2_with fail
 go_ret
 exact ⟨rfl, by first | assumption | go_grown⟩) : p := h
theorem qEq {p : Prop} (h : p := by
 rcases Nat.lt_or_ge j i with h | h
 ·exact HZ.out i h
 ·obtain rfl : i = j := by omega
  exact H0.out) : p := h
theorem qEr {p : Prop} (h : p := by
 cases hx : Do (b :: r) st.many with
 | none =>
  exact qAo
 | some x =>
  obtain ⟨cn, r', m'⟩ := x
  have hF : Hid (A7 st = some ⟨Es st.c cn, st.o, r', m'⟩) := Ae (by unfold A7; rw [hLst]; simp only; rw [hlet]; simp only; rw [hx])
  have hfw := (Iz hx).2
  have hbL : (b :: r).length ≤ 1000000 := by rw [← hLst]; omega
  have hf9 : Cv 1000000000 cn := hfw.mono qB
  clear hfw
  refine Cg (fun W => W.cell? ⟨w1.heap.size, 0, none⟩ = some (.bool g5) ∧ W.cell? ⟨w1.heap.size, 1, none⟩ = some (.slice a5 n5 c5) ∧ W.cell? ⟨w1.heap.size, 2, none⟩ = some (.bool g6) ∧ W.cell? ⟨w1.heap.size, 3, none⟩ = some (.slice a6 n6 c6)) 4 qG qK (fun hHeld => ?_)
  (refine Bf.take 3 (i := 0) (v := ?_) rfl qG (fun _ _ _ h => h) (Or.inl ⟨by rfl, ?_⟩) qI ?_; rotate_left; (focus (intro w' hSw; (try dsimp only at hSw); go_simp; (try with_reducible rfl))); (try simp only [Act.put, List.setIfInBounds_toArray, List.set_cons_zero, List.set_cons_succ]))
  (refine Bf.take 4 (i := 1) (v := ?_) rfl qG (fun _ _ _ h => h) (Or.inl ⟨by rfl, ?_⟩) qI ?_; rotate_left; (focus (intro w' hSw; (try dsimp only at hSw); go_simp; (try with_reducible rfl))); (try simp only [Act.put, List.setIfInBounds_toArray, List.set_cons_zero, List.set_cons_succ]))
  (refine Bf.one (i := 2) rfl qG (fun K hK => ?_); go_simp; (go_at_call 195; refine (Kp _ R (b :: r) st.many hrd hbl).mono ?_; rintro e w6 ⟨hg6, hp6⟩; rw [hx] at hp6; obtain ⟨v, rfl, hv, hr6⟩ := hp6; have hT6 := hTd.rd hg6 hr6; have hf56 := hf5d.butR (q1.newA hf5.top.rd) (q2.newA hf5.low.rd) hg6 (fun k hk => by cases hk; exact hRlt); replace e0 := An hg6 (show wi.drew.cell? _ = _ from e0) hneC; replace e1 := An hg6 (show wi.drew.cell? _ = _ from e1) hneC; replace e2 := An hg6 (show wi.drew.cell? _ = _ from e2) hneC; replace e3 := An hg6 (show wi.drew.cell? _ = _ from e3) hneC); (try go_wp2_with fail); refine hK.out _ _ (fun _ => qK) ?_; clear hK K; (try simp only [Act.put, List.setIfInBounds_toArray, List.set_cons_zero, List.set_cons_succ]))
  (refine Bf.one (i := 3) rfl qG (fun K hK => ?_); go_simp; (go_at_call 106; refine (Y6 _ g5 a5 n5 c5 g6 a6 n6 c6 st.c hf56 _ v cn hv s1 s2 hf9).mono ?_; rintro e w7 ⟨gm1, am1, nm1, cm1, gm2, am2, nm2, cm2, rfl, hmul, hm1, hm2, hap, hb7⟩; have hT7 := hT6.keep hb7; replace e0 := Au hb7 e0; replace e1 := Au hb7 e1; replace e2 := Au hb7 e2; replace e3 := Au hb7 e3; have z0 := hT7.cf 0 qB; have z1 := hT7.cf 1 qB; have z2 := hT7.cf 2 qB; have z3 := hT7.cf 3 qB); (try go_wp2_with fail); refine hK.out _ _ (fun _ => qK) ?_; clear hK K; (try simp only [Act.put, List.setIfInBounds_toArray, List.set_cons_zero, List.set_cons_succ]))
  (refine Bf.one (i := 4) rfl qG (fun K hK => ?_); go_simp; refine hK.out _ _ (fun h => absurd h qC) ?_; clear hK K; (try simp only [Act.put, List.setIfInBounds_toArray, List.set_cons_zero, List.set_cons_succ]))
  refine Bf.done qG ?_ _
  have h46 := hT6.h4
  have km1 : Av (w1.heap.size + 1 + 1) w7 am1 cm1 := hm1.mono qB
  have km2 : Av (w1.heap.size + 1 + 1) w7 am2 cm2 := hm2.mono qB
  obtain ⟨u, hu⟩ : ∃ u : TS, u = ⟨Es st.c cn, st.o, r', m'⟩ := ⟨_, rfl⟩
  have hT8 := hT7.setC (c := Es st.c cn) hmul km1 km2 hap
  have hT7' : C5 wo ((((w7.setCell ⟨w1.heap.size, 0, none⟩ (.bool gm1)).setCell ⟨w1.heap.size, 1, none⟩ (.slice am1 nm1 cm1)).setCell ⟨w1.heap.size, 2, none⟩ (.bool gm2)).setCell ⟨w1.heap.size, 3, none⟩ (.slice am2 nm2 cm2)) R w1.heap.size (w1.heap.size + 1) u := hu ▸ hT8
  exact qFm) : p := h
theorem qEs {p : Prop} (h : p := by
 cases hx : Do (b :: r) st.many with
 | none =>
  exact qAo
 | some x =>
  obtain ⟨cn, r', m'⟩ := x
  have hF : Hid (A7 st = some ⟨Es st.c cn, st.o, r', m'⟩) := Ae (by unfold A7; rw [hLst]; simp only; rw [hlet]; simp only; rw [hx])
  have hfw := (Iz hx).2
  have hbL : (b :: r).length ≤ 1000000 := by rw [← hLst]; omega
  have hf9 : Cv 1000000000 cn := hfw.mono qB
  clear hfw
  refine Cg (fun W => W.cell? ⟨w1.heap.size, 0, none⟩ = some (.bool g5) ∧ W.cell? ⟨w1.heap.size, 1, none⟩ = some (.slice a5 n5 c5) ∧ W.cell? ⟨w1.heap.size, 2, none⟩ = some (.bool g6) ∧ W.cell? ⟨w1.heap.size, 3, none⟩ = some (.slice a6 n6 c6)) 4 qG qK (fun hHeld => ?_)
  (refine Bf.take 3 (i := 0) (v := ?_) rfl qG (fun _ _ _ h => h) (Or.inl ⟨by rfl, ?_⟩) qI ?_; rotate_left; (focus (intro w' hSw; (try dsimp only at hSw); go_simp; (try with_reducible rfl))); (try simp only [Act.put, List.setIfInBounds_toArray, List.set_cons_zero, List.set_cons_succ]))
  (refine Bf.take 4 (i := 1) (v := ?_) rfl qG (fun _ _ _ h => h) (Or.inl ⟨by rfl, ?_⟩) qI ?_; rotate_left; (focus (intro w' hSw; (try dsimp only at hSw); go_simp; (try with_reducible rfl))); (try simp only [Act.put, List.setIfInBounds_toArray, List.set_cons_zero, List.set_cons_succ]))
  (refine Bf.one (i := 2) rfl qG (fun K hK => ?_); go_simp; (go_at_call 195; refine (Kp _ R (b :: r) st.many hrd hbl).mono ?_; rintro e w6 ⟨hg6, hp6⟩; rw [hx] at hp6; obtain ⟨v, rfl, hv, hr6⟩ := hp6; have hT6 := hTd.rd hg6 hr6; have hf56 := hf5d.butR (q1.newA hf5.top.rd) (q2.newA hf5.low.rd) hg6 (fun k hk => by cases hk; exact hRlt); replace e0 := An hg6 (show wi.drew.cell? _ = _ from e0) hneC; replace e1 := An hg6 (show wi.drew.cell? _ = _ from e1) hneC; replace e2 := An hg6 (show wi.drew.cell? _ = _ from e2) hneC; replace e3 := An hg6 (show wi.drew.cell? _ = _ from e3) hneC); (try go_wp2_with fail); refine hK.out _ _ (fun _ => qK) ?_; clear hK K; (try simp only [Act.put, List.setIfInBounds_toArray, List.set_cons_zero, List.set_cons_succ]))
  (refine Bf.one (i := 3) rfl qG (fun K hK => ?_); go_simp; (go_at_call 106; refine (Y6 _ g5 a5 n5 c5 g6 a6 n6 c6 st.c hf56 _ v cn hv s1 s2 hf9).mono ?_; rintro e w7 ⟨gm1, am1, nm1, cm1, gm2, am2, nm2, cm2, rfl, hmul, hm1, hm2, hap, hb7⟩; have hT7 := hT6.keep hb7; replace e0 := Au hb7 e0; replace e1 := Au hb7 e1; replace e2 := Au hb7 e2; replace e3 := Au hb7 e3; have z0 := hT7.cf 0 qB; have z1 := hT7.cf 1 qB; have z2 := hT7.cf 2 qB; have z3 := hT7.cf 3 qB); (try go_wp2_with fail); refine hK.out _ _ (fun _ => qK) ?_; clear hK K; (try simp only [Act.put, List.setIfInBounds_toArray, List.set_cons_zero, List.set_cons_succ]))
  (refine Bf.one (i := 4) rfl qG (fun K hK => ?_); go_simp; refine hK.out _ _ (fun h => absurd h qC) ?_; clear hK K; (try simp only [Act.put, List.setIfInBounds_toArray, List.set_cons_zero, List.set_cons_succ]))
  refine Bf.done qG ?_ _
  have h46 := hT6.h4
  have km1 : Av (wy.heap.size + 1) w7 am1 cm1 := hm1.mono qB
  have km2 : Av (wy.heap.size + 1) w7 am2 cm2 := hm2.mono qB
  obtain ⟨u, hu⟩ : ∃ u : TS, u = ⟨Es st.c cn, st.o, r', m'⟩ := ⟨_, rfl⟩
  have hT8 := hT7.setC (c := Es st.c cn) hmul km1 km2 hap
  have hT7' : C5 wo ((((w7.setCell ⟨w1.heap.size, 0, none⟩ (.bool gm1)).setCell ⟨w1.heap.size, 1, none⟩ (.slice am1 nm1 cm1)).setCell ⟨w1.heap.size, 2, none⟩ (.bool gm2)).setCell ⟨w1.heap.size, 3, none⟩ (.slice am2 nm2 cm2)) R w1.heap.size wy.heap.size u := hu ▸ hT8
  exact qFm) : p := h
theorem qEt {p : Prop} (h : p := by
 have hoi := hTr.oc i hi4
 have hi4i : ((i : Nat) : Int) < 4 := by omega
 have hVq := hV.grown hTr.grown hne7
 have hob : st.o i ≤ 1000 * (L.length - st.L.length) := hQ.out.2.2.2 i
 have hHT := Ae hTr
 have hm0 := Ae (El hT.out.rdr)
 clear r0 f0 hT3 hbeg hTr hT
 generalize wi.setCell ⟨R, 0, none⟩ (.string ⟨r.toArray⟩) = wq at *
 have hTd : C5 wo wq.drew R w1.heap.size (w1.heap.size + 1) ⟨st.c, st.o, r, st.many⟩ := hHT.out.keep ((Ac _ _).drew)
 have hVd : Kr wq.drew := hVq
 cases hx : Cp r st.many with
 | none =>
  exact qAu
 | some x =>
  obtain ⟨n, r', m'⟩ := x
  have hn := Ng hx
  have hrlen := L7 hx
  have hwr : IntKind.i64.wrap (((st.o i : Nat) : Int) + ((n : Nat) : Int)) = ((st.o i : Nat) : Int) + ((n : Nat) : Int) := by simp [IntKind.wrap, IntKind.bits, IntKind.signed]; omega
  have hF : Hid (A7 st = some ⟨st.c, Fl st.o i n, r', m'⟩) := Ae (by unfold A7; rw [hLst]; simp only; rw [hlet]; simp only; rw [hx])
  refine Cg (fun W => W.cell? ⟨w1.heap.size + 1, i, none⟩ = some (.int .i64 (st.o i : Nat))) 7 qG qK (fun hHeld => ?_)
  (refine Bf.take 7 (i := 0) (v := ?_) rfl qG (fun _ _ _ h => h) (Or.inl ⟨by rfl, ?_⟩) qI ?_; rotate_left; (focus (intro w' hSw; (try dsimp only at hSw); go_simp; (try with_reducible rfl))); (try simp only [Act.put, List.setIfInBounds_toArray, List.set_cons_zero, List.set_cons_succ]))
  (refine Bf.take 7 (i := 1) (v := ?_) rfl qG (fun _ _ _ h => h) (Or.inl ⟨by rfl, ?_⟩) qI ?_; rotate_left; (focus (intro w' hSw; (try dsimp only at hSw); go_simp; (try with_reducible rfl))); (try simp only [Act.put, List.setIfInBounds_toArray, List.set_cons_zero, List.set_cons_succ]))
  (refine Bf.take 7 (i := 2) (v := ?_) rfl qG (fun _ _ _ h => h) (Or.inl ⟨by rfl, ?_⟩) qI ?_; rotate_left; (focus (intro w' hSw; (try dsimp only at hSw); go_simp; (try with_reducible rfl))); (try simp only [Act.put, List.setIfInBounds_toArray, List.set_cons_zero, List.set_cons_succ]))
  (refine Bf.take 7 (i := 3) (v := ?_) rfl qG (fun _ _ _ h => h) (Or.inl ⟨by rfl, ?_⟩) qI ?_; rotate_left; (focus (intro w' hSw; (try dsimp only at hSw); go_simp; (try with_reducible rfl))); (try simp only [Act.put, List.setIfInBounds_toArray, List.set_cons_zero, List.set_cons_succ]))
  (refine Bf.one (i := 4) rfl qG (fun K hK => ?_); go_simp; (go_at_call 194; refine (Qt _ R r st.many hTd.rdr hrl hVd hR).mono ?_; rintro e w6 ⟨hg6, hp6⟩; rw [hx] at hp6; obtain ⟨rfl, hr6⟩ := hp6; have hT6 := hTd.rd hg6 hr6; have hoi6 := hT6.oc i hi4; have hof6 := hT6.of i hi4); (try go_wp2_with fail); refine hK.out _ _ (fun _ => qK) ?_; clear hK K; (try simp only [Act.put, List.setIfInBounds_toArray, List.set_cons_zero, List.set_cons_succ]))
  (refine Bf.one (i := 5) rfl qG (fun K hK => ?_); go_simp; skip; (try go_wp2_with fail); refine hK.out _ _ (fun _ => qK) ?_; clear hK K; (try simp only [Act.put, List.setIfInBounds_toArray, List.set_cons_zero, List.set_cons_succ]))
  (refine Bf.one (i := 6) rfl qG (fun K hK => ?_); go_simp; (try rw [if_pos hi4i]); (try go_wp2_with fail); refine hK.out _ _ (fun _ => qK) ?_; clear hK K; (try simp only [Act.put, List.setIfInBounds_toArray, List.set_cons_zero, List.set_cons_succ]))
  (refine Bf.one (i := 7) rfl qG (fun K hK => ?_); go_simp; refine hK.out _ _ (fun h => absurd h qC) ?_; clear hK K; (try simp only [Act.put, List.setIfInBounds_toArray, List.set_cons_zero, List.set_cons_succ]))
  refine Bf.done qG ?_ _
  (try rw [hwr])
  obtain ⟨u, hu⟩ : ∃ u : TS, u = ⟨st.c, Fl st.o i n, r', m'⟩ := ⟨_, rfl⟩
  have hT7 : C5 wo (w6.setCell ⟨w1.heap.size + 1, i, none⟩ (.int .i64 (((st.o i : Nat) : Int) + ((n : Nat) : Int)))) R w1.heap.size (w1.heap.size + 1) u := by
   exact qDo
  rw [← hu] at hF
  clear hoi hoi6 hof6 hT6 hTd hHT hVq hVd hu hx hn hrlen hob hwr
  generalize w6.setCell ⟨w1.heap.size + 1, i, none⟩ (.int .i64 (((st.o i : Nat) : Int) + ((n : Nat) : Int))) = w7 at *
  exact qAa) : p := h
theorem qEu {p : Prop} (h : p := by
 have hoi := hTr.oc i hi4
 have hi4i : ((i : Nat) : Int) < 4 := by omega
 have hVq := hV.grown hTr.grown hne7
 have hob : st.o i ≤ 1000 * (L.length - st.L.length) := hQ.out.2.2.2 i
 have hHT := Ae hTr
 have hm0 := Ae (El hT.out.rdr)
 clear r0 f0 hT3 hbeg hTr hT
 generalize wi.setCell ⟨R, 0, none⟩ (.string ⟨r.toArray⟩) = wq at *
 have hTd : C5 wo wq.drew R w1.heap.size wy.heap.size ⟨st.c, st.o, r, st.many⟩ := hHT.out.keep ((Ac _ _).drew)
 have hVd : Kr wq.drew := hVq
 cases hx : Cp r st.many with
 | none =>
  exact qAv
 | some x =>
  obtain ⟨n, r', m'⟩ := x
  have hn := Ng hx
  have hrlen := L7 hx
  have hwr : IntKind.i64.wrap (((st.o i : Nat) : Int) + ((n : Nat) : Int)) = ((st.o i : Nat) : Int) + ((n : Nat) : Int) := by simp [IntKind.wrap, IntKind.bits, IntKind.signed]; omega
  have hF : Hid (A7 st = some ⟨st.c, Fl st.o i n, r', m'⟩) := Ae (by unfold A7; rw [hLst]; simp only; rw [hlet]; simp only; rw [hx])
  refine Cg (fun W => W.cell? ⟨wy.heap.size, i, none⟩ = some (.int .i64 (st.o i : Nat))) 7 qG qK (fun hHeld => ?_)
  (refine Bf.take 7 (i := 0) (v := ?_) rfl qG (fun _ _ _ h => h) (Or.inl ⟨by rfl, ?_⟩) qI ?_; rotate_left; (focus (intro w' hSw; (try dsimp only at hSw); go_simp; (try with_reducible rfl))); (try simp only [Act.put, List.setIfInBounds_toArray, List.set_cons_zero, List.set_cons_succ]))
  (refine Bf.take 7 (i := 1) (v := ?_) rfl qG (fun _ _ _ h => h) (Or.inl ⟨by rfl, ?_⟩) qI ?_; rotate_left; (focus (intro w' hSw; (try dsimp only at hSw); go_simp; (try with_reducible rfl))); (try simp only [Act.put, List.setIfInBounds_toArray, List.set_cons_zero, List.set_cons_succ]))
  (refine Bf.take 7 (i := 2) (v := ?_) rfl qG (fun _ _ _ h => h) (Or.inl ⟨by rfl, ?_⟩) qI ?_; rotate_left; (focus (intro w' hSw; (try dsimp only at hSw); go_simp; (try with_reducible rfl))); (try simp only [Act.put, List.setIfInBounds_toArray, List.set_cons_zero, List.set_cons_succ]))
  (refine Bf.take 7 (i := 3) (v := ?_) rfl qG (fun _ _ _ h => h) (Or.inl ⟨by rfl, ?_⟩) qI ?_; rotate_left; (focus (intro w' hSw; (try dsimp only at hSw); go_simp; (try with_reducible rfl))); (try simp only [Act.put, List.setIfInBounds_toArray, List.set_cons_zero, List.set_cons_succ]))
  (refine Bf.one (i := 4) rfl qG (fun K hK => ?_); go_simp; (go_at_call 194; refine (Qt _ R r st.many hTd.rdr hrl hVd hR).mono ?_; rintro e w6 ⟨hg6, hp6⟩; rw [hx] at hp6; obtain ⟨rfl, hr6⟩ := hp6; have hT6 := hTd.rd hg6 hr6; have hoi6 := hT6.oc i hi4; have hof6 := hT6.of i hi4); (try go_wp2_with fail); refine hK.out _ _ (fun _ => qK) ?_; clear hK K; (try simp only [Act.put, List.setIfInBounds_toArray, List.set_cons_zero, List.set_cons_succ]))
  (refine Bf.one (i := 5) rfl qG (fun K hK => ?_); go_simp; skip; (try go_wp2_with fail); refine hK.out _ _ (fun _ => qK) ?_; clear hK K; (try simp only [Act.put, List.setIfInBounds_toArray, List.set_cons_zero, List.set_cons_succ]))
  (refine Bf.one (i := 6) rfl qG (fun K hK => ?_); go_simp; (try rw [if_pos hi4i]); (try go_wp2_with fail); refine hK.out _ _ (fun _ => qK) ?_; clear hK K; (try simp only [Act.put, List.setIfInBounds_toArray, List.set_cons_zero, List.set_cons_succ]))
  (refine Bf.one (i := 7) rfl qG (fun K hK => ?_); go_simp; refine hK.out _ _ (fun h => absurd h qC) ?_; clear hK K; (try simp only [Act.put, List.setIfInBounds_toArray, List.set_cons_zero, List.set_cons_succ]))
  refine Bf.done qG ?_ _
  (try rw [hwr])
  obtain ⟨u, hu⟩ : ∃ u : TS, u = ⟨st.c, Fl st.o i n, r', m'⟩ := ⟨_, rfl⟩
  have hT7 : C5 wo (w6.setCell ⟨wy.heap.size, i, none⟩ (.int .i64 (((st.o i : Nat) : Int) + ((n : Nat) : Int)))) R w1.heap.size wy.heap.size u := by
   exact qDo
  rw [← hu] at hF
  clear hoi hoi6 hof6 hT6 hTd hHT hVq hVd hu hx hn hrlen hob hwr
  generalize w6.setCell ⟨wy.heap.size, i, none⟩ (.int .i64 (((st.o i : Nat) : Int) + ((n : Nat) : Int))) = w7 at *
  exact qAa) : p := h
theorem qEv {p : Prop} (h : p := by
 have fe : Av (w.heap.size + 1 + 1 + 1) w4 ae ce := hfe.mono qA
 have ff : Av (w.heap.size + 1 + 1 + 1) w4 af cf := hff.mono qA
 have u2 : w.heap.size + 1 + 1 < w.heap.size + 1 + 1 + 1 := Ag _
 have HW := HB2.trans (HB.mono HB2.size)
 go_wp2_with fail
 refine bodyPost_ret (v := .agg #[.bool ge, .slice ae ne ce, .bool gf, .slice af nf cf]) (by simp [results, Tryz.results172, go_sem, R0, R1, R2, R3]) rfl ?_
 exact qBe) : p := h
theorem qEw {p : Prop} (h : p := by
 clear hm hRd
 go_wp2_with fail
 go_roundw
 case rel => exact ⟨i + 1, by omega, by go_num, Ae (by rw [← hnm.out]; exact (hRd1.set1 _).setOther _ hRne2), Ae (by exact ((hTB.out.butR (Aw _ (Bc _ _)) hRne2).next hlt)), A5 _ (Aw _ hgr) (by show w3.heap.size ≤ w3.heap.size; exact Ad _)⟩
 case measure => (first | (simp [intOf]; omega) | (simp [intOf]; done))) : p := h
theorem qEx {p : Prop} (h : p := by
 refine Bf.one (i := 4) rfl qG (fun K hK => ?_)
 go_simp
 go_at_call 194
 refine (Qt _ R r st.many hTd.rdr hrl hVd hR).mono ?_
 exact qFn) : p := h
theorem qEy {p : Prop} (h : p := by
 obtain ⟨w5, hb5⟩ := nq
 have HB5 := HB.trans (hb5.mono HB.size)
 replace b0 := Au hb5 b0
 replace b1 := Au hb5 b1
 replace b2 := Au hb5 b2
 clear k0 k1 k2 hI kx0 x0 kx1 x1 kx2 x2 kx3 x3 kx4 x4 kx5 x5 kx6 x6 kx7 x7
 exact qBu) : p := h
theorem qEz {p : Prop} (h : p := by
 have hz0 : 0 ≤ z := by simpa using h.neg.symm
 have heq := Wj (z' := z') hz0
 rw [← h'.neg] at heq
 have HEQ := Ae heq
 obtain rfl : gr = false := by rw [HD.numr.neg]; simp [sgn]; omega
 clear heq hz0
 exact qCc) : p := h
theorem qFa {p : Prop} (h : p := by
 go_wp2_with fail
 go_roundw
 case rel => exact ⟨i + 1, by omega, by omega, by rw [HN.out]; go_num, by go_num, by first | assumption | go_grown⟩
 case measure => (first | (simp [intOf]; omega) | (simp [intOf]; done))) : p := h
theorem qFb {p : Prop} (h : p := by
 clear hxz hz1 hv hx hg hl
 have c1' := Au (show Below w.heap.size w (w.alloc (.cells #[.bool false, .slice (some ⟨b, o, none⟩) 1 c] 59)) by go_grown) c1
 go_enter Tryz.func123, Tryz.ntmps123
 exact qCg) : p := h
theorem qFc {p : Prop} (h : p := by
 exact ((hfr3.setNew _ _ (by show w.heap.size < _; omega)).setNew _ _ (by show w.heap.size < _; omega)).mono qB) : p := h
theorem qFd {p : Prop} (h : p := by
 obtain ⟨w5, hb5⟩ := nq
 have HB5 := HB.trans (hb5.mono HB.size)
 replace b0 := Au hb5 b0
 replace b1 := Au hb5 b1
 replace b2 := Au hb5 b2
 clear k0 k1 k2 k3 x1 hI
 exact qBu) : p := h
theorem qFe {p : Prop} (h : p := by
 rw [if_pos hrem, if_pos hrem, Int.add_zero, Int.add_zero] at heq
 obtain rfl : gr = false := by rw [HD.numr.neg, hrem]; simp [sgn]
 have HEQ := Ae heq
 clear heq hH hz0 hrem
 exact qCc) : p := h
theorem qFf {p : Prop} (h : p := by
 exact (hnum.setFresh hfr5 _ _ (by show w.heap.size + 1 + 1 < _; omega)).setFresh (hfr5.setNew _ _ (by show w.heap.size + 1 + 1 < _; omega)) _ _ (by show w.heap.size + 1 + 1 < _; omega)) : p := h
theorem qFg {p : Prop} (h : p := by
 rw [hv0.out] at hnum
 exact (hnum.setFresh hfr3 _ _ (by show w.heap.size < _; omega)).setFresh (hfr3.setNew _ _ (by show w.heap.size < _; omega)) _ _ (by show w.heap.size < _; omega)) : p := h
theorem qFh {p : Prop} (h : p := by
 have k1 : Nw wr.heap.size ne ae := Nw.mono (hfx1.newA hfx.top.rd) qH
 have k2 : Nw wr.heap.size nf af := Nw.mono (hfx2.newA hfx.low.rd) qH
 exact qAx) : p := h
theorem qFi {p : Prop} (h : p := by
 have k1 : Nw w3.heap.size ne ae := Nw.mono (hfx1.newA hfx.top.rd) qH
 have k2 : Nw w3.heap.size nf af := Nw.mono (hfx2.newA hfx.low.rd) qH
 exact qAx) : p := h
theorem qFj {p : Prop} (h : p := by
 rw [HG.out]
 constructor
 ·intro h; have := h.2.2.2.2; omega
 ·intro h; exact ⟨O1.out, O2.out, HP.out.1, HP.out.2, by omega⟩) : p := h
theorem qFk {p : Prop} (h : p := by
 exact ((hfr5.setNew _ _ (by show w.heap.size + 1 + 1 < _; omega)).setNew _ _ (by show w.heap.size + 1 + 1 < _; omega)).mono qB) : p := h
theorem qFl {p : Prop} (h : p := by
 exact hnz.butR (.inr hge) (Aw _ (Aw _ (Bc _ _))) (fun k hk => by cases hk; exact Ag _)) : p := h
theorem qFm {p : Prop} (h : p := by
 rw [← hu] at hF
 clear hT6 hT7 hT8 hTd hf5 hf5d hf56 hmul hm1 hm2 km1 km2 e0 e1 e2 e3 z0 z1 z2 z3 hv hrd hu hx hf9 hb7 hg6 hr6
 generalize (((w7.setCell ⟨w1.heap.size, 0, none⟩ (.bool gm1)).setCell ⟨w1.heap.size, 1, none⟩ (.slice am1 nm1 cm1)).setCell ⟨w1.heap.size, 2, none⟩ (.bool gm2)).setCell ⟨w1.heap.size, 3, none⟩ (.slice am2 nm2 cm2) = wz at *
 have hT7 := hT7'
 clear hT7'
 exact qAa) : p := h
theorem qFn {p : Prop} (h : p := by
 rintro e w6 ⟨hg6, hp6⟩
 rw [hx] at hp6
 subst hp6
 refine ⟨rfl, ?_⟩
 rw [hTR.out, hXN.out]
 exact .no (hTd.grown.trans hg6)) : p := h
end Go.Proofs.YtdamegaedmckbaaGreatDoor
