/- Helpers: proofs that stand often. -/
import Derived.Test.YtnnhcbeiogaknaaGreatDoorProg
import Derived.WalkKit
import Derived.WalkLawsBesides
import Derived.WalkSpells
import Derived.Lib.Hide
import Derived.Handy
import Derived.ChangeKeysEq
import Derived.StillTailTactics
import Derived.Maps.AppendAt
import Derived.Deep.RegionWith
import Derived.Deep.RegionHeld3
import Derived.Deep.QuietTactic
import Derived.BigQuiet
import Derived.Deep.CutBlock
import Derived.RangeFuncRecord
import Derived.Laws.EntriesVeiled
import Derived.Maps.RangeWalk
import Derived.Maps.Views
import Derived.Maps.OwnSet
import Derived.DeepKeys4
import Derived.Shelf.Small.Bits
import Derived.Shelf.Strconv.AtoiAll
import Derived.Shelf.Pu.ParseUintPublic10
import Derived.Shelf.SlSortCmp.WholeK
import Derived.Shelf.SlSortCmp.NoneTotal
import Derived.Shelf.Spec.SlicesGrow
import Derived.Laws.IdiomRangeMap
import Derived.Sort.Walk7a
import Derived.Shelf.Strings.SlTrimAscii
import Derived.Shelf.Small.Wraps
import Derived.Shelf.Strings.Search1
import Derived.Shelf.LaysM
import Derived.Laws.AppendOwnNone
import Derived.Deep.AppendLies
import Derived.RangeFuncWrites
import Derived.RangeFuncNested
import Derived.WalkMore
import Derived.Deep.LoopGhost
import Derived.Deep.DeepCutAuto
import Derived.PlainAid
import Derived.RangeFuncBox
import Derived.RangeFuncBound
import Derived.RangeFuncCalls
import Derived.RangeFuncLeaves
import Derived.Shelf.Abstract
import Derived.Shelf.RegionOpen
import Derived.OwnWalkIn
import Derived.TacticsInMore
import Derived.LoopNIn
import Derived.LoopIn
import Derived.Sort.LoopGhostIn
import Derived.Lib.ItoaNum
import Derived.Lib.Repeat
import Derived.Recover
import Derived.Defers
import Derived.Lib.Join
import Derived.Shelf.Strings.BuilderK
import Derived.Deep.Slices
import Derived.ChangeSame
import Derived.OpenShut
import Derived.Laws.IdiomArrays
import Derived.SizedLaws
import Derived.Test.YtnnhcbeiogaknaaGreatDoorCards
import Derived.Test.YtnnhcbeiogaknaaGreatDoorTie
import Derived.Stop.LaidErr
import Derived.RowKitTokens
import Derived.ProofKit
import Derived.WideKeyArgs
import Derived.Deep.DeepHandedRow
import Derived.Lib.LaidTab
import Derived.Test.YtnnhcbeiogaknaaGreatDoorRows
import Derived.JoinedOf
import Derived.JoinedCond
import Derived.KernelRfl
import Derived.Laws.CopyOwn
import Derived.Shelf.Strings.OnBuilder
import Derived.Shelf.Strings.Builder1
import Derived.Shelf.Strings.Builder2
import Derived.Shelf.Strconv.Itoa3
import Derived.Shelf.Strings.Repeat
import Derived.Shelf.Strings.Builder2Cap
import Derived.Shelf.LaysC
import Derived.Lib.ItoaMem
import Derived.MapKept
namespace Go.Proofs.YtnnhcbeiogaknaaGreatDoor
abbrev Γ:=_root_.Option Go.Addr
abbrev Θ:=Calls Tryz.prog
abbrev Ξ:=List Nat
open Go.RowKit
abbrev Aa:=@World.block_lt_of_cell?
abbrev Ab:=@Below.frozen
abbrev Ac:=@Below.refl
abbrev Ad:=@Nat.le_refl
abbrev Ae:=@Lib.hid
abbrev Af:=@World.cell?_of_block
abbrev Ag:=@Nat.lt_succ_self
abbrev Ah:=@Nat.le_trans
abbrev Ai:=@List.getElem?_eq_getElem
abbrev Aj:=@World.size_alloc
abbrev Ak:=@World.size_drew
abbrev Al:=@Below.trans
abbrev Am:=@World.size_setCell
abbrev An:=@World.grownBy.cell
abbrev Ao:=@List.mem_singleton
abbrev Aq:=@Nat.eq_zero_or_pos
abbrev Ar:=@Array.getElem?_eq_some_iff
abbrev As:=@List.take_of_length_le
abbrev At:=@Nat.mul_le_mul_left
abbrev Au:=@List.setIfInBounds_toArray
abbrev Av:=@List.set_cons_zero
abbrev Aw:=@List.set_cons_succ
abbrev Ay:=@And.intro
abbrev Az:=@List.getElem?_append_left
abbrev A5:=@List.getElem?_append_right
abbrev A6:=@World.cell?_setCell_far
abbrev A7:=@World.grownBy.refl
abbrev A8:=@List.mem_of_getElem?
abbrev A9:=@List.length_append
abbrev Ba:=@Nat.zero_le
abbrev Bb:=@World.putObj_heap_same
theorem qA {p:Prop} (h:p:=by omega):p:=h
theorem qB {p:Prop} (h:p:=by go_size):p:=h
theorem qC {p:Prop} (h:p:=by kernel_rfl):p:=h
theorem qD {p:Prop} (h:p:=by first|assumption|(simp [go_sem];done)):p:=h
theorem qE {p:Prop} (h:p:=by first|assumption|(simp [go_sem];done)|(simp [*,go_sem];done)):p:=h
theorem qF {p:Prop} (h:p:=by go_grown):p:=h
theorem qG {p:Prop} (h:p:=by simp):p:=h
theorem qH {p:Prop} (h:p:=by assumption):p:=h
theorem qI {p:Prop} (h:p:=by decide):p:=h
theorem qJ {p:Prop} (h:p:=by simp;omega):p:=h
theorem qK {p:Prop} (h:p:=by ((try dsimp only);(repeat' apply Ay);all_goals (first|(with_reducible assumption)|(go_keep;done)|(simp [*,go_sem];done)))):p:=h
theorem qL {p:Prop} (h:p:=by simp [go_sem]):p:=h
theorem qM {p:Prop} (h:p:=by simp [*,go_sem]):p:=h
theorem qN {p:Prop} (h:p:=by first|assumption|(simp [*,go_sem];done)):p:=h
theorem qO {p:Prop} (h:p:=by unfold maxLen;omega):p:=h
theorem qP {p:Prop} (h:p:=by first|assumption|go_grown):p:=h
theorem qQ {p:Prop} (h:p:=by rfl):p:=h
theorem qR {p:Prop} (h:p:=by first|omega|(simp;done)|(simp;omega)):p:=h
theorem qS {p:Prop} (h:p:=by first|omega|(simp;omega)):p:=h
theorem qT {p:Prop} (h:p:=by first|(simp;done)|(simp;omega)):p:=h
theorem qU {p:Prop} (h:p:=by first|exact Ac _ _|assumption|go_grown):p:=h
theorem qV {p:Prop} (h:p:=by first|(simp;done)|(simp;omega)|omega):p:=h
theorem qW {p:Prop} (h:p:=by first|omega|(simp;done)|(simp;omega)):p:=h
theorem qX {W w1:World} (hc:∀b o,b<W.heap.size→w1.cell? ⟨b,o,none⟩=W.cell? ⟨b,o,none⟩) (b i:Nat) (v:Value) (h1:b<W.heap.size:=by go_size) (h2:W.cell? ⟨b,i,none⟩=some v:=by first|assumption|(simp [go_sem];done)|(simp [*,go_sem];done)):w1.cell? ⟨b,i,none⟩=some v:=(hc b i h1).trans h2
theorem qY {W w1:World} (hf:∀b o,b<W.heap.size→w1.frozen? ⟨b,o,none⟩=W.frozen? ⟨b,o,none⟩) (b i:Nat) (h1:b<W.heap.size:=by go_size) (h2:W.frozen? ⟨b,i,none⟩=false:=by first|assumption|(simp [go_sem];done)|(simp [*,go_sem];done)):w1.frozen? ⟨b,i,none⟩=false:=(hf b i h1).trans h2
theorem qZ {W w1:World} (hc:∀b o,b<W.heap.size→w1.cell? ⟨b,o,none⟩=W.cell? ⟨b,o,none⟩) (b:Nat) (v u:Value) (h1:b<W.heap.size:=by go_size) (h2:W.cell? ⟨b,0,none⟩=some v:=by first|assumption|(simp [go_sem];done)|(simp [*,go_sem];done)) (h3:W.cell? ⟨b,1,none⟩=some u:=by first|assumption|(simp [go_sem];done)|(simp [*,go_sem];done)):w1.cell? ⟨b,0,none⟩=some v∧w1.cell? ⟨b,1,none⟩=some u:=⟨(hc b 0 h1).trans h2,(hc b 1 h1).trans h3⟩
theorem zD {W w1:World} (hc:∀b o,b<W.heap.size→w1.cell? ⟨b,o,none⟩=W.cell? ⟨b,o,none⟩) (b:Nat) (v u:Value) (h1:b<W.heap.size:=by go_size) (h2:W.cell? ⟨b,2,none⟩=some v:=by first|assumption|(simp [go_sem];done)|(simp [*,go_sem];done)) (h3:W.cell? ⟨b,3,none⟩=some u:=by first|assumption|(simp [go_sem];done)|(simp [*,go_sem];done)):w1.cell? ⟨b,2,none⟩=some v∧w1.cell? ⟨b,3,none⟩=some u:=⟨(hc b 2 h1).trans h2,(hc b 3 h1).trans h3⟩
theorem zE {W w1:World} (hc:∀b o,b<W.heap.size→w1.cell? ⟨b,o,none⟩=W.cell? ⟨b,o,none⟩) (b:Nat) (h1:b<W.heap.size:=by go_size) (h2:W.cell? ⟨b,0,none⟩=some (.bool false):=by first|assumption|(simp [go_sem];done)|(simp [*,go_sem];done)) (h3:W.cell? ⟨b,1,none⟩=some (.slice none 0 0):=by first|assumption|(simp [go_sem];done)|(simp [*,go_sem];done)):w1.cell? ⟨b,0,none⟩=some (.bool false)∧w1.cell? ⟨b,1,none⟩=some (.slice none 0 0):=⟨(hc b 0 h1).trans h2,(hc b 1 h1).trans h3⟩
theorem zF {W w1:World} (hf:∀b o,b<W.heap.size→w1.frozen? ⟨b,o,none⟩=W.frozen? ⟨b,o,none⟩) (b:Nat) (h1:b<W.heap.size:=by go_size) (h2:W.frozen? ⟨b,0,none⟩=false:=by first|assumption|(simp [go_sem];done)|(simp [*,go_sem];done)) (h3:W.frozen? ⟨b,1,none⟩=false:=by first|assumption|(simp [go_sem];done)|(simp [*,go_sem];done)):w1.frozen? ⟨b,0,none⟩=false∧w1.frozen? ⟨b,1,none⟩=false:=⟨(hf b 0 h1).trans h2,(hf b 1 h1).trans h3⟩
theorem zG {W w1:World} (hf:∀b o,b<W.heap.size→w1.frozen? ⟨b,o,none⟩=W.frozen? ⟨b,o,none⟩) (b:Nat) (h1:b<W.heap.size:=by go_size) (h2:W.frozen? ⟨b,2,none⟩=false:=by first|assumption|(simp [go_sem];done)|(simp [*,go_sem];done)) (h3:W.frozen? ⟨b,3,none⟩=false:=by first|assumption|(simp [go_sem];done)|(simp [*,go_sem];done)):w1.frozen? ⟨b,2,none⟩=false∧w1.frozen? ⟨b,3,none⟩=false:=⟨(hf b 2 h1).trans h2,(hf b 3 h1).trans h3⟩
theorem zH {P:Nat→Prop} (h:∀i,i<8→P i):P 0∧P 1∧P 2∧P 3∧P 4∧P 5∧P 6∧P 7:=⟨h 0 (by decide),h 1 (by decide),h 2 (by decide),h 3 (by decide),h 4 (by decide),h 5 (by decide),h 6 (by decide),h 7 (by decide)⟩
theorem zI (w:World) {W w1:World} (hb:Below W.heap.size W w1) (h1:Below w.heap.size w W:=by go_grown) (h2:w.heap.size≤W.heap.size:=by go_size):Below w.heap.size w w1:=h1.trans (hb.mono h2)
theorem qAa {p:Prop} (h:p:=by
 have hul:u.L.length<1000000000:=by have h1:=Dk hF.out;have h2:=HLN.out;omega
 have HT7:=Ae hT7;have hsk:=Fe u.L;have hfl:=Dk hF.out
 cases h42:Cs (skp u.L) 42
 ·have hXn:Hid (Cr s0=Mw false ⟨u.c,u.o,skp u.L,u.many⟩):=Ae (by rw [hX1.out,Gr,HS.out,hF.out];simp only [if_true];rw [h42];rfl);have hQn:=Ae (pN hQ.out hF.out (skp u.L) hsk);have hRn:=Ae h42;clear hT7;go_wp2_with (first|(go_at_call 219;refine (Qh _ R u.L u.many HT7.out.rdr hul).mono ?_;rintro e w8 ⟨rfl,hr8,hg8⟩;have hT8:=HT7.out.rd hg8 hr8)|(go_at_call 221;refine (Do _ R (skp u.L) u.many 42 hT8.rdr qA qA qA).mono ?_;rintro e w9 ⟨rfl,hr9,hg9⟩;rw [hRn.out] at hr9;simp only [hRn.out];have hT9:=hT8.rd hg9 hr9));go_roundw
  case rel=>exact ⟨false,⟨u.c,u.o,skp u.L,u.many⟩,rfl,hXn,Ae hT9,hQn⟩
  case measure=>rw [Et hT9.rdr,hm0.out];show (skp u.L).length<_;omega
 ·have hs2:=Fe (skp u.L).tail;have hs3:(skp u.L).tail.length≤(skp u.L).length:=by simp
  have hXn:Hid (Cr s0=Mw true ⟨u.c,u.o,skp (skp u.L).tail,u.many⟩):=Ae (by rw [hX1.out,Gr,HS.out,hF.out];simp only [if_true];rw [h42];rfl);have hQn:=Ae (pN hQ.out hF.out (skp (skp u.L).tail) qA);have hRn:=Ae h42;clear hT7;go_wp2_with (first|(go_at_call 221;refine (Do _ R (skp u.L) u.many 42 hT8.rdr qA qA qA).mono ?_;rintro e w9 ⟨rfl,hr9,hg9⟩;rw [hRn.out] at hr9;simp only [if_true] at hr9;simp only [hRn.out];have hT9:=hT8.rd hg9 hr9)|(go_at_call 219;refine (Qh _ R (skp u.L).tail u.many hT9.rdr qA).mono ?_;rintro e wa ⟨rfl,hra,hga⟩;have hTa:=hT9.rd hga hra)|(go_at_call 219;refine (Qh _ R u.L u.many HT7.out.rdr hul).mono ?_;rintro e w8 ⟨rfl,hr8,hg8⟩;have hT8:=HT7.out.rd hg8 hr8));go_roundw
  case rel=>exact ⟨true,⟨u.c,u.o,skp (skp u.L).tail,u.many⟩,rfl,hXn,Ae hTa,hQn⟩
  case measure=>rw [Et hTa.rdr,hm0.out];show (skp (skp u.L).tail).length<_;omega):p:=h
theorem qAb {p:Prop} (h:p:=by
 by_cases hlt:z.natAbs<z'.natAbs
 ·have hcm:=Ae (Dx (x:=(val (dg z.natAbs):Int)) (y:=val (dg z'.natAbs)) (by rw [Bq,Bq];omega));go_wp2_with fail;refine (Es _ _ _ _ (dg z.natAbs) _ _ _ (dg z'.natAbs) (h.rd.keep HB) (h'.rd.keep HB) (Ch _) (Ch _)).mono ?_;rintro e w3 ⟨rfl,hb⟩;rw [hcm.out];have hbox3:=hbox.keep hb;have e0:=hbox3.b01;go_wp2_with fail;refine (Ml _ _ _ _ (dg z.natAbs) (h.rd.keep hbox3.hb)).mono ?_;rintro e w4 ⟨a4,c4,rfl,hr4,hf4,hb4⟩;go_wp2_with fail;go_meet
  case rel =>
   have hsz:=hbox3.sz;refine ⟨?_,⟨a4,n,c4,_,rfl,hr4,Ew _,?_,hf4.mono qA⟩,hbox3.keep hb4⟩
   ·rw [Nat.div_eq_of_lt hlt];exact Hw.nil w w4
   ·rw [Bq,Nat.mod_eq_of_lt hlt]
 ·by_cases hone:n'=1
  ·have hcm:0≤Bz (val (dg z.natAbs)) (val (dg z'.natAbs)):=by
    rw [Bq,Bq];unfold Bz;rw [if_neg qA]
    split<;>omega
   obtain ⟨hl0,hlb⟩:=pU h'.rd.len hone;have HL:=Ae hl0;obtain ⟨b',o',rfl,e1⟩:=h'.rd.at' (i:=0) qA;rw [HL.out,Nat.add_zero] at e1;have hzp:0<z'.natAbs:=by omega
   have hd1:((n':Int)==1)=true:=by rw [beq_iff_eq];omega
   subst hone;clear hl0;go_wp2_with fail;refine (Es _ _ _ _ (dg z.natAbs) _ _ _ (dg z'.natAbs) (h.rd.keep HB) (h'.rd.keep HB) (Ch _) (Ch _)).mono ?_;rintro e w3 ⟨rfl,hb⟩;have hbox3:=hbox.keep hb;have e0:=hbox3.b01;have e2:=hbox3.b11;have e3:=Bc hbox3.hb e1;clear hb HB hbox s0_0 s0_1 s1_0 s1_1 s2_0 s2_1 s3_0 s3_1 f2_0 f2_1 f3_0 f3_1;go_wp2_with fail;have hbox4:=hbox3.keep (Below.drew (Ac _ _));go_region_held3 (fun W=>W.cell? ⟨w.heap.size,1,none⟩=some (.slice a n c)∧W.cell? ⟨w.heap.size+1,1,none⟩=some (.slice (some ⟨b',o',none⟩) 1 c')∧W.cell? ⟨b',o',none⟩=some (.int .u32 ((z'.natAbs:Nat):Int))) (first|((try dsimp only);(repeat' apply Ay);all_goals (first|(with_reducible assumption)|(go_keep;done)|(simp [*,go_sem];done)))) (first
    | (go_at_call 208;(with_reducible refine (gN _ _ _ _ (dg z.natAbs) z'.natAbs (h.rd.keep hbox4.hb) (Ew _) hzp qA).mono ?_);rintro e w5 ⟨a5,q5,rfl,hr5,hv5,hl5,hf5,hb5⟩;have s0:=Bc hb5 (Bc (Below.drew (Ac _ _)) e0);have s1:=Bc hb5 (Bc (Below.drew (Ac _ _)) e2);have s2:=Bc hb5 (Bc (Below.drew (Ac _ _)) e3)))
   go_wp2_with fail;go_meet
   case rel =>
    have hsz:=hbox4.sz;have hz5:=hb5.size;have hbox5:=hbox4.keep hb5;have hmod:z.natAbs%z'.natAbs<1000000000:=Nat.lt_trans (Nat.mod_lt _ hzp) hlb;rw [Bq] at hv5 ⊢;have hba:=(Ac w5.heap.size w5).alloc (Ad _) (.cells #[.int .u32 ((z.natAbs%z'.natAbs:Nat):Int)] 147);refine ⟨⟨a5,n,n,q5,rfl,hr5.keep hba,hl5,hv5,(hf5.keep hba).mono qA⟩,⟨some ⟨w5.heap.size,0,none⟩,1,1,[z.natAbs%z'.natAbs],rfl,?_,?_,by simp [val],?_⟩,hbox5.keep hba⟩
    ·refine ⟨rfl,Ad _,by omega,by omega,uO _ qA,.inr ⟨w5.heap.size,0,rfl,fun i hi=>?_⟩⟩;obtain rfl:i=0:=by omega
     simp [lim,go_sem]
    ·intro x hx;rw [Ao] at hx;omega
    ·exact .inr ⟨w5.heap.size,_,rfl,by omega,heap_alloc_new w5 _,by simp⟩
  ·have hd1:((n':Int)==1)=false:=by rw [beq_eq_false_iff_ne];omega
   have hcm:0≤Bz (val (dg z.natAbs)) (val (dg z'.natAbs)):=by
    rw [Bq,Bq];unfold Bz;rw [if_neg qA]
    split<;>omega
   have hle:n'≤n:=by
    have h1:=h.rd.len;have h2:=h'.rd.len;have h3:=Bn (Nat.le_of_not_lt hlt);omega
   have h2:2≤n':=by omega
   go_wp2_with fail;refine (Es _ _ _ _ (dg z.natAbs) _ _ _ (dg z'.natAbs) (h.rd.keep HB) (h'.rd.keep HB) (Ch _) (Ch _)).mono ?_;rintro e w3 ⟨rfl,hb⟩;have hcn:decide (Bz (val (dg z.natAbs)) (val (dg z'.natAbs))<0)=false:=decide_eq_false qA;have hbox3:=hbox.keep hb;have e0:=hbox3.b01;have e2:=hbox3.b11;go_wp2_with fail;refine (sK _ _ _ _ (dg z.natAbs) _ _ _ (dg z'.natAbs) (h.rd.keep hbox3.hb) (h'.rd.keep hbox3.hb) (Ch _) (Ch _) h2 hle hb1).mono ?_;rintro e w4 ⟨aq,kq,cq,lq,ar,kr,cr,lr,rfl,hq,hql,hqv,hr,hrl,hrv,hfq,hfr,hb4⟩;rw [Bq,Bq] at hqv hrv;have HQV:=Ae hqv;have HRV:=Ae hrv;clear hqv hrv;go_wp2_with fail;go_meet
   case rel =>
    have hsz:=hbox3.sz;exact ⟨⟨aq,kq,cq,lq,rfl,hq,hql,HQV.out,hfq.mono qA⟩,⟨ar,kr,cr,lr,rfl,hr,hrl,HRV.out,hfr.mono qA⟩,hbox3.keep hb4⟩):p:=h
theorem qAc {p:Prop} (h:p:=by
 obtain ⟨i0,hi,hz0,hz1,hz2⟩:=info_parts I1;have HD:=Ae hD;have HC:=Ae hcall;clear hD hcall;go_enter Tryz.func230,Tryz.ntmps230;go_wp2_with (refine wpList_make_full _ rfl _ _ 30 rfl w.heap.size 147 i0 (.int .u32 0) 1 Tryz.underlying30 hi hz0 hz1 .i64 .i64 _ _ m rfl rfl rfl rfl (by rw [hz2];omega) qO (Ad _) ?_;intro w1 hown1 hgrow1);have HB:Below w.heap.size w w1:=(Ac _ _).grown hgrow1 (Ad _) (fun k h=>by cases h);rw [Nat.mul_one,show Value.cells (.int .u32 0)=#[.int .u32 0] from rfl,toList_madeCells_one] at hown1;clear hgrow1;go_loopw [6,7,8,13] (fun v6 _ _ v13 wr=>∃(k:Nat) (on:Int),k≤m∧v13=.int .i64 k∧v6=.int .i64 on∧-5000000000≤on∧on≤5000000000∧Hid (on=Cz D k/1000000000 ^ k) ∧
   wr.ownsRow w.heap.size 147 1 (.slice (some ⟨w.heap.size,0,none⟩) m m) m (C7 (fxI k (Cz D k))++List.replicate (m-k) (.int .u32 0))∧Below w.heap.size w wr) (fun _ _ _ v13 _=>m-(intOf v13).toNat)
 case atStart=>exact ⟨0,0,Ba _,rfl,rfl,by omega,by omega,Ae (by simp [Cz]),by simpa [fxI,C7] using hown1,HB⟩
 case round =>
  obtain ⟨k,on,hk,rfl,rfl,ho1,ho2,hon,hown,HB⟩:=hrel;have HBz:=HB.size;have hlt1:=(hown.lt w.heap.size rfl).2;clear hown1;by_cases hlt:k<m
  ·have hDk:=HD.out k hlt;have hlen:(C7 (fxI k (Cz D k))).length=k:=by rw [Dm,Mz]
   have hst:∀(W:World) (u:Value),W.ownsRow w.heap.size 147 1 (.slice (some ⟨w.heap.size,0,none⟩) m m) m (C7 (fxI k (Cz D k))++List.replicate (m-k) (.int .u32 0))→(W.setCell ⟨w.heap.size,k,none⟩ u).ownsRow w.heap.size 147 1 (.slice (some ⟨w.heap.size,0,none⟩) m m) m (C7 (fxI k (Cz D k))++[u]++List.replicate (m-(k+1)) (.int .u32 0)):=by
    intro W u h;have:=(h.stored k u).1;rw [List.set_append_right _ _ qA,hlen,Nat.sub_self,show m-k=(m-(k+1))+1 from by omega,List.replicate_succ,Av] at this;simpa using this
   have HST:=Ae hst;have hdig:=Ae (dY D k);have hdiv:=Ae (rC D k);clear hst hlen;go_wp2_with fail;refine (HC.out k wr hlt HB).mono ?_;rintro e w2 ⟨rfl,hb⟩;have hown2:=Bo hown hb;have HB2:Below w.heap.size w w2:=HB.trans (hb.mono HBz);have HBz2:=HB2.size;have hlt2:=(hown2.lt w.heap.size rfl).2;have hcell:=hown2.cellAt k qA;rw [A5 (by rw [Dm,Mz];omega),Dm,Mz,Nat.sub_self,List.getElem?_replicate,if_pos qA] at hcell;have hfr:=hown2.frozenAt k;clear hown HB HBz hlt1;obtain ⟨dk,hdk⟩:∃dk,dk=D k:=⟨_,rfl⟩;rw [←hdk] at hDk hdig hdiv ⊢;have HDK:=Ae hdk;clear hdk;by_cases hpos:0≤dk+on
   ·have hm1:(0:Int)≤(dk+on)%1000000000∧(dk+on)%1000000000<1000000000:=by omega
    have hq1:(0:Int)≤(dk+on)/1000000000∧(dk+on)/1000000000≤5000000000:=by omega
    obtain ⟨hm1,hm2⟩:=hm1;obtain ⟨hq1,hq2⟩:=hq1;go_wp2_with fail;go_roundw
    case rel =>
     refine ⟨k+1,_,by omega,by go_num,rfl,by omega,by omega,Ae (by rw [hdiv.out,←hon.out]),?_,by go_grown⟩;have:=HST.out w2 (.int .u32 ((dk+on)%1000000000)) hown2;rw [hdig.out,E5,←hon.out];have e:C7 [((dk+on)%1000000000).toNat]=[.int .u32 ((dk+on)%1000000000)]:=by simp only [C7,List.map_cons,List.map_nil];rw [Int.toNat_of_nonneg hm1]
     rw [e];exact this
    case measure=>(first|(simp [intOf];omega)|(simp [intOf];done))
   ·have ht:=sP (dk+on) qA;have HT:=Ae ht;have hneg:dk+on<0:=by omega
    clear hpos;by_cases hz:(dk+on).tmod 1000000000<0
    ·have hm1:-1000000000<(dk+on).tmod 1000000000:=by rw [ht.2];omega
     have hq1:-5000000000≤(dk+on).tdiv 1000000000:=by rw [ht.1];omega
     have hq2:(dk+on).tdiv 1000000000≤0:=by rw [ht.1];omega
     clear ht;go_wp2_with fail;go_roundw
     case rel =>
      have ht:=HT.out;have e1:(dk+on).tmod 1000000000+1000000000=(dk+on)%1000000000:=by rw [ht.2] at hz ⊢;omega
      have e2:(dk+on).tdiv 1000000000-1=(dk+on)/1000000000:=by rw [ht.2] at hz;rw [ht.1];omega
      refine ⟨k+1,_,by omega,by go_num,rfl,by omega,by omega,Ae (by rw [hdiv.out,←hon.out,e2]),?_,by go_grown⟩;have:=HST.out w2 (.int .u32 ((dk+on).tmod 1000000000+1000000000)) hown2;rw [hdig.out,E5,←hon.out];have e:C7 [((dk+on)%1000000000).toNat]=[.int .u32 ((dk+on).tmod 1000000000+1000000000)]:=by simp only [C7,List.map_cons,List.map_nil];rw [Int.toNat_of_nonneg qA,e1]
      rw [e];exact this
     case measure=>(first|(simp [intOf];omega)|(simp [intOf];done))
    ·have hz0:(dk+on).tmod 1000000000=0:=by rw [ht.2] at hz ⊢;omega
     have hq1:-5000000000≤(dk+on).tdiv 1000000000:=by rw [ht.1];omega
     have hq2:(dk+on).tdiv 1000000000≤0:=by rw [ht.1];omega
     clear ht hz;go_wp2_with fail;go_roundw
     case rel =>
      have ht:=HT.out;have e1:(dk+on)%1000000000=0:=by rw [ht.2] at hz0;omega
      have e2:(dk+on).tdiv 1000000000=(dk+on)/1000000000:=by rw [ht.1];omega
      refine ⟨k+1,_,by omega,by go_num,rfl,by omega,by omega,Ae (by rw [hdiv.out,←hon.out,e2]),?_,by go_grown⟩;have:=HST.out w2 (.int .u32 0) hown2;rw [hdig.out,E5,←hon.out,e1];exact this
     case measure=>(first|(simp [intOf];omega)|(simp [intOf];done))
  ·obtain rfl:k=m:=by omega
   go_wp2_with fail;go_ret;rw [Nat.sub_self,List.replicate_zero,List.append_nil] at hown;refine ⟨_,rfl,Fz hown hm (fun i=>?_),.of_owns hown,HB⟩;by_cases hi2:i<(fxI k (Cz D k)).length
   ·have:=Pj k (Cz D k) _ (List.getElem_mem hi2);simp only [lim,List.getD,Ai hi2,Option.getD_some];omega
   ·simp only [lim,List.getD,List.getElem?_eq_none (Nat.le_of_not_lt hi2),Option.getD_none]
    omega):p:=h
theorem qAd {p:Prop} (h:p:=by
 have yl:w.heap.size<wq.heap.size:=Aa _ _ y0;replace y2:wq.cell? ⟨w.heap.size,2,none⟩=some (.slice d1 0 e1):=y2;have n1':¬w.heap.size=wq.heap.size:=by omega
 have n2':¬wq.heap.size=w.heap.size:=by omega
 have hcall:∀(W:World) (u0 u1 u2:Value),Below wq.heap.size wq W→Bw W 0 none u0 u1 u2 (Qf (k))→Θ 26 #[.string ⟨#[94]⟩,.agg #[.bool false,.slice a1 n1 c1,.slice d1 0 e1],.agg #[u0,u1,u2]] W (Hh W (Gy la (k))):=fun W u0 u1 u2 hW hv=>Zc (HS.out.2.2.2.1.keep (bq.trans (hW.mono bq.size))) hv (HS.out.1.ok 1) HS.out.1.pw HS.out.1.deg HS.out.1.len HS.out.1.few (by have:=HK.out;omega)
 go_cut [14,8] (fun va vb wx=>yP wq wx (Gy la (k)) va vb)
 case first =>
  go_region_held3 (fun W=>W.cell? ⟨w.heap.size,0,none⟩=some (.bool false)∧W.cell? ⟨w.heap.size,1,none⟩=some (.slice a1 n1 c1)∧W.cell? ⟨w.heap.size,2,none⟩=some (.slice d1 0 e1)) (first|((try dsimp only);(repeat' apply Ay);all_goals (first|(with_reducible assumption)|(go_keep;done)|(simp [*,go_sem];done)))) (first
   | (go_at_call 28;(with_reducible refine (Tq _ _ (k) (by have:=HK.out;(first|omega|(rw [IntWalk.i64_in _ qA];omega))) (by have:=HK.out;omega) (HH.out.2.1.keep (Al bq (Below.mono (show Below wq.heap.size wq _ by go_grown) bq.size))) (by have:=bq.size;simp;omega)).mono ?_);rintro e w5 ⟨s0,s1,s2,rfl,hv5,hb5⟩;obtain ⟨f5,a5,n5,c5,a6,n6,c6,rfl,rfl,rfl⟩:=hv5.form;have k5:=zI wq hb5;have HN5:=Ae hv5.read;clear hv5;have s5':=k5.size;have p1':¬w.heap.size=w5.heap.size:=qA;have p3':¬w5.heap.size=w.heap.size:=qA;replace y0:=Bc k5 y0;replace y1:=Bc k5 y1;replace y2:=Bc k5 y2;(try (have ZA:Blk w5 (wq.heap.size) #[.bool false,.slice none 0 0,.slice none 0 0] 60:=Blk.keep (by exact Blk.drewI (Bi rfl _ _)) hb5;have ya0:=ZA.cell 0 _ rfl;have ya1:=ZA.cell 1 _ rfl;have ya2:=ZA.cell 2 _ rfl;have yf0:=ZA.frozen 0;have yf1:=ZA.frozen 1;have yf2:=ZA.frozen 2;have yl:=ZA.lt));(try have yl5:wq.heap.size<w5.heap.size:=ZA.lt))
   | (go_at_call 26;(with_reducible refine (hcall _ _ _ _ (Al k5 (Below.mono (show Below w5.heap.size w5 _ by go_grown) k5.size)) (HN5.out.keep (show Below w5.heap.size w5 _ by go_grown))).mono ?_);rintro e w7 ⟨a7,n7,c7,rfl,hP,hb7⟩;have j7:=zI w5 hb7;have k7:=k5.trans (j7.mono k5.size);have HV7:=Ae hP;clear hP;have s7':=j7.size;have m1':¬w.heap.size=w7.heap.size:=qA;have m3':¬w7.heap.size=w.heap.size:=qA;replace y0:=Bc j7 y0;replace y1:=Bc j7 y1;replace y2:=Bc j7 y2;(try (replace ZA:=Blk.keep ZA j7;replace ya0:=ZA.cell 0 _ rfl;replace ya1:=ZA.cell 1 _ rfl;replace ya2:=ZA.cell 2 _ rfl;replace yf0:=ZA.frozen 0;replace yf1:=ZA.frozen 1;replace yf2:=ZA.frozen 2;replace yl:=ZA.lt));(try (have ZA:Blk w7 (w5.heap.size) #[.bool false,.slice none 0 0,.slice none 0 0] 60:=Blk.keep (by exact Blk.drewI (Bi rfl _ _)) hb7;have ya0:=ZA.cell 0 _ rfl;have ya1:=ZA.cell 1 _ rfl;have ya2:=ZA.cell 2 _ rfl;have yf0:=ZA.frozen 0;have yf1:=ZA.frozen 1;have yf2:=ZA.frozen 2;have yl:=ZA.lt))))
  all_goals
   exact qDu
 case rest =>
  obtain ⟨rfl,bp,ap,np,cp,rfl,e0,e1',e2',hp,hbx⟩:=hcut;obtain ⟨wp,rfl⟩:∃wp,wp=wc:=⟨_,rfl⟩;have bw:=bq.trans (hbx.mono bq.size)
  (replace y0:=Bc hbx y0;replace y1:=Bc hbx y1;replace y2:=Bc hbx y2)
  have HPp:=Ae hp;clear hp hbx hcall n1' n2' yl bq;replace y0:wp.cell? ⟨w.heap.size,0,none⟩=some (.bool false):=y0;replace y1:wp.cell? ⟨w.heap.size,1,none⟩=some (.slice a1 n1 c1):=y1;have yl:w.heap.size<wp.heap.size:=Aa _ _ y0;have el:bp<wp.heap.size:=Aa _ _ e0;have n1':¬w.heap.size=wp.heap.size:=by omega
  have n2':¬wp.heap.size=w.heap.size:=by omega
  go_upto_region 13 with fail
  have hcall:∀(W:World) (u0 u1 u2:Value),Below wp.heap.size wp W→Bw W 0 none u0 u1 u2 (Qf (k+1))→Θ 26 #[.string ⟨#[94]⟩,.agg #[.bool false,.slice a1 n1 c1,.slice d1 0 e1],.agg #[u0,u1,u2]] W (Hh W (Gy la (k+1))):=fun W u0 u1 u2 hW hv=>Zc (HS.out.2.2.2.1.keep (bw.trans (hW.mono bw.size))) hv (HS.out.1.ok 1) HS.out.1.pw HS.out.1.deg HS.out.1.len HS.out.1.few (by have:=HK.out;omega)
  go_cut [15,10] (fun va vb wx=>yP wp wx (Gy la (k+1)) va vb)
  case first =>
   go_region_held3 (fun W=>W.cell? ⟨w.heap.size,0,none⟩=some (.bool false)∧W.cell? ⟨w.heap.size,1,none⟩=some (.slice a1 n1 c1)∧W.cell? ⟨w.heap.size,2,none⟩=some (.slice d1 0 e1)) (first|((try dsimp only);(repeat' apply Ay);all_goals (first|(with_reducible assumption)|(go_keep;done)|(simp [*,go_sem];done)))) (first
    | (go_at_call 28;(with_reducible refine (Tq _ _ (k+1) (by have:=HK.out;(first|omega|(rw [IntWalk.i64_in _ qA];omega))) (by have:=HK.out;omega) (HH.out.2.1.keep (Al bw (Below.mono (show Below wp.heap.size wp _ by go_grown) bw.size))) (by have:=bw.size;simp;omega)).mono ?_);rintro e w5 ⟨s0,s1,s2,rfl,hv5,hb5⟩;obtain ⟨f5,a5,n5,c5,a6,n6,c6,rfl,rfl,rfl⟩:=hv5.form;have k5:=zI wp hb5;have HN5:=Ae hv5.read;clear hv5;have s5':=k5.size;have p1':¬w.heap.size=w5.heap.size:=qA;have p3':¬w5.heap.size=w.heap.size:=qA;replace y0:=Bc k5 y0;replace y1:=Bc k5 y1;replace y2:=Bc k5 y2;(try (have ZA:Blk w5 (wp.heap.size) #[.bool false,.slice none 0 0,.slice none 0 0] 60:=Blk.keep (by exact Blk.drewI (Bi rfl _ _)) hb5;have ya0:=ZA.cell 0 _ rfl;have ya1:=ZA.cell 1 _ rfl;have ya2:=ZA.cell 2 _ rfl;have yf0:=ZA.frozen 0;have yf1:=ZA.frozen 1;have yf2:=ZA.frozen 2;have yl:=ZA.lt));(try have yl5:wp.heap.size<w5.heap.size:=ZA.lt))
    | (go_at_call 26;(with_reducible refine (hcall _ _ _ _ (Al k5 (Below.mono (show Below w5.heap.size w5 _ by go_grown) k5.size)) (HN5.out.keep (show Below w5.heap.size w5 _ by go_grown))).mono ?_);rintro e w7 ⟨a7,n7,c7,rfl,hP,hb7⟩;have j7:=zI w5 hb7;have k7:=k5.trans (j7.mono k5.size);have HV7:=Ae hP;clear hP;have s7':=j7.size;have m1':¬w.heap.size=w7.heap.size:=qA;have m3':¬w7.heap.size=w.heap.size:=qA;replace y0:=Bc j7 y0;replace y1:=Bc j7 y1;replace y2:=Bc j7 y2;(try (replace ZA:=Blk.keep ZA j7;replace ya0:=ZA.cell 0 _ rfl;replace ya1:=ZA.cell 1 _ rfl;replace ya2:=ZA.cell 2 _ rfl;replace yf0:=ZA.frozen 0;replace yf1:=ZA.frozen 1;replace yf2:=ZA.frozen 2;replace yl:=ZA.lt));(try (have ZA:Blk w7 (w5.heap.size) #[.bool false,.slice none 0 0,.slice none 0 0] 60:=Blk.keep (by exact Blk.drewI (Bi rfl _ _)) hb7;have ya0:=ZA.cell 0 _ rfl;have ya1:=ZA.cell 1 _ rfl;have ya2:=ZA.cell 2 _ rfl;have yf0:=ZA.frozen 0;have yf1:=ZA.frozen 1;have yf2:=ZA.frozen 2;have yl:=ZA.lt))))
   all_goals
    exact qDu
  case rest =>
   obtain ⟨rfl,br,ar,nr,cr,rfl,r0,r1,r2,hr,hbx⟩:=hcut;have br':=bw.trans (hbx.mono bw.size)
   (replace y0:=Bc hbx y0;replace y1:=Bc hbx y1;replace y2:=Bc hbx y2;replace e0:=Bc hbx e0;replace e1':=Bc hbx e1';replace e2':=Bc hbx e2')
   obtain ⟨wr,rfl⟩:∃wr,wr=wc:=⟨_,rfl⟩;have HPr:=Ae (Ay (HPp.out.keep hbx) hr);clear hr hbx hcall n1' n2' yl el bw;replace y0:wr.cell? ⟨w.heap.size,0,none⟩=some (.bool false):=y0;replace y1:wr.cell? ⟨w.heap.size,1,none⟩=some (.slice a1 n1 c1):=y1;have yl:w.heap.size<wr.heap.size:=Aa _ _ y0;have el:bp<wr.heap.size:=Aa _ _ e0;have rl:br<wr.heap.size:=Aa _ _ r0;have VP:Bw wr 0 none (.bool false) (.slice ap np cp) (.slice none 0 0) (.node false (Gy la k) []):=by
    rw [Bw];exact ⟨rfl,⟨_,_,_,rfl,HPr.out.1,fun g e=>by cases e⟩,_,_,rfl,by simp,by omega,fun _=>rfl,.inl rfl⟩
   go_wp2_with fail;refine (Y7 (r:=Gy la (k+1)) VP (HS.out.2.2.2.1.keep br') (Aav HS.out.1 (by have:=HK.out;omega) 1) (HS.out.1.ok 1) (fun W a n c a' n' c' p q=>Vr (l:=Gy la k) (l':=la) (fun W' hW=>Zp HS.out.1.pw HS.out.1.deg HS.out.1.len HS.out.1.few (by have:=HK.out;omega) (p.keep hW) (q.keep hW)) (by have h9:=Wt HS.out.1.pw HS.out.1.deg HS.out.1.len (n:=k+1) (by have:=HK.out;omega);exact Ah h9 qA))).mono ?_;rintro e ws ⟨aw,nw,cw,rfl,hP,hbs⟩;have bs:=br'.trans (hbs.mono br'.size);have HPs:=Ae (Ay (HPr.out.2.keep hbs) hP);clear hP VP
   (replace y0:=Bc hbs y0;replace y1:=Bc hbs y1;replace y2:=Bc hbs y2;replace r0:=Bc hbs r0;replace r1:=Bc hbs r1;replace r2:=Bc hbs r2)
   clear e0 e1' e2' el HPp HPr hbs br';replace rl:br<ws.heap.size:=Aa _ _ r0;replace yl:w.heap.size<ws.heap.size:=Aa _ _ y0;have n1':¬br=ws.heap.size:=by omega
   have n2':¬ws.heap.size=br:=by omega
   go_wp2_with fail;refine Be ?_;intro wt hwt;have kt:Below ws.heap.size ws wt:=by rw [hwt];go_grown
   clear hwt;refine (Qe wt _ _ _ _ _ (HPs.out.1.keep kt) _ _ _ _ (HPs.out.2.keep kt) _ _ _ _).mono ?_;rintro e wu ⟨rfl,hbu⟩;have bu:=bs.trans ((kt.trans (hbu.mono kt.size)).mono bs.size);go_wp2_with fail;refine (Lv wu (HH.out.1.keep bu) (HH.out.2.1.keep bu) (by have:=Below.size bu;omega)).mono ?_;rintro e wl ⟨rfl,hbl⟩;go_wp2_with fail;refine bodyPost_ret (v:=.bool true) (by simp [results,Tryz.results5,go_sem]) rfl ?_;exact ⟨rfl,Al bu (hbl.mono (Below.size bu))⟩):p:=h
theorem qAe {p:Prop} (h:p:=by
 have HB:=Ac w.heap.size w;obtain ⟨f,a,n,c,a',n',c',rfl,rfl,rfl⟩:=h.form;obtain ⟨f2,e,m,d,e',m',d',rfl,rfl,rfl⟩:=h'.form;have HV:=Ae (Ay h.read h'.read);clear h h';have hx:=HV.out.1;have hx':=HV.out.2;rw [Bw] at hx hx';obtain ⟨hf,⟨_,_,_,e9,hp,_⟩,_⟩:=hx;obtain ⟨hf',⟨_,_,_,e9',hp',_⟩,_⟩:=hx';cases hf
 cases hf'
 cases e9
 cases e9'
 have HP:=Ae (Ay hp hp');clear hp hp';go_enter Tryz.func26,Tryz.ntmps26;go_wp2_with fail;refine Be ?_;intro w1 hw1;have b1:Below w.heap.size w w1:=by rw [hw1];go_grown
 have A1:Blk w1 w.heap.size #[.bool false,.slice a n c,.slice a' n' c'] 60:=by rw [hw1];exact ((Bi rfl _ _).alloc _).alloc _
 have E1:Blk w1 (w.heap.size+1) #[.bool false,.slice e m d,.slice e' m' d'] 60:=by rw [hw1];exact (Bi qG _ _).alloc _
 have R1:Blk w1 (w.heap.size+1+1) #[.bool false,.slice none 0 0,.slice none 0 0] 60:=by rw [hw1];exact Bi qG _ _
 clear hw1;refine (Dc (HV.out.1.keep b1) hok).mono ?_;rintro x w2 ⟨rfl,hb2⟩;have b2:=b1.trans (hb2.mono b1.size);have x0:=(E1.keep hb2).cell 0 _ rfl;have x1:=(E1.keep hb2).cell 1 _ rfl;have x2:=(E1.keep hb2).cell 2 _ rfl;go_wp2_with fail;refine (Dc (HV.out.2.keep b2) hok').mono ?_;rintro x w3 ⟨rfl,hb3⟩;have b3:=b2.trans (hb3.mono b2.size);have A3:=(A1.keep hb2).keep hb3;have E3:=(E1.keep hb2).keep hb3;have R3:=(R1.keep hb2).keep hb3;replace x0:=E3.cell 0 _ rfl;replace x1:=E3.cell 1 _ rfl;replace x2:=E3.cell 2 _ rfl;have y0:=A3.cell 0 _ rfl;have y1:=A3.cell 1 _ rfl;have y2:=A3.cell 2 _ rfl;go_wp2_with fail;go_region_held3 (fun W=>W.cell? ⟨w.heap.size,1,none⟩=some (.slice a n c)∧W.cell? ⟨w.heap.size+1,1,none⟩=some (.slice e m d)) (first|((try dsimp only);(repeat' apply Ay);all_goals (first|(with_reducible assumption)|(go_keep;done)|(simp [*,go_sem];done)))) (first
  | (go_at_call 82;(refine (hr w3.drew _ _ _ _ _ _ ((HP.out.1.keep b3).keep (Below.drew (Ac _ _))) ((HP.out.2.keep b3).keep (Below.drew (Ac _ _)))).mono ?_);rintro x w5 ⟨ax,nx,cx,rfl,hP,hb5⟩;have k5:Below w3.heap.size w3 w5:=(Below.drew (Ac _ _)).trans (by rw [Ak] at hb5;exact hb5);have b5:=b3.trans (k5.mono b3.size);have R5:=R3.keep k5;have r0:=R5.cell 0 _ rfl;have r1:=R5.cell 1 _ rfl;have r2:=R5.cell 2 _ rfl;have f0:=R5.frozen 0;have f1:=R5.frozen 1;have f2':=R5.frozen 2;have rl:=R5.lt;have rl4:=R3.lt;have HV5:=Ae hP;clear hP;replace y1:=Bc k5 y1;replace x1:=Bc k5 x1))
 go_wp2_with fail;refine bodyPost_ret (v:=.tuple #[.agg #[.bool false,.slice ax nx cx,.slice none 0 0],.int .i64 0]) (by simp [results,Tryz.results26,go_sem,rl,r0,r1,r2]) rfl ?_;exact ⟨ax,nx,cx,rfl,(Gs HV5.out (by rw [Ak];exact rl4) _ _ _).mono (by rw [Ak];exact b3.size),Cd b5 qA _ _ _⟩):p:=h
theorem qAf {p:Prop} (h:p:=by
 cases again
 ·have hbeg:=fun (W:World) (hr:Cm W R st.L st.many)=>N7 W R st.L st.many hr hlen
  simp only [hs] at hbeg;have hXX:Hid (Cr s0=some st):=Ae (by rw [hX.out];unfold Mw;rw [hs];rfl);clear hX;go_wp2_with (first|(go_at_call 280;refine (hbeg _ hT.out.rdr).mono ?_;rintro e w3 ⟨rfl,hb3⟩;have hT3:=hT.out.keep hb3;obtain ⟨g5,a5,n5,c5,g6,a6,n6,c6,e0,e1,e2,e3,hf5,q1,q2,q3,q4,q5,q6,q7⟩:=hT3.fr;have o0:=hT3.oc 0 qA;have o1:=hT3.oc 1 qA;have o2:=hT3.oc 2 qA;have o3:=hT3.oc 3 qA;have hCB3:w1.heap.size<w3.heap.size:=Aa _ _ e0;have hOB3:=hT3.h4;have hR3:R<w3.heap.size:=hT3.rdr.lt;have r0:=hT3.rdr.c0;have r1:=hT3.rdr.c1;have f0:=hT3.rdr.f0;have f1:=hT3.rdr.f1));clear hT hbeg;have e51:=hf5.top.rd.len;have e52:=hf5.low.rd.len;obtain ⟨u1,u2⟩:=hQ.out.2.1;have s1:n5<35184372088829:=by omega
  have s2:n6<35184372088829:=by omega
  clear e51 e52 u1 u2;have hix:=fun W i hi=>kI W st.o i hi
  have hW3:Below w3.heap.size w3 (w3.alloc (.cells #[.bool g5,.slice a5 n5 c5,.bool g6,.slice a6 n6 c6,.int .u16 0,.int .u16 0,.int .u16 0,.int .u16 0] 79)):=by go_grown
  have hTB0:Qn (w3.alloc (.cells #[.bool g5,.slice a5 n5 c5,.bool g6,.slice a6 n6 c6,.int .u16 0,.int .u16 0,.int .u16 0,.int .u16 0] 79)) w3.heap.size g5 a5 n5 c5 g6 a6 n6 c6 st.o 0:=by
   refine ⟨by simp [go_sem],by simp [go_sem],by simp [go_sem],by simp [go_sem],fun k hk=>?_,fun k=>by simp [go_sem]⟩
   match k,hk with
   | 0,_=>simp [go_sem,tv]
   | 1,_=>simp [go_sem,tv]
   | 2,_=>simp [go_sem,tv]
   | 3,_=>simp [go_sem,tv]
  have hRd0:=hT3.rdr.keep hW3;clear o0 o1 o2 o3 r0 r1 f0 f1;go_loopw [62] (fun v62 wr=>∃i:Nat,i≤4∧v62=.int .i64 i∧Hid (Cm wr R st.L (st.many || Mr st.o i))∧Hid (Qn wr w3.heap.size g5 a5 n5 c5 g6 a6 n6 c6 st.o i)∧w3.grownBy wr (some R)) (fun v62 _=>4-(intOf v62).toNat)
  case atStart=>exact ⟨0,by omega,rfl,Ae (by simpa [Mr] using hRd0),Ae hTB0,Bx hW3 _⟩
  case round =>
   clear hTB0 hRd0 hW3;obtain ⟨i,hi,rfl,hRd,hTB,hgr⟩:=hrel;by_cases hlt:i<4
   ·have hxi:=fun W=>hix W i hlt
    have r1:=hRd.out.c1;have f1:=hRd.out.f1;have t1:=hTB.out.m i hlt;have t2:=hTB.out.f (4+i);have hRne:R≠w3.heap.size:=by omega
    have hRne2:¬w3.heap.size=R:=by omega
    have hmin:min ((st.o i:Nat):Int) 65535=((Jc (st.o i):Nat):Int):=by unfold Jc;omega
    have hRd1:=hRd.out
    cases hm:(st.many || Mr st.o i)
    ·rw [hm] at r1 hRd1;have hnm:Hid (decide ((65535:Int)<((st.o i:Nat):Int))=(st.many || Mr st.o (i+1))):=Ae (by
      simp only [Mr];rw [←Bool.or_assoc,hm,Bool.false_or,decide_eq_decide]
      omega)
     exact qDw
    ·rw [hm] at r1 hRd1;have hnm:Hid (true=(st.many || Mr st.o (i+1))):=Ae (by
      simp only [Mr];rw [←Bool.or_assoc,hm,Bool.true_or])
     exact qDw
   ·obtain rfl:i=4:=by omega
    have hRd1:=hRd.out;rw [cF] at hRd1;have hfw:=hf5.butR (q1.newA hf5.top.rd) (q2.newA hf5.low.rd) hgr (fun k hk=>by cases hk;exact hRlt);have q1w:=q1.butR hgr (fun k hk=>by cases hk;exact hRlt);have q2w:=q2.butR hgr (fun k hk=>by cases hk;exact hRlt);have hneC:some w1.heap.size≠some R:=by simp;omega
    replace e0:=An hgr e0 hneC;replace e1:=An hgr e1 hneC;replace e2:=An hgr e2 hneC;replace e3:=An hgr e3 hneC;obtain ⟨b0,b1,b2,b3,bm,bf⟩:=hTB.out;have bm0:=bm 0 qA;have bm1:=bm 1 qA;have bm2:=bm 2 qA;have bm3:=bm 3 qA;have hgw:wo.grownBy wr (some R):=hT3.grown.trans hgr;have hTBlt:w3.heap.size<wr.heap.size:=Aa _ _ b0;clear hRd hTB bm bf hix;by_cases hc0:st.c.1=0
    ·have hcz:Bz st.c.1 0=0:=by rw [hc0,Ev]
     have HC0:=Ae hc0;clear hc0;go_wp2_with (first|(go_at_call 98;refine (Gd _ _ _ _ _ _ _ _ _ _ _ (hfw.keep qF) s2 s1).mono ?_;rintro e w5 ⟨rfl,hb5⟩;rw [hcz]));refine bodyPost_ret (v:=.slice none 0 0) (by simp [results,Tryz.results220,go_sem]) rfl ?_;rw [hTR.out,hXX.out];have h1:Pw (Qy st.o) st.c=[]:=by unfold Pw;rw [if_pos HC0.out]
     show Lg wo R (some (Pw (Qy st.o) st.c,st.L,st.many || I5 st.o)) _ _;rw [h1];exact ⟨hgw.trans (Bx hb5 _),none,0,0,rfl,Bd.nil _ _,Bm.nil _ _,hRd1.keep hb5⟩
    ·have hcz:(Bz st.c.1 0==0)=false:=by rw [beq_eq_false_iff_ne];exact fun e=>hc0 (Ht.1 e)
     have HC0:=Ae hc0;clear hc0;go_wp2_with (first|(go_at_call 98;refine (Gd _ _ _ _ _ _ _ _ _ _ _ (hfw.keep qF) s2 s1).mono ?_;rintro e w5 ⟨rfl,hb5⟩;replace b0:=Bc hb5 b0;replace b1:=Bc hb5 b1;replace b2:=Bc hb5 b2;replace b3:=Bc hb5 b3;replace bm0:=Bc hb5 bm0;replace bm1:=Bc hb5 bm1;replace bm2:=Bc hb5 bm2;replace bm3:=Bc hb5 bm3));refine bodyPost_ret (v:=.slice (some ⟨w5.heap.size,0,none⟩) 1 1) (by simp [results,Tryz.results220,go_sem]) rfl ?_;rw [hTR.out,hXX.out];have h1:Pw (Qy st.o) st.c=[(Qy st.o,st.c)]:=by unfold Pw;rw [if_neg HC0.out]
     show Lg wo R (some (Pw (Qy st.o) st.c,st.L,st.many || I5 st.o)) _ _;rw [h1,←Aae];have hsz5:=hb5.size;have hgsz:=hgw.size;have hb6:Below w5.heap.size w5 (w5.alloc (.cells #[.bool g5,.slice a5 n5 c5,.bool g6,.slice a6 n6 c6,.int .u16 (tv st.o 4 0:Nat),.int .u16 (tv st.o 4 1:Nat),.int .u16 (tv st.o 4 2:Nat),.int .u16 (tv st.o 4 3:Nat)] 79)):=(Ac w5.heap.size w5).alloc (Ad _) _;have hpo:=Td ((hfw.keep hb5).keep hb6) ((q1w.keep hb5).keep hb6) ((q2w.keep hb5).keep hb6) q7 (fW st.o 4 0) (fW st.o 4 1) (fW st.o 4 2) (fW st.o 4 3) (by omega:wo.heap.size≤w5.heap.size) ⟨_,jK _ _ _,Ad 8⟩ ⟨by simp [go_sem],by simp [go_sem],by simp [go_sem],by simp [go_sem],by simp [go_sem],by simp [go_sem],by simp [go_sem],by simp [go_sem]⟩;exact ⟨J5 _ (hgw.trans (Bx hb5 _)),_,1,1,rfl,hpo.1,hpo.2,(hRd1.keep hb5).allocR _⟩
 ·have hbeg:=fun (W:World) (hr:Cm W R st.L st.many)=>N7 W R st.L st.many hr hlen
  simp only [hs] at hbeg;have hXX:Hid (Cr s0=none):=Ae (by rw [hX.out];unfold Mw;rw [hs,Gr,hs];rfl);clear hX;go_wp2_with (first|(go_at_call 280;refine (hbeg _ hT.out.rdr).mono ?_;rintro e w3 ⟨rfl,hb3⟩)|(go_at_call 222;refine (Nr _).mono ?_;rintro e w4 ⟨rfl,rfl⟩));refine ⟨rfl,?_⟩;rw [hTR.out,hXX.out];exact .no (hT.out.grown.trans (Bx hb3 _))):p:=h
theorem qAg {p:Prop} (h:p:=by
 clear HD d0 d1 d2 d3 d4 d5 d6 d7 d8 d9 dsz HB;obtain ⟨gq,aq,nq,cq,gr,ar,nr,cr,HD⟩:=hcut;have d2:=HD.z20;have d3:=HD.z21;have d4:=HD.z30;have d5:=HD.z31;have d6:=HD.f20;have d7:=HD.f21;have d8:=HD.f30;have d9:=HD.f31;have dsz:=HD.sz;have HB:=HD.hb;go_wp2_with fail;go_region_held3 (fun W=>W.cell? ⟨w.heap.size+1+1,0,none⟩=some (.bool gq)∧W.cell? ⟨w.heap.size+1+1,1,none⟩=some (.slice aq nq cq)∧W.cell? ⟨w.heap.size+1+1+1,0,none⟩=some (.bool gr)∧W.cell? ⟨w.heap.size+1+1+1,1,none⟩=some (.slice ar nr cr)) (first|((try dsimp only);(repeat' apply Ay);all_goals (first|(with_reducible assumption)|(go_keep;done)|(simp [*,go_sem];done)))) (fail);all_goals
  go_wp2_with fail;refine bodyPost_ret (v:=.tuple #[.agg #[.bool gq,.slice aq nq cq],.agg #[.bool gr,.slice ar nr cr],.int .i64 0]) (by simp [results,Tryz.results130,go_sem,d2,d3,d4,d5]) rfl ?_;refine ⟨gq,aq,nq,cq,gr,ar,nr,cr,rfl,?_,?_,?_,?_,by go_grown⟩
  ·exact (HD.numq.set4 HD.frq _ _ _ _ _ _ _ _ (by show w.heap.size+1+1<_;omega) (by show w.heap.size+1+1<_;omega) (by show w.heap.size+1+1+1<_;omega) (by show w.heap.size+1+1+1<_;omega)).keep (Below.drew (Ac _ _))
  ·exact (HD.numr.set4 HD.frr _ _ _ _ _ _ _ _ (by show w.heap.size+1+1<_;omega) (by show w.heap.size+1+1<_;omega) (by show w.heap.size+1+1+1<_;omega) (by show w.heap.size+1+1+1<_;omega)).keep (Below.drew (Ac _ _))
  ·exact ((HD.frq.set4 _ _ _ _ _ _ _ _ (by show w.heap.size+1+1<_;omega) (by show w.heap.size+1+1<_;omega) (by show w.heap.size+1+1+1<_;omega) (by show w.heap.size+1+1+1<_;omega)).keep (Below.drew (Ac _ _))).mono qA
  ·exact ((HD.frr.set4 _ _ _ _ _ _ _ _ (by show w.heap.size+1+1<_;omega) (by show w.heap.size+1+1<_;omega) (by show w.heap.size+1+1+1<_;omega) (by show w.heap.size+1+1+1<_;omega)).keep (Below.drew (Ac _ _))).mono qA):p:=h
theorem qAh {p:Prop} (h:p:=by
 go_wp2_with (first|(go_at_call 357;refine (hC _).mono ?_;rintro e w1 ⟨rfl,rfl⟩)|(go_at_call 358;(with_reducible refine (hT _).mono ?_);rintro e w1 ⟨rfl,hb⟩;obtain ⟨hc,hf⟩:=Bl hb;have hz:=hb.size;(try simp only [Aj,Ak,Am] at hz);replace HB:=zI w hb;obtain ⟨s0_0,s0_1⟩:=zE hc (w.heap.size);obtain ⟨f0_0,f0_1⟩:=zF hf (w.heap.size)));clear hC hT hy hb48 hlen hl;have hz1:=hb.size;simp only [Aj] at hz1;have HB1:Below w.heap.size w w1:=HB;clear hc hf hb hz HB;have hst:=Oy.start (b::t);have h200:(b::t).length≤200:=by simp;omega
 clear HD;generalize b::t=s at *;go_loopw [4,6] (fun v4 v6 wr=>∃(j:Nat) (dl:Ξ),Hid (Oy s j dl)∧v4=.string ⟨(s.take j).toArray⟩∧wr.ownsRow (w.heap.size+1) 147 1 v6 dl.length (C7 dl)∧Below (w.heap.size+1) w1 wr) (fun v4 _ _=>Ww v4)
 case atStart=>exact ⟨_,[],Ae hst,by rw [List.take_length],⟨rfl,.inl ⟨rfl,rfl⟩⟩,Ac _ _⟩
 case round =>
  obtain ⟨j,dl,hSF,rfl,hown,HBr⟩:=hrel;have hle:=hSF.out.le;obtain ⟨ao,co,rfl,hao⟩:=U2 hown;have hzr:=HBr.size;by_cases hj:j=0
  ·subst hj;rw [List.take_zero];have hrd:=uN hown rfl (fun i=>sE hSF.out.small i) (by have:=hSF.out.few;omega);have d0:=(HBr.cell (p:=⟨w.heap.size,0,none⟩) (Ag _)).trans s0_0;have d1:=(HBr.cell (p:=⟨w.heap.size,1,none⟩) (Ag _)).trans s0_1;have g0:=(HBr.frozen (p:=⟨w.heap.size,0,none⟩) (Ag _)).trans f0_0;have g1:=(HBr.frozen (p:=⟨w.heap.size,1,none⟩) (Ag _)).trans f0_1;have HBw:Below w.heap.size w wr:=HB1.trans (HBr.mono qA);have hvd:=hSF.out.done;have hge:dV (w.heap.size+1) ao:=fun x hx=>Hd hown _ (by rw [hx];rfl)
   have hsm:=hSF.out.small;clear hown HBr hSF s0_0 s0_1 f0_0 f0_1;go_wp2_with (first|(go_at_call 97;refine (E9 _ false ao dl.length co dl hrd hsm).mono ?_;rintro e w5 ⟨g5,n5,rfl,hn5,hz5,hb5⟩;replace d0:=Bc hb5 d0;replace d1:=Bc hb5 d1;replace g0:=(Ab hb5 (by show w.heap.size<_;omega)).trans g0;replace g1:=(Ab hb5 (by show w.heap.size<_;omega)).trans g1));refine bodyPost_ret (v:=.tuple #[.agg #[.bool g5,.slice ao n5 n5],.int .i64 0]) (by simp [*,results,Tryz.results335,go_sem]) rfl ?_;have hlt0:w.heap.size<wr.heap.size:=by omega
   have hnz:Bh w5 g5 ao n5 n5 (Dp s):=by rw [hvd] at hz5;exact hz5
   refine ⟨g5,ao,n5,n5,0,rfl,?_,?_⟩
   ·exact hnz.butR (.inr hge) (Bf _ (Bf _ (Cp _ _))) (fun k hk=>by cases hk;exact Ag _)
   ·have HB5:=HBw.trans (hb5.mono HBw.size);go_grown
  ·have hml:(s.take j).length=j:=by rw [List.length_take];omega
   have hmne:s.take j≠[]:=fun e=>by rw [e] at hml;simp at hml;omega
   have hne:(s.take j==[])=false:=by simpa using hmne
   have hne2:(s.take j).isEmpty=false:=by simpa using hmne
   have hnx:=Ae (hSF.out.next HA.out qA);have hmx:max (0:Int) ((j:Int)-9)=((j-9:Nat):Int):=by omega
   have q1:∀W:World,(Instr.sliceAt 9 (.string ⟨(s.take j).toArray⟩) (some (.int .i64 ((j-9:Nat):Int))) none none).run Tryz.prog W=.ok (.string ⟨((s.take j).drop (j-9)).toArray⟩) W:=fun W=>by
    rw [Up W _ _ (by show j-9≤(s.take j).toArray.size;simp;omega)];have:(⟨(s.take j).toArray⟩:ByteArray).size=(s.take j).length:=by simp [ByteArray.size]
    rw [this,Od]
   have q2:∀W:World,(Instr.sliceAt 9 (.string ⟨(s.take j).toArray⟩) none (some (.int .i64 ((j-9:Nat):Int))) none).run Tryz.prog W=.ok (.string ⟨(s.take (j-9)).toArray⟩) W:=fun W=>by
    rw [Th W _ _ (by show j-9≤(s.take j).toArray.size;simp;omega),Mp,List.take_take,Nat.min_eq_left qA]
   have hall2:((s.take j).drop (j-9)).all Dn=true:=by
    have:=HA.out;rw [List.all_eq_true] at this ⊢;exact fun x hx=>this x (List.mem_of_mem_take (List.mem_of_mem_drop hx))
   have hl9:((s.take j).drop (j-9)).length=j-(j-9):=by rw [List.length_drop,hml]
   have hP:=fun W=>Tryz.strconv_ParseUint_10_at32_ok ⟨((s.take j).drop (j-9)).toArray⟩ (by simp [ByteArray.size];omega) (Dp ((s.take j).drop (j-9))) (Tl hall2 (fun e=>by have h0:=congrArg List.length e;rw [hl9] at h0;simp at h0;omega) (by show ((s.take j).drop (j-9)).length≤9;omega)) W
   have hlt9:=Pt hall2 qA;have hmod:(Dp ((s.take j).drop (j-9)):Int)%4294967296=(Dp ((s.take j).drop (j-9)):Nat):=by omega
   have hfw:=hSF.out.few;generalize (s.take j).drop (j-9)=ch at *;generalize s.take j=m at *;go_wp2_with (first|(go_at_call 359;refine (hP _).mono ?_;rintro e w3 ⟨rfl,hw3⟩;have HB3:Below wr.heap.size wr w3:=mM hw3;have hz3:=HB3.size;clear hw3)|(at_builtin;refine wpList_append_own _ rfl _ _ 30 rfl (w.heap.size+1) 147 i0 (.int .u32 0) 1 4 Tryz.underlying30 hi hi0 hi1 hi2 rfl qI _ dl.length (C7 dl) rfl ((Bo hown HB3).alloc _) ⟨w3.heap.size,0,none⟩ 1 1 [.int .u32 (Dp ch:Nat)] rfl rfl (cell_one_new _ _ _) (by simp [Value.oneCell']) qO qA qB ?_;intro v4 w4 hown4 hgrow4 _));go_roundw
   case rel=>exact ⟨j-9,dl++[Dp ch],hnx,rfl,by rw [E5,A9];exact hown4,((HBr.trans (HB3.mono qA)).alloc qA _).grown hgrow4 qJ (Hd hown)⟩
   case measure=>rw [Ku,Ku,List.length_take];omega):p:=h
theorem qAi {p:Prop} (h:p:=by
 have HB:=HBX.hb;have b11:=HBX.b11;go_wp2_with fail;go_meet
 case rel =>
  have hszd:=HBX.sz;have f8':=((((f8.keep qF).keep hb5).keep hb6).less hnr);obtain ⟨k0,k1,k2,k3,k4,k5⟩:=Nc (.bool gq) (.slice a7 nq nq) (.bool gr) (.slice a8 nr nr) HBX.z20 HBX.z21 HBX.z30 HBX.z31;refine ⟨gq,nq,gr,nr,⟨(k4 _ (by show w.heap.size+1<w.heap.size+1+1;omega)).trans HBX.b10,(k4 _ (by show w.heap.size+1<w.heap.size+1+1;omega)).trans HBX.b11,k0,k1,k2,k3,(k5 _).trans HBX.f20,(k5 _).trans HBX.f21,(k5 _).trans HBX.f30,(k5 _).trans HBX.f31,?_,?_,?_,?_,by simp only [Am];omega,by go_grown⟩⟩
  ·rw [V7.out] at hq;exact (hq.keep hb6).set4 (f7'.keep hb6) _ _ _ _ _ _ _ _ (by show w.heap.size+1+1<_;omega) (by show w.heap.size+1+1<_;omega) (by show w.heap.size+1+1+1<_;omega) (by show w.heap.size+1+1+1<_;omega)
  ·rw [V8.out] at hr;exact hr.set4 f8' _ _ _ _ _ _ _ _ (by show w.heap.size+1+1<_;omega) (by show w.heap.size+1+1<_;omega) (by show w.heap.size+1+1+1<_;omega) (by show w.heap.size+1+1+1<_;omega)
  ·exact (f7'.keep hb6).set4 _ _ _ _ _ _ _ _ (by show w.heap.size+1+1<_;omega) (by show w.heap.size+1+1<_;omega) (by show w.heap.size+1+1+1<_;omega) (by show w.heap.size+1+1+1<_;omega)
  ·exact f8'.set4 _ _ _ _ _ _ _ _ (by show w.heap.size+1+1<_;omega) (by show w.heap.size+1+1<_;omega) (by show w.heap.size+1+1+1<_;omega) (by show w.heap.size+1+1+1<_;omega)):p:=h
theorem qAj {p:Prop} (h:p:=by
 have hXN:Hid (Cr s0=none):=Ae (by rw [hX1.out,Gr,HS.out];simp only [if_true];rw [show Cq st=none by unfold Cq;rw [hLst];simp only;rw [hlet];simp only;rw [hx]]);refine Cf (fun W=>W.cell? ⟨w1.heap.size,0,none⟩=some (.bool g5)∧W.cell? ⟨w1.heap.size,1,none⟩=some (.slice a5 n5 c5)∧W.cell? ⟨w1.heap.size,2,none⟩=some (.bool g6)∧W.cell? ⟨w1.heap.size,3,none⟩=some (.slice a6 n6 c6)) 4 qC qK (fun hHeld=>?_);(refine Bk.take 3 (i:=0) (v:=?_) rfl qC (fun _ _ _ h=>h) (Or.inl ⟨by rfl,?_⟩) qH ?_;rotate_left;(focus (intro w' hSw;(try dsimp only at hSw);go_simp;(try with_reducible rfl)));(try simp only [Act.put,Au,Av,Aw]));(refine Bk.take 4 (i:=1) (v:=?_) rfl qC (fun _ _ _ h=>h) (Or.inl ⟨by rfl,?_⟩) qH ?_;rotate_left;(focus (intro w' hSw;(try dsimp only at hSw);go_simp;(try with_reducible rfl)));(try simp only [Act.put,Au,Av,Aw]));refine Bk.one (i:=2) rfl qC (fun K hK=>?_);go_simp;go_at_call 283;refine (Nh _ R (b::r) st.many hrd hbl).mono ?_;exact qEf):p:=h
theorem qAk {p:Prop} (h:p:=by
 go_wp2_with fail;refine (Vt _ _ _ _ _ _ HG.numa _ _ _ _ _ HG.numb hyp qA qA).mono ?_;rintro e w2 ⟨gq,aq,nq,cq,gr,ar,nr,cr,rfl,hq,hr,hfq,hfr,hb2⟩;clear b00 b01 b10 b11 z20 z21 f00 f01 f10 f11 f20 f21 HB hsz;replace HG:=HG.keep hb2;have b00:=HG.b00;have b01:=HG.b01;have b10:=HG.b10;have b11:=HG.b11;have z20:=HG.z20;have z21:=HG.z21;have f00:=HG.f00;have f01:=HG.f01;have f10:=HG.f10;have f11:=HG.f11;have f20:=HG.f20;have f21:=HG.f21;have HB:=HG.hb;have hsz:=HG.sz;go_wp2_with fail;have hb3:Below w2.heap.size w2 ((w2.alloc (.cells #[.bool gq,.slice aq nq cq] 32)).alloc (.cells #[.bool gr,.slice ar nr cr] 32)):=by go_grown
 have p1:((w2.alloc (.cells #[.bool gq,.slice aq nq cq] 32)).alloc (.cells #[.bool gr,.slice ar nr cr] 32)).cell? ⟨w2.heap.size+1,0,none⟩=some (.bool gr):=by simp [go_sem]
 have p2:((w2.alloc (.cells #[.bool gq,.slice aq nq cq] 32)).alloc (.cells #[.bool gr,.slice ar nr cr] 32)).cell? ⟨w2.heap.size+1,1,none⟩=some (.slice ar nr cr):=by simp [go_sem]
 have hr3:=hr.keep hb3;have hfr3:=(hfr.keep hb3);have hoff:Off w.heap.size (w.heap.size+1+1+1) nr ar:=hfr.off hr.rd _ qA;generalize ((w2.alloc (.cells #[.bool gq,.slice aq nq cq] 32)).alloc (.cells #[.bool gr,.slice ar nr cr] 32))=w3 at *;clear b00 b01 b10 b11 z20 z21 f00 f01 f10 f11 f20 f21 HB hsz;replace HG:=HG.keep hb3;have b00:=HG.b00;have b01:=HG.b01;have b10:=HG.b10;have b11:=HG.b11;have z20:=HG.z20;have z21:=HG.z21;have f00:=HG.f00;have f01:=HG.f01;have f10:=HG.f10;have f11:=HG.f11;have f20:=HG.f20;have f21:=HG.f21;have HB:=HG.hb;have hsz:=HG.sz;have hPP:w.heap.size+1+1<w2.heap.size+1:=by have:=hb2.size;omega
 generalize w2.heap.size+1=P at *;have hyn:=Int.emod_nonneg x hyp;have hyl:=Int.emod_lt x hyp;have hnr:nr<35184372088829:=by have h1:=hr3.rd.len;have h2:=HG.numb.rd.len;have h3:=Bn (show (x%y).natAbs≤y.natAbs by omega);omega
 clear hr hfr hfq hq hb3 hb2;refine Cf (fun W=>W.cell? ⟨P,0,none⟩=some (.bool gr)∧W.cell? ⟨P,1,none⟩=some (.slice ar nr cr)∧W.cell? ⟨w.heap.size+1,0,none⟩=some (.bool gb)∧W.cell? ⟨w.heap.size+1,1,none⟩=some (.slice ab nb cb)) 3 qC qK (fun hHeld=>?_);(refine Bk.take 3 (i:=0) (v:=?_) rfl qC (fun _ _ _ h=>h) (Or.inl ⟨by rfl,?_⟩) qH ?_;rotate_left;(focus (intro w' hSw;(try dsimp only at hSw);go_simp;(try with_reducible rfl)));(try simp only [Act.put,Au,Av,Aw]));(refine Bk.take 3 (i:=1) (v:=?_) rfl qC (fun _ _ _ h=>h) (Or.inl ⟨by rfl,?_⟩) qH ?_;rotate_left;(focus (intro w' hSw;(try dsimp only at hSw);go_simp;(try with_reducible rfl)));(try simp only [Act.put,Au,Av,Aw]));(refine Bk.one (i:=2) rfl qC (fun K hK=>?_);go_simp;skip;(try go_wp2_with fail);refine hK.out _ _ (fun _=>qK) ?_;clear hK K;(try simp only [Act.put,Au,Av,Aw]));(refine Bk.one (i:=3) rfl qC (fun K hK=>?_);go_simp;refine hK.out _ _ (fun h=>absurd h qI) ?_;clear hK K;(try simp only [Act.put,Au,Av,Aw]));refine Bk.done qC ?_ _;all_goals
  go_wp2_with fail;have HG2:=(HG.set HG.numb hr3 HG.offb hoff).keep (Below.drew (Ac _ _));refine ⟨⟨gb,ab,nb,cb,y,gr,ar,nr,cr,x%y,HG2,hnr,by omega,by rw [Yk];exact HGC.out⟩,?_⟩;rw [Zo HG2.b11 HG2.numb.rd,Bq,HV0.out]
  omega):p:=h
theorem qAl {p:Prop} (h:p:=by
 have b2:=b1.trans (hb2.mono b1.size);have HP:=Ae hP;have hn3:n3≤2000:=by rw [←hP.len];exact hlen
 clear hP;go_wp2_with fail;refine (sL w2 a3 n3 c3 hn3).mono ?_;rintro e w3 ⟨rfl,hb3⟩;have b3:=b2.trans (hb3.mono b2.size);have R3:=(R1.keep hb2).keep hb3;have r0:=R3.cell 0 _ rfl;have r1:=R3.cell 1 _ rfl;have r2:=R3.cell 2 _ rfl;have f0:=R3.frozen 0;have f1:=R3.frozen 1;have f2:=R3.frozen 2;have rl:=R3.lt;have rl1:=R1.lt;go_wp2_with fail;refine bodyPost_ret (v:=.tuple #[.agg #[.bool false,.slice a3 n3 c3,.slice none 0 0],.int .i64 0]) (by simp [results,Tryz.results82,go_sem,rl,r0,r1,r2]) rfl ?_;exact ⟨a3,n3,c3,rfl,(Gs (HP.out.keep hb3) rl1 _ _ _).mono b1.size,Cd b3 (Ad _) _ _ _⟩):p:=h
theorem qAm {p:Prop} (h:p:=by
 go_wp2_with (first|(go_at_call 62;(with_reducible refine (Tx _ _ _ _ _ _ (hnt5.keep qF) _ _ _ _ _ (hnl.keep qF) qA qA qA).mono ?_);rintro e w6 ⟨ge,ae,ne,ce,gf,af,nf,cf,rfl,hfr,hfe,hff,hb6⟩;have HB56:=zI w5 hb6;have hz56:w5.heap.size<w6.heap.size:=(by have:=hb6.size;simp only [Aj] at this;omega);replace g0:=(Ab HB56 (Aa _ _ d0)).trans g0;replace d0:=Bc HB56 d0;replace g1:=(Ab HB56 (Aa _ _ d1)).trans g1;replace d1:=Bc HB56 d1;replace g2:=(Ab HB56 (Aa _ _ d2)).trans g2;replace d2:=Bc HB56 d2;replace g3:=(Ab HB56 (Aa _ _ d3)).trans g3;replace d3:=Bc HB56 d3;have hk6:w.heap.size<w6.heap.size:=Aa _ _ d0));refine bodyPost_ret (v:=frV ge ae ne ce gf af nf cf) (by simp [*,results,Tryz.results283,go_sem]) rfl ?_;rw [HX.out,HX2.out];have hg6:=hgw5.trans (Bx HB56 _);have hne':w.heap.size≠R:=by omega
 have hr6:=hr5.keep HB56;have fe:Bg (w.heap.size+1) w6 ae ce:=hfe.mono qB;have ff:Bg (w.heap.size+1) w6 af cf:=hff.mono qB;have ke:Nw w.heap.size ne ae:=Nw.mono (fe.newA hfr.top.rd) qA;have kf:Nw w.heap.size nf af:=Nw.mono (ff.newA hfr.low.rd) qA;have u:w.heap.size<w.heap.size+1:=Ag _;exact ⟨J5 _ (Ce _ (Ce _ (Ce _ (Ce _ hg6 (Ad _)) (Ad _)) (Ad _)) (Ad _)),_,rfl,.inl (X5.keep ⟨_,_,_,_,_,_,_,_,rfl,⟨hfr.top.set4 fe _ _ _ _ _ _ _ _ u u u u,hfr.low.set4 ff _ _ _ _ _ _ _ _ u u u u,hfr.pos,hfr.red⟩,ke,kf⟩ ((Ac _ _).alloc (Ad _) _)),((((hr6.setOther _ hne').setOther _ hne').setOther _ hne').setOther _ hne').allocR _⟩):p:=h
theorem qAn {p:Prop} (h:p:=by
 have hXN:Hid (Cr s0=none):=Ae (by rw [hX1.out,Gr,HS.out];simp only [if_true];rw [show Cq st=none by unfold Cq;rw [hLst];simp only;rw [hlet];simp only;rw [hx]]);refine Cf (fun W=>W.cell? ⟨w1.heap.size+1,i,none⟩=some (.int .i64 (st.o i:Nat))) 7 qC qK (fun hHeld=>?_);(refine Bk.take 7 (i:=0) (v:=?_) rfl qC (fun _ _ _ h=>h) (Or.inl ⟨by rfl,?_⟩) qH ?_;rotate_left;(focus (intro w' hSw;(try dsimp only at hSw);go_simp;(try with_reducible rfl)));(try simp only [Act.put,Au,Av,Aw]));(refine Bk.take 7 (i:=1) (v:=?_) rfl qC (fun _ _ _ h=>h) (Or.inl ⟨by rfl,?_⟩) qH ?_;rotate_left;(focus (intro w' hSw;(try dsimp only at hSw);go_simp;(try with_reducible rfl)));(try simp only [Act.put,Au,Av,Aw]));(refine Bk.take 7 (i:=2) (v:=?_) rfl qC (fun _ _ _ h=>h) (Or.inl ⟨by rfl,?_⟩) qH ?_;rotate_left;(focus (intro w' hSw;(try dsimp only at hSw);go_simp;(try with_reducible rfl)));(try simp only [Act.put,Au,Av,Aw]));(refine Bk.take 7 (i:=3) (v:=?_) rfl qC (fun _ _ _ h=>h) (Or.inl ⟨by rfl,?_⟩) qH ?_;rotate_left;(focus (intro w' hSw;(try dsimp only at hSw);go_simp;(try with_reducible rfl)));(try simp only [Act.put,Au,Av,Aw]));exact qDy):p:=h
theorem qAo {p:Prop} (h:p:=by
 have hXN:Hid (Cr s0=none):=Ae (by rw [hX1.out,Gr,HS.out];simp only [if_true];rw [show Cq st=none by unfold Cq;rw [hLst];simp only;rw [hlet];simp only;rw [hx]]);refine Cf (fun W=>W.cell? ⟨wy.heap.size,i,none⟩=some (.int .i64 (st.o i:Nat))) 7 qC qK (fun hHeld=>?_);(refine Bk.take 7 (i:=0) (v:=?_) rfl qC (fun _ _ _ h=>h) (Or.inl ⟨by rfl,?_⟩) qH ?_;rotate_left;(focus (intro w' hSw;(try dsimp only at hSw);go_simp;(try with_reducible rfl)));(try simp only [Act.put,Au,Av,Aw]));(refine Bk.take 7 (i:=1) (v:=?_) rfl qC (fun _ _ _ h=>h) (Or.inl ⟨by rfl,?_⟩) qH ?_;rotate_left;(focus (intro w' hSw;(try dsimp only at hSw);go_simp;(try with_reducible rfl)));(try simp only [Act.put,Au,Av,Aw]));(refine Bk.take 7 (i:=2) (v:=?_) rfl qC (fun _ _ _ h=>h) (Or.inl ⟨by rfl,?_⟩) qH ?_;rotate_left;(focus (intro w' hSw;(try dsimp only at hSw);go_simp;(try with_reducible rfl)));(try simp only [Act.put,Au,Av,Aw]));(refine Bk.take 7 (i:=3) (v:=?_) rfl qC (fun _ _ _ h=>h) (Or.inl ⟨by rfl,?_⟩) qH ?_;rotate_left;(focus (intro w' hSw;(try dsimp only at hSw);go_simp;(try with_reducible rfl)));(try simp only [Act.put,Au,Av,Aw]));exact qDy):p:=h
theorem qAp {p:Prop} (h:p:=by
 rintro e w4 ⟨ge,ae,ne,ce,gf,af,nf,cf,rfl,hr,hfe,hff,hap,hb⟩;obtain ⟨hc,hf⟩:=Bl hb;have hz:=hb.size;(try simp only [Aj,Ak] at hz);replace HB:=zI w hb;obtain ⟨s0_0,s0_1⟩:=qZ hc (w.heap.size) (.bool g) (.slice a n c);obtain ⟨s1_0,s1_1⟩:=qZ hc (w.heap.size+1) (.bool g') (.slice a' n' c');obtain ⟨s2_0,s2_1⟩:=zE hc (w.heap.size+1+1);obtain ⟨s2_2,s2_3⟩:=zD hc (w.heap.size+1+1) (.bool false) (.slice none 0 0);obtain ⟨f2_0,f2_1⟩:=zF hf (w.heap.size+1+1);obtain ⟨f2_2,f2_3⟩:=zG hf (w.heap.size+1+1);have fe:Bg (w.heap.size+1+1+1) w4 ae ce:=hfe.mono qA;have ff:Bg (w.heap.size+1+1+1) w4 af cf:=hff.mono qA;have hk4:w.heap.size+1+1<w4.heap.size:=by omega
 have u2:w.heap.size+1+1<w.heap.size+1+1+1:=Ag _;clear hc hf hb hz hfe hff;go_wp2_with fail;refine bodyPost_ret (v:=.tuple #[.agg #[.bool ge,.slice ae ne ce,.bool gf,.slice af nf cf],.int .i64 0]) (by simp [results,Tryz.results62,go_sem,s2_0,s2_1,s2_2,s2_3]) rfl ?_;exact qDx):p:=h
theorem qAq {p:Prop} (h:p:=by
 have hl2:=cC hv.out qA hp;have hst:=Ae (Ye hv.out);go_wp2_with (at_builtin;refine wpList_append_own _ rfl _ _ 30 rfl (w.heap.size+1) 147 i0 (.int .u32 0) 1 4 Tryz.underlying30 hi hz0 hz1 hz2 rfl qI _ _ _ rfl (hown.alloc _) ⟨wr.heap.size,0,none⟩ 1 1 [.int .u32 ((v:Int)%1000000000)] rfl rfl (cell_one_new _ _ _) (by simp [Value.oneCell']) qO qA qB ?_;intro v' w2 hown2 hgrow2 _);have hb2:Below (w.heap.size+1) wr w2:=((Ac (w.heap.size+1) wr).alloc qA _).grown hgrow2 qB (fun k hk=>(hown.lt k hk).1);go_roundw
 case rel =>
  refine ⟨l++[v%1000000000],v/1000000000,by simp,Ae hst.out,by simp;omega,by omega,fun x hx=>?_,?_,Nat.lt_of_lt_of_le hlr hb2.size,?_,?_,?_,?_,HB.trans (hb2.mono qA)⟩
  ·rcases List.mem_append.1 hx with h|h
   ·exact HLT.out x h
   ·rw [Ao] at h;omega
  ·rw [A9,List.length_singleton,E5];exact hown2
  ·rw [hb2.cell (by show w.heap.size<w.heap.size+1;omega)];exact k0
  ·rw [hb2.cell (by show w.heap.size<w.heap.size+1;omega)];exact k1
  ·rw [hb2.frozen (by show w.heap.size<w.heap.size+1;omega)];exact f0
  ·rw [hb2.frozen (by show w.heap.size<w.heap.size+1;omega)];exact f1
 case measure=>simp [intOf];omega):p:=h
theorem qAr {p:Prop} (h:p:=by
 refine ⟨g3,ac,n3,n3,rfl,?_,?_,by go_grown⟩
 ·rw [hz'];exact qEb
 ·exact qEc):p:=h
theorem qAs {p:Prop} (h:p:=by
 rintro e w3 ⟨g3,n3,rfl,hn3,hnum,hb⟩;obtain ⟨hc,hf⟩:=Bl hb;have hz:=hb.size;replace HB:Below w.heap.size w w3:=HB.trans (hb.mono HBz);have r0:w3.cell? ⟨w.heap.size,0,none⟩=some (.bool false):=(hc _ _ hlr).trans k0;have r1:w3.cell? ⟨w.heap.size,1,none⟩=some (.slice none 0 0):=(hc _ _ hlr).trans k1;have r2:w3.frozen? ⟨w.heap.size,0,none⟩=false:=(hf _ _ hlr).trans f0;have r3:w3.frozen? ⟨w.heap.size,1,none⟩=false:=(hf _ _ hlr).trans f1;go_wp2_with fail;refine bodyPost_ret (v:=.agg #[.bool g3,.slice a' n3 n3]) (by simp [results,Tryz.results40,go_sem,r0,r1]) rfl ?_;have hfr3:Bg (w.heap.size+1) w3 a' n3:=(hfr.keep hb).less hn3;refine ⟨g3,a',n3,n3,rfl,?_,?_,by go_grown⟩
 ·rw [hv0.out] at hnum;exact (hnum.setFresh hfr3 _ _ (by show w.heap.size<_;omega)).setFresh (hfr3.setNew _ _ (by show w.heap.size<_;omega)) _ _ (by show w.heap.size<_;omega)
 ·exact ((hfr3.setNew _ _ (by show w.heap.size<_;omega)).setNew _ _ (by show w.heap.size<_;omega)).mono qA):p:=h
theorem qAt {p:Prop} (h:p:=by
 refine ⟨ge,ae,ne,ce,gf,af,nf,cf,rfl,⟨?_,?_,hr.pos,hr.red⟩,?_,?_,hap,by go_grown⟩
 ·exact hr.top.set4 fe _ _ _ _ _ _ _ _ u2 u2 u2 u2
 ·exact hr.low.set4 ff _ _ _ _ _ _ _ _ u2 u2 u2 u2
 ·exact (fe.set4 _ _ _ _ _ _ _ _ u2 u2 u2 u2).mono qA
 ·exact (ff.set4 _ _ _ _ _ _ _ _ u2 u2 u2 u2).mono qA):p:=h
theorem qAu {p:Prop} (h:p:=by
 go_wp2_with fail;refine (Lv w4 (HH.out.1.keep b4) (HH.out.2.1.keep b4) (by have:=Below.size b4;omega)).mono ?_;rintro e wl ⟨rfl,hbl⟩;go_wp2_with fail;refine bodyPost_ret (v:=.bool true) (by simp [results,Tryz.results5,go_sem]) rfl ?_;exact ⟨rfl,Al b4 (hbl.mono (Below.size b4))⟩):p:=h
theorem qAv {p:Prop} (h:p:=by
 have hB4:Below w1.heap.size w1 w4:=(hB3.alloc qA _).grown hgrow4 qB (fun k hk=>(hown3.lt k hk).1);have hz4:=hB4.size;have HCS:=Ae (J6 hownw4);clear hownw hownw4 hown3;go_wp2_with (at_builtin;refine wpList_append_own _ rfl _ _ 205 rfl w1.heap.size 9 i0 (.string ⟨#[]⟩) 1 16 Tryz.underlying205 hi hz0 hz1 hz2 rfl qI _ _ _ rfl hown4 ⟨g,0,none⟩ WL.length cap (Fv WL) rfl (by rw [Gf];omega) HCS.out (Mf _) qO qA qA ?_;intro v5 w5 hown5 hgrow5 _);go_roundw
 case rel =>
  refine ⟨k+1,by omega,by go_num,?_,fun h=>by omega,hB4.grown hgrow5 hB4.size (fun k hk=>(hown4.lt k hk).1)⟩;rw [HST.out,Ke,Ke,A9,A9];exact hown5
 case measure=>simp [intOf];omega):p:=h
theorem qAw {p:Prop} (h:p:=by
 obtain ⟨hc,hf⟩:=Bl hb;have hz:=hb.size;(try simp only [Aj,Ak] at hz);replace HB:=zI w hb;obtain ⟨s0_0,s0_1⟩:=qZ hc (w.heap.size) (.bool g1) (.slice a1 n1 c1);obtain ⟨s0_2,s0_3⟩:=zD hc (w.heap.size) (.bool g2) (.slice a2 n2 c2);clear hc hf hb;go_wp2_with fail;go_ret;exact ⟨by first|rfl|simp,HB⟩):p:=h
theorem qAx {p:Prop} (h:p:=by
 rintro e w1 ⟨u0,u1,u2,rfl,hv,hb1⟩;obtain ⟨f,a,n,c,a',n',c',rfl,rfl,rfl⟩:=hv.form;have b1:=b0.trans (hb1.mono b0.size);have R1:=R0.keep hb1;have r0:=R1.cell 0 _ rfl;have r1:=R1.cell 1 _ rfl;have r2:=R1.cell 2 _ rfl;have f0:=R1.frozen 0;have f1:=R1.frozen 1;have f2:=R1.frozen 2;have rl:=R1.lt;have rl0:=R0.lt;have HV:=Ae hv;clear hv;go_wp2_with fail;refine bodyPost_ret (v:=.tuple #[.agg #[.bool f,.slice a n c,.slice a' n' c'],.int .i64 0]) (by simp [results,Tryz.results77,go_sem,rl,r0,r1,r2]) rfl ?_;exact ⟨_,_,_,rfl,((Kc HV.out rl0 R1 _ _ _).other (.inl qG)).down b0.size,Cd b1 (Ad _) _ _ _⟩):p:=h
theorem qAy {p:Prop} (h:p:=by
 have hF:=Ae hF0;have hr0:r=false:=by
  cases r
  ·rfl
  ·exact absurd (by have:=(HR.out.2 rfl _ hlt).1.1;rw [HTK.out];exact this) hF0
 subst hr0;clear hF0;(refine Ci qC qC ?_;(repeat (go_big_quiet_step (first|(go_at_call 60;exact G7 (Ep _ t.g1 t.a1 t.n1 t.c1 t.d1 (HT.top.keep (Subtype.property _)) t.g2 t.a2 t.n2 t.c2 t.d2 (HT.low.keep (Subtype.property _)) hs2 hs1 false ⟨fun e=>absurd e hF.out,fun e=>(by cases e)⟩)))));refine wpQuiet_nil ?_;intro _ hw0;obtain ⟨nq,hw0⟩:=hw0;subst hw0);go_wp2_with fail;go_ret;exact ⟨rfl,HB1.trans (nq.2.mono HB1.size)⟩):p:=h
theorem qAz {p:Prop} (h:p:=by
 clear hcl HO HF hk hgx hr;go_wp2_with fail;go_roundw
 case rel=>exact ⟨i+1,by omega,by go_num,by rw [HS.out],by go_grown⟩
 case measure=>(first|(simp [intOf];omega)|(simp [intOf];done))):p:=h
theorem qBa {p:Prop} (h:p:=by
 have R5:=R6;have r0:=R5.cell 0 _ rfl;have r1:=R5.cell 1 _ rfl;have r2:=R5.cell 2 _ rfl;have f0:=R5.frozen 0;have f1:=R5.frozen 1;have f2':=R5.frozen 2;have rl:=R5.lt;go_wp2_with fail;refine bodyPost_ret (v:=.tuple #[.agg #[.bool false,.slice none 0 0,.slice none 0 0],.int .i64 8]) (by simp [results,Tryz.results26,go_sem,rl,r0,r1,r2]) rfl ?_;exact ⟨_,_,_,rfl,Py (Bd.nil _ 0) (Bm.nil _ 0),(by first|exact Cd b6 qA _ _ _|exact Below.alloc (Cd b6 qA _ _ _) (by have:=Below.size b6;simp;omega) _)⟩):p:=h
theorem qBb {p:Prop} (h:p:=by
 go_enter Tryz.func223,Tryz.ntmps223;go_wp2_with fail;refine (Abp _ qA qA _ hT).mono ?_;rintro e w1 ⟨rfl,hb⟩;go_wp2_with fail;go_ret;exact ⟨by rw [D0,if_pos h1];rfl,hb⟩):p:=h
theorem qBc {p:Prop} (h:p:=by
 go_upto_region 12 with fail
 (refine Ci qC qC ?_;(repeat (go_big_quiet_step (fail)));refine wpQuiet_nil ?_;intro _ hw0;obtain ⟨nq,hw0⟩:=hw0;subst hw0);clear k0 k1 k2 k3 k4;have hnb:=nq.2;replace hfG:=(hnb.frozen (Aa _ _ hcG)).trans hfG;replace hcG:=Bc hnb hcG;replace hR:=hR.keep hnp hnb;generalize nq.val=wy at *;clear nq hnb;go_wp2_with fail;go_meet
 case rel=>exact ⟨gs',hgsb,HG2.out.le,hcG,hfG,hR⟩):p:=h
theorem qBd {p:Prop} (h:p:=by
 rintro l pre x W ⟨⟨hc,hf⟩,hB⟩ _
 gi_wp2
 exact ⟨(KeepsOthers.setCell _ _ _).from _,⟨(Ac _ W).setCell (p:=⟨w4.heap.size,0,none⟩) (Ad _) _,A6 _ _ _ _ (by show w4.heap.size≠w4.heap.size+1;omega)⟩,⟨by rw [uJ];exact World.cell?_setCell_same' _ _ _ (by rw [hc];rfl),by rw [World.frozen?_setCell];exact hf⟩,hB.setCell (p:=⟨w4.heap.size,0,none⟩) (Ad _) _⟩):p:=h
theorem qBe {p:Prop} (h:p:=by
 obtain rfl:i=n:=by omega
 go_wp2_with fail;go_ret;exact ⟨by rw [As (by rw [HL.out];exact Ad _)];simp,HBr⟩):p:=h
theorem qBf {p:Prop} (h:p:=by
 go_wp2_with fail;go_meet
 case rel =>
  have hN5:=hf5.newA hres.top.rd;have hN6:=hf6.newA hres.low.rd;refine ⟨_,g5,a5,n5,c5,g6,a6,n6,c6,rfl,?_,?_,?_,?_,?_,Nw.mono hN5 qR,Nw.mono hN6 qR,?_⟩
  ·simp [*,go_sem]
  ·simp [*,go_sem]
  ·simp [*,go_sem]
  ·simp [*,go_sem]
  ·(repeat (first|exact hres|refine Bj.allocB ?_|refine Bj.setB hN5 hN6 qT ?_))
  ·go_grown):p:=h
theorem qBg {p:Prop} (h:p:=by
 have h0:(0:Int)≤(k:Int):=by omega
 simp [Instr.sliceAt,Instr.slice,Instr.sliceBounds,Instr.sliceBound,go_sem,h0,hk]):p:=h
theorem qBh {p:Prop} (h:p:=by
 refine ⟨g3,a3,n3,c3,rfl,?_,?_,by go_grown⟩
 ·exact (hn3.setFresh hf3 _ _ (by show w.heap.size+1+1<_;omega)).setFresh (hf3.setNew _ _ (by show w.heap.size+1+1<_;omega)) _ _ (by show w.heap.size+1+1<_;omega)
 ·exact qEd):p:=h
theorem qBi {p:Prop} (h:p:=by
 rw [←HD.out] at hfl ⊢;refine ⟨gq,aq,nq,cq,gs,a5,n5,c5,rfl,⟨?_,?_,hfl.1,hfl.2⟩,?_,?_,hap,by go_grown⟩
 ·exact hq7.set4 hfq7 _ _ _ _ _ _ _ _ hRl hRl hRl hRl
 ·exact hs7.set4 hfs7 _ _ _ _ _ _ _ _ hRl hRl hRl hRl
 ·exact (hfq7.set4 _ _ _ _ _ _ _ _ hRl hRl hRl hRl).mono qA
 ·exact (hfs7.set4 _ _ _ _ _ _ _ _ hRl hRl hRl hRl).mono qA):p:=h
theorem qBj {p:Prop} (h:p:=by
 intro i hi;obtain ⟨b,o,ha,hc⟩:=hp.cell.resolve_left qA;obtain ⟨b',o',ha',hc'⟩:=h1.cell.resolve_left qA;rw [ha] at ha'
 cases ha'
 have e1:=(hc i hi).e1;have e3:=(hc i hi).e3;rw [(hc' i hi).e1] at e1;rw [(hc' i hi).e3] at e3;simp only [Option.some.injEq,Value.slice.injEq] at e1 e3;exact ⟨e1.1.symm,e1.2.2.symm,e3.1.symm,e3.2.2.symm⟩):p:=h
theorem qBk {p:Prop} (h:p:=by
 go_wp2_with fail;go_meet
 case rel =>
  refine ⟨gq,a7,nq,nq,false,a8,nr,nr,?_⟩;rw [HEQ.out.1,HEQ.out.2];exact HD):p:=h
theorem qBl {p:Prop} (h:p:=by
 exact qEd):p:=h
theorem qBm {p:Prop} (h:p:=by
 go_roundw
 case rel=>exact ⟨a9,n9,c9,Cu p l',r',m',_,rfl,hX2,Ae (Ay (hP9.mono (hg45.trans hg7).size) (hO9.mono (hg45.trans hg7).size)),hQ2,Ae (hr7.keep hb9),Ae ((hg45.trans hg7).trans (Bx hb9 _))⟩
 case measure=>rw [Et (hr7.keep hb9),hm0.out];simp only [List.length_cons];omega):p:=h
theorem qBn {p:Prop} (h:p:=by
 go_enter Tryz.func223,Tryz.ntmps223;go_wp2_with fail;go_ret;exact ⟨by rw [D0,if_neg h1];rfl,Ac _ _⟩):p:=h
theorem qBo {p:Prop} (h:p:=by
 go_wp2_with fail;refine bodyPost_ret (v:=.bool true) (by simp [results,Tryz.results131,go_sem]) rfl ?_;exact ⟨true,rfl,fun h=>absurd h qI,HBk.alloc HBk.size _⟩):p:=h
theorem qBp {p:Prop} (h:p:=by
 have hyl:ys.length=rs.length:=by have:=HR.out.1.own.1;omega
 rcases Nat.lt_or_ge k rs.length with h|h
 ·rw [Az h] at hk;rw [Az qA];exact HR.out.1.el k r hk
 ·rw [A5 h] at hk;rw [A5 qA,hyl];exact HC2.out.1.el _ r hk):p:=h
theorem qBq {p:Prop} (h:p:=by
 refine ⟨g9,a9,n9,c9,gA,aA,nA,cA,rfl,⟨?_,?_,hres.pos,hres.red⟩,?_,?_,hap9,by go_grown⟩
 ·exact hres.top.set4 fe _ _ _ _ _ _ _ _ u u u u
 ·exact hres.low.set4 ff _ _ _ _ _ _ _ _ u u u u
 ·exact (fe.set4 _ _ _ _ _ _ _ _ u u u u).mono qA
 ·exact (ff.set4 _ _ _ _ _ _ _ _ u u u u).mono qA):p:=h
theorem qBr {p:Prop} (h:p:=by
 go_enter Tryz.func266,Tryz.ntmps266;go_wp2_with fail;go_step3;go_wp2_with fail;refine (Kb h hl).mono ?_;rintro e w1 ⟨a1,n1,c1,rfl,hP,hO,hb1⟩;go_wp2_with fail;refine bodyPost_ret (v:=.slice a1 n1 c1) (by simp [results,Tryz.results266,go_sem]) rfl ?_;exact ⟨a1,n1,c1,rfl,hP,hO,hb1⟩):p:=h
theorem qBs {p:Prop} (h:p:=by
 go_enter Tryz.func344,Tryz.ntmps344;go_wp2_with (go_at_call 363;refine (iY _ _).mono ?_;rintro e w' ⟨rfl,rfl⟩);go_ret;exact ⟨rfl,rfl⟩):p:=h
theorem qBt {p:Prop} (h:p:=by
 go_enter Tryz.func206,Tryz.ntmps206;go_wp2_with (go_at_call 259;refine (iA _ _).mono ?_;rintro e w' ⟨rfl,rfl⟩);go_ret;exact ⟨rfl,rfl⟩):p:=h
theorem qBu {p:Prop} (h:p:=by
 go_enter Tryz.func205,Tryz.ntmps205;go_wp2_with (go_at_call 258;refine (gV _ _).mono ?_;rintro e w' ⟨rfl,rfl⟩);go_ret;exact ⟨rfl,rfl⟩):p:=h
theorem qBv {p:Prop} (h:p:=by
 go_wp2_with fail;go_ret;refine ⟨?_,HB⟩;have e:((s.m0:Int)==0&&((s.m1:Int)==0&&((s.m2:Int)==0&&(s.m3:Int)==0)))=C9 [t]:=by
  show _=(t.1==0);rw [←HK.out,Bool.eq_iff_iff];simp only [Bool.and_eq_true,beq_iff_eq];unfold Cg;omega
 rw [e]
 rfl):p:=h
theorem qBw {p:Prop} (h:p:=by
 obtain ⟨cur,e⟩:=hOt2;have hlt:=(Ar.1 e).1;exact ⟨cur,(hgrow7.block Ob qJ hne1).trans ((k2.block Ob hlt).trans e)⟩):p:=h
theorem qBx {p:Prop} (h:p:=by
 rcases h.rd.cell with h1|⟨b,o,h1,h3⟩
 ·exact .inl h1
 ·rcases Aq n with h5|h5
  ·exact .inl h5
  ·refine .inr ⟨b,o,h1,?_⟩;have:b<w.heap.size:=Aa w ⟨b,o+0,none⟩ (h3 0 h5)
   omega):p:=h
theorem qBy {p:Prop} (h:p:=by
 rintro e w2 ⟨a3,n3,c3,rfl,P3,PO,hb2⟩;go_wp2_with fail;refine bodyPost_ret (v:=.slice a3 n3 c3) (by simp [results,Tryz.results22,go_sem]) rfl ?_;exact ⟨a3,n3,c3,rfl,P3.mono hb1.size,PO.mono hb1.size,hb1.trans (hb2.mono hb1.size)⟩):p:=h
theorem qBz {p:Prop} (h:p:=by
 obtain ⟨k,hk⟩:=List.getElem?_of_mem hu;have hkl:k<rs2.length:=by have h1:=hS2.own.1;have h2:=(List.getElem?_eq_some_iff.1 hk).1;omega
 have h3:=(hS2.el k _ (Ai hkl)).1;rw [hk] at h3;rw [Option.some.inj h3]
 rfl):p:=h
theorem qCa {p:Prop} (h:p:=by
 rintro e w3 ⟨a3,n3,c3,rfl,P3,PO,hb3⟩;go_wp2_with fail;refine bodyPost_ret (v:=.slice a3 n3 c3) (by simp [results,Tryz.results67,go_sem]) rfl ?_;exact ⟨a3,n3,c3,rfl,P3.mono HC.size,PO.mono HC.size,HC.trans (hb3.mono HC.size)⟩):p:=h
theorem qCb {p:Prop} (h:p:=by
 go_wp2_with fail;go_ret;exact ⟨rfl,HB1.trans (nq.2.mono HB1.size)⟩):p:=h
theorem qCc {p:Prop} (h:p:=by
 rintro e w1 ⟨rfl,hb1⟩;have b1:=HBr.trans ((b0.trans (hb1.mono b0.size)).mono HBr.size);go_wp2_with fail;go_roundw
 case rel=>exact ⟨i+1,by omega,by go_num,b1⟩
 case measure=>(first|(simp [intOf];omega)|(simp [intOf];done))):p:=h
theorem qCd {p:Prop} (h:p:=by
 have h1:=h.neg;have h2:=h'.neg;unfold sgn
 cases g<;>simp at h1 h2 ⊢<;>omega):p:=h
theorem qCe {p:Prop} (h:p:=by
 have HC:=Ae hcm;clear hcm;go_enter Tryz.func126,Tryz.ntmps126;go_wp2_with (go_at_call 205;refine (Qk _ _ _).mono ?_;rintro e w' ⟨rfl,rfl⟩;rw [HC.out]);go_ret;exact ⟨rfl,Ac _ _⟩):p:=h
theorem qCf {p:Prop} (h:p:=by
 refine Bk.done qC ?_ _;all_goals
  go_wp2_with fail;go_meet
  case rel =>
   refine ⟨gx,ax,nx,cx,gy,ay,ny,cy,?_⟩;rw [HEQ.out.1,HEQ.out.2];exact HD.set hx hy (fx.mono qB) (fy.mono qB)):p:=h
theorem qCg {p:Prop} (h:p:=by
 go_wp2_with fail;go_roundw
 case rel=>exact ⟨i,by omega,by first|rfl|(simp;done)|(rw [IntWalk.i64_in _ qA]),q6,q7,q8⟩
 case measure=>(first|(simp [intOf];omega)|(simp [intOf];done))):p:=h
theorem qCh {p:Prop} (h:p:=by
 have h1:=Ez (dg z'.natAbs) (Ew _);have h2:=Nat.pow_le_pow_right (show 0<1000000000 by omega) (show (dg z'.natAbs).length≤n' by omega);rw [Bq] at h1 ⊢;rw [Bq,Nat.pow_succ]
 omega):p:=h
theorem qCi {p:Prop} (h:p:=by
 have h1:=Ez (dg z.natAbs) (Ew _);have h2:=Nat.pow_le_pow_right (show 0<1000000000 by omega) (show (dg z.natAbs).length≤n by omega);rw [Bq] at h1 ⊢;rw [Bq,Nat.pow_succ]
 omega):p:=h
theorem qCj {p:Prop} (h:p:=by
 clear R9 n1r n2r hB9 y9 r0 r1 r2 r3 r4 r5 r6 r7 rf0 rf1 rf2 rf3 rf4 rf5 rf6 rf7 y0;rw [hw9];constructor<;>simp [x0,x1,x2,x3,x4,x5,x6,x7,xf0,xf1,xf2,xf3,xf4,xf5,xf6,xf7,go_sem]):p:=h
theorem qCk {p:Prop} (h:p:=by
 have h3:=Ez (dg z.natAbs) (Ew _);have h4:=h.rd.len;have h5:=Nat.pow_le_pow_right (show 0<1000000000 by omega) (show (dg z.natAbs).length≤2 by omega);rw [Bq] at h3
 omega):p:=h
theorem qCl {p:Prop} (h:p:=by
 rintro e w1 ⟨rfl,hb1⟩;go_wp2_with fail;go_ret;exact ⟨rfl,hb1⟩):p:=h
theorem qCm {p:Prop} (h:p:=by
 have h7:=hT6.setO i hi4 n;rw [Int.natCast_add] at h7;exact hu▸h7):p:=h
theorem qCn {p:Prop} (h:p:=by
 exact (hnum3.setFresh hf3 _ _ (by show w.heap.size+1+1<_;omega)).setFresh (hf3.setNew _ _ (by show w.heap.size+1+1<_;omega)) _ _ (by show w.heap.size+1+1<_;omega)):p:=h
theorem qCo {p:Prop} (h:p:=by
 refine bodyPost_ret (v:=.int .i64 0) (by simp [results,Tryz.results282,go_sem]) rfl ?_;rw [HX.out];exact .yes (Bf _ (hg12.trans (Bx hw3 _))) (hr3.set1 true)):p:=h
theorem qCp {p:Prop} (h:p:=by
 exact ⟨a2,n2,c2,rfl,P2.mono B1.size,PO.mono B1.size,B1.trans (hb2.mono B1.size)⟩):p:=h
theorem qCq {p:Prop} (h:p:=by
 exact ⟨_,_,_,rfl,Py (P3.butR g4 (fun k e=>by cases e;exact rl1)) (O3.butR g4 (fun k e=>by cases e;exact rl1)),Cd b2 (Ad _) _ _ _⟩):p:=h
theorem qCr {p:Prop} (h:p:=by
 obtain ⟨b',o',hbo,hcl⟩:=h.cell.resolve_left qA;simp only [Option.some.injEq,Addr.mk.injEq,and_true] at hbo;obtain ⟨rfl,rfl⟩:=hbo;exact hcl i hi):p:=h
theorem qCs {p:Prop} (h:p:=by
 refine ⟨by simpa using h 0 y rfl,ih fun i x hx=>?_⟩;have:=h (i+1) x (by simpa using hx);rwa [show p+(i+1)*3=p+3+i*3 by omega] at this):p:=h
theorem qCt {p:Prop} (h:p:=by
 have:=Tryz.strings_IndexByte ⟨#[120,121,122,116]⟩ (b.toNat:Int) W;have e:((b.toNat:Int).toNat.toUInt8)=b:=by simp
 rw [e] at this;exact this):p:=h
theorem qCu {p:Prop} (h:p:=by
 go_wp2_with fail;refine bodyPost_ret (v:=.tuple #[Da 0 0 0 0,.bool false]) (by simp [*,results,Tryz.results100,go_sem]) rfl ⟨rfl,by go_grown⟩):p:=h
theorem qCv {p:Prop} (h:p:=by
 go_wp2_with fail;all_goals
  refine bodyPost_ret (v:=.int .i64 z) (by simp [results,Tryz.results210,go_sem]) rfl ?_;exact ⟨z,rfl,hz1,hz2,HBr⟩):p:=h
theorem qCw {p:Prop} (h:p:=by
 exact ⟨a6,n6,c6,rfl,hr.mono qA,hro.mono qA,HBr.trans (hb6.mono HBr.size)⟩):p:=h
theorem qCx {p:Prop} (h:p:=by
 rw [Cu,if_neg h1,if_pos h2];intro t ht;rcases List.mem_cons.1 ht with rfl|ht
 ·exact hb _ qG
 ·exact ih ha (fun t h=>hb t (by simp [h])) t ht):p:=h
theorem qCy {p:Prop} (h:p:=by
 rcases hok with ⟨_,_,_,h,_⟩|⟨_,rfl,_⟩
 ·exact h
 ·exact ⟨List.Pairwise.nil,fun t ht=>(by cases ht),fun t ht=>(by cases ht)⟩):p:=h
theorem qCz {p:Prop} (h:p:=by
 go_wp2_with fail;refine (Abq _ _ _ _ _ _ _ _ _).mono ?_;rintro e w1 ⟨rfl,hb⟩;have HB2:=zI w hb;go_wp2_with fail;go_ret;exact ⟨rfl,HB2⟩):p:=h
theorem qDa {p:Prop} (h:p:=by
 refine ⟨h.1,?_⟩;rcases h.2 with h0|⟨g,cap,cur,hv,hg,hr⟩
 ·exact .inl h0
 ·exact .inr ⟨g,cap,cur,hv,Ah hb hg,hr⟩):p:=h
theorem qDb {p:Prop} (h:p:=by
 simp only [lim,List.getD,Ai hi,Option.getD_some]
 omega):p:=h
theorem qDc {p:Prop} (h:p:=by
 simp only [World.cell?,hC] at e;rcases i with _|_|_|_|i<;>simp at e):p:=h
theorem qDd {p:Prop} (h:p:=by
 rw [Cu,if_pos hlt];intro t ht;rcases List.mem_cons.1 ht with rfl|ht
 ·exact ha _ qG
 ·exact ih (fun t h=>ha t (by simp [h])) hb t ht):p:=h
theorem qDe {p:Prop} (h:p:=by
 rintro e w2 ⟨rfl,hb2⟩;replace HB:=HB.trans (hb2.mono HB.size);go_wp2_with fail;go_ret;exact ⟨by rw [HR.out];rfl,HB⟩):p:=h
theorem qDf {p:Prop} (h:p:=by
 refine .inr ⟨b,o,ha,fun i hi=>(hc i hi).butR hg fun e=>?_⟩;have h1:=hr _ e.symm;have h2:=hn _ ha;simp at h2
 omega):p:=h
theorem qDg {p:Prop} (h:p:=by
 obtain ⟨c0,c1,f0,f1⟩:=h;exact ⟨by simp [*,go_sem],by simp [*,go_sem],by simp [*,go_sem],by simp [*,go_sem]⟩):p:=h
theorem qDh {p:Prop} (h:p:=by
 rcases List.mem_cons.1 h with rfl|h
 ·omega
 ·have:=ih h;omega):p:=h
theorem qDi {p:Prop} (h:p:=by
 have h:=World.alloc_heap_new (w.alloc (.deferred (some []))) (.loop (rec' .ready none));rwa [Aj] at h):p:=h
theorem qDj {p:Prop} (h:p:=by
 clear hr;go_enter Tryz.func202,Tryz.ntmps202;go_wp2;go_ret;exact ⟨by first|(simp;done)|(simp;omega),rfl⟩):p:=h
theorem qDk {p:Prop} (h:p:=by
 rw [Cu,if_neg h1,if_neg h2,if_pos h3];exact ih (fun t h=>ha t (by simp [h])) (fun t h=>hb t (by simp [h]))):p:=h
theorem qDl {p:Prop} (h:p:=by
 have h1:=h.low.rd.len;have h2:=h'.low.rd.len;rw [Int.natAbs_mul];have h3:=Ft q.natAbs q'.natAbs
 omega):p:=h
theorem qDm {p:Prop} (h:p:=by
 go_wp2;go_ret;exact ⟨rfl,Bu _ (Ac _ _)⟩):p:=h
theorem qDn {p:Prop} (h:p:=by
 refine wpS_of_wp ?_;go_wp2_with fail;cases c₀
 simp_all [bodyPostS,results,Tryz.results159,Exit.thenS]):p:=h
theorem qDo {p:Prop} (h:p:=by
 obtain rfl:k=n:=by omega
 go_wp2_with fail;go_ret;exact ⟨rfl,by first|assumption|go_grown⟩):p:=h
theorem qDp {p:Prop} (h:p:=by
 cases r
 ·rfl
 ·exact absurd hd0.out (by have:=(HR.out.2 rfl _ hlt).1.2;rw [HTK.out];exact this)):p:=h
theorem qDq {p:Prop} (h:p:=by
 cases hx:Fb (b::r) st.many with
 | none =>
  exact qAj
 | some x =>
  obtain ⟨cn,r',m'⟩:=x;have hF:Hid (Cq st=some ⟨Ca st.c cn,st.o,r',m'⟩):=Ae (by unfold Cq;rw [hLst];simp only;rw [hlet];simp only;rw [hx]);have hfw:=(Lh hx).2;have hbL:(b::r).length≤1000000:=by rw [←hLst];omega
  have hf9:By 1000000000 cn:=hfw.mono qA;clear hfw;refine Cf (fun W=>W.cell? ⟨w1.heap.size,0,none⟩=some (.bool g5)∧W.cell? ⟨w1.heap.size,1,none⟩=some (.slice a5 n5 c5)∧W.cell? ⟨w1.heap.size,2,none⟩=some (.bool g6)∧W.cell? ⟨w1.heap.size,3,none⟩=some (.slice a6 n6 c6)) 4 qC qK (fun hHeld=>?_);(refine Bk.take 3 (i:=0) (v:=?_) rfl qC (fun _ _ _ h=>h) (Or.inl ⟨by rfl,?_⟩) qH ?_;rotate_left;(focus (intro w' hSw;(try dsimp only at hSw);go_simp;(try with_reducible rfl)));(try simp only [Act.put,Au,Av,Aw]));(refine Bk.take 4 (i:=1) (v:=?_) rfl qC (fun _ _ _ h=>h) (Or.inl ⟨by rfl,?_⟩) qH ?_;rotate_left;(focus (intro w' hSw;(try dsimp only at hSw);go_simp;(try with_reducible rfl)));(try simp only [Act.put,Au,Av,Aw]));(refine Bk.one (i:=2) rfl qC (fun K hK=>?_);go_simp;(go_at_call 283;refine (Nh _ R (b::r) st.many hrd hbl).mono ?_;rintro e w6 ⟨hg6,hp6⟩;rw [hx] at hp6;obtain ⟨v,rfl,hv,hr6⟩:=hp6;have hT6:=hTd.rd hg6 hr6;have hf56:=hf5d.butR (q1.newA hf5.top.rd) (q2.newA hf5.low.rd) hg6 (fun k hk=>by cases hk;exact hRlt);replace e0:=An hg6 (show wi.drew.cell? _=_ from e0) hneC;replace e1:=An hg6 (show wi.drew.cell? _=_ from e1) hneC;replace e2:=An hg6 (show wi.drew.cell? _=_ from e2) hneC;replace e3:=An hg6 (show wi.drew.cell? _=_ from e3) hneC);(try go_wp2_with fail);refine hK.out _ _ (fun _=>qK) ?_;clear hK K;(try simp only [Act.put,Au,Av,Aw]));(refine Bk.one (i:=3) rfl qC (fun K hK=>?_);go_simp;(go_at_call 39;refine (rQ _ g5 a5 n5 c5 g6 a6 n6 c6 st.c hf56 _ v cn hv s1 s2 hf9).mono ?_;rintro e w7 ⟨gm1,am1,nm1,cm1,gm2,am2,nm2,cm2,rfl,hmul,hm1,hm2,hap,hb7⟩;have hT7:=hT6.keep hb7;replace e0:=Bc hb7 e0;replace e1:=Bc hb7 e1;replace e2:=Bc hb7 e2;replace e3:=Bc hb7 e3;have z0:=hT7.cf 0 qA;have z1:=hT7.cf 1 qA;have z2:=hT7.cf 2 qA;have z3:=hT7.cf 3 qA);(try go_wp2_with fail);refine hK.out _ _ (fun _=>qK) ?_;clear hK K;(try simp only [Act.put,Au,Av,Aw]));(refine Bk.one (i:=4) rfl qC (fun K hK=>?_);go_simp;refine hK.out _ _ (fun h=>absurd h qI) ?_;clear hK K;(try simp only [Act.put,Au,Av,Aw]));refine Bk.done qC ?_ _;have h46:=hT6.h4;have km1:Bg (w1.heap.size+1+1) w7 am1 cm1:=hm1.mono qA;have km2:Bg (w1.heap.size+1+1) w7 am2 cm2:=hm2.mono qA;obtain ⟨u,hu⟩:∃u:TS,u=⟨Ca st.c cn,st.o,r',m'⟩:=⟨_,rfl⟩;have hT8:=hT7.setC (c:=Ca st.c cn) hmul km1 km2 hap;have hT7':Db wo ((((w7.setCell ⟨w1.heap.size,0,none⟩ (.bool gm1)).setCell ⟨w1.heap.size,1,none⟩ (.slice am1 nm1 cm1)).setCell ⟨w1.heap.size,2,none⟩ (.bool gm2)).setCell ⟨w1.heap.size,3,none⟩ (.slice am2 nm2 cm2)) R w1.heap.size (w1.heap.size+1) u:=hu▸hT8;exact qEe):p:=h
theorem qDr {p:Prop} (h:p:=by
 cases hx:Fb (b::r) st.many with
 | none =>
  exact qAj
 | some x =>
  obtain ⟨cn,r',m'⟩:=x;have hF:Hid (Cq st=some ⟨Ca st.c cn,st.o,r',m'⟩):=Ae (by unfold Cq;rw [hLst];simp only;rw [hlet];simp only;rw [hx]);have hfw:=(Lh hx).2;have hbL:(b::r).length≤1000000:=by rw [←hLst];omega
  have hf9:By 1000000000 cn:=hfw.mono qA;clear hfw;refine Cf (fun W=>W.cell? ⟨w1.heap.size,0,none⟩=some (.bool g5)∧W.cell? ⟨w1.heap.size,1,none⟩=some (.slice a5 n5 c5)∧W.cell? ⟨w1.heap.size,2,none⟩=some (.bool g6)∧W.cell? ⟨w1.heap.size,3,none⟩=some (.slice a6 n6 c6)) 4 qC qK (fun hHeld=>?_);(refine Bk.take 3 (i:=0) (v:=?_) rfl qC (fun _ _ _ h=>h) (Or.inl ⟨by rfl,?_⟩) qH ?_;rotate_left;(focus (intro w' hSw;(try dsimp only at hSw);go_simp;(try with_reducible rfl)));(try simp only [Act.put,Au,Av,Aw]));(refine Bk.take 4 (i:=1) (v:=?_) rfl qC (fun _ _ _ h=>h) (Or.inl ⟨by rfl,?_⟩) qH ?_;rotate_left;(focus (intro w' hSw;(try dsimp only at hSw);go_simp;(try with_reducible rfl)));(try simp only [Act.put,Au,Av,Aw]));(refine Bk.one (i:=2) rfl qC (fun K hK=>?_);go_simp;(go_at_call 283;refine (Nh _ R (b::r) st.many hrd hbl).mono ?_;rintro e w6 ⟨hg6,hp6⟩;rw [hx] at hp6;obtain ⟨v,rfl,hv,hr6⟩:=hp6;have hT6:=hTd.rd hg6 hr6;have hf56:=hf5d.butR (q1.newA hf5.top.rd) (q2.newA hf5.low.rd) hg6 (fun k hk=>by cases hk;exact hRlt);replace e0:=An hg6 (show wi.drew.cell? _=_ from e0) hneC;replace e1:=An hg6 (show wi.drew.cell? _=_ from e1) hneC;replace e2:=An hg6 (show wi.drew.cell? _=_ from e2) hneC;replace e3:=An hg6 (show wi.drew.cell? _=_ from e3) hneC);(try go_wp2_with fail);refine hK.out _ _ (fun _=>qK) ?_;clear hK K;(try simp only [Act.put,Au,Av,Aw]));(refine Bk.one (i:=3) rfl qC (fun K hK=>?_);go_simp;(go_at_call 39;refine (rQ _ g5 a5 n5 c5 g6 a6 n6 c6 st.c hf56 _ v cn hv s1 s2 hf9).mono ?_;rintro e w7 ⟨gm1,am1,nm1,cm1,gm2,am2,nm2,cm2,rfl,hmul,hm1,hm2,hap,hb7⟩;have hT7:=hT6.keep hb7;replace e0:=Bc hb7 e0;replace e1:=Bc hb7 e1;replace e2:=Bc hb7 e2;replace e3:=Bc hb7 e3;have z0:=hT7.cf 0 qA;have z1:=hT7.cf 1 qA;have z2:=hT7.cf 2 qA;have z3:=hT7.cf 3 qA);(try go_wp2_with fail);refine hK.out _ _ (fun _=>qK) ?_;clear hK K;(try simp only [Act.put,Au,Av,Aw]));(refine Bk.one (i:=4) rfl qC (fun K hK=>?_);go_simp;refine hK.out _ _ (fun h=>absurd h qI) ?_;clear hK K;(try simp only [Act.put,Au,Av,Aw]));refine Bk.done qC ?_ _;have h46:=hT6.h4;have km1:Bg (wy.heap.size+1) w7 am1 cm1:=hm1.mono qA;have km2:Bg (wy.heap.size+1) w7 am2 cm2:=hm2.mono qA;obtain ⟨u,hu⟩:∃u:TS,u=⟨Ca st.c cn,st.o,r',m'⟩:=⟨_,rfl⟩;have hT8:=hT7.setC (c:=Ca st.c cn) hmul km1 km2 hap;have hT7':Db wo ((((w7.setCell ⟨w1.heap.size,0,none⟩ (.bool gm1)).setCell ⟨w1.heap.size,1,none⟩ (.slice am1 nm1 cm1)).setCell ⟨w1.heap.size,2,none⟩ (.bool gm2)).setCell ⟨w1.heap.size,3,none⟩ (.slice am2 nm2 cm2)) R w1.heap.size wy.heap.size u:=hu▸hT8;exact qEe):p:=h
theorem qDs {p:Prop} (h:p:=by
 have hoi:=hTr.oc i hi4;have hi4i:((i:Nat):Int)<4:=by omega
 have hVq:=hV.grown hTr.grown hne7;have hob:st.o i≤1000*(L.length-st.L.length):=hQ.out.2.2.2 i;have hHT:=Ae hTr;have hm0:=Ae (Et hT.out.rdr);clear r0 f0 hT3 hbeg hTr hT;generalize wi.setCell ⟨R,0,none⟩ (.string ⟨r.toArray⟩)=wq at *;have hTd:Db wo wq.drew R w1.heap.size (w1.heap.size+1) ⟨st.c,st.o,r,st.many⟩:=hHT.out.keep ((Ac _ _).drew);have hVd:If wq.drew:=hVq
 cases hx:Iy r st.many with
 | none =>
  exact qAn
 | some x =>
  obtain ⟨n,r',m'⟩:=x;have hn:=Sj hx;have hrlen:=Pp hx;have hwr:IntKind.i64.wrap (((st.o i:Nat):Int)+((n:Nat):Int))=((st.o i:Nat):Int)+((n:Nat):Int):=by simp [IntKind.wrap,IntKind.bits,IntKind.signed];omega
  have hF:Hid (Cq st=some ⟨st.c,Ub st.o i n,r',m'⟩):=Ae (by unfold Cq;rw [hLst];simp only;rw [hlet];simp only;rw [hx]);refine Cf (fun W=>W.cell? ⟨w1.heap.size+1,i,none⟩=some (.int .i64 (st.o i:Nat))) 7 qC qK (fun hHeld=>?_);(refine Bk.take 7 (i:=0) (v:=?_) rfl qC (fun _ _ _ h=>h) (Or.inl ⟨by rfl,?_⟩) qH ?_;rotate_left;(focus (intro w' hSw;(try dsimp only at hSw);go_simp;(try with_reducible rfl)));(try simp only [Act.put,Au,Av,Aw]));(refine Bk.take 7 (i:=1) (v:=?_) rfl qC (fun _ _ _ h=>h) (Or.inl ⟨by rfl,?_⟩) qH ?_;rotate_left;(focus (intro w' hSw;(try dsimp only at hSw);go_simp;(try with_reducible rfl)));(try simp only [Act.put,Au,Av,Aw]));(refine Bk.take 7 (i:=2) (v:=?_) rfl qC (fun _ _ _ h=>h) (Or.inl ⟨by rfl,?_⟩) qH ?_;rotate_left;(focus (intro w' hSw;(try dsimp only at hSw);go_simp;(try with_reducible rfl)));(try simp only [Act.put,Au,Av,Aw]));(refine Bk.take 7 (i:=3) (v:=?_) rfl qC (fun _ _ _ h=>h) (Or.inl ⟨by rfl,?_⟩) qH ?_;rotate_left;(focus (intro w' hSw;(try dsimp only at hSw);go_simp;(try with_reducible rfl)));(try simp only [Act.put,Au,Av,Aw]));(refine Bk.one (i:=4) rfl qC (fun K hK=>?_);go_simp;(go_at_call 282;refine (Wk _ R r st.many hTd.rdr hrl hVd hR).mono ?_;rintro e w6 ⟨hg6,hp6⟩;rw [hx] at hp6;obtain ⟨rfl,hr6⟩:=hp6;have hT6:=hTd.rd hg6 hr6;have hoi6:=hT6.oc i hi4;have hof6:=hT6.of i hi4);(try go_wp2_with fail);refine hK.out _ _ (fun _=>qK) ?_;clear hK K;(try simp only [Act.put,Au,Av,Aw]));(refine Bk.one (i:=5) rfl qC (fun K hK=>?_);go_simp;skip;(try go_wp2_with fail);refine hK.out _ _ (fun _=>qK) ?_;clear hK K;(try simp only [Act.put,Au,Av,Aw]));(refine Bk.one (i:=6) rfl qC (fun K hK=>?_);go_simp;(try rw [if_pos hi4i]);(try go_wp2_with fail);refine hK.out _ _ (fun _=>qK) ?_;clear hK K;(try simp only [Act.put,Au,Av,Aw]));(refine Bk.one (i:=7) rfl qC (fun K hK=>?_);go_simp;refine hK.out _ _ (fun h=>absurd h qI) ?_;clear hK K;(try simp only [Act.put,Au,Av,Aw]));refine Bk.done qC ?_ _;(try rw [hwr]);obtain ⟨u,hu⟩:∃u:TS,u=⟨st.c,Ub st.o i n,r',m'⟩:=⟨_,rfl⟩;have hT7:Db wo (w6.setCell ⟨w1.heap.size+1,i,none⟩ (.int .i64 (((st.o i:Nat):Int)+((n:Nat):Int)))) R w1.heap.size (w1.heap.size+1) u:=by
   exact qCm
  rw [←hu] at hF;clear hoi hoi6 hof6 hT6 hTd hHT hVq hVd hu hx hn hrlen hob hwr;generalize w6.setCell ⟨w1.heap.size+1,i,none⟩ (.int .i64 (((st.o i:Nat):Int)+((n:Nat):Int)))=w7 at *;exact qAa):p:=h
theorem qDt {p:Prop} (h:p:=by
 have hoi:=hTr.oc i hi4;have hi4i:((i:Nat):Int)<4:=by omega
 have hVq:=hV.grown hTr.grown hne7;have hob:st.o i≤1000*(L.length-st.L.length):=hQ.out.2.2.2 i;have hHT:=Ae hTr;have hm0:=Ae (Et hT.out.rdr);clear r0 f0 hT3 hbeg hTr hT;generalize wi.setCell ⟨R,0,none⟩ (.string ⟨r.toArray⟩)=wq at *;have hTd:Db wo wq.drew R w1.heap.size wy.heap.size ⟨st.c,st.o,r,st.many⟩:=hHT.out.keep ((Ac _ _).drew);have hVd:If wq.drew:=hVq
 cases hx:Iy r st.many with
 | none =>
  exact qAo
 | some x =>
  obtain ⟨n,r',m'⟩:=x;have hn:=Sj hx;have hrlen:=Pp hx;have hwr:IntKind.i64.wrap (((st.o i:Nat):Int)+((n:Nat):Int))=((st.o i:Nat):Int)+((n:Nat):Int):=by simp [IntKind.wrap,IntKind.bits,IntKind.signed];omega
  have hF:Hid (Cq st=some ⟨st.c,Ub st.o i n,r',m'⟩):=Ae (by unfold Cq;rw [hLst];simp only;rw [hlet];simp only;rw [hx]);refine Cf (fun W=>W.cell? ⟨wy.heap.size,i,none⟩=some (.int .i64 (st.o i:Nat))) 7 qC qK (fun hHeld=>?_);(refine Bk.take 7 (i:=0) (v:=?_) rfl qC (fun _ _ _ h=>h) (Or.inl ⟨by rfl,?_⟩) qH ?_;rotate_left;(focus (intro w' hSw;(try dsimp only at hSw);go_simp;(try with_reducible rfl)));(try simp only [Act.put,Au,Av,Aw]));(refine Bk.take 7 (i:=1) (v:=?_) rfl qC (fun _ _ _ h=>h) (Or.inl ⟨by rfl,?_⟩) qH ?_;rotate_left;(focus (intro w' hSw;(try dsimp only at hSw);go_simp;(try with_reducible rfl)));(try simp only [Act.put,Au,Av,Aw]));(refine Bk.take 7 (i:=2) (v:=?_) rfl qC (fun _ _ _ h=>h) (Or.inl ⟨by rfl,?_⟩) qH ?_;rotate_left;(focus (intro w' hSw;(try dsimp only at hSw);go_simp;(try with_reducible rfl)));(try simp only [Act.put,Au,Av,Aw]));(refine Bk.take 7 (i:=3) (v:=?_) rfl qC (fun _ _ _ h=>h) (Or.inl ⟨by rfl,?_⟩) qH ?_;rotate_left;(focus (intro w' hSw;(try dsimp only at hSw);go_simp;(try with_reducible rfl)));(try simp only [Act.put,Au,Av,Aw]));(refine Bk.one (i:=4) rfl qC (fun K hK=>?_);go_simp;(go_at_call 282;refine (Wk _ R r st.many hTd.rdr hrl hVd hR).mono ?_;rintro e w6 ⟨hg6,hp6⟩;rw [hx] at hp6;obtain ⟨rfl,hr6⟩:=hp6;have hT6:=hTd.rd hg6 hr6;have hoi6:=hT6.oc i hi4;have hof6:=hT6.of i hi4);(try go_wp2_with fail);refine hK.out _ _ (fun _=>qK) ?_;clear hK K;(try simp only [Act.put,Au,Av,Aw]));(refine Bk.one (i:=5) rfl qC (fun K hK=>?_);go_simp;skip;(try go_wp2_with fail);refine hK.out _ _ (fun _=>qK) ?_;clear hK K;(try simp only [Act.put,Au,Av,Aw]));(refine Bk.one (i:=6) rfl qC (fun K hK=>?_);go_simp;(try rw [if_pos hi4i]);(try go_wp2_with fail);refine hK.out _ _ (fun _=>qK) ?_;clear hK K;(try simp only [Act.put,Au,Av,Aw]));(refine Bk.one (i:=7) rfl qC (fun K hK=>?_);go_simp;refine hK.out _ _ (fun h=>absurd h qI) ?_;clear hK K;(try simp only [Act.put,Au,Av,Aw]));refine Bk.done qC ?_ _;(try rw [hwr]);obtain ⟨u,hu⟩:∃u:TS,u=⟨st.c,Ub st.o i n,r',m'⟩:=⟨_,rfl⟩;have hT7:Db wo (w6.setCell ⟨wy.heap.size,i,none⟩ (.int .i64 (((st.o i:Nat):Int)+((n:Nat):Int)))) R w1.heap.size wy.heap.size u:=by
   exact qCm
  rw [←hu] at hF;clear hoi hoi6 hof6 hT6 hTd hHT hVq hVd hu hx hn hrlen hob hwr;generalize w6.setCell ⟨wy.heap.size,i,none⟩ (.int .i64 (((st.o i:Nat):Int)+((n:Nat):Int)))=w7 at *;exact qAa):p:=h
theorem qDu {p:Prop} (h:p:=by
 go_wp2_with fail;go_meet
 case rel =>
  first
  | exact ⟨rfl,_,a7,n7,c7,rfl,by simp [go_sem],by simp [go_sem],by simp [go_sem],(HV7.out.keep qF).mono (Ba _),k7.trans (Below.mono (show Below w7.heap.size w7 _ by go_grown) k7.size)⟩
  | (refine ⟨rfl,_,a7,n7,c7,rfl,by simp [*,go_sem],by simp [*,go_sem],by simp [*,go_sem],?_,?_⟩;exact Bd.mono (Gs HV7.out qR _ _ _) (Ba _);exact Cd k7 qA _ _ _)):p:=h
theorem qDv {p:Prop} (h:p:=by
 have fe:Bg (w.heap.size+1+1+1) w4 ae ce:=hfe.mono qB;have ff:Bg (w.heap.size+1+1+1) w4 af cf:=hff.mono qB;have u2:w.heap.size+1+1<w.heap.size+1+1+1:=Ag _;have HW:=HB2.trans (HB.mono HB2.size);go_wp2_with fail;refine bodyPost_ret (v:=.agg #[.bool ge,.slice ae ne ce,.bool gf,.slice af nf cf]) (by simp [results,Tryz.results94,go_sem,R0,R1,R2,R3]) rfl ?_;exact qAt):p:=h
theorem qDw {p:Prop} (h:p:=by
 clear hm hRd;go_wp2_with fail;go_roundw
 case rel=>exact ⟨i+1,by omega,by go_num,Ae (by rw [←hnm.out];exact (hRd1.set1 _).setOther _ hRne2),Ae (by exact ((hTB.out.butR (Bf _ (Cp _ _)) hRne2).next hlt)),Ce _ (Bf _ hgr) (by show w3.heap.size≤w3.heap.size;exact Ad _)⟩
 case measure=>(first|(simp [intOf];omega)|(simp [intOf];done))):p:=h
theorem qDx {p:Prop} (h:p:=by
 refine ⟨ge,ae,ne,ce,gf,af,nf,cf,rfl,⟨?_,?_,hr.pos,hr.red⟩,?_,?_,by go_grown⟩
 ·exact hr.top.set4 fe _ _ _ _ _ _ _ _ u2 u2 u2 u2
 ·exact hr.low.set4 ff _ _ _ _ _ _ _ _ u2 u2 u2 u2
 ·exact (fe.set4 _ _ _ _ _ _ _ _ u2 u2 u2 u2).mono qA
 ·exact (ff.set4 _ _ _ _ _ _ _ _ u2 u2 u2 u2).mono qA):p:=h
theorem qDy {p:Prop} (h:p:=by
 refine Bk.one (i:=4) rfl qC (fun K hK=>?_);go_simp;go_at_call 282;refine (Wk _ R r st.many hTd.rdr hrl hVd hR).mono ?_;exact qEf):p:=h
theorem qDz {p:Prop} (h:p:=by
 have hz0:0≤z:=by simpa using h.neg.symm
 have heq:=vE (z':=z') hz0;rw [←h'.neg] at heq;have HEQ:=Ae heq;obtain rfl:gr=false:=by rw [HD.numr.neg];simp [sgn];omega
 clear heq hz0;exact qBk):p:=h
theorem qEa {p:Prop} (h:p:=by
 rw [if_pos hrem,if_pos hrem,Int.add_zero,Int.add_zero] at heq;obtain rfl:gr=false:=by rw [HD.numr.neg,hrem];simp [sgn]
 have HEQ:=Ae heq;clear heq hH hz0 hrem;exact qBk):p:=h
theorem qEb {p:Prop} (h:p:=by
 exact (hnum.setFresh hfr5 _ _ (by show w.heap.size+1+1<_;omega)).setFresh (hfr5.setNew _ _ (by show w.heap.size+1+1<_;omega)) _ _ (by show w.heap.size+1+1<_;omega)):p:=h
theorem qEc {p:Prop} (h:p:=by
 exact ((hfr5.setNew _ _ (by show w.heap.size+1+1<_;omega)).setNew _ _ (by show w.heap.size+1+1<_;omega)).mono qA):p:=h
theorem qEd {p:Prop} (h:p:=by
 exact ((hf3.setNew _ _ (by show w.heap.size+1+1<_;omega)).setNew _ _ (by show w.heap.size+1+1<_;omega)).mono qA):p:=h
theorem qEe {p:Prop} (h:p:=by
 rw [←hu] at hF;clear hT6 hT7 hT8 hTd hf5 hf5d hf56 hmul hm1 hm2 km1 km2 e0 e1 e2 e3 z0 z1 z2 z3 hv hrd hu hx hf9 hb7 hg6 hr6;generalize (((w7.setCell ⟨w1.heap.size,0,none⟩ (.bool gm1)).setCell ⟨w1.heap.size,1,none⟩ (.slice am1 nm1 cm1)).setCell ⟨w1.heap.size,2,none⟩ (.bool gm2)).setCell ⟨w1.heap.size,3,none⟩ (.slice am2 nm2 cm2)=wz at *;have hT7:=hT7';clear hT7';exact qAa):p:=h
theorem qEf {p:Prop} (h:p:=by
 rintro e w6 ⟨hg6,hp6⟩;rw [hx] at hp6;subst hp6;refine ⟨rfl,?_⟩;rw [hTR.out,hXN.out];exact .no (hTd.grown.trans hg6)):p:=h
end Go.Proofs.YtnnhcbeiogaknaaGreatDoor
