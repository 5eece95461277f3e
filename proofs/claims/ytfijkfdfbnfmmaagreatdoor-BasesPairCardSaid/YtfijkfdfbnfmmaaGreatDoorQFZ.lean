/- Helpers: proofs that stand often. -/
import Derived.Test.YtfijkfdfbnfmmaaGreatDoorProg
import Derived.WalkKit
import Derived.WalkLawsBesides
import Derived.WalkSpells
import Derived.Lib.Hide
import Derived.Handy
import Derived.ChangeKeysEq
import Derived.StillTailTactics
import Derived.Maps.AppendAt
import Derived.Deep.RegionWith
import Derived.Deep.RegionHeld3
import Derived.Deep.QuietTactic
import Derived.BigQuiet
import Derived.Deep.CutBlock
import Derived.Deep.AppendLies
import Derived.Deep.RegionLaw
import Derived.Deep.LoopGhost
import Derived.Deep.DeepCutAuto
import Derived.RangeFuncRecord
import Derived.MapKept
import Derived.Sort.Walk7a
import Derived.Maps.RangeWalk
import Derived.Maps.Views
import Derived.Maps.OwnSet
import Derived.DeepKeys4
import Derived.Shelf.Small.Bits
import Derived.Shelf.Strconv.AtoiAll
import Derived.Shelf.Pu.ParseUintPublic10
import Derived.Shelf.SlSortCmp.WholeK
import Derived.Shelf.SlSortCmp.NoneTotal
import Derived.Shelf.Spec.SlicesGrow
import Derived.Laws.AppendOwnNone
import Derived.Shelf.Strings.SlTrimAscii
import Derived.Shelf.Small.Wraps
import Derived.Shelf.Strings.Search1
import Derived.Shelf.LaysM
import Derived.PlainAid
import Derived.RangeFuncBox
import Derived.RangeFuncNested
import Derived.RangeFuncBound
import Derived.RangeFuncCalls
import Derived.RangeFuncLeaves
import Derived.Shelf.Abstract
import Derived.Shelf.RegionOpen
import Derived.OwnWalkIn
import Derived.TacticsInMore
import Derived.LoopNIn
import Derived.LoopIn
import Derived.Shelf.RegionOpenPlain
import Derived.Laws.IdiomRangeMap
import Derived.WalkMore
import Derived.Laws.EntriesVeiled
import Derived.Deep.Upon
import Derived.Sort.Row
import Derived.Lib.ItoaNum
import Derived.Lib.Repeat
import Derived.Lib.Join
import Derived.Recover
import Derived.Defers
import Derived.Deep.Slices
import Derived.ChangeSame
import Derived.OpenShut
import Derived.Laws.IdiomArrays
import Derived.SizedLaws
import Derived.Test.YtfijkfdfbnfmmaaGreatDoorCards
import Derived.Test.YtfijkfdfbnfmmaaGreatDoorTie
import Derived.Stop.LaidErr
import Derived.RowKitTokens
import Derived.ProofKit
import Derived.WideKeyArgs
import Derived.Deep.DeepHandedRow
import Derived.Lib.LaidTab
import Derived.Test.YtfijkfdfbnfmmaaGreatDoorRows
import Derived.JoinedOf
import Derived.JoinedCond
import Derived.KernelRfl
import Derived.Laws.CopyOwn
import Derived.Shelf.Strings.OnBuilder
import Derived.Shelf.Strings.Builder1
import Derived.Shelf.Strings.Builder2
import Derived.Shelf.Strconv.Itoa3
import Derived.Shelf.Strings.Repeat
import Derived.Shelf.Strings.Builder2Cap
import Derived.Shelf.LaysC
import Derived.Lib.ItoaMem
namespace Go.Proofs.YtfijkfdfbnfmmaaGreatDoor
open Proofs.Tryz
variable {P:Nat→Prop} {p:Prop} {W w1:World}
abbrev Γ:=_root_.Option Go.Addr
structure zi (n:Nat)
def U:zi 0:=⟨⟩
instance:CoeFun (zi 0) fun _=>Int→Value:=⟨fun _=>.int .u16⟩
def M:zi 1:=⟨⟩
instance:CoeFun (zi 1) fun _=>Int→Value:=⟨fun _=>.int .i64⟩
instance:CoeOut World Nat:=⟨fun w=>w.heap.size⟩
structure zj (w:World) (b o:Nat) (v:Value)
def Z (w:World) (b o:Nat) (v:Value):zj w b o v:=⟨⟩
instance {w b o v}:CoeSort (zj w b o v) Prop:=⟨fun _=>w.cell? ⟨b,o,none⟩=some v⟩
instance {w b o v}:CoeOut (zj w b o v) Prop:=⟨fun _=>w.cell? ⟨b,o,none⟩=some v⟩
structure zk (w:World) (b o:Nat)
def Y (w:World) (b o:Nat):zk w b o:=⟨⟩
instance {w b o}:CoeSort (zk w b o) Prop:=⟨fun _=>w.frozen? ⟨b,o,none⟩=false⟩
instance {w b o}:CoeOut (zk w b o) Prop:=⟨fun _=>w.frozen? ⟨b,o,none⟩=false⟩
structure zl (b o:Nat)
def J (b o:Nat):zl b o:=⟨⟩
instance {b o}:CoeOut (zl b o) Addr:=⟨fun _=>⟨b,o,none⟩⟩
structure zm (b:Nat)
def E (b:Nat):zm b:=⟨⟩
instance {b}:CoeOut (zm b) (Option Addr):=⟨fun _=>some ⟨b,0,none⟩⟩
abbrev Θ:=Calls prog
abbrev Ξ:=List Nat
open Go.RowKit Proofs.Tryz
abbrev xp (w w':World):Prop:=Below w w w'
abbrev Aa:=@World.block_lt_of_cell?
abbrev Ab:=@Below.frozen
abbrev Ac:=@Below.refl
abbrev Ad:=@Nat.le_refl
abbrev Ae:=@Lib.hid
abbrev Af:=@World.cell?_of_block
abbrev Ag:=@Nat.lt_succ_self
abbrev Ah:=@Nat.le_trans
abbrev Ai:=@List.getElem?_eq_getElem
abbrev Aj:=@World.size_alloc
abbrev Ak:=@World.size_drew
abbrev Al:=@Below.trans
abbrev Am:=@World.size_setCell
abbrev An:=@World.grownBy.cell
abbrev Ao:=@List.mem_singleton
abbrev Aq:=@Nat.eq_zero_or_pos
abbrev Ar:=@Array.getElem?_eq_some_iff
abbrev As:=@List.take_of_length_le
abbrev At:=@Nat.mul_le_mul_left
abbrev Au:=@List.setIfInBounds_toArray
abbrev Av:=@List.set_cons_zero
abbrev Aw:=@List.set_cons_succ
abbrev Ax:=@And.intro
abbrev Ay:=@List.getElem?_append_left
abbrev Az:=@List.getElem?_append_right
abbrev A7:=@List.mem_of_getElem?
abbrev A8:=@List.length_append
abbrev Ba:=@Nat.zero_le
theorem xa {α:Type} {x:Option α} {a b:α} (h:x=some a) (e:a=b:=by kernel_rfl):x=some b:=h.trans (congrArg some e)
theorem xb:(∀(a:Act) (d:Tmp) (v:Value),a.put (some d) v={ a with tmps:=a.tmps.setIfInBounds d v })∧(∀(a:Act) (v:Value),a.put none v=a)∧(∀(α:Type) (l:List α) (i:Nat) (a:α),l.toArray.setIfInBounds i a=(l.set i a).toArray)∧(∀(α:Type) (x:α) (l:List α) (a:α),(x::l).set 0 a=a::l)∧(∀(α:Type) (x:α) (l:List α) (n:Nat) (a:α),(x::l).set (n+1) a=x::l.set n a):=⟨fun _ _ _=>rfl,fun _ _=>rfl,fun _ _ _ _=>by simp,fun _ _ _ _=>rfl,fun _ _ _ _ _=>rfl⟩
theorem xd (hc:∀b o,b<W.heap.size→w1.cell? ⟨b,o,none⟩=W.cell? (J b o)) (b:Nat) (g:Bool) (a:Option Addr) (n c:Nat) (h1:b<W.heap.size:=by go_size) (h2:Z W b 0 (.bool g):=by first|assumption|(simp [go_sem];done)|(simp [*,go_sem];done)) (h3:Z W b 1 (.slice a n c):=by first|assumption|(simp [go_sem];done)|(simp [*,go_sem];done)):Z w1 b 0 (.bool g)∧Z w1 b 1 (.slice a n c):=⟨(hc _ _ h1).trans h2,(hc _ _ h1).trans h3⟩
theorem xe (hc:∀b o,b<W.heap.size→w1.cell? ⟨b,o,none⟩=W.cell? (J b o)) (b:Nat) (g:Bool) (a:Option Addr) (n c:Nat) (g':Bool) (a':Option Addr) (n' c':Nat) (h1:b<W.heap.size:=by go_size) (h2:Z W b 0 (.bool g):=by first|assumption|(simp [go_sem];done)|(simp [*,go_sem];done)) (h3:Z W b 1 (.slice a n c):=by first|assumption|(simp [go_sem];done)|(simp [*,go_sem];done)) (h4:Z W b 2 (.bool g'):=by first|assumption|(simp [go_sem];done)|(simp [*,go_sem];done)) (h5:Z W b 3 (.slice a' n' c'):=by first|assumption|(simp [go_sem];done)|(simp [*,go_sem];done)):Z w1 b 0 (.bool g)∧Z w1 b 1 (.slice a n c)∧Z w1 b 2 (.bool g')∧Z w1 b 3 (.slice a' n' c'):=⟨(hc _ _ h1).trans h2,(hc _ _ h1).trans h3,(hc _ _ h1).trans h4,(hc _ _ h1).trans h5⟩
theorem xf (hc:∀b o,b<W.heap.size→w1.cell? ⟨b,o,none⟩=W.cell? (J b o)) (b:Nat) (h1:b<W.heap.size:=by go_size) (h2:Z W b 0 (.bool false):=by first|assumption|(simp [go_sem];done)|(simp [*,go_sem];done)) (h3:Z W b 1 (.slice none 0 0):=by first|assumption|(simp [go_sem];done)|(simp [*,go_sem];done)) (h4:Z W b 2 (.bool false):=by first|assumption|(simp [go_sem];done)|(simp [*,go_sem];done)) (h5:Z W b 3 (.slice none 0 0):=by first|assumption|(simp [go_sem];done)|(simp [*,go_sem];done)):Z w1 b 0 (.bool false)∧Z w1 b 1 (.slice none 0 0)∧Z w1 b 2 (.bool false)∧Z w1 b 3 (.slice none 0 0):=⟨(hc _ _ h1).trans h2,(hc _ _ h1).trans h3,(hc _ _ h1).trans h4,(hc _ _ h1).trans h5⟩
theorem xg (hf:∀b o,b<W.heap.size→w1.frozen? ⟨b,o,none⟩=W.frozen? (J b o)) (b:Nat) (h1:b<W.heap.size:=by go_size) (h2:Y W b 0:=by first|assumption|(simp [go_sem];done)|(simp [*,go_sem];done)) (h3:Y W b 1:=by first|assumption|(simp [go_sem];done)|(simp [*,go_sem];done)) (h4:Y W b 2:=by first|assumption|(simp [go_sem];done)|(simp [*,go_sem];done)) (h5:Y W b 3:=by first|assumption|(simp [go_sem];done)|(simp [*,go_sem];done)):Y w1 b 0∧Y w1 b 1∧Y w1 b 2∧Y w1 b 3:=⟨(hf _ _ h1).trans h2,(hf _ _ h1).trans h3,(hf _ _ h1).trans h4,(hf _ _ h1).trans h5⟩
theorem xo {w w' GI:World} (h:Below w w w') (k:Below w' w' GI):Below w w GI:=h.trans (k.mono h.size)
theorem qA (h:p:=by go_size):p:=h
theorem qB (h:p:=by omega):p:=h
theorem qC (h:p:=by first|assumption|(simp [go_sem];done)|(simp [*,go_sem];done)):p:=h
theorem qD (h:p:=by go_grown):p:=h
theorem qE (h:p:=by kernel_rfl):p:=h
theorem qF (h:p:=by first|assumption|(simp [go_sem];done)):p:=h
theorem qG (h:p:=by assumption):p:=h
theorem qH (h:p:=by simp):p:=h
theorem qI (h:p:=by decide):p:=h
theorem qJ (h:p:=by simp [go_sem]):p:=h
theorem qK (h:p:=by ((try dsimp only);(repeat' apply Ax);all_goals (first|(with_reducible assumption)|(go_keep;done)|(simp [*,go_sem];done)))):p:=h
theorem qL (h:p:=by simp;omega):p:=h
theorem qM (h:p:=by rfl):p:=h
theorem qN (h:p:=by unfold maxLen;omega):p:=h
theorem qO (h:p:=by simp [*,go_sem]):p:=h
theorem qP (h:p:=by first|assumption|(simp [*,go_sem];done)):p:=h
theorem qQ (h:p:=by first|exact Ac _ _|assumption|go_grown):p:=h
theorem qR (h:p:=by first|assumption|go_grown):p:=h
theorem qS (h:p:=by first|exact Ac _ _|go_grown):p:=h
theorem qT (h:p:=by first|omega|(simp;done)|(simp;omega)):p:=h
theorem qU (h:p:=by first|go_size|(simp;omega)):p:=h
theorem qV (h:p:=by first|exact Ad _|go_size):p:=h
theorem qW (h:p:=by first|omega|(simp;omega)):p:=h
theorem qX (h:p:=by trivial):p:=h
theorem qY (h:p:=by first|omega|(simp;omega)):p:=h
theorem qZ (h:p:=by first|rfl|simp):p:=h
theorem zA (h:p:=by first|(simp;done)|(simp;omega)):p:=h
theorem zB (h:p:=by first|(simp;done)|(simp;omega)|omega):p:=h
theorem zC (h:p:=by first|go_size|omega|(simp;omega)):p:=h
theorem zD (h:p:=by first|(simp;omega)|go_size):p:=h
theorem zE (hc:∀b o,b<W.heap.size→w1.cell? ⟨b,o,none⟩=W.cell? (J b o)) (b i:Nat) (v:Value) (h1:b<W.heap.size:=by go_size) (h2:Z W b i v:=by first|assumption|(simp [go_sem];done)|(simp [*,go_sem];done)):Z w1 b i v:=(hc b i h1).trans h2
theorem zF (hf:∀b o,b<W.heap.size→w1.frozen? ⟨b,o,none⟩=W.frozen? (J b o)) (b i:Nat) (h1:b<W.heap.size:=by go_size) (h2:Y W b i:=by first|assumption|(simp [go_sem];done)|(simp [*,go_sem];done)):Y w1 b i:=(hf b i h1).trans h2
theorem zH (hc:∀b o,b<W.heap.size→w1.cell? ⟨b,o,none⟩=W.cell? (J b o)) (b:Nat) (v u:Value) (h1:b<W.heap.size:=by go_size) (h2:Z W b 0 v:=by first|assumption|(simp [go_sem];done)|(simp [*,go_sem];done)) (h3:Z W b 1 u:=by first|assumption|(simp [go_sem];done)|(simp [*,go_sem];done)):Z w1 b 0 v∧Z w1 b 1 u:=⟨(hc b 0 h1).trans h2,(hc b 1 h1).trans h3⟩
theorem zI (hc:∀b o,b<W.heap.size→w1.cell? ⟨b,o,none⟩=W.cell? (J b o)) (b:Nat) (v u:Value) (h1:b<W.heap.size:=by go_size) (h2:Z W b 2 v:=by first|assumption|(simp [go_sem];done)|(simp [*,go_sem];done)) (h3:Z W b 3 u:=by first|assumption|(simp [go_sem];done)|(simp [*,go_sem];done)):Z w1 b 2 v∧Z w1 b 3 u:=⟨(hc b 2 h1).trans h2,(hc b 3 h1).trans h3⟩
theorem zJ (hc:∀b o,b<W.heap.size→w1.cell? ⟨b,o,none⟩=W.cell? (J b o)) (b:Nat) (h1:b<W.heap.size:=by go_size) (h2:Z W b 0 (.bool false):=by first|assumption|(simp [go_sem];done)|(simp [*,go_sem];done)) (h3:Z W b 1 (.slice none 0 0):=by first|assumption|(simp [go_sem];done)|(simp [*,go_sem];done)):Z w1 b 0 (.bool false)∧Z w1 b 1 (.slice none 0 0):=⟨(hc b 0 h1).trans h2,(hc b 1 h1).trans h3⟩
theorem zK (hf:∀b o,b<W.heap.size→w1.frozen? ⟨b,o,none⟩=W.frozen? (J b o)) (b:Nat) (h1:b<W.heap.size:=by go_size) (h2:Y W b 0:=by first|assumption|(simp [go_sem];done)|(simp [*,go_sem];done)) (h3:Y W b 1:=by first|assumption|(simp [go_sem];done)|(simp [*,go_sem];done)):Y w1 b 0∧Y w1 b 1:=⟨(hf b 0 h1).trans h2,(hf b 1 h1).trans h3⟩
theorem zL (hf:∀b o,b<W.heap.size→w1.frozen? ⟨b,o,none⟩=W.frozen? (J b o)) (b:Nat) (h1:b<W.heap.size:=by go_size) (h2:Y W b 2:=by first|assumption|(simp [go_sem];done)|(simp [*,go_sem];done)) (h3:Y W b 3:=by first|assumption|(simp [go_sem];done)|(simp [*,go_sem];done)):Y w1 b 2∧Y w1 b 3:=⟨(hf b 2 h1).trans h2,(hf b 3 h1).trans h3⟩
theorem zO (h:∀i,i<8→P i):P 0∧P 1∧P 2∧P 3∧P 4∧P 5∧P 6∧P 7:=⟨h 0 (by decide),h 1 (by decide),h 2 (by decide),h 3 (by decide),h 4 (by decide),h 5 (by decide),h 6 (by decide),h 7 (by decide)⟩
theorem zP (w:World) (hb:xp W w1) (h1:xp w W:=by go_grown) (h2:w.heap.size≤W:=by go_size):xp w w1:=h1.trans (hb.mono h2)
theorem qAa (h:p:=by
 have KQ:u.L.length<1000000000:=by have h1:=D4 hF.out;have h2:=HLN.out;omega
 have HT7:=Ae AX;have SM:=Fw u.L;have vk:=D4 hF.out
 cases NZ:Cq (skp u.L) 42
 ·have hXn:Hid (Cp s0=N9 false ⟨u.c,u.o,skp u.L,u.many⟩):=Ae (by rw [DP.out,Hj,HS.out,hF.out];simp only [if_true];rw [NZ];rfl);have hQn:=Ae (pG hQ.out hF.out (skp u.L) SM);have hRn:=Ae NZ;clear AX;go_wp2_with (first|(go_at_call 204;refine (Rm _ R u.L u.many HT7.out.rdr KQ).mono ?_;rintro e w8 ⟨rfl,hr8,QA⟩;have OU:=HT7.out.rd QA hr8)|(go_at_call 206;refine (Eb _ R (skp u.L) u.many 42 OU.rdr qB qB qB).mono ?_;rintro e w9 ⟨rfl,hr9,mg⟩;rw [hRn.out] at hr9;simp only [hRn.out];have YS:=OU.rd mg hr9));go_roundw
  case rel=>exact ⟨false,⟨u.c,u.o,skp u.L,u.many⟩,rfl,hXn,Ae YS,hQn⟩
  case measure=>rw [Ff YS.rdr,AL.out];show (skp u.L).length<_;omega
 ·have ki:=Fw (skp u.L).tail;have hs3:(skp u.L).tail.length≤(skp u.L).length:=by simp
  have hXn:Hid (Cp s0=N9 true ⟨u.c,u.o,skp (skp u.L).tail,u.many⟩):=Ae (by rw [DP.out,Hj,HS.out,hF.out];simp only [if_true];rw [NZ];rfl);have hQn:=Ae (pG hQ.out hF.out (skp (skp u.L).tail) qB);have hRn:=Ae NZ;clear AX;go_wp2_with (first|(go_at_call 206;refine (Eb _ R (skp u.L) u.many 42 OU.rdr qB qB qB).mono ?_;rintro e w9 ⟨rfl,hr9,mg⟩;rw [hRn.out] at hr9;simp only [if_true] at hr9;simp only [hRn.out];have YS:=OU.rd mg hr9)|(go_at_call 204;refine (Rm _ R (skp u.L).tail u.many YS.rdr qB).mono ?_;rintro e wa ⟨rfl,hra,KX⟩;have hTa:=YS.rd KX hra)|(go_at_call 204;refine (Rm _ R u.L u.many HT7.out.rdr KQ).mono ?_;rintro e w8 ⟨rfl,hr8,QA⟩;have OU:=HT7.out.rd QA hr8));go_roundw
  case rel=>exact ⟨true,⟨u.c,u.o,skp (skp u.L).tail,u.many⟩,rfl,hXn,Ae hTa,hQn⟩
  case measure=>rw [Ff hTa.rdr,AL.out];show (skp (skp u.L).tail).length<_;omega):p:=h
theorem qAb (h:p:=by
 by_cases bj:z.natAbs<z'.natAbs
 ·have qd:=Ae (C6 (x:=(val (dg z.natAbs):Int)) (y:=val (dg z'.natAbs)) (by rw [Bq,Bq];omega));go_wp2_with fail;refine (Fb _ _ _ _ (dg z.natAbs) _ _ _ (dg z'.natAbs) (h.rd.keep HB) (h'.rd.keep HB) (Cb _) (Cb _)).mono ?_;rintro e w3 ⟨rfl,hb⟩;rw [qd.out];have kv:=xu.keep hb;have e0:=kv.b01;go_wp2_with fail;refine (Nm _ _ _ _ (dg z.natAbs) (h.rd.keep kv.hb)).mono ?_;rintro e w4 ⟨a4,c4,rfl,su,GJ,ec⟩;go_wp2_with fail;go_meet
  case rel =>
   have fb:=kv.sz;refine ⟨?_,⟨a4,n,c4,_,rfl,su,D0 _,?_,GJ.mono qB⟩,kv.keep ec⟩
   ·rw [Nat.div_eq_of_lt bj];exact Ip.nil w w4
   ·rw [Bq,Nat.mod_eq_of_lt bj]
 ·by_cases j7:n'=1
  ·have qd:0≤Bz (val (dg z.natAbs)) (val (dg z'.natAbs)):=by
    rw [Bq,Bq];unfold Bz;rw [if_neg qB]
    split<;>omega
   obtain ⟨sw,hlb⟩:=pK h'.rd.len j7;have HL:=Ae sw;obtain ⟨b',o',rfl,e1⟩:=h'.rd.at' (i:=0) qB;rw [HL.out,Nat.add_zero] at e1;have hzp:0<z'.natAbs:=by omega
   have JH:((n':Int)==1)=true:=by rw [beq_iff_eq];omega
   subst j7;clear sw;go_wp2_with fail;refine (Fb _ _ _ _ (dg z.natAbs) _ _ _ (dg z'.natAbs) (h.rd.keep HB) (h'.rd.keep HB) (Cb _) (Cb _)).mono ?_;rintro e w3 ⟨rfl,hb⟩;have kv:=xu.keep hb;have e0:=kv.b01;have e2:=kv.b11;have e3:=Bb kv.hb e1;clear hb HB xu aw bh bn bo bw bx ja jb bz cc jc jd;go_wp2_with fail;have NM:=kv.keep (Below.drew (Ac _ _));go_region_held3 (fun W=>Z W w 1 (.slice a n c)∧Z W (w+1) 1 (.slice (some ⟨b',o',none⟩) 1 c')∧Z W b' o' (.int .u32 ((z'.natAbs:Nat):Int))) (exact qK) (first
    | (go_at_call 288;(with_reducible refine (jB _ _ _ _ (dg z.natAbs) z'.natAbs (h.rd.keep NM.hb) (D0 _) hzp qB).mono ?_);rintro e w5 ⟨a5,q5,rfl,yb,hv5,hl5,nh,dx⟩;have s0:=Bb dx (Bb (Below.drew (Ac _ _)) e0);have s1:=Bb dx (Bb (Below.drew (Ac _ _)) e2);have s2:=Bb dx (Bb (Below.drew (Ac _ _)) e3)))
   go_wp2_with fail;go_meet
   case rel =>
    have fb:=NM.sz;have DD:=dx.size;have ahr:=NM.keep dx;have tz:z.natAbs%z'.natAbs<1000000000:=Nat.lt_trans (Nat.mod_lt _ hzp) hlb;rw [Bq] at hv5 ⊢;have hba:=(Ac w5 w5).alloc (Ad _) (.cells #[.int .u32 ((z.natAbs%z'.natAbs:Nat):Int)] 129);refine ⟨⟨a5,n,n,q5,rfl,yb.keep hba,hl5,hv5,(nh.keep hba).mono qB⟩,⟨some ⟨w5,0,none⟩,1,1,[z.natAbs%z'.natAbs],rfl,?_,?_,by simp [val],?_⟩,ahr.keep hba⟩
    ·refine ⟨rfl,Ad _,by omega,by omega,gI _ qB,.inr ⟨w5.heap.size,0,rfl,fun i hi=>?_⟩⟩;obtain rfl:i=0:=by omega
     simp [lim,go_sem]
    ·intro x hx;rw [Ao] at hx;omega
    ·exact .inr ⟨w5.heap.size,_,rfl,by omega,heap_alloc_new w5 _,by simp⟩
  ·have JH:((n':Int)==1)=false:=by rw [beq_eq_false_iff_ne];omega
   have qd:0≤Bz (val (dg z.natAbs)) (val (dg z'.natAbs)):=by
    rw [Bq,Bq];unfold Bz;rw [if_neg qB]
    split<;>omega
   have hle:n'≤n:=by
    have h1:=h.rd.len;have h2:=h'.rd.len;have h3:=Bu (Nat.le_of_not_lt bj);omega
   have h2:2≤n':=by omega
   go_wp2_with fail;refine (Fb _ _ _ _ (dg z.natAbs) _ _ _ (dg z'.natAbs) (h.rd.keep HB) (h'.rd.keep HB) (Cb _) (Cb _)).mono ?_;rintro e w3 ⟨rfl,hb⟩;have hcn:decide (Bz (val (dg z.natAbs)) (val (dg z'.natAbs))<0)=false:=decide_eq_false qB;have kv:=xu.keep hb;have e0:=kv.b01;have e2:=kv.b11;go_wp2_with fail;refine (rP _ _ _ _ (dg z.natAbs) _ _ _ (dg z'.natAbs) (h.rd.keep kv.hb) (h'.rd.keep kv.hb) (Cb _) (Cb _) h2 hle br).mono ?_;rintro e w4 ⟨aq,kq,cq,lq,ar,kr,cr,lr,rfl,hq,uo,PH,hr,rp,BQ,rj,eh,ec⟩;rw [Bq,Bq] at PH BQ;have HQV:=Ae PH;have HRV:=Ae BQ;clear PH BQ;go_wp2_with fail;go_meet
   case rel =>
    have fb:=kv.sz;exact ⟨⟨aq,kq,cq,lq,rfl,hq,uo,HQV.out,rj.mono qB⟩,⟨ar,kr,cr,lr,rfl,hr,rp,HRV.out,eh.mono qB⟩,kv.keep ec⟩):p:=h
theorem qAc (h:p:=by
 obtain ⟨i0,hi,dw,ed,en⟩:=info_parts Dl;have HD:=Ae hD;have HC:=Ae ko;clear hD ko;go_enter func290,ntmps290;go_wp2_with (refine wpList_make_full _ rfl _ _ 49 rfl w 129 i0 (.int .u32 0) 1 underlying49 hi dw ed .i64 .i64 _ _ m rfl rfl rfl rfl (by rw [en];omega) qN (Ad _) ?_;intro w1 du dn);have HB:xp w w1:=(Ac _ _).grown dn (Ad _) (fun k h=>by cases h);rw [Nat.mul_one,show Value.cells (.int .u32 0)=#[.int .u32 0] from rfl,toList_madeCells_one] at du;clear dn;go_loopw [6,7,8,13] (fun v6 _ _ v13 wr=>∃(k:Nat) (on:Int),k≤m∧v13=M k∧v6=M on∧-5000000000≤on∧on≤5000000000∧Hid (on=Dc D k/1000000000 ^ k) ∧
   wr.ownsRow w 129 1 (.slice (E w) m m) m (Cg (fxI k (Dc D k))++List.replicate (m-k) (.int .u32 0))∧xp w wr) (fun _ _ _ v13 _=>m-(intOf v13).toNat)
 case atStart=>exact ⟨0,0,Ba _,rfl,rfl,by omega,by omega,Ae (by simp [Dc]),by simpa [fxI,Cg] using du,HB⟩
 case round =>
  obtain ⟨k,on,hk,rfl,rfl,ho1,ho2,NU,ah,HB⟩:=hrel;have qu:=HB.size;have tu:=(ah.lt w rfl).2;clear du;by_cases bj:k<m
  ·have hDk:=HD.out k bj;have hlen:(Cg (fxI k (Dc D k))).length=k:=by rw [C5,Oe]
   have iv:∀(W:World) (u:Value),W.ownsRow w 129 1 (.slice (E w) m m) m (Cg (fxI k (Dc D k))++List.replicate (m-k) (.int .u32 0))→(W.setCell (J w k) u).ownsRow w 129 1 (.slice (E w) m m) m (Cg (fxI k (Dc D k))++[u]++List.replicate (m-(k+1)) (.int .u32 0)):=by
    intro W u h;have:=(h.stored k u).1;rw [List.set_append_right _ _ qB,hlen,Nat.sub_self,show m-k=(m-(k+1))+1 from by omega,List.replicate_succ,Av] at this;simpa using this
   have qe:=Ae iv;have AT:=Ae (fU D k);have hdiv:=Ae (pU D k);clear iv hlen;go_wp2_with fail;refine (HC.out k wr bj HB).mono ?_;rintro e w2 ⟨rfl,hb⟩;have cv:=Bf ah hb;have fg:xp w w2:=HB.trans (hb.mono qu);have a7q:=fg.size;have adh:=(cv.lt w rfl).2;have gz:=cv.cellAt k qB;rw [Az (by rw [C5,Oe];omega),C5,Oe,Nat.sub_self,List.getElem?_replicate,if_pos qB] at gz;have eh:=cv.frozenAt k;clear ah HB qu tu;obtain ⟨dk,hdk⟩:∃dk,dk=D k:=⟨_,rfl⟩;rw [←hdk] at hDk AT hdiv ⊢;have HDK:=Ae hdk;clear hdk;by_cases UN:0≤dk+on
   ·have yf:(0:Int)≤(dk+on)%1000000000∧(dk+on)%1000000000<1000000000:=by omega
    have od:(0:Int)≤(dk+on)/1000000000∧(dk+on)/1000000000≤5000000000:=by omega
    obtain ⟨yf,OZ⟩:=yf;obtain ⟨od,uq⟩:=od;go_wp2_with fail;go_roundw
    case rel =>
     refine ⟨k+1,_,by omega,by go_num,rfl,by omega,by omega,Ae (by rw [hdiv.out,←NU.out]),?_,by go_grown⟩;have:=qe.out w2 (.int .u32 ((dk+on)%1000000000)) cv;rw [AT.out,Cv,←NU.out];have e:Cg [((dk+on)%1000000000).toNat]=[.int .u32 ((dk+on)%1000000000)]:=by simp only [Cg,List.map_cons,List.map_nil];rw [Int.toNat_of_nonneg yf]
     rw [e];exact this
    case measure=>(first|(simp [intOf];omega)|(simp [intOf];done))
   ·have ht:=rS (dk+on) qB;have HT:=Ae ht;have tj:dk+on<0:=by omega
    clear UN;by_cases hz:(dk+on).tmod 1000000000<0
    ·have yf:-1000000000<(dk+on).tmod 1000000000:=by rw [ht.2];omega
     have od:-5000000000≤(dk+on).tdiv 1000000000:=by rw [ht.1];omega
     have uq:(dk+on).tdiv 1000000000≤0:=by rw [ht.1];omega
     clear ht;go_wp2_with fail;go_roundw
     case rel =>
      have ht:=HT.out;have e1:(dk+on).tmod 1000000000+1000000000=(dk+on)%1000000000:=by rw [ht.2] at hz ⊢;omega
      have e2:(dk+on).tdiv 1000000000-1=(dk+on)/1000000000:=by rw [ht.2] at hz;rw [ht.1];omega
      refine ⟨k+1,_,by omega,by go_num,rfl,by omega,by omega,Ae (by rw [hdiv.out,←NU.out,e2]),?_,by go_grown⟩;have:=qe.out w2 (.int .u32 ((dk+on).tmod 1000000000+1000000000)) cv;rw [AT.out,Cv,←NU.out];have e:Cg [((dk+on)%1000000000).toNat]=[.int .u32 ((dk+on).tmod 1000000000+1000000000)]:=by simp only [Cg,List.map_cons,List.map_nil];rw [Int.toNat_of_nonneg qB,e1]
      rw [e];exact this
     case measure=>(first|(simp [intOf];omega)|(simp [intOf];done))
    ·have dw:(dk+on).tmod 1000000000=0:=by rw [ht.2] at hz ⊢;omega
     have od:-5000000000≤(dk+on).tdiv 1000000000:=by rw [ht.1];omega
     have uq:(dk+on).tdiv 1000000000≤0:=by rw [ht.1];omega
     clear ht hz;go_wp2_with fail;go_roundw
     case rel =>
      have ht:=HT.out;have e1:(dk+on)%1000000000=0:=by rw [ht.2] at dw;omega
      have e2:(dk+on).tdiv 1000000000=(dk+on)/1000000000:=by rw [ht.1];omega
      refine ⟨k+1,_,by omega,by go_num,rfl,by omega,by omega,Ae (by rw [hdiv.out,←NU.out,e2]),?_,by go_grown⟩;have:=qe.out w2 (.int .u32 0) cv;rw [AT.out,Cv,←NU.out,e1];exact this
     case measure=>(first|(simp [intOf];omega)|(simp [intOf];done))
  ·obtain rfl:k=m:=by omega
   go_wp2_with fail;go_ret;rw [Nat.sub_self,List.replicate_zero,List.append_nil] at ah;refine ⟨_,rfl,Da ah hm (fun i=>?_),.of_owns ah,HB⟩;by_cases hi2:i<(fxI k (Dc D k)).length
   ·have:=Ql k (Dc D k) _ (List.getElem_mem hi2);simp only [lim,List.getD,Ai hi2,Option.getD_some];omega
   ·simp only [lim,List.getD,List.getElem?_eq_none (Nat.le_of_not_lt hi2),Option.getD_none]
    omega):p:=h
theorem qAd (h:p:=by
 cases again
 ·have jq:=fun (W:World) (hr:Cl W R st.L st.many)=>Ph W R st.L st.many hr hlen
  simp only [hs] at jq;have hXX:Hid (Cp s0=some st):=Ae (by rw [hX.out];unfold N9;rw [hs];rfl);clear hX;go_wp2_with (first|(go_at_call 240;refine (jq _ hT.out.rdr).mono ?_;rintro e w3 ⟨rfl,ea⟩;have jm:=hT.out.keep ea;obtain ⟨g5,a5,n5,c5,g6,a6,n6,c6,e0,e1,e2,e3,nh,q1,q2,q3,q4,q5,q6,q7⟩:=jm.fr;have o0:=jm.oc 0 qB;have o1:=jm.oc 1 qB;have o2:=jm.oc 2 qB;have o3:=jm.oc 3 qB;have a7r:w1.heap.size<w3:=Aa _ _ e0;have a7s:=jm.h4;have hR3:R<w3.heap.size:=jm.rdr.lt;have r0:=jm.rdr.c0;have r1:=jm.rdr.c1;have f0:=jm.rdr.f0;have f1:=jm.rdr.f1));clear hT jq;have RW:=nh.top.rd.len;have RX:=nh.low.rd.len;obtain ⟨u1,u2⟩:=hQ.out.2.1;have s1:n5<35184372088829:=by omega
  have s2:n6<35184372088829:=by omega
  clear RW RX u1 u2;have IZ:=fun W i hi=>lH W st.o i hi
  have TN:xp w3 (w3.alloc (.cells #[.bool g5,.slice a5 n5 c5,.bool g6,.slice a6 n6 c6,U 0,U 0,U 0,U 0] 58)):=by go_grown
  have ahs:Rs (w3.alloc (.cells #[.bool g5,.slice a5 n5 c5,.bool g6,.slice a6 n6 c6,U 0,U 0,U 0,U 0] 58)) w3 g5 a5 n5 c5 g6 a6 n6 c6 st.o 0:=by
   refine ⟨by simp [go_sem],by simp [go_sem],by simp [go_sem],by simp [go_sem],fun k hk=>?_,fun k=>by simp [go_sem]⟩
   match k,hk with
   | 0,_=>simp [go_sem,tv]
   | 1,_=>simp [go_sem,tv]
   | 2,_=>simp [go_sem,tv]
   | 3,_=>simp [go_sem,tv]
  have aht:=jm.rdr.keep TN;clear o0 o1 o2 o3 r0 r1 f0 f1;go_loopw [62] (fun v62 wr=>∃i:Nat,i≤4∧v62=M i∧Hid (Cl wr R st.L (st.many || Nv st.o i))∧Hid (Rs wr w3 g5 a5 n5 c5 g6 a6 n6 c6 st.o i)∧w3.grownBy wr (some R)) (fun v62 _=>4-(intOf v62).toNat)
  case atStart=>exact ⟨0,by omega,rfl,Ae (by simpa [Nv] using aht),Ae ahs,Bl TN _⟩
  case round =>
   clear ahs aht TN;obtain ⟨i,hi,rfl,QD,hTB,sv⟩:=hrel;by_cases bj:i<4
   ·have hxi:=fun W=>IZ W i bj
    have r1:=QD.out.c1;have f1:=QD.out.f1;have t1:=hTB.out.m i bj;have t2:=hTB.out.f (4+i);have NF:R≠w3.heap.size:=by omega
    have UK:¬w3.heap.size=R:=by omega
    have abu:min ((st.o i:Nat):Int) 65535=((Jp (st.o i):Nat):Int):=by unfold Jp;omega
    have FB:=QD.out
    cases hm:(st.many || Nv st.o i)
    ·rw [hm] at r1 FB;have KR:Hid (decide ((65535:Int)<((st.o i:Nat):Int))=(st.many || Nv st.o (i+1))):=Ae (by
      simp only [Nv];rw [←Bool.or_assoc,hm,Bool.false_or,decide_eq_decide]
      omega)
     exact qFq
    ·rw [hm] at r1 FB;have KR:Hid (true=(st.many || Nv st.o (i+1))):=Ae (by
      simp only [Nv];rw [←Bool.or_assoc,hm,Bool.true_or])
     exact qFq
   ·obtain rfl:i=4:=by omega
    have FB:=QD.out;rw [eA] at FB;have y9:=nh.butR (q1.newA nh.top.rd) (q2.newA nh.low.rd) sv (fun k hk=>by cases hk;exact x8);have q1w:=q1.butR sv (fun k hk=>by cases hk;exact x8);have q2w:=q2.butR sv (fun k hk=>by cases hk;exact x8);have qo:some w1.heap.size≠some R:=by simp;omega
    replace e0:=An sv e0 qo;replace e1:=An sv e1 qo;replace e2:=An sv e2 qo;replace e3:=An sv e3 qo;obtain ⟨b0,b1,b2,b3,bm,bf⟩:=hTB.out;have bm0:=bm 0 qB;have bm1:=bm 1 qB;have bm2:=bm 2 qB;have bm3:=bm 3 qB;have AD:wo.grownBy wr (some R):=jm.grown.trans sv;have axx:w3.heap.size<wr:=Aa _ _ b0;clear QD hTB bm bf IZ;by_cases ig:st.c.1=0
    ·have YC:Bz st.c.1 0=0:=by rw [ig,Du]
     have HC0:=Ae ig;clear ig;go_wp2_with (first|(go_at_call 160;refine (Ie _ _ _ _ _ _ _ _ _ _ _ (y9.keep qD) s2 s1).mono ?_;rintro e w5 ⟨rfl,dx⟩;rw [YC]));refine bodyPost_ret (v:=.slice none 0 0) (by simp [results,results205,go_sem]) rfl ?_;rw [RV.out,hXX.out];have h1:Re (Sc st.o) st.c=[]:=by unfold Re;rw [if_pos HC0.out]
     show Ma wo R (some (Re (Sc st.o) st.c,st.L,st.many || J0 st.o)) _ _;rw [h1];exact ⟨AD.trans (Bl dx _),none,0,0,rfl,Be.nil _ _,Ca.nil _ _,FB.keep dx⟩
    ·have YC:(Bz st.c.1 0==0)=false:=by rw [beq_eq_false_iff_ne];exact fun e=>ig (Do.1 e)
     have HC0:=Ae ig;clear ig;go_wp2_with (first|(go_at_call 160;refine (Ie _ _ _ _ _ _ _ _ _ _ _ (y9.keep qD) s2 s1).mono ?_;rintro e w5 ⟨rfl,dx⟩;replace ⟨b0,b1,b2,b3,bm0,bm1,bm2,bm3⟩:=xl dx b0 b1 b2 b3 bm0 bm1 bm2 bm3));refine bodyPost_ret (v:=.slice (E w5) 1 1) (by simp [results,results205,go_sem]) rfl ?_;rw [RV.out,hXX.out];have h1:Re (Sc st.o) st.c=[(Sc st.o,st.c)]:=by unfold Re;rw [if_neg HC0.out]
     show Ma wo R (some (Re (Sc st.o) st.c,st.L,st.many || J0 st.o)) _ _;rw [h1,←yL];have aco:=dx.size;have a7v:=AD.size;have ee:xp w5 (w5.alloc (.cells #[.bool g5,.slice a5 n5 c5,.bool g6,.slice a6 n6 c6,U (tv st.o 4 0:Nat),U (tv st.o 4 1:Nat),U (tv st.o 4 2:Nat),U (tv st.o 4 3:Nat)] 58)):=(Ac w5 w5).alloc (Ad _) _;have hpo:=pR ((y9.keep dx).keep ee) ((q1w.keep dx).keep ee) ((q2w.keep dx).keep ee) q7 (iO st.o 4 0) (iO st.o 4 1) (iO st.o 4 2) (iO st.o 4 3) (by omega:wo.heap.size≤w5) ⟨_,kG _ _ _,Ad 8⟩ ⟨by simp [go_sem],by simp [go_sem],by simp [go_sem],by simp [go_sem],by simp [go_sem],by simp [go_sem],by simp [go_sem],by simp [go_sem]⟩;exact ⟨Kn _ (AD.trans (Bl dx _)),_,1,1,rfl,hpo.1,hpo.2,(FB.keep dx).allocR _⟩
 ·have jq:=fun (W:World) (hr:Cl W R st.L st.many)=>Ph W R st.L st.many hr hlen
  simp only [hs] at jq;have hXX:Hid (Cp s0=none):=Ae (by rw [hX.out];unfold N9;rw [hs,Hj,hs];rfl);clear hX;go_wp2_with (first|(go_at_call 240;refine (jq _ hT.out.rdr).mono ?_;rintro e w3 ⟨rfl,ea⟩)|(go_at_call 207;refine (Ov _).mono ?_;rintro e w4 ⟨rfl,rfl⟩));refine ⟨rfl,?_⟩;rw [RV.out,hXX.out];exact .no (hT.out.grown.trans (Bl ea _))):p:=h
theorem qAe (h:p:=by
 have rq:=T2.lt;obtain ⟨z0,z1,z2,z3,z4,z5,z6,z7,LP,LQ,LR,LS,WY,WZ,XA,XB⟩:=T2;go_upto_region 4 with fail
 refine Bx ?_;intro w3 eb;have T3:Dt w3 (w+1) s:=by rw [eb];constructor<;>simp [*,go_sem]
 have ep:xp w w3:=by rw [eb];go_grown
 have BD:w.heap.size+1<w3:=T3.lt;have eh:=ad3.keep ep;clear eb z0 z1 z2 z3 z4 z5 z6 z7 LP LQ LR LS WY WZ XA XB fg rq;obtain ⟨t0,t1,t2,t3,t4,t5,t6,t7,ZX,ZY,tf2,tf3,tf4,tf5,tf6,tf7⟩:=T3;refine Bw (fun W=>Z W (w+1) 0 (.bool s.g1)∧Z W (w+1) 1 (.slice s.a1 s.n1 s.c1)∧Z W (w+1) 2 (.bool s.g2)∧Z W (w+1) 3 (.slice s.a2 s.n2 s.c2)∧Z W (w+1) 4 (U s.m0)∧Z W (w+1) 5 (U s.m1)∧Z W (w+1) 6 (U s.m2)∧Z W (w+1) 7 (U s.m3)) 7 qE qK (fun ib=>?_);(refine xc 7 0 ?_;(try simp only [xb]));(refine xc 7 1 ?_;(try simp only [xb]));(refine xc 7 4 ?_;(try simp only [xb]));(refine xc 7 5 ?_;(try simp only [xb]));(refine Bd.one (i:=2) rfl qE (fun K hK=>?_);go_simp;(go_at_call 95;(with_reducible refine (Nx _ 1 qB qB).mono ?_);rintro e w4 ⟨g7,a7,n7,c7,g8,a8,n8,c8,rfl,j7,hf7,hf8,a7w,hb⟩;have ec:=zP w3 hb;(replace ⟨t0,ZX,t1,ZY,t2,tf2,t3,tf3⟩:=xi ec t0 ZX t1 ZY t2 tf2 t3 tf3;replace ⟨t4,tf4,t5,tf5,t6,tf6,t7,tf7⟩:=xi ec t4 tf4 t5 tf5 t6 tf6 t7 tf7);have uu:=eh.keep ec;have q7:=Fk j7.top qI;have q8:=Fk j7.low qI);(try go_wp2_with fail);refine hK.out _ _ (fun _=>qK) ?_;clear hK K;(try simp only [xb]))
 (refine Bd.one (i:=3) rfl qE (fun K hK=>?_);go_simp;(go_at_call 94;(with_reducible refine (Qx _ _ _ _ _ _ _ _ _ _ _ (uu.keep qD) _ _ _ _ _ _ _ _ _ _ (j7.keep qD) qB qB qB qB).mono ?_);rintro e w5 ⟨g9,a9,n9,c9,gA,aA,nA,cA,rfl,ew,NY,hfA,a7y,hb⟩;have dx:xp w4 w5:=(by first|exact hb|exact Al qD (hb.mono qA));(replace ⟨t0,ZX,t1,ZY,t2,tf2,t3,tf3⟩:=xi dx t0 ZX t1 ZY t2 tf2 t3 tf3;replace ⟨t4,tf4,t5,tf5,t6,tf6,t7,tf7⟩:=xi dx t4 tf4 t5 tf5 t6 tf6 t7 tf7));(try go_wp2_with fail);refine hK.out _ _ (fun _=>qK) ?_;clear hK K;(try simp only [xb]));(refine Bd.one (i:=6) rfl qE (fun K hK=>?_);go_simp;skip;(try go_wp2_with fail);refine hK.out _ _ (fun _=>qK) ?_;clear hK K;(try simp only [xb]));(refine Bd.one (i:=7) rfl qE (fun K hK=>?_);go_simp;refine hK.out _ _ (fun h=>absurd h qI) ?_;clear hK K;(try simp only [xb]));(refine Bd.one (i:=8) rfl qE (fun K hK=>?_);go_simp;refine hK.out _ _ (fun h=>absurd h qI) ?_;clear hK K;(try simp only [xb]));refine Bd.done qE ?_ _;have u:w.heap.size+1<w3:=BD;have hz4:=ec.size;have oq:=ep.trans ((xo ec dx).mono ep.size);have f9:Bc w3 w5 a9 c9:=NY.mono qW;have fA:Bc w3 w5 aA cA:=hfA.mono qW;go_wp2_with fail;have e1:Fh (x.2.1*1) (x.2.2*1)=x.2.1:=congrArg Prod.fst (Pk P7.out.1);have e2:E5 (x.2.1*1) (x.2.2*1)=x.2.2:=congrArg Prod.snd (Pk P7.out.1);rw [e1,e2] at ew;refine bodyPost_ret (v:=.tuple #[(⟨g9,a9,n9,c9,dg x.2.1.natAbs,gA,aA,nA,cA,dg x.2.2.natAbs,s.m0,s.m1,s.m2,s.m3⟩:Tm).val,.bool true]) (by simp [*,results,results20,go_sem]) rfl ?_;refine ⟨⟨g9,a9,n9,c9,dg x.2.1.natAbs,gA,aA,nA,cA,dg x.2.2.natAbs,s.m0,s.m1,s.m2,s.m3⟩,rfl,⟨ew.top.neg,rfl,ew.low.neg,rfl,P5.out.key⟩,⟨?_,?_,EJ.s0,EJ.s1,EJ.s2,EJ.s3⟩,((f9.set4 _ _ _ _ _ _ _ _ u u u u).set4 _ _ _ _ _ _ _ _ u u u u).mono ep.size,((fA.set4 _ _ _ _ _ _ _ _ u u u u).set4 _ _ _ _ _ _ _ _ u u u u).mono ep.size,by go_grown⟩
 ·exact Bh.rd (g:=g9) (z:=x.2.1) ((ew.top.set4 f9 _ _ _ _ _ _ _ _ u u u u).set4 (f9.set4 _ _ _ _ _ _ _ _ u u u u) _ _ _ _ _ _ _ _ u u u u)
 ·exact Bh.rd (g:=gA) (z:=x.2.2) ((ew.low.set4 fA _ _ _ _ _ _ _ _ u u u u).set4 (fA.set4 _ _ _ _ _ _ _ _ u u u u) _ _ _ _ _ _ _ _ u u u u)):p:=h
theorem qAf (h:p:=by
 clear HD d0 d1 d2 d3 d4 d5 d6 d7 d8 d9 ZM HB;obtain ⟨gq,aq,nq,cq,gr,ar,nr,cr,HD⟩:=hcut;have d2:=HD.z20;have d3:=HD.z21;have d4:=HD.z30;have d5:=HD.z31;have d6:=HD.f20;have d7:=HD.f21;have d8:=HD.f30;have d9:=HD.f31;have ZM:=HD.sz;have HB:=HD.hb;go_wp2_with fail;go_region_held3 (fun W=>Z W (w+1+1) 0 (.bool gq)∧Z W (w+1+1) 1 (.slice aq nq cq)∧Z W (w+1+1+1) 0 (.bool gr)∧Z W (w+1+1+1) 1 (.slice ar nr cr)) (exact qK) (fail);all_goals
  go_wp2_with fail;refine bodyPost_ret (v:=.tuple #[.agg #[.bool gq,.slice aq nq cq],.agg #[.bool gr,.slice ar nr cr],M 0]) (by simp [results,results252,go_sem,d2,d3,d4,d5]) rfl ?_;refine ⟨gq,aq,nq,cq,gr,ar,nr,cr,rfl,?_,?_,?_,?_,by go_grown⟩
  ·exact (HD.numq.set4 HD.frq _ _ _ _ _ _ _ _ (by show w.heap.size+1+1<_;omega) (by show w.heap.size+1+1<_;omega) (by show w.heap.size+1+1+1<_;omega) (by show w.heap.size+1+1+1<_;omega)).keep (Below.drew (Ac _ _))
  ·exact (HD.numr.set4 HD.frr _ _ _ _ _ _ _ _ (by show w.heap.size+1+1<_;omega) (by show w.heap.size+1+1<_;omega) (by show w.heap.size+1+1+1<_;omega) (by show w.heap.size+1+1+1<_;omega)).keep (Below.drew (Ac _ _))
  ·exact ((HD.frq.set4 _ _ _ _ _ _ _ _ (by show w.heap.size+1+1<_;omega) (by show w.heap.size+1+1<_;omega) (by show w.heap.size+1+1+1<_;omega) (by show w.heap.size+1+1+1<_;omega)).keep (Below.drew (Ac _ _))).mono qB
  ·exact ((HD.frr.set4 _ _ _ _ _ _ _ _ (by show w.heap.size+1+1<_;omega) (by show w.heap.size+1+1<_;omega) (by show w.heap.size+1+1+1<_;omega) (by show w.heap.size+1+1+1<_;omega)).keep (Below.drew (Ac _ _))).mono qB):p:=h
theorem qAg (h:p:=by
 go_wp2_with (first|(go_at_call 311;refine (hC _).mono ?_;rintro e w1 ⟨rfl,rfl⟩)|(go_at_call 312;(with_reducible refine (hT _).mono ?_);rintro e w1 ⟨rfl,hb⟩;obtain ⟨hc,hf⟩:=Bg hb;have hz:=hb.size;(try simp only [Aj,Ak,Am] at hz);replace HB:=zP w hb;obtain ⟨aw,bh⟩:=zJ hc w;obtain ⟨dy,dz⟩:=zK hf w));clear hC hT hy QH hlen hl;have ed:=hb.size;simp only [Aj] at ed;have ir:xp w w1:=HB;clear hc hf hb hz HB;have iv:=Qd.start (b::t);have a7z:(b::t).length≤200:=by simp;omega
 clear HD;generalize b::t=s at *;go_loopw [4,6] (fun v4 v6 wr=>∃(j:Nat) (dl:Ξ),Hid (Qd s j dl)∧v4=.string ⟨(s.take j).toArray⟩∧wr.ownsRow (w+1) 129 1 v6 dl.length (Cg dl)∧Below (w+1) w1 wr) (fun v4 _ _=>Xu v4)
 case atStart=>exact ⟨_,[],Ae iv,by rw [List.take_length],⟨rfl,.inl ⟨rfl,rfl⟩⟩,Ac _ _⟩
 case round =>
  obtain ⟨j,dl,UL,rfl,ah,dm⟩:=hrel;have hle:=UL.out.le;obtain ⟨ao,co,rfl,hao⟩:=V1 ah;have hzr:=dm.size;by_cases hj:j=0
  ·subst hj;rw [List.take_zero];have jx:=tO ah rfl (fun i=>rJ UL.out.small i) (by have:=UL.out.few;omega);have d0:=(dm.cell (p:=⟨w,0,none⟩) (Ag _)).trans aw;have d1:=(dm.cell (p:=⟨w,1,none⟩) (Ag _)).trans bh;have g0:=(dm.frozen (p:=⟨w,0,none⟩) (Ag _)).trans dy;have g1:=(dm.frozen (p:=⟨w,1,none⟩) (Ag _)).trans dz;have QE:xp w wr:=ir.trans (dm.mono qB);have hvd:=UL.out.done;have OC:K0 (w+1) ao:=fun x hx=>Dj ah _ (by rw [hx];rfl)
   have mh:=UL.out.small;clear ah dm UL aw bh dy dz;go_wp2_with (first|(go_at_call 220;refine (Ft _ false ao dl.length co dl jx mh).mono ?_;rintro e w5 ⟨g5,n5,rfl,FE,DD,dx⟩;replace ⟨d0,d1⟩:=xk dx d0 d1;replace g0:=(Ab dx (by show w.heap.size<_;omega)).trans g0;replace g1:=(Ab dx (by show w.heap.size<_;omega)).trans g1));refine bodyPost_ret (v:=.tuple #[.agg #[.bool g5,.slice ao n5 n5],M 0]) (by simp [*,results,results278,go_sem]) rfl ?_;have ZL:w.heap.size<wr:=by omega
   have hnz:Bh w5 g5 ao n5 n5 (Ee s):=by rw [hvd] at DD;exact DD
   refine ⟨g5,ao,n5,n5,0,rfl,?_,?_⟩
   ·exact hnz.butR (.inr OC) (Bm _ (Bm _ (Cn _ _))) (fun k hk=>by cases hk;exact Ag _)
   ·have oq:=xo QE dx;go_grown
  ·have AY:(s.take j).length=j:=by rw [List.length_take];omega
   have ahv:s.take j≠[]:=fun e=>by rw [e] at AY;simp at AY;omega
   have di:(s.take j==[])=false:=by simpa using ahv
   have ads:(s.take j).isEmpty=false:=by simpa using ahv
   have AO:=Ae (UL.out.next HA.out qB);have hmx:max (0:Int) ((j:Int)-9)=((j-9:Nat):Int):=by omega
   have q1:∀W:World,(Instr.sliceAt 9 (.string ⟨(s.take j).toArray⟩) (some (M ((j-9:Nat):Int))) none none).run prog W=.ok (.string ⟨((s.take j).drop (j-9)).toArray⟩) W:=fun W=>by
    rw [Vq W _ _ (by show j-9≤(s.take j).toArray.size;simp;omega)];have:(⟨(s.take j).toArray⟩:ByteArray).size=(s.take j).length:=by simp [ByteArray.size]
    rw [this,Pm]
   have q2:∀W:World,(Instr.sliceAt 9 (.string ⟨(s.take j).toArray⟩) none (some (M ((j-9:Nat):Int))) none).run prog W=.ok (.string ⟨(s.take (j-9)).toArray⟩) W:=fun W=>by
    rw [Un W _ _ (by show j-9≤(s.take j).toArray.size;simp;omega),Nt,List.take_take,Nat.min_eq_left qB]
   have UM:((s.take j).drop (j-9)).all Ea=true:=by
    have:=HA.out;rw [List.all_eq_true] at this ⊢;exact fun x hx=>this x (List.mem_of_mem_take (List.mem_of_mem_drop hx))
   have hl9:((s.take j).drop (j-9)).length=j-(j-9):=by rw [List.length_drop,AY]
   have hP:=fun W=>Tryz.strconv_ParseUint_10_at32_ok ⟨((s.take j).drop (j-9)).toArray⟩ (by simp [ByteArray.size];omega) (Ee ((s.take j).drop (j-9))) (Ut UM (fun e=>by have h0:=congrArg List.length e;rw [hl9] at h0;simp at h0;omega) (by show ((s.take j).drop (j-9)).length≤9;omega)) W
   have a73:=Q9 UM qB;have tz:(Ee ((s.take j).drop (j-9)):Int)%4294967296=(Ee ((s.take j).drop (j-9)):Nat):=by omega
   have y9:=UL.out.few;generalize (s.take j).drop (j-9)=ch at *;generalize s.take j=m at *;go_wp2_with (first|(go_at_call 313;refine (hP _).mono ?_;rintro e w3 ⟨rfl,eb⟩;have ep:xp wr w3:=mX eb;have BD:=ep.size;clear eb)|(at_builtin;refine wpList_append_own _ rfl _ _ 49 rfl (w+1) 129 i0 (.int .u32 0) 1 4 underlying49 hi sy hi1 hi2 rfl qI _ dl.length (Cg dl) rfl ((Bf ah ep).alloc _) (J w3 0) 1 1 [.int .u32 (Ee ch:Nat)] rfl rfl (cell_one_new _ _ _) (by simp [Value.oneCell']) qN qB qA ?_;intro v4 w4 jk nv _));go_roundw
   case rel=>exact ⟨j-9,dl++[Ee ch],AO,rfl,by rw [Cv,A8];exact jk,((dm.trans (ep.mono qB)).alloc qB _).grown nv qL (Dj ah)⟩
   case measure=>rw [Lj,Lj,List.length_take];omega):p:=h
theorem qAh (h:p:=by
 have HB:=ef.hb;have b11:=ef.b11;go_wp2_with fail;go_meet
 case rel =>
  have a74:=ef.sz;have f8':=((((f8.keep qD).keep dx).keep ee).less NT);obtain ⟨k0,k1,k2,k3,k4,k5⟩:=Og (.bool gq) (.slice a7 nq nq) (.bool gr) (.slice a8 nr nr) ef.z20 ef.z21 ef.z30 ef.z31;refine ⟨gq,nq,gr,nr,⟨(k4 _ (by show w.heap.size+1<w.heap.size+1+1;omega)).trans ef.b10,(k4 _ (by show w.heap.size+1<w.heap.size+1+1;omega)).trans ef.b11,k0,k1,k2,k3,(k5 _).trans ef.f20,(k5 _).trans ef.f21,(k5 _).trans ef.f30,(k5 _).trans ef.f31,?_,?_,?_,?_,by simp only [Am];omega,by go_grown⟩⟩
  ·rw [V7.out] at hq;exact (hq.keep ee).set4 (f7'.keep ee) _ _ _ _ _ _ _ _ (by show w.heap.size+1+1<_;omega) (by show w.heap.size+1+1<_;omega) (by show w.heap.size+1+1+1<_;omega) (by show w.heap.size+1+1+1<_;omega)
  ·rw [V8.out] at hr;exact hr.set4 f8' _ _ _ _ _ _ _ _ (by show w.heap.size+1+1<_;omega) (by show w.heap.size+1+1<_;omega) (by show w.heap.size+1+1+1<_;omega) (by show w.heap.size+1+1+1<_;omega)
  ·exact (f7'.keep ee).set4 _ _ _ _ _ _ _ _ (by show w.heap.size+1+1<_;omega) (by show w.heap.size+1+1<_;omega) (by show w.heap.size+1+1+1<_;omega) (by show w.heap.size+1+1+1<_;omega)
  ·exact f8'.set4 _ _ _ _ _ _ _ _ (by show w.heap.size+1+1<_;omega) (by show w.heap.size+1+1<_;omega) (by show w.heap.size+1+1+1<_;omega) (by show w.heap.size+1+1+1<_;omega)):p:=h
theorem qAi (h:p:=by
 have hXN:Hid (Cp s0=none):=Ae (by rw [DP.out,Hj,HS.out];simp only [if_true];rw [show Co st=none by unfold Co;rw [jo];simp only;rw [si];simp only;rw [hx]]);refine Bw (fun W=>Z W w1 0 (.bool g5)∧Z W w1 1 (.slice a5 n5 c5)∧Z W w1 2 (.bool g6)∧Z W w1 3 (.slice a6 n6 c6)) 4 qE qK (fun ib=>?_);(refine xc 3 0 ?_;(try simp only [xb]));(refine xc 4 1 ?_;(try simp only [xb]));refine Bd.one (i:=2) rfl qE (fun K hK=>?_);go_simp;go_at_call 243;refine (Ol _ R (b::r) st.many jx rq).mono ?_;exact qGg):p:=h
theorem qAj (h:p:=by
 have JI:=dX hv.out qB hp;have iv:=Ae (Zq hv.out);go_wp2_with (at_builtin;refine wpList_append_own _ rfl _ _ 49 rfl (w+1) 129 i0 (.int .u32 0) 1 4 underlying49 hi dw ed en rfl qI _ _ _ rfl (ah.alloc _) (J wr 0) 1 1 [.int .u32 ((v:Int)%1000000000)] rfl rfl (cell_one_new _ _ _) (by simp [Value.oneCell']) qN qB qA ?_;intro v' w2 cv gu _);have bp:Below (w+1) wr w2:=((Ac (w+1) wr).alloc qB _).grown gu qA (fun k hk=>(ah.lt k hk).1);go_roundw
 case rel =>
  refine ⟨l++[v%1000000000],v/1000000000,by simp,Ae iv.out,by simp;omega,by omega,fun x hx=>?_,?_,Nat.lt_of_lt_of_le pb bp.size,?_,?_,?_,?_,HB.trans (bp.mono qB)⟩
  ·rcases List.mem_append.1 hx with h|h
   ·exact sr.out x h
   ·rw [Ao] at h;omega
  ·rw [A8,List.length_singleton,Cv];exact cv
  ·rw [bp.cell (by show w.heap.size<w.heap.size+1;omega)];exact k0
  ·rw [bp.cell (by show w.heap.size<w.heap.size+1;omega)];exact k1
  ·rw [bp.frozen (by show w.heap.size<w.heap.size+1;omega)];exact f0
  ·rw [bp.frozen (by show w.heap.size<w.heap.size+1;omega)];exact f1
 case measure=>simp [intOf];omega):p:=h
theorem qAk (h:p:=by
 go_wp2_with fail;refine (aY _ _ _ _ _ _ HG.numa _ _ _ _ _ HG.numb hyp qB qB).mono ?_;rintro e w2 ⟨gq,aq,nq,cq,gr,ar,nr,cr,rfl,hq,hr,rj,eh,bp⟩;clear b00 b01 b10 b11 z20 z21 f00 f01 f10 f11 f20 f21 HB fb;replace HG:=HG.keep bp;have b00:=HG.b00;have b01:=HG.b01;have b10:=HG.b10;have b11:=HG.b11;have z20:=HG.z20;have z21:=HG.z21;have f00:=HG.f00;have f01:=HG.f01;have f10:=HG.f10;have f11:=HG.f11;have f20:=HG.f20;have f21:=HG.f21;have HB:=HG.hb;have fb:=HG.sz;go_wp2_with fail;have ea:xp w2 ((w2.alloc (.cells #[.bool gq,.slice aq nq cq] 51)).alloc (.cells #[.bool gr,.slice ar nr cr] 51)):=by go_grown
 have p1:Z ((w2.alloc (.cells #[.bool gq,.slice aq nq cq] 51)).alloc (.cells #[.bool gr,.slice ar nr cr] 51)) (w2+1) 0 (.bool gr):=by simp [go_sem]
 have p2:Z ((w2.alloc (.cells #[.bool gq,.slice aq nq cq] 51)).alloc (.cells #[.bool gr,.slice ar nr cr] 51)) (w2+1) 1 (.slice ar nr cr):=by simp [go_sem]
 have nc:=hr.keep ea;have mi:=(eh.keep ea);have GM:Off w (w+1+1+1) nr ar:=eh.off hr.rd _ qB;generalize ((w2.alloc (.cells #[.bool gq,.slice aq nq cq] 51)).alloc (.cells #[.bool gr,.slice ar nr cr] 51))=w3 at *;clear b00 b01 b10 b11 z20 z21 f00 f01 f10 f11 f20 f21 HB fb;replace HG:=HG.keep ea;have b00:=HG.b00;have b01:=HG.b01;have b10:=HG.b10;have b11:=HG.b11;have z20:=HG.z20;have z21:=HG.z21;have f00:=HG.f00;have f01:=HG.f01;have f10:=HG.f10;have f11:=HG.f11;have f20:=HG.f20;have f21:=HG.f21;have HB:=HG.hb;have fb:=HG.sz;have hPP:w.heap.size+1+1<w2.heap.size+1:=by have:=bp.size;omega
 generalize w2.heap.size+1=P at *;have hyn:=Int.emod_nonneg x hyp;have SF:=Int.emod_lt x hyp;have NT:nr<35184372088829:=by have h1:=nc.rd.len;have h2:=HG.numb.rd.len;have h3:=Bu (show (x%y).natAbs≤y.natAbs by omega);omega
 clear hr eh rj hq ea bp;refine Bw (fun W=>Z W P 0 (.bool gr)∧Z W P 1 (.slice ar nr cr)∧Z W (w+1) 0 (.bool gb)∧Z W (w+1) 1 (.slice ab nb cb)) 3 qE qK (fun ib=>?_);(refine xc 3 0 ?_;(try simp only [xb]));(refine xc 3 1 ?_;(try simp only [xb]));(refine Bd.one (i:=2) rfl qE (fun K hK=>?_);go_simp;skip;(try go_wp2_with fail);refine hK.out _ _ (fun _=>qK) ?_;clear hK K;(try simp only [xb]));(refine Bd.one (i:=3) rfl qE (fun K hK=>?_);go_simp;refine hK.out _ _ (fun h=>absurd h qI) ?_;clear hK K;(try simp only [xb]));refine Bd.done qE ?_ _;all_goals
  go_wp2_with fail;have ZK:=(HG.set HG.numb nc HG.offb GM).keep (Below.drew (Ac _ _));refine ⟨⟨gb,ab,nb,cb,y,gr,ar,nr,cr,x%y,ZK,NT,by omega,by rw [Tu];exact VH.out⟩,?_⟩;rw [Qc ZK.b11 ZK.numb.rd,Bq,HV0.out]
  omega):p:=h
theorem qAl (h:p:=by
 go_upto_region 9 with fail
 go_region_held3 (fun W=>Z W w4 0 (.bool g4)∧Z W w4 1 (.slice a1 n4 c1)∧Z W w5 0 (.bool false)∧Z W w5 1 (.slice a2 n5 c2)) (exact qK) (fail);all_goals go_wp2_with fail
 all_goals
  refine bodyPost_ret (v:=.tuple #[.agg #[.bool g4,.slice a1 n4 c1],.agg #[.bool false,.slice a2 n5 c2],M 0]) (by simp [results,results184,go_sem, *]) rfl ?_;have u2:w.heap.size+1+1<w2:=by omega
  have u3:w.heap.size+1+1+1<w2:=by omega
  refine ⟨g4,a1,n4,c1,false,a2,n5,c2,rfl,?_,?_,?_,?_,by go_grown⟩
  ·rw [HD1.out];first
    | exact (ub.set4 qh (J (w+1+1) 0) (J (w+1+1) 1) (J (w+1+1+1) 0) (J (w+1+1+1) 1) _ _ _ _ u2 u2 u3 u3).keep qD
    | exact (ub.set4 qh (J (w+1+1+1) 0) (J (w+1+1+1) 1) (J (w+1+1) 0) (J (w+1+1) 1) _ _ _ _ u3 u3 u2 u2).keep qD
  ·rw [JD.out];first
    | exact (s8.set4 np (J (w+1+1) 0) (J (w+1+1) 1) (J (w+1+1+1) 0) (J (w+1+1+1) 1) _ _ _ _ u2 u2 u3 u3).keep qD
    | exact (s8.set4 np (J (w+1+1+1) 0) (J (w+1+1+1) 1) (J (w+1+1) 0) (J (w+1+1) 1) _ _ _ _ u3 u3 u2 u2).keep qD
  ·first
    | exact ((qh.set4 (J (w+1+1) 0) (J (w+1+1) 1) (J (w+1+1+1) 0) (J (w+1+1+1) 1) _ _ _ _ u2 u2 u3 u3).keep qD).mono qB
    | exact ((qh.set4 (J (w+1+1+1) 0) (J (w+1+1+1) 1) (J (w+1+1) 0) (J (w+1+1) 1) _ _ _ _ u3 u3 u2 u2).keep qD).mono qB
  ·first
    | exact ((np.set4 (J (w+1+1) 0) (J (w+1+1) 1) (J (w+1+1+1) 0) (J (w+1+1+1) 1) _ _ _ _ u2 u2 u3 u3).keep qD).mono qB
    | exact ((np.set4 (J (w+1+1+1) 0) (J (w+1+1+1) 1) (J (w+1+1) 0) (J (w+1+1) 1) _ _ _ _ u3 u3 u2 u2).keep qD).mono qB):p:=h
theorem qAm (h:p:=by
 refine Bd.done qE ?_ _;have hLV:Lm (gs++[(y,m)])=Lm gs++[U t.m0,U t.m1,U t.m2,U t.m3]:=by
  have e7:=Dz T3.out.2.s1 T3.out.2.s2 T3.out.2.s3 T3.out.2.s0;rw [T3.out.1.key] at e7;unfold Lm;rw [List.flatMap_append,List.flatMap_singleton,e7.1,e7.2.1,e7.2.2.1,e7.2.2.2]
 have ar7:=uD qs.out (Ac _ _) G1 (fun k hk=>by have:=ug k hk;omega) L1 (fun k hk=>by have:=AW k hk;omega) (fun k hk=>Ik YE hk) RG (by rw [HN.out,hLV];exact YG);have hF:HpS ((wL.setCell (J GG 0) (.slice (E gb) (i+1) IM)).setCell (J LD 0) (.slice (E lb) (i+1) YF)) X i i gs y hl pb:=by
  rcases HI.out with h9|⟨h9,z,mg,hc9,e1,e2,e3,e4⟩
  ·exact .inl h9
  ·refine .inr ⟨h9,z,mg,hc9,e1,e2,e3,?_⟩;have q1:=e4.kept G1 (Qe e4 OG.out qI);have q2:=q1.kept L1 (Qe q1 YE qI);exact Lx (Lx q2 hX.2.2.2.1) hX.2.1
 exact bodyPost_end (v:=.tuple #[]) (by simp [results,results77,go_sem]) rfl ⟨rfl,pb,⟨_,_,ar7⟩,by rw [HN.out];exact hF⟩):p:=h
theorem qAn (h:p:=by
 go_wp2_with (first|(go_at_call 168;(with_reducible refine (bO _ _ _ _ _ _ (WH.keep qD) _ _ _ _ _ (yg.keep qD) qB qB qB).mono ?_);rintro e w6 ⟨ge,ae,ne,ce,gf,af,nf,cf,rfl,eh,ry,vw,ee⟩;have EF:=zP w5 ee;have amx:w5.heap.size<w6:=(by have:=ee.size;simp only [Aj] at this;omega);replace ⟨d0,g0,d1,g1,d2,g2,d3,g3⟩:=xi EF d0 g0 d1 g1 d2 g2 d3 g3;have hk6:w.heap.size<w6:=Aa _ _ d0));refine bodyPost_ret (v:=frV ge ae ne ce gf af nf cf) (by simp [*,results,results243,go_sem]) rfl ?_;rw [HX.out,WI.out];have um:=LN.trans (Bl EF _);have yo:w.heap.size≠R:=by omega
 have JP:=yb.keep EF;have fe:Bc (w+1) w6 ae ce:=ry.mono qA;have ff:Bc (w+1) w6 af cf:=vw.mono qA;have ke:Nw w ne ae:=Nw.mono (fe.newA eh.top.rd) qB;have kf:Nw w nf af:=Nw.mono (ff.newA eh.low.rd) qB;have u:w.heap.size<w.heap.size+1:=Ag _;exact ⟨Kn _ (Ce _ (Ce _ (Ce _ (Ce _ um (Ad _)) (Ad _)) (Ad _)) (Ad _)),_,rfl,.inl (Zf.keep ⟨_,_,_,_,_,_,_,_,rfl,⟨eh.top.set4 fe _ _ _ _ _ _ _ _ u u u u,eh.low.set4 ff _ _ _ _ _ _ _ _ u u u u,eh.pos,eh.red⟩,ke,kf⟩ ((Ac _ _).alloc (Ad _) _)),((((JP.setOther _ yo).setOther _ yo).setOther _ yo).setOther _ yo).allocR _⟩):p:=h
theorem qAo (h:p:=by
 obtain ⟨hc,hf⟩:=Bg hb;have hz:=hb.size;(try simp only [Aj,Ak] at hz);replace HB:=zP w hb;obtain ⟨aw,bh,ei,ej⟩:=xe hc w g1 a1 n1 c1 g2 a2 n2 c2;clear hc hf hb;go_wp2_with fail;go_ret;exact ⟨by first|rfl|simp,HB⟩):p:=h
theorem qAp (h:p:=by
 have hXN:Hid (Cp s0=none):=Ae (by rw [DP.out,Hj,HS.out];simp only [if_true];rw [show Co st=none by unfold Co;rw [jo];simp only;rw [si];simp only;rw [hx]]);refine Bw (fun W=>Z W (w1+1) i (M (st.o i:Nat))) 7 qE qK (fun ib=>?_);(refine xc 7 0 ?_;(try simp only [xb]));(refine xc 7 1 ?_;(try simp only [xb]));(refine xc 7 2 ?_;(try simp only [xb]));(refine xc 7 3 ?_;(try simp only [xb]));exact qFs):p:=h
theorem qAq (h:p:=by
 have hXN:Hid (Cp s0=none):=Ae (by rw [DP.out,Hj,HS.out];simp only [if_true];rw [show Co st=none by unfold Co;rw [jo];simp only;rw [si];simp only;rw [hx]]);refine Bw (fun W=>Z W wy i (M (st.o i:Nat))) 7 qE qK (fun ib=>?_);(refine xc 7 0 ?_;(try simp only [xb]));(refine xc 7 1 ?_;(try simp only [xb]));(refine xc 7 2 ?_;(try simp only [xb]));(refine xc 7 3 ?_;(try simp only [xb]));exact qFs):p:=h
theorem qAr (h:p:=by
 have hd:IntKind.i64.wrap (x0+x1+x2+x3-(y0+y1+y2+y3))=x0+x1+x2+x3-(y0+y1+y2+y3):=IntWalk.i64_in _ (by unfold Cc at *;omega);have HU:=Ae di;clear di;go_enter func105,ntmps105;go_wp2_with fail;refine Bx ?_;intro w1 fk;have b1:xp w w1:=by rw [fk];go_grown
 have c0:∀n:Cw w1,Z n.1 w 0 (U x0):=Bk (by rw [fk];simp [go_sem]);have c1:∀n:Cw w1,Z n.1 w 1 (U x1):=Bk (by rw [fk];simp [go_sem]);have c2:∀n:Cw w1,Z n.1 w 2 (U x2):=Bk (by rw [fk];simp [go_sem]);have c3:∀n:Cw w1,Z n.1 w 3 (U x3):=Bk (by rw [fk];simp [go_sem]);have d0:∀n:Cw w1,Z n.1 (w+1) 0 (U y0):=Bk (by rw [fk];simp [go_sem]);have d1:∀n:Cw w1,Z n.1 (w+1) 1 (U y1):=Bk (by rw [fk];simp [go_sem]);have d2:∀n:Cw w1,Z n.1 (w+1) 2 (U y2):=Bk (by rw [fk];simp [go_sem]);have d3:∀n:Cw w1,Z n.1 (w+1) 3 (U y3):=Bk (by rw [fk];simp [go_sem]);clear fk;(refine Bi qE qE ?_;(repeat (go_big_quiet_step (first|(go_at_call 176;exact Cr (Rj _ _ _ _ _ qG qG qG qG)))));refine wpQuiet_nil ?_;intro _ cw;obtain ⟨nq,cw⟩:=cw;subst cw);go_wp2_with fail;go_ret;exact ⟨by rw [←xy.out];rfl,(xo b1 nq.2)⟩):p:=h
theorem qAs (h:p:=by
 go_wp2_with fail;go_meet
 case rel =>
  have hN5:=nh.newA ew.top.rd;have hN6:=ED.newA ew.low.rd;refine ⟨_,g5,a5,n5,c5,g6,a6,n6,c6,rfl,?_,?_,?_,?_,?_,Nw.mono hN5 qT,Nw.mono hN6 qT,?_⟩
  ·simp [*,go_sem]
  ·simp [*,go_sem]
  ·simp [*,go_sem]
  ·simp [*,go_sem]
  ·(repeat (first|exact ew|refine Bo.allocB ?_|refine Bo.setB hN5 hN6 zA ?_))
  ·go_grown):p:=h
theorem qAt (h:p:=by
 rintro e w4 ⟨ge,ae,ne,ce,gf,af,nf,cf,rfl,hr,ry,vw,gw,hb⟩;obtain ⟨hc,hf⟩:=Bg hb;have hz:=hb.size;(try simp only [Aj,Ak] at hz);replace HB:=zP w hb;obtain ⟨aw,bh⟩:=xd hc w g a n c;obtain ⟨bn,bo⟩:=xd hc (w+1) g' a' n' c';obtain ⟨bw,bx,fi,fj⟩:=xf hc (w+1+1);obtain ⟨bz,cc,gh,gp⟩:=xg hf (w+1+1);have fe:Bc (w+1+1+1) w4 ae ce:=ry.mono qB;have ff:Bc (w+1+1+1) w4 af cf:=vw.mono qB;have NS:w.heap.size+1+1<w4:=by omega
 have u2:w.heap.size+1+1<w.heap.size+1+1+1:=Ag _;clear hc hf hb hz ry vw;go_wp2_with fail;refine bodyPost_ret (v:=.tuple #[.agg #[.bool ge,.slice ae ne ce,.bool gf,.slice af nf cf],M 0]) (by simp [results,results168,go_sem,bw,bx,fi,fj]) rfl ?_;exact qFr):p:=h
theorem qAu (h:p:=by
 obtain ⟨⟨x,l⟩,hz⟩:∃z,ls[i]? = some z:=⟨_,Ai (by rw [HI.out.1];exact bj)⟩;obtain rfl:=HI.out.2.1.resolve_left qB;obtain ⟨pa,pn,pc,q1,q2,q3⟩:=HI.out.2.2.el i x l hz;obtain ⟨y,q,k1,k2,k3⟩:=IY.out.2 i _ hz;have d1:=Bb bI q1;have hpn:0<pn:=by have:=q2.len;simp at this;omega
 have HP:=Ae (Ax (q2.keep bI) (Ax q3 (Ax k1 (Ax k2 k3))));clear hz q1 q2 q3 k1 k2 k3;have AO:=fun (w':World) (hl':Value)=>pA (w':=w') (hl':=hl') IY.out.1 agn bj HP.out.2.2.2.2 JN.out HH.out
 have HNX:=Ae AO;have sx:ms.take (i+1)=ms.take i++[(y,q)]:=by rw [List.take_add_one,HP.out.2.2.2.2];rfl
 have hlk:(ms.take i).length≤40:=by rw [List.length_take];have:=IY.out.1;omega
 clear AO;go_wp2_with fail;refine (mL w wi O LD WT GG H X (ms.take i) hl F lv gv qs.out hlk 0 pn pc pa x l HP.out.1 HP.out.2.1 y q HP.out.2.2.1 HP.out.2.2.2.1 (HNX.out wi hl).1).mono ?_;rintro e w3 ⟨rfl,hl',RN,hP'⟩;have hI':=(HNX.out w3 hl').2 hP';rw [←sx] at RN;have HR':=Ae (Ax RN hI');clear RN hI' hP' sx;go_wp2_with fail;go_roundw
 case rel=>exact ⟨i+1,hl',by omega,by go_num,HR'.out.1,Ae HR'.out.2⟩
 case measure=>(first|(simp [intOf];omega)|(simp [intOf];done))):p:=h
theorem qAv (h:p:=by
 have HB:=Ac wj wj;go_wp2_with fail;go_region_held3 (fun W=>Z W O 0 (.int .u8 0)) (exact qK) (first
  | (go_at_call 151;(with_reducible refine (HCC.out _ qD _ qJ (by first|(simp [go_sem];done)|(simp [go_sem];omega))).mono ?_);rintro e w4 ⟨al,cl,L',rfl,ar8,ar9,asa,hb⟩;have ec:=zP wj hb;have o4:=Bb ec o3;have HI4:=Ae (Ax ar9 asa))
  | (go_at_call 82;(with_reducible refine (W8 _ B pn pc pa (z.1::z.2) L' 0 al cl ls (m-1) HR9.out.1 qB ar8 HI4.out.1 ⟨fun i x l hx=>by obtain ⟨a',n',c',t1,t2,t3⟩:=HI4.out.2.el i x l hx;exact ⟨a',n',c',Bb qD t1,t2.keep qD,t3⟩⟩ (HZ.out.2.1.keep (ec.trans qD)) (HSM.out z (Ki gs [] (fun z hz=>hz) (fun z hz=>by simp at hz) _ (by rw [←HL.out];exact A7 HZ.out.1))) f (x::l) HR9.out.2.1).mono ?_);rintro e w5 ⟨ra,rn,rc,rfl,hP5,hb⟩;have dx:xp wj w5:=ec.trans (Al qS (hb.mono (by first|exact ec.size|(have:=ec.size;go_size))));have o5:=Bb dx o3))
 go_wp2_with fail;go_meet
 case rel=>exact ⟨ra,rn,rc,rfl,rfl,hP5.mono ec.size,dx⟩):p:=h
theorem qAw (h:p:=by
 have hN:¬Qq x0 x1 x2 x3 y0 y1 y2 y3:=fun h=>hs (by unfold Qq at h;omega)
 have HN:=Ae hN;clear hN;go_wp2_with fail;go_quiet (fail);have HBq:xp w (wr.drewN nq):=Bj _ dm;go_wp2_with fail;refine bodyPost_ret (v:=.tuple #[.agg #[U 0,U 0,U 0,U 0],M 3]) (by simp [*,results,results187,go_sem]) rfl ?_;exact ⟨Or.inr ⟨HN.out,rfl⟩,by go_grown⟩):p:=h
theorem qAx (h:p:=by
 refine Et.add ((sb.out.keep iu).keep ((Ac _ _).alloc (Ad _) _)) ⟨iq.top.neg,rfl,iq.low.neg,rfl,QK.out.key⟩ ⟨iq.top.rd.alloc _,iq.low.rd.alloc _,mz.s0,mz.s1,mz.s2,mz.s3⟩ ⟨k1.mono hzo,k2.mono hzo⟩ (fun gb qq=>?_) ak ie ?_
 ·have bj:=(sb.out.own.lt gb qq).2;exact ⟨k1.ap bj,k2.ap bj⟩
 ·rcases pq with h|h
  ·exact .inl h.symm
  ·exact .inr (congrArg some h)):p:=h
theorem qAy (h:p:=by
 exact qFr):p:=h
theorem qAz (h:p:=by
 refine ⟨g3,ac,n3,n3,rfl,?_,?_,by go_grown⟩
 ·rw [j5];exact qFy
 ·exact qGd):p:=h
theorem qBa (h:p:=by
 rintro e w3 ⟨g3,n3,rfl,ll,yj,hb⟩;obtain ⟨hc,hf⟩:=Bg hb;have hz:=hb.size;replace HB:xp w w3:=HB.trans (hb.mono qu);have r0:Z w3 w 0 (.bool false):=(hc _ _ pb).trans k0;have r1:Z w3 w 1 (.slice none 0 0):=(hc _ _ pb).trans k1;have r2:Y w3 w 0:=(hf _ _ pb).trans f0;have r3:Y w3 w 1:=(hf _ _ pb).trans f1;go_wp2_with fail;refine bodyPost_ret (v:=.agg #[.bool g3,.slice a' n3 n3]) (by simp [results,results166,go_sem,r0,r1]) rfl ?_;have mi:Bc (w+1) w3 a' n3:=(eh.keep hb).less ll;refine ⟨g3,a',n3,n3,rfl,?_,?_,by go_grown⟩
 ·exact qFz
 ·exact qGe):p:=h
theorem qBb (h:p:=by
 rintro e w3 ⟨g3,n3,rfl,ll,yj,hb⟩;obtain ⟨hc,hf⟩:=Bg hb;have hz:=hb.size;replace HB:xp w w3:=HB.trans (hb.mono qu);have r0:Z w3 w 0 (.bool false):=(hc _ _ pb).trans k0;have r1:Z w3 w 1 (.slice none 0 0):=(hc _ _ pb).trans k1;have r2:Y w3 w 0:=(hf _ _ pb).trans f0;have r3:Y w3 w 1:=(hf _ _ pb).trans f1;go_wp2_with fail;refine bodyPost_ret (v:=.agg #[.bool g3,.slice a' n3 c']) (by simp [results,results111,go_sem,r0,r1]) rfl ?_;have mi:Bc (w+1) w3 a' c':=eh.keep hb;refine ⟨g3,a',n3,c',rfl,?_,?_,by go_grown⟩
 ·exact qFz
 ·exact qGe):p:=h
theorem qBc (h:p:=by
 rintro e w5 ⟨rfl,hb⟩;obtain ⟨hc,hf⟩:=Bg hb;have hz:=hb.size;(try simp only [Aj,Ak] at hz);replace HB:=zP w hb;obtain ⟨aw,bh,ei,ej⟩:=xe hc w g1 a1 n1 c1 g2 a2 n2 c2;clear hc hf hb;go_wp2_with fail;go_ret;refine ⟨?_,HB⟩;have hr:=HR.out;have e1:FOk g1 d1 g2 d2↔((z1.gcd z2:Nat):Int)=1:=by
  exact qGc
 by_cases h3:((z1.gcd z2:Nat):Int)=1
 ·have:=hr.1 (e1.2 h3);rw [this];show Ending.returned (.bool (decide (((z1.gcd z2:Nat):Int)=1)))=_;rw [decide_eq_true h3]
 ·have h4:r=false:=by
   cases r
   ·rfl
   ·exact absurd (e1.1 (hr.2 rfl)) h3
  rw [h4];show Ending.returned (.bool (decide (((z1.gcd z2:Nat):Int)=1)))=_;rw [decide_eq_false h3]):p:=h
theorem qBd (h:p:=by
 refine ⟨ge,ae,ne,ce,gf,af,nf,cf,rfl,⟨?_,?_,hr.pos,hr.red⟩,?_,?_,gw,by go_grown⟩
 ·exact hr.top.set4 fe _ _ _ _ _ _ _ _ u2 u2 u2 u2
 ·exact hr.low.set4 ff _ _ _ _ _ _ _ _ u2 u2 u2 u2
 ·exact (fe.set4 _ _ _ _ _ _ _ _ u2 u2 u2 u2).mono qB
 ·exact (ff.set4 _ _ _ _ _ _ _ _ u2 u2 u2 u2).mono qB):p:=h
theorem qBe (h:p:=by
 go_wp2_with fail;refine bodyPost_ret (v:=.agg #[.bool g3,.slice a1 n3 c1]) (by simp [results,results227,go_sem,bw,bx]) rfl ?_;rw [UX.out,←HR.out] at ic;have q3:w.heap.size+1+1<w.heap.size+1+1+1:=Ag _;refine ⟨g3,a1,n3,c1,rfl,?_,((j6.setNew _ _ q3).setNew _ _ q3).mono qB,by go_grown⟩;exact (ic.setFresh j6 _ _ q3).setFresh (j6.setNew _ _ q3) _ _ q3):p:=h
theorem qBf (h:p:=by
 rcases List.mem_append.1 hp with hp|hp
 ·have hhp:=Wk MU.out JZ.out hp;obtain ⟨q',od,uq⟩:=Ww JZ.out hp;exact (YL.out p hp).stay (B:=B) hS4 hhp.nb (fun h1 h2=>by have:=Sn QT.out hq q' od (by rw [uq];exact h1) h2;rw [uq] at this;exact this) MW.out qB AD (fun h0=>hhp.lt h0) qB
 ·simp only [Ao] at hp;subst hp;have hhp:=MU.out _ td;refine hGn.out.keepS (S:=fun x=>x=g) (Ed (Hm _ _) g _ _ rfl) (hhp.nb.imp id fun h=>⟨?_,?_⟩) (fun h0 e=>?_) (fun x hx _ e=>?_)
  ·have h1:b<B:=h.2;have h2:=YM.size;show b<_;omega
  ·exact fun e=>by have h1:b<B:=h.2;have h2:b=g:=e;omega
  ·have h1:=MW.out h0;simp only at e;omega
  ·omega):p:=h
theorem qBg (h:p:=by
 have hB4:xp w1 w4:=(OR.alloc qB _).grown nv qA (fun k hk=>(dh.lt k hk).1);have hz4:=hB4.size;have II:=Ae (Ko EX);clear jw EX dh;go_wp2_with (at_builtin;refine wpList_append_own _ rfl _ _ 131 rfl w1 9 i0 (.string ⟨#[]⟩) 1 16 underlying131 hi dw ed en rfl qI _ _ _ rfl jk (J g 0) WL.length cap (Gk WL) rfl (by rw [G6];omega) II.out (Nf _) qN qB qB ?_;intro v5 w5 pj xr _);go_roundw
 case rel =>
  refine ⟨k+1,by omega,by go_num,?_,fun h=>by omega,hB4.grown xr hB4.size (fun k hk=>(jk.lt k hk).1)⟩;rw [qe.out,Kv,Kv,A8,A8];exact pj
 case measure=>simp [intOf];omega):p:=h
theorem qBh (h:p:=by
 have bp:Below w wr w2:=((Ac w wr).alloc qB _).grown gu qA (fun k hk=>(ah.lt k hk).1);go_roundw
 case rel =>
  have ht:=HT.out;have hs:=qe.out (t%1000000000) (1-t/1000000000) qB;rw [ET.out] at cv;refine ⟨k+1,1-t/1000000000,l++[t%1000000000],by omega,by go_num,by rw [EO.out],by omega,Ae (by simp [BB.out]),Ae hs,Ae (fun z hz=>?_),?_,dm.trans bp⟩
  ·rcases List.mem_append.1 hz with h|h
   ·exact HQ.out z h
   ·rw [Ao] at h;omega
  ·rw [Cv];exact cv
 case measure=>simp [intOf];omega):p:=h
theorem qBi (h:p:=by
 have hF:=Ae rb;have mf:r=false:=by
  cases r
  ·rfl
  ·exact absurd (by have:=(HR.out.2 rfl _ bj).1.1;rw [GY.out];exact this) rb
 subst mf;clear rb;(refine Bi qE qE ?_;(repeat (go_big_quiet_step (first|(go_at_call 107;exact Cr (Fs _ t.g1 t.a1 t.n1 t.c1 t.d1 (HT.top.keep (Subtype.property _)) t.g2 t.a2 t.n2 t.c2 t.d2 (HT.low.keep (Subtype.property _)) ki jh false ⟨fun e=>absurd e hF.out,fun e=>(by cases e)⟩)))));refine wpQuiet_nil ?_;intro _ cw;obtain ⟨nq,cw⟩:=cw;subst cw);go_wp2_with fail;go_ret;exact ⟨rfl,(xo dm nq.2)⟩):p:=h
theorem qBj (h:p:=by
 have hF:=Ae rb;have mf:r=false:=by
  cases r
  ·rfl
  ·exact absurd (by have:=(HR.out.2 rfl _ bj).1.1;rw [GY.out];exact this) rb
 subst mf;clear rb;(refine Bi qE qE ?_;(repeat (go_big_quiet_step (first|(go_at_call 159;exact Cr (F4 _ t.g1 t.a1 t.n1 t.c1 t.d1 (HT.top.keep (Subtype.property _)) t.g2 t.a2 t.n2 t.c2 t.d2 (HT.low.keep (Subtype.property _)) ki jh false ⟨fun e=>absurd e hF.out,fun e=>(by cases e)⟩)))));refine wpQuiet_nil ?_;intro _ cw;obtain ⟨nq,cw⟩:=cw;subst cw);go_wp2_with fail;go_ret;exact ⟨rfl,(xo ir nq.2)⟩):p:=h
theorem qBk (h:p:=by
 obtain ⟨rfl,HB,hc⟩:=hrel;go_wp2_with fail;go_ret;exact ⟨rfl,HB⟩):p:=h
theorem qBl (h:p:=by
 go_enter func208,ntmps208;go_wp2_with fail;refine (Aav _ qB qB _ hT).mono ?_;rintro e w1 ⟨rfl,hb⟩;go_wp2_with fail;go_ret;exact ⟨by rw [Ek,if_pos h1];rfl,hb⟩):p:=h
theorem qBm (h:p:=by
 have dy:Y w1 w 0:=(hf _ _ qA).trans qJ;have dz:Y w1 w 1:=(hf _ _ qA).trans qJ;clear hc hf;go_wp2_with fail;go_ret;exact ⟨by rw [HR.out];rfl,by go_grown⟩):p:=h
theorem qBn (h:p:=by
 go_upto_region 12 with fail
 (refine Bi qE qE ?_;(repeat (go_big_quiet_step (fail)));refine wpQuiet_nil ?_;intro _ cw;obtain ⟨nq,cw⟩:=cw;subst cw);clear k0 k1 k2 k3 k4;have uh:=nq.2;replace vq:=(uh.frozen (Aa _ _ qf)).trans vq;replace qf:=Bb uh qf;replace hR:=hR.keep KD uh;generalize nq.val=wy at *;clear nq uh;go_wp2_with fail;go_meet
 case rel=>exact ⟨JB,xt,ZK.out.le,qf,vq,hR⟩):p:=h
theorem qBo (h:p:=by
 go_wp2_with fail;go_roundw
 case rel=>exact ⟨k+1,by omega,by go_num,oq,b0,b1,b2⟩
 case measure=>(first|(simp [intOf];omega)|(simp [intOf];done))):p:=h
theorem qBp (h:p:=by
 exact ((sq.setNew _ _ (by show w.heap.size+1+1<_;omega)).setNew _ _ (by show w.heap.size+1+1<_;omega)).mono qB):p:=h
theorem qBq (h:p:=by
 rcases List.mem_append.1 hz with h|h
 ·exact HQ.out z h
 ·rw [Ao] at h;omega):p:=h
theorem qBr (h:p:=by
 refine ⟨?_,Ch.mono (Lz yq hx).2 (Ah (HW.out j) qB)⟩;obtain ⟨t,ht,e⟩:=Zx hx;obtain ⟨x1,h1,y1,h2,rfl⟩:=My ht;rw [←e];have h9:=HO.out;unfold Cm at h9;rw [List.all_eq_true] at h9;have h8:=h9 x1 h1;rw [List.all_eq_true] at h8;have h7:=h8 y1 h2;unfold Gr at h7;simp only [Bool.and_eq_true,decide_eq_true_eq] at h7;exact Ka h7.1.1.1 h7.1.1.2 h7.1.2 h7.2):p:=h
theorem qBs (h:p:=by
 rcases pq with h|h
 ·exact .inl h.symm
 ·exact .inr (congrArg some h)):p:=h
theorem qBt (h:p:=by
 rw [show ((0:Nat):Int)-1=-1 from rfl];rw [List.replicate_zero,List.nil_append] at ah;go_wp2_with fail;go_ret2;refine ⟨_,q,?_,Da ah hn (fun i=>By (fun x hx=>by have:=ju.out x hx;omega) i),?_,ju.out,.of_owns ah,HB⟩
 ·have:=hr.out;rw [List.drop_zero] at this;rw [←this];rfl
 ·have:=hq.out;rwa [List.drop_zero] at this):p:=h
theorem qBu (h:p:=by
 have h0:(0:Int)≤(k:Int):=by omega
 simp [Instr.sliceAt,Instr.slice,Instr.sliceBounds,Instr.sliceBound,go_sem,h0,hk]):p:=h
theorem qBv (h:p:=by
 have BC:((i:Int)+(k:Int)).toNat=i+k:=by omega
 have qe:=Ae (ah.stored (i+k) (.int .u32 (on:Int))).1;clear hlen;go_wp2_with fail;go_roundw
 case rel =>
  refine ⟨i+1,l1.set (i+k) on,by omega,by go_num,iv,?_,by go_grown⟩;rw [Lo];exact qe.out
 case measure=>(first|(simp [intOf];omega)|(simp [intOf];done))):p:=h
theorem qBw (h:p:=by
 rw [←HD.out] at vk ⊢;refine ⟨gq,aq,nq,cq,gs,a5,n5,c5,rfl,⟨?_,?_,vk.1,vk.2⟩,?_,?_,gw,by go_grown⟩
 ·exact hq7.set4 GO _ _ _ _ _ _ _ _ j4 j4 j4 j4
 ·exact hs7.set4 VV _ _ _ _ _ _ _ _ j4 j4 j4 j4
 ·exact (GO.set4 _ _ _ _ _ _ _ _ j4 j4 j4 j4).mono qB
 ·exact (VV.set4 _ _ _ _ _ _ _ _ j4 j4 j4 j4).mono qB):p:=h
theorem qBx (h:p:=by
 go_wp2_with fail;go_meet
 case rel =>
  refine ⟨gq,a7,nq,nq,false,a8,nr,nr,?_⟩;rw [RT.out.1,RT.out.2];exact HD):p:=h
theorem qBy (h:p:=by
 go_wp2_with fail;go_roundw
 case rel =>
  refine ⟨k+1,t/1000000000,l1.set (i+k) (t%1000000000),by omega,by go_num,by rw [HQ.out];simp,?_,iv,?_,by go_grown⟩
  ·exact iv.out.few
  ·rw [Lo];have:=qe.out;rw [HQ.out] at this ⊢;simpa using this
 case measure=>(first|(simp [intOf];omega)|(simp [intOf];done))):p:=h
theorem qBz (h:p:=by
 exact (ic.setFresh sq _ _ (by show w.heap.size+1+1<_;omega)).setFresh (sq.setNew _ _ (by show w.heap.size+1+1<_;omega)) _ _ (by show w.heap.size+1+1<_;omega)):p:=h
theorem qCa (h:p:=by
 go_wp2_with fail;go_ret;exact ⟨by rw [HR.out];rfl,by go_grown⟩):p:=h
theorem qCb (h:p:=by
 have hc:(Instr.checkKey es.isEmpty 10000 22 (.int .u8 key)).run prog W=.ok () W:=MapKept.run_checkKey (k:=.int .u8 key) underlying22 (by simp [MapKept.IsKey]) _ 9999;simp [Instr.lookup,run_underlying underlying196,MapKept.run_getObj_map hb,hc,MapKept.run_findKey underlying22 hf,Result.andThen,Tryz.zeroValue195]):p:=h
theorem qCc (h:p:=by
 go_roundw
 case rel=>exact ⟨a9,n9,c9,Cf p l',r',m',_,rfl,hX2,Ae (Ax (hP9.mono (ve.trans CQ).size) (hO9.mono (ve.trans CQ).size)),ZW,Ae (hr7.keep hb9),Ae ((ve.trans CQ).trans (Bl hb9 _))⟩
 case measure=>rw [Ff (hr7.keep hb9),AL.out];simp only [List.length_cons];omega):p:=h
theorem qCd (h:p:=by
 go_enter func208,ntmps208;go_wp2_with fail;go_ret;exact ⟨by rw [Ek,if_neg h1];rfl,Ac _ _⟩):p:=h
theorem qCe (h:p:=by
 refine (TY.wide fun x hx=>hx.imp (fun⟨p,hp,h1,h2⟩=>⟨p,?_,h1,h2⟩) id).trans (hS4.wide fun x hx=>hx.imp (fun⟨h1,h2⟩=>⟨((⟨a,b,n,c,m⟩:Hl),.slice none 0 0),?_,h1,h2⟩) fun h=>by rw [h];rfl)
 ·rw [Im hq];exact List.mem_append_left _ hp
 ·rw [Im hq];simp):p:=h
theorem qCf (h:p:=by
 simp only [List.mem_cons,List.not_mem_nil,or_false] at hu;rcases hq with rfl|rfl<;>rcases hu with rfl|rfl
 ·exact W7 RS.top KB.top RS.m1 KB.m1 di
 ·exact W7 RS.top KB.low RS.m1 KB.m2 di
 ·exact W7 RS.low KB.top RS.m2 KB.m1 di
 ·exact W7 RS.low KB.low RS.m2 KB.m2 di):p:=h
theorem qCg (h:p:=by
 go_enter func317,ntmps317;go_wp2_with (go_at_call 346;refine (jK _ _).mono ?_;rintro e w' ⟨rfl,rfl⟩);go_ret;exact ⟨rfl,rfl⟩):p:=h
theorem qCh (h:p:=by
 go_enter func236,ntmps236;go_wp2_with (go_at_call 268;refine (jX _ _).mono ?_;rintro e w' ⟨rfl,rfl⟩);go_ret;exact ⟨rfl,rfl⟩):p:=h
theorem qCi (h:p:=by
 go_enter func233,ntmps233;go_wp2_with (go_at_call 267;refine (jH _ _).mono ?_;rintro e w' ⟨rfl,rfl⟩);go_ret;exact ⟨rfl,rfl⟩):p:=h
theorem qCj (h:p:=by
 rcases List.mem_append.1 hz with hz|hz
 ·obtain ⟨x1,h1,y1,h2,rfl⟩:=My hz;exact (P7.out.good x1 (List.mem_of_mem_take h1)).1.mul (Q7.out.good y1 h2).1
 ·obtain ⟨y1,h2,rfl⟩:=List.mem_map.1 hz;exact TJ.out.1.mul (Q7.out.good y1 (List.mem_of_mem_take h2)).1):p:=h
theorem qCk (h:p:=by
 cases r
 ·rfl
 ·exact absurd iz.out (by have:=(HR.out.2 rfl _ bj).1.2;rw [GY.out];exact this)):p:=h
theorem qCl (h:p:=by
 refine ⟨h.1,?_⟩;rcases h.2 with ⟨hn,_⟩|⟨g',cap,cur,hv,hb,hg,rest⟩
 ·cases hn
 ·simp only [Value.slice.injEq,Option.some.injEq,Addr.mk.injEq,and_true,true_and] at hv;obtain ⟨rfl,rfl⟩:=hv;exact .inr ⟨g,c,cur,rfl,hb,e.trans hg,rest⟩):p:=h
theorem qCm (h:p:=by
 have HQ:=Ae h;subst h;go_wp2_with fail;go_quiet (fail);go_wp2_with fail;go_roundw
 case rel=>exact ⟨k+1,by omega,by go_num,Ae (HE.out (by first|trivial|rfl)),Bj _ jr⟩
 case measure=>(first|(simp [intOf];omega)|(simp [intOf];done))):p:=h
theorem qCn (h:p:=by
 rw [Lo,e];have:=HS.out;first|exact this|(rw [List.set_set] at this;exact this)):p:=h
theorem qCo (h:p:=by
 rw [Bq,Bq];cases g
 ·have h1:¬z<0:=by simpa using h.symm
  have h2:z'<0:=by simpa using h'.symm
  simp [sgn];omega
 ·have h1:z<0:=by simpa using h.symm
  have h2:¬z'<0:=by simpa using h'.symm
  simp [sgn];omega):p:=h
theorem qCp (h:p:=by
 go_wp2_with fail;go_ret;exact ⟨rfl,(xo dm nq.2)⟩):p:=h
theorem qCq (h:p:=by
 go_wp2_with fail;go_ret;exact ⟨rfl,(xo ir nq.2)⟩):p:=h
theorem qCr (h:p:=by
 rw [List.set_append_left _ _ qH,List.replicate_succ',List.set_append_right _ _ qH] at this;simp only [List.length_replicate,Nat.sub_self,Av,List.append_assoc,List.singleton_append] at this;rw [T1.out] at this ⊢;exact this):p:=h
theorem qCs (h:p:=by
 have h1:=h.neg;have h2:=h'.neg;unfold sgn
 cases g<;>simp at h1 h2 ⊢<;>omega):p:=h
theorem qCt (h:p:=by
 rcases ah.2 with ⟨h0,_⟩|⟨g',_,_,h0,_,h3,_⟩
 ·cases h0
 ·simp only [Value.slice.injEq,Option.some.injEq,Addr.mk.injEq,and_true,true_and] at h0;rw [h0.1];exact (Ar.1 h3).1):p:=h
theorem qCu (h:p:=by
 have XI:=Md hU7 b2 HHb.out;have hsh:=hU7.shape;clear hU6 hU;go_roundw
 case rel=>exact ⟨k+1,_,by omega,by go_num,hsh,hU7,XI⟩
 case measure=>(first|(simp [intOf];omega)|(simp [intOf];done))):p:=h
theorem qCv (h:p:=by
 rintro e w2 ⟨rfl,hb⟩;obtain ⟨hc,hf⟩:=Bg hb;have hz:=hb.size;(try simp only [Aj,Ak] at hz);replace HB:=zP w hb;clear hc hf hb;go_wp2_with fail;go_ret;exact ⟨rfl,HB⟩):p:=h
theorem qCw (h:p:=by
 have HC:=Ae qd;clear qd;go_enter func286,ntmps286;go_wp2_with (go_at_call 233;refine (Lh _ _ _).mono ?_;rintro e w' ⟨rfl,rfl⟩;rw [HC.out]);go_ret;exact ⟨rfl,Ac _ _⟩):p:=h
theorem qCx (h:p:=by
 refine ⟨fun h=>(by rw [h] at hr;cases hr),fun j hj=>?_⟩;rcases Decidable.em (j=i) with rfl|BK
 ·exact hy.wpOp hi hC ⟨fun _=>hC,H⟩
 ·have:=ready_mono hj BK;rw [H.1] at this
  cases this):p:=h
theorem qCy (h:p:=by
 refine Bd.done qE ?_ _;all_goals
  go_wp2_with fail;go_meet
  case rel =>
   refine ⟨gx,ax,nx,cx,gy,ay,ny,cy,?_⟩;rw [RT.out.1,RT.out.2];exact HD.set hx hy (fx.mono qA) (fy.mono qA)):p:=h
theorem qCz (h:p:=by
 rw [HT.out,Kd,Ke,Nat.add_mul,Nat.one_mul,show C4 [] l'=[] from rfl,List.append_nil];rw [As (l:=l') (by rw [Q6.out];exact Ad _)] at WU;exact WU):p:=h
theorem qDa (h:p:=by
 go_wp2_with fail;go_roundw
 case rel=>exact ⟨i,by omega,by first|rfl|(simp;done)|(rw [IntWalk.i64_in _ qB]),q6,q7,q8⟩
 case measure=>(first|(simp [intOf];omega)|(simp [intOf];done))):p:=h
theorem qDb (h:p:=by
 have h1:=Ep (dg z'.natAbs) (D0 _);have h2:=Nat.pow_le_pow_right (show 0<1000000000 by omega) (show (dg z'.natAbs).length≤n' by omega);rw [Bq] at h1 ⊢;rw [Bq,Nat.pow_succ]
 omega):p:=h
theorem qDc (h:p:=by
 have h1:=(MU.out _ td).lt ig;rcases e with ⟨p,hp,hpc,he⟩|e
 ·exact Sn QT.out hq p hp hpc ig he.symm
 ·simp only [Value.ownBlock,Option.some.injEq] at e;have:b<B:=h1
  omega):p:=h
theorem qDd (h:p:=by
 rintro e w1 ⟨rfl,h1⟩;go_wp2_with fail;refine wp_loop_rounds 1 ?_;rw [rounds_succ];go_wp2_with fail;exact bodyPost_end (v:=.tuple #[]) (by simp [results,results202,go_sem]) rfl ⟨rfl,h1⟩):p:=h
theorem qDe (h:p:=by
 refine ⟨h.len,h.cap,h.few,h.top,h.small,?_⟩;rcases Aq n with h0|h0
 ·exact .inl h0
 ·exact .inr ⟨b,o,rfl,fun i hi=>(Af (w:=w) e).trans (h.at hi)⟩):p:=h
theorem qDf (h:p:=by
 have h1:=Ep (dg z.natAbs) (D0 _);have h2:=Nat.pow_le_pow_right (show 0<1000000000 by omega) (show (dg z.natAbs).length≤n by omega);rw [Bq] at h1 ⊢;rw [Bq,Nat.pow_succ]
 omega):p:=h
theorem qDg (h:p:=by
 clear YM hS4 hS5 hGn iv qt BL YL;go_roundw
 case rel=>exact ⟨i+1,_,by omega,by go_num,agi,jk,agj,hS6⟩
 case measure=>(first|(simp [intOf];omega)|(simp [intOf];done))):p:=h
theorem qDh (h:p:=by
 rw [HT'.out,List.map_append,←List.append_assoc,←Nat.add_assoc];rw [show List.map (fun t=>(Fg x.1 t.1,Ct x.2 t.2)) [y]=[(Fg x.1 y.1,Ct x.2 y.2)] from rfl,Qy];exact hM9):p:=h
theorem qDi (h:p:=by
 have hhp:=Wk MU.out JZ.out hp;exact (OA.out p hp).keepS (S:=fun _=>False) (Fp bp _) (hhp.nb.imp id fun h=>⟨by have:=h.2;omega,id⟩) (fun _=>id) (fun _ _ _=>id)):p:=h
theorem qDj (h:p:=by
 have df:Gv md ops j i=true:=by
  rw [Gv,TP];exact Array.any_eq_true'.2 ⟨e,he,by rw [Bool.and_eq_true,beq_iff_eq];exact ⟨hb,heq⟩⟩
 exact Ng df sy hj):p:=h
theorem qDk (h:p:=by
 rintro e w1 ⟨rfl,br⟩;go_wp2_with fail;go_ret;exact ⟨rfl,br⟩):p:=h
theorem qDl (h:p:=by
 obtain rfl:k=n+40:=by omega
 go_wp2_with fail;go_roundw
 case rel=>exact ⟨i+1,by omega,by go_num,HB⟩
 case measure=>(first|(simp [intOf];omega)|(simp [intOf];done))):p:=h
theorem qDm (h:p:=by
 have h7:=FC.setO i UE n;rw [Int.natCast_add] at h7;exact hu▸h7):p:=h
theorem qDn (h:p:=by
 exact (ll.setFresh sq _ _ (by show w.heap.size+1+1<_;omega)).setFresh (sq.setNew _ _ (by show w.heap.size+1+1<_;omega)) _ _ (by show w.heap.size+1+1<_;omega)):p:=h
theorem qDo (h:p:=by
 simp only [List.pairwise_cons,List.mem_cons,List.not_mem_nil,or_false,forall_eq,List.Pairwise.nil,and_true,false_implies,implies_true];exact vX KB.top KB.low KB.ap):p:=h
theorem qDp (h:p:=by
 refine bodyPost_ret (v:=M 0) (by simp [results,results242,go_sem]) rfl ?_;rw [HX.out];exact .yes (Bm _ (ym.trans (Bl eb _))) (nc.set1 true)):p:=h
theorem qDq (h:p:=by
 clear hF hF1;go_wp2_with fail;go_roundw
 case rel=>exact ⟨i+1,by omega,by go_num,uf,IU,hS⟩
 case measure=>(first|(simp [intOf];omega)|(simp [intOf];done))):p:=h
theorem qDr (h:p:=by
 rintro e w1 ⟨rfl,hb⟩;have fg:=zP w hb;go_wp2_with fail;go_ret;exact ⟨rfl,fg⟩):p:=h
theorem qDs (h:p:=by
 rintro e w' ⟨rfl,hb⟩;exact ⟨none,0,0,rfl,Be.nil _ _,Ca.nil _ _,hb⟩):p:=h
theorem qDt (h:p:=by
 go_wp2_with fail;go_quiet (fail);go_wp2_with fail;go_ret;exact ⟨by rw [HR.out];rfl,(by first|exact Bj _ dm|exact Bj _ (Bj _ dm))⟩):p:=h
theorem qDu (h:p:=by
 go_wp2_with fail;refine bodyPost_ret (v:=.tuple #[.slice none 0 0,M 3]) (by simp [results,results8,go_sem]) rfl ?_;exact .inr ⟨DI.out,rfl,b21⟩):p:=h
theorem qDv (h:p:=by
 unfold Bz;rcases Nat.lt_trichotomy x y with h|h|h
 ·rw [if_pos qB];simp [h]
 ·rw [h,if_neg qB,if_pos rfl];simp
 ·rw [if_neg qB,if_neg qB];simp;omega):p:=h
theorem qDw (h:p:=by
 go_roundw
 case rel=>exact ⟨k+1,by omega,by go_num,aga,IU,af9,RN,WJ,RP⟩
 case measure=>(first|(simp [intOf];omega)|(simp [intOf];done))):p:=h
theorem qDx (h:p:=by
 refine iv.mono ?_;rintro e w1 ⟨rfl,h1⟩;go_wp2_with fail;exact bodyPost_end (v:=.tuple #[]) (by simp [results,results148,go_sem]) rfl ⟨rfl,h1⟩):p:=h
theorem qDy (h:p:=by
 obtain ⟨b',o',hbo,ij⟩:=h.cell.resolve_left qB;simp only [Option.some.injEq,Addr.mk.injEq,and_true] at hbo;obtain ⟨rfl,rfl⟩:=hbo;exact ij i hi):p:=h
theorem qDz (h:p:=by
 rcases h.2 with ⟨rfl,_⟩|⟨g,cap,cur,rfl,hg,_⟩
 ·intro k hk;cases hk
 ·intro k hk;simp only [Value.ownBlock,Option.some.injEq] at hk
  omega):p:=h
theorem qEa (h:p:=by
 have:=Tryz.strings_IndexByte ⟨#[120,121,122,116]⟩ (b.toNat:Int) W;have e:((b.toNat:Int).toNat.toUInt8)=b:=by simp
 rw [e] at this;exact this):p:=h
theorem qEb (h:p:=by
 rw [Below.heap_alloc _ _ _ (by rw [Dw];omega),World.putObj_heap_same qB]):p:=h
theorem qEc (h:p:=by
 go_wp2_with fail;refine bodyPost_ret (v:=.tuple #[Cd 0 0 0 0,.bool false]) (by simp [*,results,results96,go_sem]) rfl ⟨rfl,by go_grown⟩):p:=h
theorem qEd (h:p:=by
 exact ⟨a6,n6,c6,rfl,hr.mono qB,JO.mono qB,(xo dm ee)⟩):p:=h
theorem qEe (h:p:=by
 go_wp2_with fail;refine bodyPost_ret (v:=.tuple #[.slice none 0 0,M 6]) (by simp [results,results8,go_sem]) rfl ?_;exact ⟨rfl,EL⟩):p:=h
theorem qEf (h:p:=by
 go_wp2_with fail;refine bodyPost_ret (v:=.tuple #[.slice none 0 0,M 6]) (by simp [results,results7,go_sem]) rfl ?_;exact ⟨rfl,EL⟩):p:=h
theorem qEg (h:p:=by
 rw [Cs,if_pos rfl,Lp (s':=s) (fun j hj=>if_neg qB)];exact dh):p:=h
theorem qEh (h:p:=by
 rw [Cf,if_neg h1,if_pos h2];intro t ht;rcases List.mem_cons.1 ht with rfl|ht
 ·exact hb _ qH
 ·exact ih ha (fun t h=>hb t (by simp [h])) t ht):p:=h
theorem qEi (h:p:=by
 refine ⟨h.1,?_⟩;rcases h.2 with h0|⟨g,cap,cur,hv,hg,hr⟩
 ·exact .inl h0
 ·exact .inr ⟨g,cap,cur,hv,Ah hb hg,hr⟩):p:=h
theorem qEj (h:p:=by
 simp only [lim,List.getD,Ai hi,Option.getD_some]
 omega):p:=h
theorem qEk (h:p:=by
 rw [Cf,if_pos bj];intro t ht;rcases List.mem_cons.1 ht with rfl|ht
 ·exact ha _ qH
 ·exact ih (fun t h=>ha t (by simp [h])) hb t ht):p:=h
theorem qEl (h:p:=by
 refine FU m om hm hmi ?_ JW;rcases Decidable.em (j=m) with rfl|hjm
 ·exact RF
 ·rw [getD_set_ne true hjm] at hun;exact hun):p:=h
theorem qEm (h:p:=by
 rintro e w' ⟨rfl,hb⟩;exact ⟨none,0,0,rfl,Be.nil _ _,hb⟩):p:=h
theorem qEn (h:p:=by
 have bj:=(Ar.1 h3).1;exact .inr ⟨rfl,h2,by show b<B;omega,cur,(hb.block b bj).trans h3,h4⟩):p:=h
theorem qEo (h:p:=by
 rintro e w2 ⟨rfl,bp⟩;replace HB:=xo HB bp;go_wp2_with fail;go_ret;exact ⟨by rw [HR.out];rfl,HB⟩):p:=h
theorem qEp (h:p:=by
 refine .inr ⟨b,o,ha,fun i hi=>(hc i hi).butR hg fun e=>?_⟩;have h1:=hr _ e.symm;have h2:=hn _ ha;simp at h2
 omega):p:=h
theorem qEq (h:p:=by
 obtain ⟨c0,c1,f0,f1⟩:=h;exact ⟨by simp [*,go_sem],by simp [*,go_sem],by simp [*,go_sem],by simp [*,go_sem]⟩):p:=h
theorem qEr (h:p:=by
 obtain rfl:k=4:=by omega
 have HR:=Ae (Nh he.out);go_wp2_with fail;go_ret;exact ⟨by rw [HR.out];rfl,dm⟩):p:=h
theorem qEs (h:p:=by
 rcases hf with h1|⟨b,cur,rfl,h2,h3,_⟩
 ·exact absurd h1 h0
 ·exact ⟨h2,(Ar.1 h3).1⟩):p:=h
theorem qEt (h:p:=by
 cases r
 ·rfl
 ·refine absurd ((HR.out.2 rfl _ bj).2 qB) ?_;rw [←GY.out,Nat.add_sub_cancel,←HUK.out];exact sw):p:=h
theorem qEu (h:p:=by
 have h5:(k+1)*n'≤n*n':=Nat.mul_le_mul_right n' bj;have:=HNN.out;rw [Nat.add_mul,Nat.one_mul] at h5
 omega):p:=h
theorem qEv (h:p:=by
 have HL:=Ae hlz;clear hlz;go_wp2_with fail;go_ret;exact ⟨by rw [HL.out];rfl,(xo b3 ec)⟩):p:=h
theorem qEw (h:p:=by
 clear hr;go_enter func248,ntmps248;go_wp2;go_ret;exact ⟨by first|(simp;done)|(simp;omega),rfl⟩):p:=h
theorem qEx (h:p:=by
 rw [Cf,if_neg h1,if_neg h2,if_pos h3];exact ih (fun t h=>ha t (by simp [h])) (fun t h=>hb t (by simp [h]))):p:=h
theorem qEy (h:p:=by
 have h1:=h.low.rd.len;have h2:=h'.low.rd.len;rw [Int.natAbs_mul];have h3:=Hp q.natAbs q'.natAbs
 omega):p:=h
theorem qEz (h:p:=by
 unfold E9;rw [if_neg (fun k=>hr ⟨k.1,by have:=k.2;simp only [Bool.and_eq_true] at this;exact this⟩)]):p:=h
theorem qFa (h:p:=by
 have e2:=List.getElem?_eq_some_iff.1 hx;rw [←e2.2,←List.drop_eq_getElem_cons e2.1,List.take_append_drop]):p:=h
theorem qFb (h:p:=by
 rw [Below.heap_alloc _ _ _ qH];exact World.alloc_heap_new w _):p:=h
theorem qFc (h:p:=by
 exact ⟨by have:=this.1;omega,by have:=this.2;omega⟩):p:=h
theorem qFd (h:p:=by
 obtain rfl:k=n:=by omega
 have hr:=HR.out.1 he.out;subst hr;go_wp2_with fail;go_ret;exact ⟨rfl,dm⟩):p:=h
theorem qFe (h:p:=by
 go_wp2;go_ret;exact ⟨rfl,Bj _ (Ac _ _)⟩):p:=h
theorem qFf (h:p:=by
 rcases Nat.lt_or_ge g w with h'|h'
 ·exact h'
 ·rw [Array.getElem?_eq_none h'] at h;simp at h):p:=h
theorem qFg (h:p:=by
 refine wpS_of_wp ?_;go_wp2_with fail;cases c₀
 simp_all [bodyPostS,results,results152,Exit.thenS]):p:=h
theorem qFh (h:p:=by
 obtain rfl:k=n:=by omega
 go_wp2_with fail;go_ret;exact ⟨rfl,by first|assumption|go_grown⟩):p:=h
theorem qFi (h:p:=by
 rintro e w' ⟨h1,h2⟩;rw [if_pos rfl] at h1;exact ⟨_,_,_,_,h1,⟨rfl,rfl,rfl,rfl⟩,h2⟩):p:=h
theorem qFj (h:p:=by
 rcases Nat.lt_or_ge j i with h|h
 ·exact HZ.out i h
 ·obtain rfl:i=j:=by omega
  exact H0.out):p:=h
theorem qFk (h:p:=by
 obtain ⟨x1,h1,y1,h2,rfl⟩:=My hz;exact (P7.out.good x1 h1).1.mul (Q7.out.good y1 h2).1):p:=h
theorem qFl (h:p:=by
 cases hx:Fu (b::r) st.many with
 | none =>
  exact qAi
 | some x =>
  obtain ⟨cn,r',m'⟩:=x;have hF:Hid (Co st=some ⟨Ct st.c cn,st.o,r',m'⟩):=Ae (by unfold Co;rw [jo];simp only;rw [si];simp only;rw [hx]);have y9:=(Mb hx).2;have hbL:(b::r).length≤1000000:=by rw [←jo];omega
  have NY:Ch 1000000000 cn:=y9.mono qB;clear y9;refine Bw (fun W=>Z W w1 0 (.bool g5)∧Z W w1 1 (.slice a5 n5 c5)∧Z W w1 2 (.bool g6)∧Z W w1 3 (.slice a6 n6 c6)) 4 qE qK (fun ib=>?_);(refine xc 3 0 ?_;(try simp only [xb]));(refine xc 4 1 ?_;(try simp only [xb]));(refine Bd.one (i:=2) rfl qE (fun K hK=>?_);go_simp;(go_at_call 243;refine (Ol _ R (b::r) st.many jx rq).mono ?_;rintro e w6 ⟨um,GH⟩;rw [hx] at GH;obtain ⟨v,rfl,hv,JP⟩:=GH;have FC:=AG.rd um JP;have SA:=JA.butR (q1.newA nh.top.rd) (q2.newA nh.low.rd) um (fun k hk=>by cases hk;exact x8);replace e0:=An um (show wi.drew.cell? _=_ from e0) qo;replace e1:=An um (show wi.drew.cell? _=_ from e1) qo;replace e2:=An um (show wi.drew.cell? _=_ from e2) qo;replace e3:=An um (show wi.drew.cell? _=_ from e3) qo);(try go_wp2_with fail);refine hK.out _ _ (fun _=>qK) ?_;clear hK K;(try simp only [xb]));(refine Bd.one (i:=3) rfl qE (fun K hK=>?_);go_simp;(go_at_call 94;refine (pZ _ g5 a5 n5 c5 g6 a6 n6 c6 st.c SA _ v cn hv s1 s2 NY).mono ?_;rintro e w7 ⟨DA,zu,DZ,zw,DB,AA,EA,AB,rfl,hmul,yf,OZ,gw,iw⟩;have AX:=FC.keep iw;replace ⟨e0,e1,e2,e3⟩:=xj iw e0 e1 e2 e3;have z0:=AX.cf 0 qB;have z1:=AX.cf 1 qB;have z2:=AX.cf 2 qB;have z3:=AX.cf 3 qB);(try go_wp2_with fail);refine hK.out _ _ (fun _=>qK) ?_;clear hK K;(try simp only [xb]));(refine Bd.one (i:=4) rfl qE (fun K hK=>?_);go_simp;refine hK.out _ _ (fun h=>absurd h qI) ?_;clear hK K;(try simp only [xb]));refine Bd.done qE ?_ _;have h46:=FC.h4;have OD:Bc (w1+1+1) w7 zu zw:=yf.mono qB;have OE:Bc (w1+1+1) w7 AA AB:=OZ.mono qB;obtain ⟨u,hu⟩:∃u:TS,u=⟨Ct st.c cn,st.o,r',m'⟩:=⟨_,rfl⟩;have OU:=AX.setC (c:=Ct st.c cn) hmul OD OE gw;have ZO:Dx wo ((((w7.setCell (J w1 0) (.bool DA)).setCell (J w1 1) (.slice zu DZ zw)).setCell (J w1 2) (.bool DB)).setCell (J w1 3) (.slice AA EA AB)) R w1 (w1+1) u:=hu▸OU;exact qGf):p:=h
theorem qFm (h:p:=by
 cases hx:Fu (b::r) st.many with
 | none =>
  exact qAi
 | some x =>
  obtain ⟨cn,r',m'⟩:=x;have hF:Hid (Co st=some ⟨Ct st.c cn,st.o,r',m'⟩):=Ae (by unfold Co;rw [jo];simp only;rw [si];simp only;rw [hx]);have y9:=(Mb hx).2;have hbL:(b::r).length≤1000000:=by rw [←jo];omega
  have NY:Ch 1000000000 cn:=y9.mono qB;clear y9;refine Bw (fun W=>Z W w1 0 (.bool g5)∧Z W w1 1 (.slice a5 n5 c5)∧Z W w1 2 (.bool g6)∧Z W w1 3 (.slice a6 n6 c6)) 4 qE qK (fun ib=>?_);(refine xc 3 0 ?_;(try simp only [xb]));(refine xc 4 1 ?_;(try simp only [xb]));(refine Bd.one (i:=2) rfl qE (fun K hK=>?_);go_simp;(go_at_call 243;refine (Ol _ R (b::r) st.many jx rq).mono ?_;rintro e w6 ⟨um,GH⟩;rw [hx] at GH;obtain ⟨v,rfl,hv,JP⟩:=GH;have FC:=AG.rd um JP;have SA:=JA.butR (q1.newA nh.top.rd) (q2.newA nh.low.rd) um (fun k hk=>by cases hk;exact x8);replace e0:=An um (show wi.drew.cell? _=_ from e0) qo;replace e1:=An um (show wi.drew.cell? _=_ from e1) qo;replace e2:=An um (show wi.drew.cell? _=_ from e2) qo;replace e3:=An um (show wi.drew.cell? _=_ from e3) qo);(try go_wp2_with fail);refine hK.out _ _ (fun _=>qK) ?_;clear hK K;(try simp only [xb]));(refine Bd.one (i:=3) rfl qE (fun K hK=>?_);go_simp;(go_at_call 94;refine (pZ _ g5 a5 n5 c5 g6 a6 n6 c6 st.c SA _ v cn hv s1 s2 NY).mono ?_;rintro e w7 ⟨DA,zu,DZ,zw,DB,AA,EA,AB,rfl,hmul,yf,OZ,gw,iw⟩;have AX:=FC.keep iw;replace ⟨e0,e1,e2,e3⟩:=xj iw e0 e1 e2 e3;have z0:=AX.cf 0 qB;have z1:=AX.cf 1 qB;have z2:=AX.cf 2 qB;have z3:=AX.cf 3 qB);(try go_wp2_with fail);refine hK.out _ _ (fun _=>qK) ?_;clear hK K;(try simp only [xb]));(refine Bd.one (i:=4) rfl qE (fun K hK=>?_);go_simp;refine hK.out _ _ (fun h=>absurd h qI) ?_;clear hK K;(try simp only [xb]));refine Bd.done qE ?_ _;have h46:=FC.h4;have OD:Bc (wy+1) w7 zu zw:=yf.mono qB;have OE:Bc (wy+1) w7 AA AB:=OZ.mono qB;obtain ⟨u,hu⟩:∃u:TS,u=⟨Ct st.c cn,st.o,r',m'⟩:=⟨_,rfl⟩;have OU:=AX.setC (c:=Ct st.c cn) hmul OD OE gw;have ZO:Dx wo ((((w7.setCell (J w1 0) (.bool DA)).setCell (J w1 1) (.slice zu DZ zw)).setCell (J w1 2) (.bool DB)).setCell (J w1 3) (.slice AA EA AB)) R w1 wy u:=hu▸OU;exact qGf):p:=h
theorem qFn (h:p:=by
 have hoi:=IN.oc i UE;have ZP:((i:Nat):Int)<4:=by omega
 have hVq:=hV.grown IN.grown ez;have hob:st.o i≤1000*(L.length-st.L.length):=hQ.out.2.2.2 i;have XQ:=Ae IN;have AL:=Ae (Ff hT.out.rdr);clear r0 f0 jm jq IN hT;generalize wi.setCell (J R 0) (.string ⟨r.toArray⟩)=wq at *;have AG:Dx wo wq.drew R w1 (w1+1) ⟨st.c,st.o,r,st.many⟩:=XQ.out.keep ((Ac _ _).drew);have hVd:I3 wq.drew:=hVq
 cases hx:Ja r st.many with
 | none =>
  exact qAp
 | some x =>
  obtain ⟨n,r',m'⟩:=x;have hn:=Tr hx;have NN:=Qv hx;have RB:IntKind.i64.wrap (((st.o i:Nat):Int)+((n:Nat):Int))=((st.o i:Nat):Int)+((n:Nat):Int):=by simp [IntKind.wrap,IntKind.bits,IntKind.signed];omega
  have hF:Hid (Co st=some ⟨st.c,Vf st.o i n,r',m'⟩):=Ae (by unfold Co;rw [jo];simp only;rw [si];simp only;rw [hx]);refine Bw (fun W=>Z W (w1+1) i (M (st.o i:Nat))) 7 qE qK (fun ib=>?_);(refine xc 7 0 ?_;(try simp only [xb]));(refine xc 7 1 ?_;(try simp only [xb]));(refine xc 7 2 ?_;(try simp only [xb]));(refine xc 7 3 ?_;(try simp only [xb]));(refine Bd.one (i:=4) rfl qE (fun K hK=>?_);go_simp;(go_at_call 242;refine (Xd _ R r st.many AG.rdr rp hVd hR).mono ?_;rintro e w6 ⟨um,GH⟩;rw [hx] at GH;obtain ⟨rfl,JP⟩:=GH;have FC:=AG.rd um JP;have ZQ:=FC.oc i UE;have ZR:=FC.of i UE);(try go_wp2_with fail);refine hK.out _ _ (fun _=>qK) ?_;clear hK K;(try simp only [xb]));(refine Bd.one (i:=5) rfl qE (fun K hK=>?_);go_simp;skip;(try go_wp2_with fail);refine hK.out _ _ (fun _=>qK) ?_;clear hK K;(try simp only [xb]));(refine Bd.one (i:=6) rfl qE (fun K hK=>?_);go_simp;(try rw [if_pos ZP]);(try go_wp2_with fail);refine hK.out _ _ (fun _=>qK) ?_;clear hK K;(try simp only [xb]));(refine Bd.one (i:=7) rfl qE (fun K hK=>?_);go_simp;refine hK.out _ _ (fun h=>absurd h qI) ?_;clear hK K;(try simp only [xb]));refine Bd.done qE ?_ _;(try rw [RB]);obtain ⟨u,hu⟩:∃u:TS,u=⟨st.c,Vf st.o i n,r',m'⟩:=⟨_,rfl⟩;have AX:Dx wo (w6.setCell (J (w1+1) i) (M (((st.o i:Nat):Int)+((n:Nat):Int)))) R w1 (w1+1) u:=by
   exact qDm
  rw [←hu] at hF;clear hoi ZQ ZR FC AG XQ hVq hVd hu hx hn NN hob RB;generalize w6.setCell (J (w1+1) i) (M (((st.o i:Nat):Int)+((n:Nat):Int)))=w7 at *;exact qAa):p:=h
theorem qFo (h:p:=by
 have hoi:=IN.oc i UE;have ZP:((i:Nat):Int)<4:=by omega
 have hVq:=hV.grown IN.grown ez;have hob:st.o i≤1000*(L.length-st.L.length):=hQ.out.2.2.2 i;have XQ:=Ae IN;have AL:=Ae (Ff hT.out.rdr);clear r0 f0 jm jq IN hT;generalize wi.setCell (J R 0) (.string ⟨r.toArray⟩)=wq at *;have AG:Dx wo wq.drew R w1 wy ⟨st.c,st.o,r,st.many⟩:=XQ.out.keep ((Ac _ _).drew);have hVd:I3 wq.drew:=hVq
 cases hx:Ja r st.many with
 | none =>
  exact qAq
 | some x =>
  obtain ⟨n,r',m'⟩:=x;have hn:=Tr hx;have NN:=Qv hx;have RB:IntKind.i64.wrap (((st.o i:Nat):Int)+((n:Nat):Int))=((st.o i:Nat):Int)+((n:Nat):Int):=by simp [IntKind.wrap,IntKind.bits,IntKind.signed];omega
  have hF:Hid (Co st=some ⟨st.c,Vf st.o i n,r',m'⟩):=Ae (by unfold Co;rw [jo];simp only;rw [si];simp only;rw [hx]);refine Bw (fun W=>Z W wy i (M (st.o i:Nat))) 7 qE qK (fun ib=>?_);(refine xc 7 0 ?_;(try simp only [xb]));(refine xc 7 1 ?_;(try simp only [xb]));(refine xc 7 2 ?_;(try simp only [xb]));(refine xc 7 3 ?_;(try simp only [xb]));(refine Bd.one (i:=4) rfl qE (fun K hK=>?_);go_simp;(go_at_call 242;refine (Xd _ R r st.many AG.rdr rp hVd hR).mono ?_;rintro e w6 ⟨um,GH⟩;rw [hx] at GH;obtain ⟨rfl,JP⟩:=GH;have FC:=AG.rd um JP;have ZQ:=FC.oc i UE;have ZR:=FC.of i UE);(try go_wp2_with fail);refine hK.out _ _ (fun _=>qK) ?_;clear hK K;(try simp only [xb]));(refine Bd.one (i:=5) rfl qE (fun K hK=>?_);go_simp;skip;(try go_wp2_with fail);refine hK.out _ _ (fun _=>qK) ?_;clear hK K;(try simp only [xb]));(refine Bd.one (i:=6) rfl qE (fun K hK=>?_);go_simp;(try rw [if_pos ZP]);(try go_wp2_with fail);refine hK.out _ _ (fun _=>qK) ?_;clear hK K;(try simp only [xb]));(refine Bd.one (i:=7) rfl qE (fun K hK=>?_);go_simp;refine hK.out _ _ (fun h=>absurd h qI) ?_;clear hK K;(try simp only [xb]));refine Bd.done qE ?_ _;(try rw [RB]);obtain ⟨u,hu⟩:∃u:TS,u=⟨st.c,Vf st.o i n,r',m'⟩:=⟨_,rfl⟩;have AX:Dx wo (w6.setCell (J wy i) (M (((st.o i:Nat):Int)+((n:Nat):Int)))) R w1 wy u:=by
   exact qDm
  rw [←hu] at hF;clear hoi ZQ ZR FC AG XQ hVq hVd hu hx hn NN hob RB;generalize w6.setCell (J wy i) (M (((st.o i:Nat):Int)+((n:Nat):Int)))=w7 at *;exact qAa):p:=h
theorem qFp (h:p:=by
 have fe:Bc (w+1+1+1) w4 ae ce:=ry.mono qA;have ff:Bc (w+1+1+1) w4 af cf:=vw.mono qA;have u2:w.heap.size+1+1<w.heap.size+1+1+1:=Ag _;have HW:=xo fg HB;go_wp2_with fail;refine bodyPost_ret (v:=.agg #[.bool ge,.slice ae ne ce,.bool gf,.slice af nf cf]) (by simp [results,results163,go_sem,R0,R1,R2,R3]) rfl ?_;exact qBd):p:=h
theorem qFq (h:p:=by
 clear hm QD;go_wp2_with fail;go_roundw
 case rel=>exact ⟨i+1,by omega,by go_num,Ae (by rw [←KR.out];exact (FB.set1 _).setOther _ UK),Ae (by exact ((hTB.out.butR (Bm _ (Cn _ _)) UK).next bj)),Ce _ (Bm _ sv) (by show w3.heap.size≤w3;exact Ad _)⟩
 case measure=>(first|(simp [intOf];omega)|(simp [intOf];done))):p:=h
theorem qFr (h:p:=by
 refine ⟨ge,ae,ne,ce,gf,af,nf,cf,rfl,⟨?_,?_,hr.pos,hr.red⟩,?_,?_,by go_grown⟩
 ·exact hr.top.set4 fe _ _ _ _ _ _ _ _ u2 u2 u2 u2
 ·exact hr.low.set4 ff _ _ _ _ _ _ _ _ u2 u2 u2 u2
 ·exact (fe.set4 _ _ _ _ _ _ _ _ u2 u2 u2 u2).mono qB
 ·exact (ff.set4 _ _ _ _ _ _ _ _ u2 u2 u2 u2).mono qB):p:=h
theorem qFs (h:p:=by
 refine Bd.one (i:=4) rfl qE (fun K hK=>?_);go_simp;go_at_call 242;refine (Xd _ R r st.many AG.rdr rp hVd hR).mono ?_;exact qGg):p:=h
theorem qFt (h:p:=by
 obtain ⟨w5,dx⟩:=nq;have oq:=xo HB dx;replace ⟨b0,b1,b2⟩:=xn dx b0 b1 b2;clear k0 k1 k2 hI kx0 x0 kx1 x1 kx2 x2 kx3 x3 kx4 x4 kx5 x5 kx6 x6 kx7 x7;exact qBo):p:=h
theorem qFu (h:p:=by
 have dw:0≤z:=by simpa using h.neg.symm
 have heq:=gN (z':=z') dw;rw [←h'.neg] at heq;have RT:=Ae heq;obtain rfl:gr=false:=by rw [HD.numr.neg];simp [sgn];omega
 clear heq dw;exact qBx):p:=h
theorem qFv (h:p:=by
 clear hxz ed hv hx hg hl;have OX:=Bb (show xp w (w.alloc (.cells #[.bool false,.slice (some ⟨b,o,none⟩) 1 c] 51)) by go_grown) c1;go_enter func179,ntmps179;exact qCa):p:=h
theorem qFw (h:p:=by
 obtain ⟨w5,dx⟩:=nq;have oq:=xo HB dx;replace ⟨b0,b1,b2⟩:=xn dx b0 b1 b2;clear k0 k1 k2 k3 x1 hI;exact qBo):p:=h
theorem qFx (h:p:=by
 rw [if_pos AZ,if_pos AZ,Int.add_zero,Int.add_zero] at heq;obtain rfl:gr=false:=by rw [HD.numr.neg,AZ];simp [sgn]
 have RT:=Ae heq;clear heq hH dw AZ;exact qBx):p:=h
theorem qFy (h:p:=by
 exact (yj.setFresh np _ _ (by show w.heap.size+1+1<_;omega)).setFresh (np.setNew _ _ (by show w.heap.size+1+1<_;omega)) _ _ (by show w.heap.size+1+1<_;omega)):p:=h
theorem qFz (h:p:=by
 rw [NQ.out] at yj;exact (yj.setFresh mi _ _ (by show w.heap.size<_;omega)).setFresh (mi.setNew _ _ (by show w.heap.size<_;omega)) _ _ (by show w.heap.size<_;omega)):p:=h
theorem qGa (h:p:=by
 have k1:Nw wr ne ae:=Nw.mono (pk.newA iq.top.rd) qH;have k2:Nw wr nf af:=Nw.mono (po.newA iq.low.rd) qH;exact qAx):p:=h
theorem qGb (h:p:=by
 have k1:Nw w3 ne ae:=Nw.mono (pk.newA iq.top.rd) qH;have k2:Nw w3 nf af:=Nw.mono (po.newA iq.low.rd) qH;exact qAx):p:=h
theorem qGc (h:p:=by
 rw [HG.out];constructor
 ·intro h;have:=h.2.2.2.2;omega
 ·intro h;exact ⟨O1.out,O2.out,HP.out.1,HP.out.2,by omega⟩):p:=h
theorem qGd (h:p:=by
 exact ((np.setNew _ _ (by show w.heap.size+1+1<_;omega)).setNew _ _ (by show w.heap.size+1+1<_;omega)).mono qB):p:=h
theorem qGe (h:p:=by
 exact ((mi.setNew _ _ (by show w.heap.size<_;omega)).setNew _ _ (by show w.heap.size<_;omega)).mono qB):p:=h
theorem qGf (h:p:=by
 rw [←hu] at hF;clear FC AX OU AG nh JA SA hmul yf OZ OD OE e0 e1 e2 e3 z0 z1 z2 z3 hv jx hu hx NY iw um JP;generalize (((w7.setCell (J w1 0) (.bool DA)).setCell (J w1 1) (.slice zu DZ zw)).setCell (J w1 2) (.bool DB)).setCell (J w1 3) (.slice AA EA AB)=wz at *;have AX:=ZO;clear ZO;exact qAa):p:=h
theorem qGg (h:p:=by
 rintro e w6 ⟨um,GH⟩;rw [hx] at GH;subst GH;refine ⟨rfl,?_⟩;rw [RV.out,hXN.out];exact .no (AG.grown.trans um)):p:=h
end Go.Proofs.YtfijkfdfbnfmmaaGreatDoor
