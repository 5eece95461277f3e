/- Package factors: linear, where the first and the last number are 1 or -1. Boxes and rows: what is kept. -/
import Derived.Test.YtnnhcbeiogaknaaGreatDoorQT35
set_option linter.unusedSimpArgs false
set_option linter.unusedVariables false
set_option maxRecDepth 100000
set_option maxHeartbeats 4000000
section
namespace Go.Proofs.YtnnhcbeiogaknaaGreatDoor
open Go.RowKit
attribute [local go_sem] Oper.semAt_some
theorem lin0 (W:World):(Instr.index 227 (.agg #[.int .i64 1,.int .i64 (-1)]) (.int .i64 0)).run Tryz.prog W=.ok (.int .i64 1) W:=by kernel_rfl
theorem lin1 (W:World):(Instr.index 227 (.agg #[.int .i64 1,.int .i64 (-1)]) (.int .i64 1)).run Tryz.prog W=.ok (.int .i64 (-1)) W:=by kernel_rfl
def wY (w:World) (t:Int) (e:Ending) (w':World):Prop:=∃G c,2≤c∧w.heap.size≤G∧e=.returned (.tuple #[.agg #[.int .i64 0,.slice (some ⟨G,0,none⟩) 2 c],.bool true])∧w'.cell? ⟨G,0,none⟩=some (.int .i64 (-t))∧w'.cell? ⟨G,1,none⟩=some (.int .i64 1)∧Below w.heap.size w w'
def Blk (W:World) (b:Nat) (vs:Array Value) (t:TypeId):Prop:=W.heap[b]? = some (.cells vs t (0,0))
theorem Blk.keep {W W':World} {b:Nat} {vs:Array Value} {t:TypeId} (h:Blk W b vs t) (hb:Below W.heap.size W W'):Blk W' b vs t:=(hb.block b (Ar.1 h).1).trans h
theorem Blk.own (b:Nat) (vs:Array Value) (t:TypeId):Own (fun (_:Unit) W=>Blk W b vs t):=fun s X Y row hs hg hrow =>
 (hg.block b (Ar.1 hs).1 (fun e'=>by obtain ⟨o,ho,hc⟩:=hrow b e'.symm;rw [show X.heap[b]? = _ from hs] at ho;cases ho;cases hc)).trans hs
theorem Blk.cell {W:World} {b:Nat} {vs:Array Value} {t:TypeId} (h:Blk W b vs t) (i:Nat) (v:Value) (hv:vs[i]? = some v):W.cell? ⟨b,i,none⟩=some v:=by simp [World.cell?,show W.heap[b]? = _ from h,hv]
theorem Blk.frozen {W:World} {b:Nat} {vs:Array Value} {t:TypeId} (h:Blk W b vs t) (i:Nat):W.frozen? ⟨b,i,none⟩=false:=by simp [World.frozen?,show W.heap[b]? = _ from h]
theorem Blk.set {W:World} {b:Nat} {vs:Array Value} {t:TypeId} (h:Blk W b vs t) (i:Nat) (u:Value):Blk (W.setCell ⟨b,i,none⟩ u) b (vs.setIfInBounds i u) t:=by
 obtain ⟨hlt,hk⟩:=Ar.1 h;show (W.heap.modify b _)[b]? = _;rw [Array.getElem?_eq_getElem (by rw [Array.size_modify];exact hlt),Array.getElem_modify_self,hk];rfl
theorem W9 (w:World) (x:Int) (a:Option Addr) (m c:Nat) (hm:m≤1000):Calls Tryz.prog 112 #[.agg #[.int .i64 x,.slice a (m+1) c]] w (fun e w'=>e=.returned (.int .i64 (m:Int))∧Below w.heap.size w w'):=by
 have H:=uU w x a (m+1) c qA;have e:((m+1:Nat):Int)-1=(m:Int):=by omega
 rw [e] at H;exact H
def Qu (w:World) (t:Int) (W:World):Prop:=∃G c,2≤c∧w.heap.size≤G∧Blk W (w.heap.size+1) #[.int .i64 0,.slice (some ⟨G,0,none⟩) 2 c] 92∧Blk W (w.heap.size+1+1) #[.bool true] 4∧Blk W G #[.int .i64 (-t),.int .i64 1] 3∧Below w.heap.size w W
theorem Qu.own (w:World) (t:Int) (B:Nat) (hB:w.heap.size≤B):OwnFrom B (fun (_:Unit) W=>Qu w t W):=by
 rintro s X Y row ⟨G,c,h1,h2,h3,h4,h5,h6⟩ hg hr;have hr':∀r,row=some r→∃o:Obj,X.heap[r]? = some o∧o.isCells=false:=fun r e=>(hr r e).2
 exact ⟨G,c,h1,h2,Blk.own _ _ _ () X Y row h3 hg hr',Blk.own _ _ _ () X Y row h4 hg hr',Blk.own _ _ _ () X Y row h5 hg hr',ownFrom_below (Ad _) hB () X Y row h6 hg hr⟩
theorem Qu.keep {w:World} {t:Int} {A B:World} (hX:Qu w t A) (hb:Below A.heap.size A B):Qu w t B:=by
 obtain ⟨G,c,h1,h2,h3,h4,h5,h6⟩:=hX;exact ⟨G,c,h1,h2,h3.keep hb,h4.keep hb,h5.keep hb,h6.trans (hb.mono h6.size)⟩
theorem pI.from {Nb B:Nat} {W W1:World} (h:pI Nb W W1):KeepsFrom B W W1 :=
 ((KeepsOthers.setCell W ⟨Nb,0,none⟩ (.int .i64 1)).from B).trans ⟨h.size,fun k o _ hk ho=>(h.block k (by simpa using (Ar.1 hk).1)).trans hk⟩
theorem Da {B:Nat} {A C:World} (h:Below A.heap.size A C):KeepsFrom B A C:=⟨h.size,fun k o _ hk _=>(h.block k (Ar.1 hk).1).trans hk⟩
def zZ (N:Nat) (w3:World) (f:Nat→Act) (a:Act) (W:World):Prop:=∃Lb,a=f Lb∧N≤Lb∧Blk W Lb #[.int .i64 1] 3∧Below N w3 W
theorem Ug {w wA:World} {t:Int} (bA:Below w.heap.size w wA) {v0 v1 v2:Value} (RA:Blk wA (w.heap.size+1) #[v0,v1] 92) (RB:Blk wA (w.heap.size+1+1) #[v2] 4) :
  Qu w t ((((wA.setCell ⟨w.heap.size+1,0,none⟩ (.int .i64 0)).setCell ⟨w.heap.size+1,1,none⟩ (.slice (some ⟨wA.heap.size,0,none⟩) 2 2)).setCell ⟨w.heap.size+1+1,0,none⟩ (.bool true)).alloc (.cells #[.int .i64 (-t),.int .i64 1] 3)):=by
 have hz:=bA.size;have z2:w.heap.size+1+1<wA.heap.size:=(Ar.1 RB).1;refine ⟨wA.heap.size,2,Ad _,hz,?_,?_,?_,?_⟩
 ·refine (Below.heap_alloc _ _ _ qI).trans ((Below.heap_setCell _ _ _ _ (by show w.heap.size+1≠w.heap.size+1+1;omega)).trans ?_);exact (RA.set 0 (.int .i64 0)).set 1 (.slice (some ⟨wA.heap.size,0,none⟩) 2 2)
 ·refine (Below.heap_alloc _ _ _ qI).trans ?_;exact Blk.set (W:=(wA.setCell ⟨w.heap.size+1,0,none⟩ (.int .i64 0)).setCell ⟨w.heap.size+1,1,none⟩ (.slice (some ⟨wA.heap.size,0,none⟩) 2 2)) (vs:=#[v2]) ((Below.heap_setCell _ _ _ _ (by show w.heap.size+1+1≠w.heap.size+1;omega)).trans ((Below.heap_setCell _ _ _ _ (by show w.heap.size+1+1≠w.heap.size+1;omega)).trans RB)) 0 (.bool true)
 ·have h:=World.alloc_heap_new (((wA.setCell ⟨w.heap.size+1,0,none⟩ (.int .i64 0)).setCell ⟨w.heap.size+1,1,none⟩ (.slice (some ⟨wA.heap.size,0,none⟩) 2 2)).setCell ⟨w.heap.size+1+1,0,none⟩ (.bool true)) (.cells #[.int .i64 (-t),.int .i64 1] 3);simpa [Blk] using h
 ·exact (((bA.setCell (p:=⟨w.heap.size+1,0,none⟩) qG _).setCell (p:=⟨w.heap.size+1,1,none⟩) qG _).setCell (p:=⟨w.heap.size+1+1,0,none⟩) qI _).alloc qI _
theorem Le (B:Nat) (w wA:World) (t:Int):KeepsFrom B wA ((((wA.setCell ⟨w.heap.size+1,0,none⟩ (.int .i64 0)).setCell ⟨w.heap.size+1,1,none⟩ (.slice (some ⟨wA.heap.size,0,none⟩) 2 2)).setCell ⟨w.heap.size+1+1,0,none⟩ (.bool true)).alloc (.cells #[.int .i64 (-t),.int .i64 1] 3)) :=
 ((((KeepsOthers.setCell _ _ _).trans (KeepsOthers.setCell _ _ _)).trans (KeepsOthers.setCell _ _ _)).trans (KeepsOthers.alloc _ _)).from B
theorem lZ (w:World) (a:Option Addr) (n c:Nat) (f:Nat→Int) (h:RdZ w a n f) (hn:1≤n) (hn':n≤1001) (h0:f 0=1∨f 0=-1) (hl:f (n-1)=1∨f (n-1)=-1)
  (k1:Zo f n 1 1) (k2:Zo f n (-1) 1) (t:Int) (ht:(t=1∧(nvZ f n 1 1 n).1=0)∨(t=-1∧(nvZ f n 1 1 n).1≠0∧(nvZ f n (-1) 1 n).1=0)) :
  Calls Tryz.prog 113 #[.agg #[.int .i64 0,.slice a n c]] w (wY w t):=by
 have HB:=Ac w.heap.size w;have K:=Ae (Ay (Ay k1 k2) ht);clear k1 k2 ht;refine (callsIn_wide (n:=6)).1 ?_;refine callsIn_of_wp_marks Tryz.func113 rfl trivial ?_ rfl;refine wpIn_wide.2 ?_;simp only [Tryz.ntmps113,List.size_toArray,List.length_cons,List.length_nil,Nat.reduceAdd,Nat.reduceSub,Array.replicate_succ,Array.replicate_zero,List.push_toArray,List.append_toArray,List.nil_append,List.cons_append];obtain ⟨g,rfl,hc⟩:=h.ex;have hc0:=hc 0 qA;have hcl:=hc (n-1) qA;generalize hz0:f 0=z0 at hc0 h0;have hne:(z0==0)=false:=by rw [beq_eq_false_iff_ne];omega
 have hn0:(0:Int)<(n:Int):=by omega
 have hgs:g<w.heap.size:=Aa _ _ hc0;go_upto_region 1 with fail
 refine By ?_;intro w1 hw1;have b1:Below w.heap.size w w1:=by rw [hw1];go_grown
 have q0:w1.cell? ⟨w.heap.size,0,none⟩=some (.int .i64 0):=by rw [hw1];simp [go_sem]
 have q1:w1.cell? ⟨w.heap.size,1,none⟩=some (.slice (some ⟨g,0,none⟩) n c):=by rw [hw1];simp [go_sem]
 have R0:Blk w1 (w.heap.size+1) #[.int .i64 0,.slice none 0 0] 92:=by
  rw [hw1];refine (Below.heap_alloc _ _ _ qG).trans ?_;have h:=World.alloc_heap_new (w.alloc (.cells #[.int .i64 0,.slice (some ⟨g,0,none⟩) n c] 92)) (.cells #[.int .i64 0,.slice none 0 0] 92);rwa [Aj] at h
 have R1:Blk w1 (w.heap.size+1+1) #[.bool false] 4:=by
  rw [hw1];have h:=World.alloc_heap_new ((w.alloc (.cells #[.int .i64 0,.slice (some ⟨g,0,none⟩) n c] 92)).alloc (.cells #[.int .i64 0,.slice none 0 0] 92)) (.cells #[.bool false] 4);rwa [Aj,Aj] at h
 replace h:=h.keep b1;replace hc0:=Bb b1 hc0;replace hcl:=Bb b1 hcl;have z1:w.heap.size+1+1+1=w1.heap.size:=by rw [hw1];simp [go_sem]
 clear hw1 hc;obtain ⟨m,rfl⟩:∃m,n=m+1:=⟨n-1,by omega⟩;rw [Nat.add_sub_cancel] at hcl hl;generalize hzl:f m=zl at hcl hl;have hgs1:g<w1.heap.size:=by omega
 have hm0:(0:Int)≤(m:Int):=by omega
 have hm1:(m:Int)<((m+1:Nat):Int):=by omega
 have hm2:(m:Int)<(m:Int)+1:=by omega
 go_upto_region 3 with fail
 go_region_held3 (fun W=>W.cell? ⟨w.heap.size,0,none⟩=some (.int .i64 0)∧W.cell? ⟨w.heap.size,1,none⟩=some (.slice (some ⟨g,0,none⟩) (m+1) c)∧W.cell? ⟨g,m,none⟩=some (.int .i64 zl)) (first|((try dsimp only);(repeat' apply Ay);all_goals (first|(with_reducible assumption)|(go_keep;done)|(simp [*,go_sem];done)))) (first
  | (go_at_call 112;(with_reducible refine (W9 _ _ _ _ _ qA).mono ?_);rintro e w2 ⟨rfl,hb⟩;have hb2:Below w1.heap.size w1 w2:=(by first|exact hb|exact Al qF (hb.mono qB));have z2:=hb2.size;replace q0:=Bb hb2 q0;replace q1:=Bb hb2 q1;replace hcl:=Bb hb2 hcl)
  | (go_at_call 180;(with_reducible refine (cW _ _).mono ?_);rintro e w3 ⟨rfl,hw3⟩;have hb3:Below w2.heap.size w2 w3:=(by rw [hw3];go_grown);have z3:=hb3.size;replace q0:=Bb hb3 q0;replace q1:=Bb hb3 q1;replace hcl:=Bb hb3 hcl;have d0:w3.cell? ⟨w2.heap.size,0,none⟩=some (.int .i64 zl):=(by rw [hw3];simp [go_sem]);have df:w3.frozen? ⟨w2.heap.size,0,none⟩=false:=(by rw [hw3];simp [go_sem]);clear hw3))
 go_wp2_with fail;have b3:=(b1.trans (hb2.mono b1.size)).trans (hb3.mono qA);replace R0:=(R0.keep hb2).keep hb3;replace R1:=(R1.keep hb2).keep hb3;replace h:=(h.keep hb2).keep hb3;replace hc0:=Bb hb3 (Bb hb2 hc0);refine (wpIn_wide (n:=6)).1 ?_;refine Ln (F:=Fence.wide) rfl qA (gf:=247) (lb:=#[.pointer (some ⟨w2.heap.size,0,none⟩)]) rfl trivial (enters_of Tryz.func247 qC rfl)
  (Tf 5 qA w3 w2.heap.size zl hl d0 df) rfl (fun W W1 hT=>hT.from)
  (zZ w2.heap.size w3 (fun Lb=>{ tmps:=#[Value.agg #[Value.int IntKind.i64 0,Value.slice (some ⟨g,0,none⟩) (m+1) c],Value.pointer (some ⟨w.heap.size,0,none⟩),Value.pointer (some ⟨w.heap.size+1,0,none⟩),Value.pointer (some ⟨w.heap.size+1+1,0,none⟩),Value.pointer (some ⟨Lb,0,none⟩),undef,undef,undef,Value.pointer (some ⟨w.heap.size,1,none⟩),Value.slice (some ⟨g,0,none⟩) (m+1) c,Value.pointer (some ⟨g,0,none⟩),Value.int IntKind.i64 z0,Value.bool false,undef,undef,undef,undef,Value.pointer (some ⟨w.heap.size,1,none⟩),Value.slice (some ⟨g,0,none⟩) (m+1) c,Value.agg #[Value.int IntKind.i64 0,Value.slice (some ⟨g,0,none⟩) (m+1) c],Value.int IntKind.i64 (m:Int),Value.pointer (some ⟨g,m,none⟩),Value.int IntKind.i64 zl,Value.func (Fn.func 247) #[] #[Value.pointer (some ⟨w2.heap.size,0,none⟩)],Value.int IntKind.i64 1,undef,undef,undef,undef,undef,undef,undef,undef,undef,undef,undef,undef,undef,undef,undef,undef,undef,undef,undef,undef,undef,undef,undef,undef,undef,undef],defers:=[] })) (Qu w t) ?ax (Qu.own w t _ b3.size) (fun A B hb hX=>hX.keep hb) ?assign ?body ?stop
 case assign =>
  intro l W W1 K hW hT hK;obtain ⟨i0,hi,hz0,hz1,hz2⟩:=info_parts bH
  gi_wp2
  have hbW:Below w2.heap.size w3 W:=hW.mono z3;have hbT:Below w2.heap.size w3 W1:=(hbW.setCell (p:=⟨w2.heap.size,0,none⟩) (Ad _) (.int .i64 1)).trans (Below.mono hT (by have:=hW.size;omega));have hN:w2.heap.size≤W1.heap.size:=by have:=hbT.size;omega
  have k1:Blk (W1.alloc (.cells #[.int .i64 1] 3)) W1.heap.size #[.int .i64 1] 3:=World.alloc_heap_new _ _;have k2:=hbT.alloc hN (.cells #[.int .i64 1] 3);have kf:KeepsFrom w3.heap.size W1 (W1.alloc (.cells #[.int .i64 1] 3)):=(KeepsOthers.alloc _ _).from _;clear hbW hbT hT;generalize W1.alloc (.cells #[.int .i64 1] 3)=W2 at *;generalize W1.heap.size=Lb at *;exact hK _ W2 kf ⟨Lb,rfl,hN,k1,k2⟩
 case ax =>
  rintro a' s X Y row ⟨Lb,h1,h2,h3,h4⟩ hg hr;exact ⟨Lb,h1,h2,Blk.own _ _ _ () X Y row h3 hg (fun r e=>(hr r e).2),ownFrom_below z3 z3 () X Y row h4 hg hr⟩
 case body =>
  rintro l a' W hl' ⟨r,hr⟩ ⟨Lb,rfl,hLb,hLB,hB⟩;have hz1:g<w2.heap.size:=by omega
  have p0:W.cell? ⟨w.heap.size,0,none⟩=some (.int .i64 0):=(Af (hB.block w.heap.size qA)).trans q0;have p1:W.cell? ⟨w.heap.size,1,none⟩=some (.slice (some ⟨g,0,none⟩) (m+1) c):=(Af (hB.block w.heap.size qA)).trans q1;have pc:W.cell? ⟨g,0,none⟩=some (.int .i64 z0):=(Af (hB.block g hz1)).trans hc0
  gi_wp2
  refine ⟨trivial,(CallsIn.inRound l (callsIn_wide.2 (cW W z0))).mono ?_⟩;rintro e w5 ⟨rfl,hw5⟩;have b5:Below W.heap.size W w5:=by rw [hw5];exact Below.alloc (Ac _ _) (Ad _) _
  have e0:w5.cell? ⟨W.heap.size,0,none⟩=some (.int .i64 z0):=by rw [hw5];simp [go_sem]
  have ef:w5.frozen? ⟨W.heap.size,0,none⟩=false:=by rw [hw5];simp [go_sem]
  have k5:KeepsFrom w3.heap.size W w5:=by rw [hw5];exact (KeepsOthers.alloc _ _).from _
  have hr5:=k5.same l _ hl' hr rfl;have hLB5:=hLB.keep b5;have hzW:=hB.size;have hz5:=b5.size;have hB5:Below w2.heap.size w3 w5:=hB.trans (b5.mono qA);clear hw5
  gi_wp2
  refine Kc (n:=4) (F:=Fence.wide.inRound l) (l₀:=l) (r₀:=r) rfl hr5 qA (gf:=247) (lb:=#[.pointer (some ⟨W.heap.size,0,none⟩)]) rfl trivial (enters_of Tryz.func247 qC rfl)
   (Tf 3 qA w5 W.heap.size z0 h0 e0 ef) rfl (fun V V1 hT=>hT.from)
   (fun a' V=>(a'={ tmps:=#[Value.agg #[Value.int IntKind.i64 0,Value.slice (some ⟨g,0,none⟩) (m+1) c],Value.pointer (some ⟨w.heap.size,0,none⟩),Value.pointer (some ⟨w.heap.size+1,0,none⟩),Value.pointer (some ⟨w.heap.size+1+1,0,none⟩),Value.pointer (some ⟨Lb,0,none⟩),Value.int IntKind.i64 1,undef,undef,Value.pointer (some ⟨w.heap.size,1,none⟩),Value.slice (some ⟨g,0,none⟩) (m+1) c,Value.pointer (some ⟨g,0,none⟩),Value.int IntKind.i64 z0,Value.bool false,undef,undef,undef,undef,Value.pointer (some ⟨w.heap.size,1,none⟩),Value.slice (some ⟨g,0,none⟩) (m+1) c,Value.agg #[Value.int IntKind.i64 0,Value.slice (some ⟨g,0,none⟩) (m+1) c],Value.int IntKind.i64 (m:Int),Value.pointer (some ⟨g,m,none⟩),Value.int IntKind.i64 zl,Value.func (Fn.func 247) #[] #[Value.pointer (some ⟨w2.heap.size,0,none⟩)],Value.int IntKind.i64 1,Value.pointer (some ⟨w.heap.size,1,none⟩),Value.slice (some ⟨g,0,none⟩) (m+1) c,Value.pointer (some ⟨g,0,none⟩),Value.int IntKind.i64 z0,Value.func (Fn.func 247) #[] #[Value.pointer (some ⟨W.heap.size,0,none⟩)],Value.int IntKind.i64 1,undef,undef,undef,undef,undef,undef,undef,undef,undef,undef,undef,undef,undef,undef,undef,undef,undef,undef,undef,undef],defers:=[] }∧Blk V Lb #[.int .i64 1] 3)∧Below w2.heap.size w3 V∧KeepsFrom w3.heap.size W V)
   (fun V=>Qu w t V∧KeepsFrom w3.heap.size W V) ?ax2 ?ix2 ?ib2 ?assign2 ?body2 ?stop2
  case assign2 =>
   intro l2 V V1 K hV hT hK
   gi_wp2
   have hLW:Lb<W.heap.size:=(Ar.1 hLB).1;have bV:Below w2.heap.size w3 V:=hB5.trans (hV.mono qA);have kV:=k5.trans (Da (B:=w3.heap.size) hV);have xV:Blk V Lb #[.int .i64 1] 3:=hLB5.keep hV;have hVs:=hV.size;have yV:Blk (V.setCell ⟨W.heap.size,0,none⟩ (.int .i64 1)) Lb #[.int .i64 1] 3:=(Below.heap_setCell _ _ _ _ (by show Lb≠W.heap.size;omega)).trans xV;exact hK _ V1 (KeepsFrom.refl _ _) ⟨⟨rfl,(hT.block Lb qA).trans yV⟩,(bV.setCell (p:=⟨W.heap.size,0,none⟩) (by show w2.heap.size≤W.heap.size;omega) (.int .i64 1)).trans (Below.mono hT qA),kV.trans hT.from⟩
  case ax2 =>
   rintro a' s X Y row ⟨⟨h1,h2⟩,h3,h4⟩ hg hr;exact ⟨⟨h1,Blk.own _ _ _ () X Y row h2 hg (fun r e=>(hr r e).2)⟩,ownFrom_below z3 qA () X Y row h3 hg hr,ownFrom_keepsFrom qA () X Y row h4 hg hr⟩
  case ix2 =>
   rintro s X Y row ⟨h1,h2⟩ hg hr;exact ⟨Qu.own w t _ (by have:=b3.size;omega) () X Y row h1 hg hr,ownFrom_keepsFrom qA () X Y row h2 hg hr⟩
  case ib2 =>
   rintro A B hb ⟨h1,h2⟩;exact ⟨h1.keep hb,h2.trans (Da hb)⟩
  case stop2 =>
   rintro V ⟨h1,h2⟩
   gi_wp2
   exact ⟨rfl,h2,h1⟩
  case body2 =>
   rintro l2 a' V hl2 ⟨r2,hr2⟩ ⟨⟨rfl,hLBv⟩,hBv,hKv⟩;have v0:V.cell? ⟨w.heap.size,0,none⟩=some (.int .i64 0):=(Af (hBv.block w.heap.size qA)).trans q0;have v1:V.cell? ⟨w.heap.size,1,none⟩=some (.slice (some ⟨g,0,none⟩) (m+1) c):=(Af (hBv.block w.heap.size qA)).trans q1;have vL:=hLBv.cell 0 _ rfl;have hV:RdZ V (some ⟨g,0,none⟩) (m+1) f:=by
    obtain ⟨g',e',hh⟩:=h.ex
    cases e'
    exact ⟨g,rfl,fun k hk=>(Af (hBv.block g hz1)).trans (hh k hk)⟩
   have RA:Blk V (w.heap.size+1) #[.int .i64 0,.slice none 0 0] 92:=(hBv.block _ qA).trans R0;have RB:Blk V (w.heap.size+1+1) #[.bool false] 4:=(hBv.block _ qA).trans R1;have KK:=K;have ix0:(Instr.index 227 (.agg #[.int .i64 1,.int .i64 (-1)]) (.int .i64 0)).run Tryz.prog=fun W=>.ok (.int .i64 1) W:=by funext W;exact lin0 W
   have ix1:(Instr.index 227 (.agg #[.int .i64 1,.int .i64 (-1)]) (.int .i64 1)).run Tryz.prog=fun W=>.ok (.int .i64 (-1)) W:=by funext W;exact lin1 W
   gi_wp2
   refine wpIn_loop_rounds 2 ?_;rw [roundsIn_succ]
   gi_wp2
   gi_wp2
   refine ⟨trivial,(CallsIn.inRound l2 (CallsIn.inRound l (callsIn_wide.2 (Xj V _ (m+1) c f hV hn' 1 1 K.out.1.1)))).mono ?_⟩;rintro e wA ⟨rfl,hbA⟩;have a0:=Bb hbA v0;have a1:=Bb hbA v1;have aL:=Bb hbA vL;have RA1:=RA.keep hbA;have RB1:=RB.keep hbA;have hVA:=hV.keep hbA;have bA:=hBv.trans (hbA.mono (by have:=hBv.size;omega));have kA:=hKv.trans (Da (B:=w3.heap.size) hbA);have ra0:=RA1.cell 0 _ rfl;have ra1:=RA1.cell 1 _ rfl;have rf0:=RA1.frozen 0;have rf1:=RA1.frozen 1;have rb0:=RB1.cell 0 _ rfl;have rbf:=RB1.frozen 0;have zA1:w.heap.size+1<wA.heap.size:=(Ar.1 RA1).1;have zA2:w.heap.size+1+1<wA.heap.size:=(Ar.1 RB1).1;have zA3:w.heap.size+1<wA.heap.size+1:=by omega
   have zA4:w.heap.size+1+1<wA.heap.size+1:=by omega
   have bW:Below w.heap.size w wA:=b3.trans (bA.mono qA);have hKt:=K.out.2;rcases hKt with ⟨rfl,hn1⟩|⟨rfl,hn1,hn2⟩
   ·rw [hn1]
    gi_wp2
    exact ⟨rfl,(Da hbA).trans (Le _ w wA 1),Ug bW RA1 RB1,kA.trans (Le _ w wA 1)⟩
   ·have hnf:((nvZ f (m+1) 1 1 (m+1)).1==0)=false:=by rw [beq_eq_false_iff_ne];exact hn1
    rw [hnf]
    gi_wp2
    rw [roundsIn_succ]
    gi_wp2
    refine ⟨trivial,(CallsIn.inRound l2 (CallsIn.inRound l (callsIn_wide.2 (Xj wA _ (m+1) c f hVA hn' (-1) 1 K.out.1.2)))).mono ?_⟩;rintro e wB ⟨rfl,hbB⟩;have c0:=Bb hbB a0;have c1:=Bb hbB a1;have cL:=Bb hbB aL;clear ra0 ra1 rf0 rf1 rb0 rbf zA1 zA2 zA3 zA4;have RA2:=RA1.keep hbB;have RB2:=RB1.keep hbB;have ra0:=RA2.cell 0 _ rfl;have ra1:=RA2.cell 1 _ rfl;have rf0:=RA2.frozen 0;have rf1:=RA2.frozen 1;have rb0:=RB2.cell 0 _ rfl;have rbf:=RB2.frozen 0;have zB1:w.heap.size+1<wB.heap.size:=(Ar.1 RA2).1;have zB2:w.heap.size+1+1<wB.heap.size:=(Ar.1 RB2).1;have zB3:w.heap.size+1<wB.heap.size+1:=by omega
    have zB4:w.heap.size+1+1<wB.heap.size+1:=by omega
    rw [hn2]
    gi_wp2
    exact ⟨rfl,((Da hbA).trans (Da hbB)).trans (Le _ w wB (-1)),Ug (bW.trans (hbB.mono bW.size)) RA2 RB2,(kA.trans (Da hbB)).trans (Le _ w wB (-1))⟩
 case stop =>
  rintro D V hD ⟨G,c',h1,h2,h3,h4,h5,h6⟩ hd;refine (wpIn_wide (n:=6)).2 ?_;go_wp2_with fail;refine ⟨by simp,.inl ⟨_,_,rfl,run_takeDeferred hd,?_⟩⟩;have gX:=grownBy_putObj' V D (.deferred none);have hrow:∀r,some D=some r→w.heap.size≤r∧∃o:Obj,V.heap[r]? = some o∧o.isCells=false:=fun r e=>by cases e;exact ⟨by have:=b3.size;omega,_,hd,rfl⟩
  obtain ⟨G,c',h1,h2,h3,h4,h5,h6⟩:=Qu.own w t w.heap.size (Ad _) () _ _ _ ⟨G,c',h1,h2,h3,h4,h5,h6⟩ gX hrow;generalize V.putObj D (.deferred none)=X at *;have y0:=h3.cell 0 _ rfl;have y1:=h3.cell 1 _ rfl;have y2:=h4.cell 0 _ rfl;refine ⟨.tuple #[.agg #[.int .i64 0,.slice (some ⟨G,0,none⟩) 2 c'],.bool true],?_,?_⟩
  ·simp [results,Tryz.results113,go_sem,y0,y1,y2]
  ·exact ⟨G,c',h1,h2,rfl,h5.cell 0 _ rfl,h5.cell 1 _ rfl,h6⟩
theorem Bj {w:World} {b:Nat} (h:w.heap.size=b) (vs:Array Value) (t:TypeId):Blk (w.alloc (.cells vs t)) b vs t:=by subst h;exact World.alloc_heap_new _ _
theorem Blk.lt {W:World} {b:Nat} {vs:Array Value} {t:TypeId} (h:Blk W b vs t):b<W.heap.size:=(Ar.1 h).1
theorem Blk.alloc {W:World} {b:Nat} {vs:Array Value} {t:TypeId} (h:Blk W b vs t) (o:Obj):Blk (W.alloc o) b vs t:=h.keep (Below.alloc (Ac _ _) (Ad _) _)
theorem Blk.far {W:World} {b:Nat} {vs:Array Value} {t:TypeId} (h:Blk W b vs t) (p:Addr) (u:Value) (hp:b≠p.block):Blk (W.setCell p u) b vs t:=(Below.heap_setCell _ _ _ _ hp).trans h
theorem Blk.row {W W':World} {b:Nat} {vs:Array Value} {t:TypeId} {row:Option Nat} (h:Blk W b vs t) (hg:W.grownBy W' row) (hr:some b≠row):Blk W' b vs t:=(hg.block b h.lt hr).trans h
theorem Kf {w:World} {Br R o n s:Nat} {e:TypeId} {v u:Value} {xs:List Value} (h:w.ownsRow Br e s v n xs) (hR:R<Br):(w.setCell ⟨R,o,none⟩ u).ownsRow Br e s v n xs:=by
 refine ⟨h.1,h.2.imp id fun⟨g,cap,cur,h1,h2,h3,h4⟩=>⟨g,cap,cur,h1,h2,?_,h4⟩⟩;rw [Below.heap_setCell w _ u g (by show g≠R;omega)];exact h3
theorem Nh {w:World} {B:Nat} {e:TypeId} {s:Nat} {v:Value} {n:Nat} {xs:List Value} (h:w.ownsRow B e s v n xs):∃a c,v=.slice a n c:=by
 rcases h.2 with ⟨rfl,rfl⟩|⟨g,cap,cur,rfl,_⟩
 ·exact ⟨_,_,rfl⟩
 ·exact ⟨_,_,rfl⟩
theorem Vj {W:World} {b:Nat} (h:∃cur,W.heap[b]? = some (.cells cur 97 (0,0))):¬Sl W b:=by
 obtain ⟨cur,h⟩:=h;rintro (⟨c,e⟩|⟨c,e⟩)<;>(rw [h] at e;simp at e)
theorem Kv {w:World} {B:Nat} {e:TypeId} {s:Nat} {v:Value} {n:Nat} {xs:List Value} (h:w.ownsRow B e s v n xs) {g:Nat} (hg:v.ownBlock=some g):∃cur,w.heap[g]? = some (.cells cur e (0,0)):=by
 rcases h.2 with ⟨rfl,_⟩|⟨g',cap,cur,rfl,_,h3,_⟩
 ·cases hg
 ·simp only [Value.ownBlock,Option.some.injEq] at hg;subst hg;exact ⟨cur,h3⟩
theorem xU (w:World) (t:Tm) (x:PT) (hrt:Eb w t) (hti:Es t x) (hcx:CW x.2) (q1:t.n1≤1000000000) (q2:t.n2≤1000000000) :
  Calls Tryz.prog 38 #[t.val] w (Q0 w (0,Ct x.2 (1,1))):=by
 have hx:=hti.frac hrt hcx;have HT:=Ae hti;have HRT:=Ae hrt;clear hti hrt;have HB:=Ac w.heap.size w;go_enter Tryz.func38,Tryz.ntmps38;go_wp2_with fail;go_region_held3 (fun W=>W.cell? ⟨w.heap.size,0,none⟩=some (.bool t.g1)∧W.cell? ⟨w.heap.size,1,none⟩=some (.slice t.a1 t.n1 t.c1)∧W.cell? ⟨w.heap.size,2,none⟩=some (.bool t.g2)∧W.cell? ⟨w.heap.size,3,none⟩=some (.slice t.a2 t.n2 t.c2)∧W.cell? ⟨w.heap.size,4,none⟩=some (.int .u16 t.m0)∧W.cell? ⟨w.heap.size,5,none⟩=some (.int .u16 t.m1)∧W.cell? ⟨w.heap.size,6,none⟩=some (.int .u16 t.m2)∧W.cell? ⟨w.heap.size,7,none⟩=some (.int .u16 t.m3)) (first|((try dsimp only);(repeat' apply Ay);all_goals (first|(with_reducible assumption)|(go_keep;done)|(simp [*,go_sem];done)))) (first
  | (go_at_call 10;(with_reducible refine (Fp _ 1 qA qA).mono ?_);rintro e w1 ⟨go1,ao1,no1,co1,go2,ao2,no2,co2,rfl,hone,hfo1,hfo2,_,hb⟩;obtain ⟨hc,hf⟩:=Bl hb;have hz:=hb.size;(try simp only [Aj,Ak,Am] at hz);replace HB:=zI w hb;obtain ⟨s0_0,s0_1⟩:=qZ hc (w.heap.size) (.bool t.g1) (.slice t.a1 t.n1 t.c1);obtain ⟨s0_2,s0_3⟩:=zD hc (w.heap.size) (.bool t.g2) (.slice t.a2 t.n2 t.c2);have s0_4:=qX hc (w.heap.size) 4 (.int .u16 t.m0);have s0_5:=qX hc (w.heap.size) 5 (.int .u16 t.m1);have s0_6:=qX hc (w.heap.size) 6 (.int .u16 t.m2);have s0_7:=qX hc (w.heap.size) 7 (.int .u16 t.m3);obtain ⟨s1_0,s1_1⟩:=zE hc (w.heap.size+1);obtain ⟨s1_2,s1_3⟩:=zD hc (w.heap.size+1) (.bool false) (.slice none 0 0);have s1_4:=qX hc (w.heap.size+1) 4 (.int .u16 0);have s1_5:=qX hc (w.heap.size+1) 5 (.int .u16 0);have s1_6:=qX hc (w.heap.size+1) 6 (.int .u16 0);have s1_7:=qX hc (w.heap.size+1) 7 (.int .u16 0);obtain ⟨f1_0,f1_1⟩:=zF hf (w.heap.size+1);obtain ⟨f1_2,f1_3⟩:=zG hf (w.heap.size+1);have f1_4:=qY hf (w.heap.size+1) 4;have f1_5:=qY hf (w.heap.size+1) 5;have f1_6:=qY hf (w.heap.size+1) 6;have f1_7:=qY hf (w.heap.size+1) 7;have e11:=Cp hone.top qJ;have e12:=Cp hone.low qJ)
  | (go_at_call 39;(with_reducible refine (Ie _ _ _ _ _ _ _ _ _ _ _ (hx.keep qF) _ _ _ _ _ _ _ _ _ _ (hone.keep qF) q1 q2 qA qA).mono ?_);rintro e w4 ⟨gm1,am1,nm1,cm1,gm2,am2,nm2,cm2,rfl,hmul,hfm1,hfm2,hap,hb⟩;obtain ⟨hc,hf⟩:=Bl hb;have hz:=hb.size;(try simp only [Aj,Ak,Am] at hz);replace HB:=zI w hb;obtain ⟨s0_0,s0_1⟩:=qZ hc (w.heap.size) (.bool t.g1) (.slice t.a1 t.n1 t.c1);obtain ⟨s0_2,s0_3⟩:=zD hc (w.heap.size) (.bool t.g2) (.slice t.a2 t.n2 t.c2);have s0_4:=qX hc (w.heap.size) 4 (.int .u16 t.m0);have s0_5:=qX hc (w.heap.size) 5 (.int .u16 t.m1);have s0_6:=qX hc (w.heap.size) 6 (.int .u16 t.m2);have s0_7:=qX hc (w.heap.size) 7 (.int .u16 t.m3);obtain ⟨s1_0,s1_1⟩:=zE hc (w.heap.size+1);obtain ⟨s1_2,s1_3⟩:=zD hc (w.heap.size+1) (.bool false) (.slice none 0 0);have s1_4:=qX hc (w.heap.size+1) 4 (.int .u16 0);have s1_5:=qX hc (w.heap.size+1) 5 (.int .u16 0);have s1_6:=qX hc (w.heap.size+1) 6 (.int .u16 0);have s1_7:=qX hc (w.heap.size+1) 7 (.int .u16 0);obtain ⟨f1_0,f1_1⟩:=zF hf (w.heap.size+1);obtain ⟨f1_2,f1_3⟩:=zG hf (w.heap.size+1);have f1_4:=qY hf (w.heap.size+1) 4;have f1_5:=qY hf (w.heap.size+1) 5;have f1_6:=qY hf (w.heap.size+1) 6;have f1_7:=qY hf (w.heap.size+1) 7;skip))
 go_wp2_with fail;have fe1:=hfm1.mono (show w.heap.size+1+1≤_ by go_size);have fe2:=hfm2.mono (show w.heap.size+1+1≤_ by go_size);have u:w.heap.size+1<w.heap.size+1+1:=by omega
 have hk1:w.heap.size+1<w4.heap.size:=by have:=hz;omega
 refine bodyPost_ret (v:=.agg #[.bool gm1,.slice am1 nm1 cm1,.bool gm2,.slice am2 nm2 cm2,.int .u16 0,.int .u16 0,.int .u16 0,.int .u16 0]) (by simp [results,Tryz.results38,go_sem,hk1,s1_0,s1_1,s1_2,s1_3,s1_4,s1_5,s1_6,s1_7]) rfl ?_;have hF:Bi w4 gm1 am1 nm1 cm1 (Ct x.2 (1,1)).1 gm2 am2 nm2 cm2 (Ct x.2 (1,1)).2:=hmul;refine ⟨⟨gm1,am1,nm1,cm1,dg (Ct x.2 (1,1)).1.natAbs,gm2,am2,nm2,cm2,dg (Ct x.2 (1,1)).2.natAbs,0,0,0,0⟩,rfl,⟨hF.top.neg,rfl,hF.low.neg,rfl,by simp [Ch]⟩,⟨?_,?_,by show (0:Nat)<65536;omega,by show (0:Nat)<65536;omega,by show (0:Nat)<65536;omega,by show (0:Nat)<65536;omega⟩,((fe1.set4 _ _ _ _ _ _ _ _ u u u u).set4 _ _ _ _ _ _ _ _ u u u u).mono qA,((fe2.set4 _ _ _ _ _ _ _ _ u u u u).set4 _ _ _ _ _ _ _ _ u u u u).mono qA,hap,by go_grown⟩
 ·exact Bg.rd (g:=gm1) (z:=(Ct x.2 (1,1)).1) ((hF.top.set4 fe1 _ _ _ _ _ _ _ _ u u u u).set4 (fe1.set4 _ _ _ _ _ _ _ _ u u u u) _ _ _ _ _ _ _ _ u u u u)
 ·exact Bg.rd (g:=gm2) (z:=(Ct x.2 (1,1)).2) ((hF.low.set4 fe2 _ _ _ _ _ _ _ _ u u u u).set4 (fe2.set4 _ _ _ _ _ _ _ _ u u u u) _ _ _ _ _ _ _ _ u u u u)
def Ju (y:PC):List PT:=Kk [(0,Ct y (1,1))]
theorem Wf (w:World) (g1:Bool) (a1:Option Addr) (n1 c1:Nat) (g2:Bool) (a2:Option Addr) (n2 c2:Nat) (y:PC) (hy:Bi w g1 a1 n1 c1 y.1 g2 a2 n2 c2 y.2) (q1:n1≤1000000) (q2:n2≤1000000) (hw:∀k,wtk [(0,Ct y (1,1))] k≤400000) :
  Calls Tryz.prog 9 #[.agg #[.bool g1,.slice a1 n1 c1,.bool g2,.slice a2 n2 c2]] w (Cj w (Ju y)):=by
 have HY:=Ae hy;have HW:=Ae hw;have HB:=Ac w.heap.size w;clear hy hw;go_enter Tryz.func9,Tryz.ntmps9;go_wp2_with fail;refine Be ?_;intro w0 hw0;have b0:Below w.heap.size w w0:=by rw [hw0];go_grown
 have T0:Blk w0 (w.heap.size+1) #[.bool g1,.slice a1 n1 c1,.bool g2,.slice a2 n2 c2,.int .u16 0,.int .u16 0,.int .u16 0,.int .u16 0] 79:=by rw [hw0];exact Bj qG _ _
 clear hw0;have hF0:=HY.out.keep b0;have hrt:Eb w0 ⟨g1,a1,n1,c1,dg y.1.natAbs,g2,a2,n2,c2,dg y.2.natAbs,0,0,0,0⟩:=⟨hF0.top.rd,hF0.low.rd,by show (0:Nat)<65536;omega,by show (0:Nat)<65536;omega,by show (0:Nat)<65536;omega,by show (0:Nat)<65536;omega⟩;have hti:Es ⟨g1,a1,n1,c1,dg y.1.natAbs,g2,a2,n2,c2,dg y.2.natAbs,0,0,0,0⟩ ((0,y):PT):=⟨hF0.top.neg,rfl,hF0.low.neg,rfl,by simp [Ch]⟩;have hrd:RdP w0 (some ⟨w.heap.size+1,0,none⟩) 1 1 (fun _=>⟨g1,a1,n1,c1,dg y.1.natAbs,g2,a2,n2,c2,dg y.2.natAbs,0,0,0,0⟩):=⟨Ad _,by omega,by omega,fun i hi=>hrt,.inr ⟨_,_,rfl,fun i hi=>by
  obtain rfl:i=0:=by omega
  exact ⟨T0.cell 0 _ rfl,T0.cell 1 _ rfl,T0.cell 2 _ rfl,T0.cell 3 _ rfl,T0.cell 4 _ rfl,T0.cell 5 _ rfl,T0.cell 6 _ rfl,T0.cell 7 _ rfl⟩⟩⟩
 have hcy:CW y:=⟨hF0.pos,hF0.red⟩;refine (Uy w0 _ 1 1 _ hrd [((0,y):PT)] rfl 38 #[] (fun t=>(0,Ct t.2 (1,1))) (Ip Tryz.func38 qC rfl) (Ae fun W hW k x hx=>?_) (fun x hx=>?_) (fun x hx=>by show (0:Nat)<_;omega) HW.out qA).mono ?_
 ·have hx0:x=(0,y):=by
   rcases k with _|k
   ·simpa using hx.symm
   ·simp at hx
  subst hx0;exact xU W _ _ (hrt.keep hW) hti hcy (by show n1≤_;omega) (by show n2≤_;omega)
 ·simp only [Ao] at hx;subst hx;exact hcy.mul ⟨by decide,by decide⟩
 rintro e w1 ⟨a3,n3,c3,rfl,P3,O3,hb3⟩;go_wp2_with fail;go_ret;exact ⟨a3,n3,c3,rfl,P3.mono b0.size,O3.mono b0.size,b0.trans (hb3.mono b0.size)⟩
end Go.Proofs.YtnnhcbeiogaknaaGreatDoor
end
