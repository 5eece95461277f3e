/- Package factors: linear, where the first and the last number are 1 or -1. Boxes and rows: what is kept. -/
import Derived.Test.YtnnhcbeiogaknaaGreatDoorQV35
set_option linter.unusedSimpArgs false
set_option linter.unusedVariables false
set_option maxRecDepth 100000
set_option maxHeartbeats 4000000
section
namespace Go.Proofs.YtnnhcbeiogaknaaGreatDoor
open Go.RowKit
attribute [local go_sem] Oper.semAt_some
theorem lin0 (W:World):(Instr.index 227 (.agg #[.int .i64 1,.int .i64 (-1)]) (.int .i64 0)).run Tryz.prog W=.ok (.int .i64 1) W:=by kernel_rfl
theorem lin1 (W:World):(Instr.index 227 (.agg #[.int .i64 1,.int .i64 (-1)]) (.int .i64 1)).run Tryz.prog W=.ok (.int .i64 (-1)) W:=by kernel_rfl
def Ab0 (w:World) (t:Int) (e:Ending) (w':World):Prop:=∃G c,2≤c∧w.heap.size≤G∧e=.returned (.tuple #[.agg #[.int .i64 0,.slice (some ⟨G,0,none⟩) 2 c],.bool true])∧w'.cell? ⟨G,0,none⟩=some (.int .i64 (-t))∧w'.cell? ⟨G,1,none⟩=some (.int .i64 1)∧Below w.heap.size w w'
theorem Blk.own (b:Nat) (vs:Array Value) (t:TypeId):Own (fun (_:Unit) W=>Blk W b vs t):=fun s X Y row hs hg hrow =>
 (hg.block b (Ar.1 hs).1 (fun e'=>by obtain ⟨o,ho,hc⟩:=hrow b e'.symm;rw [show X.heap[b]? = _ from hs] at ho;cases ho;cases hc)).trans hs
theorem Yq (w:World) (x:Int) (a:Γ) (m c:Nat) (hm:m≤1000):Θ 112 #[.agg #[.int .i64 x,.slice a (m+1) c]] w (fun e w'=>e=.returned (.int .i64 (m:Int))∧Below w.heap.size w w'):=by
 have H:=Aaf w x a (m+1) c qA;have e:((m+1:Nat):Int)-1=(m:Int):=by omega
 rw [e] at H;exact H
def R7 (w:World) (t:Int) (W:World):Prop:=∃G c,2≤c∧w.heap.size≤G∧Blk W (w.heap.size+1) #[.int .i64 0,.slice (some ⟨G,0,none⟩) 2 c] 92∧Blk W (w.heap.size+1+1) #[.bool true] 4∧Blk W G #[.int .i64 (-t),.int .i64 1] 3∧Below w.heap.size w W
theorem R7.own (w:World) (t:Int) (B:Nat) (hB:w.heap.size≤B):OwnFrom B (fun (_:Unit) W=>R7 w t W):=by
 rintro s X Y row ⟨G,c,h1,h2,h3,h4,h5,h6⟩ hg hr;have hr':∀r,row=some r→∃o:Obj,X.heap[r]? = some o∧o.isCells=false:=fun r e=>(hr r e).2
 exact ⟨G,c,h1,h2,Blk.own _ _ _ () X Y row h3 hg hr',Blk.own _ _ _ () X Y row h4 hg hr',Blk.own _ _ _ () X Y row h5 hg hr',ownFrom_below (Ad _) hB () X Y row h6 hg hr⟩
theorem R7.keep {w:World} {t:Int} {A B:World} (hX:R7 w t A) (hb:Below A.heap.size A B):R7 w t B:=by
 obtain ⟨G,c,h1,h2,h3,h4,h5,h6⟩:=hX;exact ⟨G,c,h1,h2,h3.keep hb,h4.keep hb,h5.keep hb,h6.trans (hb.mono h6.size)⟩
theorem vA.from {Nb B:Nat} {W W1:World} (h:vA Nb W W1):KeepsFrom B W W1 :=
 ((KeepsOthers.setCell W ⟨Nb,0,none⟩ (.int .i64 1)).from B).trans ⟨h.size,fun k o _ hk ho=>(h.block k (by simpa using (Ar.1 hk).1)).trans hk⟩
theorem Df {B:Nat} {A C:World} (h:Below A.heap.size A C):KeepsFrom B A C:=⟨h.size,fun k o _ hk _=>(h.block k (Ar.1 hk).1).trans hk⟩
def LinA (N:Nat) (w3:World) (f:Nat→Act) (a:Act) (W:World):Prop:=∃Lb,a=f Lb∧N≤Lb∧Blk W Lb #[.int .i64 1] 3∧Below N w3 W
theorem Vp {w wA:World} {t:Int} (bA:Below w.heap.size w wA) {v0 v1 v2:Value} (RA:Blk wA (w.heap.size+1) #[v0,v1] 92) (RB:Blk wA (w.heap.size+1+1) #[v2] 4) :
  R7 w t ((((wA.setCell ⟨w.heap.size+1,0,none⟩ (.int .i64 0)).setCell ⟨w.heap.size+1,1,none⟩ (.slice (some ⟨wA.heap.size,0,none⟩) 2 2)).setCell ⟨w.heap.size+1+1,0,none⟩ (.bool true)).alloc (.cells #[.int .i64 (-t),.int .i64 1] 3)):=by
 have hz:=bA.size;have z2:w.heap.size+1+1<wA.heap.size:=(Ar.1 RB).1;refine ⟨wA.heap.size,2,Ad _,hz,?_,?_,?_,?_⟩
 ·refine (Below.heap_alloc _ _ _ qJ).trans ((Below.heap_setCell _ _ _ _ (by show w.heap.size+1≠w.heap.size+1+1;omega)).trans ?_);exact (RA.set 0 (.int .i64 0)).set 1 (.slice (some ⟨wA.heap.size,0,none⟩) 2 2)
 ·refine (Below.heap_alloc _ _ _ qJ).trans ?_;exact Blk.set (W:=(wA.setCell ⟨w.heap.size+1,0,none⟩ (.int .i64 0)).setCell ⟨w.heap.size+1,1,none⟩ (.slice (some ⟨wA.heap.size,0,none⟩) 2 2)) (vs:=#[v2]) ((Below.heap_setCell _ _ _ _ (by show w.heap.size+1+1≠w.heap.size+1;omega)).trans ((Below.heap_setCell _ _ _ _ (by show w.heap.size+1+1≠w.heap.size+1;omega)).trans RB)) 0 (.bool true)
 ·have h:=World.alloc_heap_new (((wA.setCell ⟨w.heap.size+1,0,none⟩ (.int .i64 0)).setCell ⟨w.heap.size+1,1,none⟩ (.slice (some ⟨wA.heap.size,0,none⟩) 2 2)).setCell ⟨w.heap.size+1+1,0,none⟩ (.bool true)) (.cells #[.int .i64 (-t),.int .i64 1] 3);simpa [Blk] using h
 ·exact (((bA.setCell (p:=⟨w.heap.size+1,0,none⟩) qG _).setCell (p:=⟨w.heap.size+1,1,none⟩) qG _).setCell (p:=⟨w.heap.size+1+1,0,none⟩) qJ _).alloc qJ _
theorem Mg (B:Nat) (w wA:World) (t:Int):KeepsFrom B wA ((((wA.setCell ⟨w.heap.size+1,0,none⟩ (.int .i64 0)).setCell ⟨w.heap.size+1,1,none⟩ (.slice (some ⟨wA.heap.size,0,none⟩) 2 2)).setCell ⟨w.heap.size+1+1,0,none⟩ (.bool true)).alloc (.cells #[.int .i64 (-t),.int .i64 1] 3)) :=
 ((((KeepsOthers.setCell _ _ _).trans (KeepsOthers.setCell _ _ _)).trans (KeepsOthers.setCell _ _ _)).trans (KeepsOthers.alloc _ _)).from B
theorem rM (w:World) (a:Γ) (n c:Nat) (f:Nat→Int) (h:RdZ w a n f) (hn:1≤n) (hn':n≤1001) (h0:f 0=1∨f 0=-1) (hl:f (n-1)=1∨f (n-1)=-1)
  (k1:cT f n 1 1) (k2:cT f n (-1) 1) (t:Int) (ht:(t=1∧(nvZ f n 1 1 n).1=0)∨(t=-1∧(nvZ f n 1 1 n).1≠0∧(nvZ f n (-1) 1 n).1=0)) :
  Θ 113 #[.agg #[.int .i64 0,.slice a n c]] w (Ab0 w t):=by
 have HB:=Ac w.heap.size w;have K:=Ae (Ay (Ay k1 k2) ht);clear k1 k2 ht;refine (callsIn_wide (n:=6)).1 ?_;refine callsIn_of_wp_marks Tryz.func113 rfl trivial ?_ rfl;refine wpIn_wide.2 ?_;simp only [Tryz.ntmps113,List.size_toArray,List.length_cons,List.length_nil,Nat.reduceAdd,Nat.reduceSub,Array.replicate_succ,Array.replicate_zero,List.push_toArray,List.append_toArray,List.nil_append,List.cons_append];obtain ⟨g,rfl,hc⟩:=h.ex;have hc0:=hc 0 qA;have hcl:=hc (n-1) qA;generalize hz0:f 0=z0 at hc0 h0;have hne:(z0==0)=false:=by rw [beq_eq_false_iff_ne];omega
 have hn0:(0:Int)<(n:Int):=by omega
 have hgs:g<w.heap.size:=Aa _ _ hc0;go_upto_region 1 with fail
 refine Cc ?_;intro w1 hw1;have b1:Below w.heap.size w w1:=by rw [hw1];go_grown
 have q0:w1.cell? ⟨w.heap.size,0,none⟩=some (.int .i64 0):=by rw [hw1];simp [go_sem]
 have q1:w1.cell? ⟨w.heap.size,1,none⟩=some (.slice (some ⟨g,0,none⟩) n c):=by rw [hw1];simp [go_sem]
 have R0:Blk w1 (w.heap.size+1) #[.int .i64 0,.slice none 0 0] 92:=by
  rw [hw1];refine (Below.heap_alloc _ _ _ qG).trans ?_;have h:=World.alloc_heap_new (w.alloc (.cells #[.int .i64 0,.slice (some ⟨g,0,none⟩) n c] 92)) (.cells #[.int .i64 0,.slice none 0 0] 92);rwa [Aj] at h
 have R1:Blk w1 (w.heap.size+1+1) #[.bool false] 4:=by
  rw [hw1];have h:=World.alloc_heap_new ((w.alloc (.cells #[.int .i64 0,.slice (some ⟨g,0,none⟩) n c] 92)).alloc (.cells #[.int .i64 0,.slice none 0 0] 92)) (.cells #[.bool false] 4);rwa [Aj,Aj] at h
 replace h:=h.keep b1;replace hc0:=Bc b1 hc0;replace hcl:=Bc b1 hcl;have z1:w.heap.size+1+1+1=w1.heap.size:=by rw [hw1];simp [go_sem]
 clear hw1 hc;obtain ⟨m,rfl⟩:∃m,n=m+1:=⟨n-1,by omega⟩;rw [Nat.add_sub_cancel] at hcl hl;generalize hzl:f m=zl at hcl hl;have hgs1:g<w1.heap.size:=by omega
 have hm0:(0:Int)≤(m:Int):=by omega
 have hm1:(m:Int)<((m+1:Nat):Int):=by omega
 have hm2:(m:Int)<(m:Int)+1:=by omega
 go_upto_region 3 with fail
 go_region_held3 (fun W=>W.cell? ⟨w.heap.size,0,none⟩=some (.int .i64 0)∧W.cell? ⟨w.heap.size,1,none⟩=some (.slice (some ⟨g,0,none⟩) (m+1) c)∧W.cell? ⟨g,m,none⟩=some (.int .i64 zl)) (first|((try dsimp only);(repeat' apply Ay);all_goals (first|(with_reducible assumption)|(go_keep;done)|(simp [*,go_sem];done)))) (first
  | (go_at_call 112;(with_reducible refine (Yq _ _ _ _ _ qA).mono ?_);rintro e w2 ⟨rfl,hb⟩;have hb2:Below w1.heap.size w1 w2:=(by first|exact hb|exact Al qF (hb.mono qB));have z2:=hb2.size;replace q0:=Bc hb2 q0;replace q1:=Bc hb2 q1;replace hcl:=Bc hb2 hcl)
  | (go_at_call 180;(with_reducible refine (fT _ _).mono ?_);rintro e w3 ⟨rfl,hw3⟩;have hb3:Below w2.heap.size w2 w3:=(by rw [hw3];go_grown);have z3:=hb3.size;replace q0:=Bc hb3 q0;replace q1:=Bc hb3 q1;replace hcl:=Bc hb3 hcl;have d0:w3.cell? ⟨w2.heap.size,0,none⟩=some (.int .i64 zl):=(by rw [hw3];simp [go_sem]);have df:w3.frozen? ⟨w2.heap.size,0,none⟩=false:=(by rw [hw3];simp [go_sem]);clear hw3))
 go_wp2_with fail;have b3:=(b1.trans (hb2.mono b1.size)).trans (hb3.mono qA);replace R0:=(R0.keep hb2).keep hb3;replace R1:=(R1.keep hb2).keep hb3;replace h:=(h.keep hb2).keep hb3;replace hc0:=Bc hb3 (Bc hb2 hc0);refine (wpIn_wide (n:=6)).1 ?_;refine Mm (F:=Fence.wide) rfl qA (gf:=247) (lb:=#[.pointer (some ⟨w2.heap.size,0,none⟩)]) rfl trivial (enters_of Tryz.func247 qC rfl)
  (Uo 5 qA w3 w2.heap.size zl hl d0 df) rfl (fun W W1 hT=>hT.from)
  (LinA w2.heap.size w3 (fun Lb=>{ tmps:=#[Value.agg #[Value.int IntKind.i64 0,Value.slice (some ⟨g,0,none⟩) (m+1) c],Value.pointer (some ⟨w.heap.size,0,none⟩),Value.pointer (some ⟨w.heap.size+1,0,none⟩),Value.pointer (some ⟨w.heap.size+1+1,0,none⟩),Value.pointer (some ⟨Lb,0,none⟩),undef,undef,undef,Value.pointer (some ⟨w.heap.size,1,none⟩),Value.slice (some ⟨g,0,none⟩) (m+1) c,Value.pointer (some ⟨g,0,none⟩),Value.int IntKind.i64 z0,Value.bool false,undef,undef,undef,undef,Value.pointer (some ⟨w.heap.size,1,none⟩),Value.slice (some ⟨g,0,none⟩) (m+1) c,Value.agg #[Value.int IntKind.i64 0,Value.slice (some ⟨g,0,none⟩) (m+1) c],Value.int IntKind.i64 (m:Int),Value.pointer (some ⟨g,m,none⟩),Value.int IntKind.i64 zl,Value.func (Fn.func 247) #[] #[Value.pointer (some ⟨w2.heap.size,0,none⟩)],Value.int IntKind.i64 1,undef,undef,undef,undef,undef,undef,undef,undef,undef,undef,undef,undef,undef,undef,undef,undef,undef,undef,undef,undef,undef,undef,undef,undef,undef,undef],defers:=[] })) (R7 w t) ?ax (R7.own w t _ b3.size) (fun A B hb hX=>hX.keep hb) ?assign ?body ?stop
 case assign =>
  intro l W W1 K hW hT hK;obtain ⟨i0,hi,hz0,hz1,hz2⟩:=info_parts eK
  gi_wp2
  have hbW:Below w2.heap.size w3 W:=hW.mono z3;have hbT:Below w2.heap.size w3 W1:=(hbW.setCell (p:=⟨w2.heap.size,0,none⟩) (Ad _) (.int .i64 1)).trans (Below.mono hT (by have:=hW.size;omega));have hN:w2.heap.size≤W1.heap.size:=by have:=hbT.size;omega
  have k1:Blk (W1.alloc (.cells #[.int .i64 1] 3)) W1.heap.size #[.int .i64 1] 3:=World.alloc_heap_new _ _;have k2:=hbT.alloc hN (.cells #[.int .i64 1] 3);have kf:KeepsFrom w3.heap.size W1 (W1.alloc (.cells #[.int .i64 1] 3)):=(KeepsOthers.alloc _ _).from _;clear hbW hbT hT;generalize W1.alloc (.cells #[.int .i64 1] 3)=W2 at *;generalize W1.heap.size=Lb at *;exact hK _ W2 kf ⟨Lb,rfl,hN,k1,k2⟩
 case ax =>
  rintro a' s X Y row ⟨Lb,h1,h2,h3,h4⟩ hg hr;exact ⟨Lb,h1,h2,Blk.own _ _ _ () X Y row h3 hg (fun r e=>(hr r e).2),ownFrom_below z3 z3 () X Y row h4 hg hr⟩
 case body =>
  rintro l a' W hl' ⟨r,hr⟩ ⟨Lb,rfl,hLb,hLB,hB⟩;have hz1:g<w2.heap.size:=by omega
  have p0:W.cell? ⟨w.heap.size,0,none⟩=some (.int .i64 0):=(Af (hB.block w.heap.size qA)).trans q0;have p1:W.cell? ⟨w.heap.size,1,none⟩=some (.slice (some ⟨g,0,none⟩) (m+1) c):=(Af (hB.block w.heap.size qA)).trans q1;have pc:W.cell? ⟨g,0,none⟩=some (.int .i64 z0):=(Af (hB.block g hz1)).trans hc0
  gi_wp2
  refine ⟨trivial,(CallsIn.inRound l (callsIn_wide.2 (fT W z0))).mono ?_⟩;rintro e w5 ⟨rfl,hw5⟩;have b5:Below W.heap.size W w5:=by rw [hw5];exact Below.alloc (Ac _ _) (Ad _) _
  have e0:w5.cell? ⟨W.heap.size,0,none⟩=some (.int .i64 z0):=by rw [hw5];simp [go_sem]
  have ef:w5.frozen? ⟨W.heap.size,0,none⟩=false:=by rw [hw5];simp [go_sem]
  have k5:KeepsFrom w3.heap.size W w5:=by rw [hw5];exact (KeepsOthers.alloc _ _).from _
  have hr5:=k5.same l _ hl' hr rfl;have hLB5:=hLB.keep b5;have hzW:=hB.size;have hz5:=b5.size;have hB5:Below w2.heap.size w3 w5:=hB.trans (b5.mono qA);clear hw5
  gi_wp2
  refine Lc (n:=4) (F:=Fence.wide.inRound l) (l₀:=l) (r₀:=r) rfl hr5 qA (gf:=247) (lb:=#[.pointer (some ⟨W.heap.size,0,none⟩)]) rfl trivial (enters_of Tryz.func247 qC rfl)
   (Uo 3 qA w5 W.heap.size z0 h0 e0 ef) rfl (fun V V1 hT=>hT.from)
   (fun a' V=>(a'={ tmps:=#[Value.agg #[Value.int IntKind.i64 0,Value.slice (some ⟨g,0,none⟩) (m+1) c],Value.pointer (some ⟨w.heap.size,0,none⟩),Value.pointer (some ⟨w.heap.size+1,0,none⟩),Value.pointer (some ⟨w.heap.size+1+1,0,none⟩),Value.pointer (some ⟨Lb,0,none⟩),Value.int IntKind.i64 1,undef,undef,Value.pointer (some ⟨w.heap.size,1,none⟩),Value.slice (some ⟨g,0,none⟩) (m+1) c,Value.pointer (some ⟨g,0,none⟩),Value.int IntKind.i64 z0,Value.bool false,undef,undef,undef,undef,Value.pointer (some ⟨w.heap.size,1,none⟩),Value.slice (some ⟨g,0,none⟩) (m+1) c,Value.agg #[Value.int IntKind.i64 0,Value.slice (some ⟨g,0,none⟩) (m+1) c],Value.int IntKind.i64 (m:Int),Value.pointer (some ⟨g,m,none⟩),Value.int IntKind.i64 zl,Value.func (Fn.func 247) #[] #[Value.pointer (some ⟨w2.heap.size,0,none⟩)],Value.int IntKind.i64 1,Value.pointer (some ⟨w.heap.size,1,none⟩),Value.slice (some ⟨g,0,none⟩) (m+1) c,Value.pointer (some ⟨g,0,none⟩),Value.int IntKind.i64 z0,Value.func (Fn.func 247) #[] #[Value.pointer (some ⟨W.heap.size,0,none⟩)],Value.int IntKind.i64 1,undef,undef,undef,undef,undef,undef,undef,undef,undef,undef,undef,undef,undef,undef,undef,undef,undef,undef,undef,undef],defers:=[] }∧Blk V Lb #[.int .i64 1] 3)∧Below w2.heap.size w3 V∧KeepsFrom w3.heap.size W V)
   (fun V=>R7 w t V∧KeepsFrom w3.heap.size W V) ?ax2 ?ix2 ?ib2 ?assign2 ?body2 ?stop2
  case assign2 =>
   intro l2 V V1 K hV hT hK
   gi_wp2
   have hLW:Lb<W.heap.size:=(Ar.1 hLB).1;have bV:Below w2.heap.size w3 V:=hB5.trans (hV.mono qA);have kV:=k5.trans (Df (B:=w3.heap.size) hV);have xV:Blk V Lb #[.int .i64 1] 3:=hLB5.keep hV;have hVs:=hV.size;have yV:Blk (V.setCell ⟨W.heap.size,0,none⟩ (.int .i64 1)) Lb #[.int .i64 1] 3:=(Below.heap_setCell _ _ _ _ (by show Lb≠W.heap.size;omega)).trans xV;exact hK _ V1 (KeepsFrom.refl _ _) ⟨⟨rfl,(hT.block Lb qA).trans yV⟩,(bV.setCell (p:=⟨W.heap.size,0,none⟩) (by show w2.heap.size≤W.heap.size;omega) (.int .i64 1)).trans (Below.mono hT qA),kV.trans hT.from⟩
  case ax2 =>
   rintro a' s X Y row ⟨⟨h1,h2⟩,h3,h4⟩ hg hr;exact ⟨⟨h1,Blk.own _ _ _ () X Y row h2 hg (fun r e=>(hr r e).2)⟩,ownFrom_below z3 qA () X Y row h3 hg hr,ownFrom_keepsFrom qA () X Y row h4 hg hr⟩
  case ix2 =>
   rintro s X Y row ⟨h1,h2⟩ hg hr;exact ⟨R7.own w t _ (by have:=b3.size;omega) () X Y row h1 hg hr,ownFrom_keepsFrom qA () X Y row h2 hg hr⟩
  case ib2 =>
   rintro A B hb ⟨h1,h2⟩;exact ⟨h1.keep hb,h2.trans (Df hb)⟩
  case stop2 =>
   rintro V ⟨h1,h2⟩
   gi_wp2
   exact ⟨rfl,h2,h1⟩
  case body2 =>
   rintro l2 a' V hl2 ⟨r2,hr2⟩ ⟨⟨rfl,hLBv⟩,hBv,hKv⟩;have v0:V.cell? ⟨w.heap.size,0,none⟩=some (.int .i64 0):=(Af (hBv.block w.heap.size qA)).trans q0;have v1:V.cell? ⟨w.heap.size,1,none⟩=some (.slice (some ⟨g,0,none⟩) (m+1) c):=(Af (hBv.block w.heap.size qA)).trans q1;have vL:=hLBv.cell 0 _ rfl;have hV:RdZ V (some ⟨g,0,none⟩) (m+1) f:=by
    obtain ⟨g',e',hh⟩:=h.ex
    cases e'
    exact ⟨g,rfl,fun k hk=>(Af (hBv.block g hz1)).trans (hh k hk)⟩
   have RA:Blk V (w.heap.size+1) #[.int .i64 0,.slice none 0 0] 92:=(hBv.block _ qA).trans R0;have RB:Blk V (w.heap.size+1+1) #[.bool false] 4:=(hBv.block _ qA).trans R1;have KK:=K;have ix0:(Instr.index 227 (.agg #[.int .i64 1,.int .i64 (-1)]) (.int .i64 0)).run Tryz.prog=fun W=>.ok (.int .i64 1) W:=by funext W;exact lin0 W
   have ix1:(Instr.index 227 (.agg #[.int .i64 1,.int .i64 (-1)]) (.int .i64 1)).run Tryz.prog=fun W=>.ok (.int .i64 (-1)) W:=by funext W;exact lin1 W
   gi_wp2
   refine wpIn_loop_rounds 2 ?_;rw [roundsIn_succ]
   gi_wp2
   gi_wp2
   refine ⟨trivial,(CallsIn.inRound l2 (CallsIn.inRound l (callsIn_wide.2 (Y1 V _ (m+1) c f hV hn' 1 1 K.out.1.1)))).mono ?_⟩;rintro e wA ⟨rfl,hbA⟩;have a0:=Bc hbA v0;have a1:=Bc hbA v1;have aL:=Bc hbA vL;have RA1:=RA.keep hbA;have RB1:=RB.keep hbA;have hVA:=hV.keep hbA;have bA:=hBv.trans (hbA.mono (by have:=hBv.size;omega));have kA:=hKv.trans (Df (B:=w3.heap.size) hbA);have ra0:=RA1.cell 0 _ rfl;have ra1:=RA1.cell 1 _ rfl;have rf0:=RA1.frozen 0;have rf1:=RA1.frozen 1;have rb0:=RB1.cell 0 _ rfl;have rbf:=RB1.frozen 0;have zA1:w.heap.size+1<wA.heap.size:=(Ar.1 RA1).1;have zA2:w.heap.size+1+1<wA.heap.size:=(Ar.1 RB1).1;have zA3:w.heap.size+1<wA.heap.size+1:=by omega
   have zA4:w.heap.size+1+1<wA.heap.size+1:=by omega
   have bW:Below w.heap.size w wA:=b3.trans (bA.mono qA);have hKt:=K.out.2;rcases hKt with ⟨rfl,hn1⟩|⟨rfl,hn1,hn2⟩
   ·rw [hn1]
    gi_wp2
    exact ⟨rfl,(Df hbA).trans (Mg _ w wA 1),Vp bW RA1 RB1,kA.trans (Mg _ w wA 1)⟩
   ·have hnf:((nvZ f (m+1) 1 1 (m+1)).1==0)=false:=by rw [beq_eq_false_iff_ne];exact hn1
    rw [hnf]
    gi_wp2
    rw [roundsIn_succ]
    gi_wp2
    refine ⟨trivial,(CallsIn.inRound l2 (CallsIn.inRound l (callsIn_wide.2 (Y1 wA _ (m+1) c f hVA hn' (-1) 1 K.out.1.2)))).mono ?_⟩;rintro e wB ⟨rfl,hbB⟩;have c0:=Bc hbB a0;have c1:=Bc hbB a1;have cL:=Bc hbB aL;clear ra0 ra1 rf0 rf1 rb0 rbf zA1 zA2 zA3 zA4;have RA2:=RA1.keep hbB;have RB2:=RB1.keep hbB;have ra0:=RA2.cell 0 _ rfl;have ra1:=RA2.cell 1 _ rfl;have rf0:=RA2.frozen 0;have rf1:=RA2.frozen 1;have rb0:=RB2.cell 0 _ rfl;have rbf:=RB2.frozen 0;have zB1:w.heap.size+1<wB.heap.size:=(Ar.1 RA2).1;have zB2:w.heap.size+1+1<wB.heap.size:=(Ar.1 RB2).1;have zB3:w.heap.size+1<wB.heap.size+1:=by omega
    have zB4:w.heap.size+1+1<wB.heap.size+1:=by omega
    rw [hn2]
    gi_wp2
    exact ⟨rfl,((Df hbA).trans (Df hbB)).trans (Mg _ w wB (-1)),Vp (bW.trans (hbB.mono bW.size)) RA2 RB2,(kA.trans (Df hbB)).trans (Mg _ w wB (-1))⟩
 case stop =>
  rintro D V hD ⟨G,c',h1,h2,h3,h4,h5,h6⟩ hd;refine (wpIn_wide (n:=6)).2 ?_;go_wp2_with fail;refine ⟨by simp,.inl ⟨_,_,rfl,run_takeDeferred hd,?_⟩⟩;have gX:=grownBy_putObj' V D (.deferred none);have hrow:∀r,some D=some r→w.heap.size≤r∧∃o:Obj,V.heap[r]? = some o∧o.isCells=false:=fun r e=>by cases e;exact ⟨by have:=b3.size;omega,_,hd,rfl⟩
  obtain ⟨G,c',h1,h2,h3,h4,h5,h6⟩:=R7.own w t w.heap.size (Ad _) () _ _ _ ⟨G,c',h1,h2,h3,h4,h5,h6⟩ gX hrow;generalize V.putObj D (.deferred none)=X at *;have y0:=h3.cell 0 _ rfl;have y1:=h3.cell 1 _ rfl;have y2:=h4.cell 0 _ rfl;refine ⟨.tuple #[.agg #[.int .i64 0,.slice (some ⟨G,0,none⟩) 2 c'],.bool true],?_,?_⟩
  ·simp [results,Tryz.results113,go_sem,y0,y1,y2]
  ·exact ⟨G,c',h1,h2,rfl,h5.cell 0 _ rfl,h5.cell 1 _ rfl,h6⟩
theorem W4 {W:World} {b:Nat} (h:∃cur,W.heap[b]? = some (.cells cur 97 (0,0))):¬Uj W b:=by
 obtain ⟨cur,h⟩:=h;rintro (⟨c,e⟩|⟨c,e⟩)<;>(rw [h] at e;simp at e)
mutual
def RT.cnt:RT→Nat
 | .node _ _ _ xs=>RT.cntL xs+1
def RT.cntL:List RT→Nat
 | []=>0
 | x::xs=>x.cnt+RT.cntL xs
end
mutual
def RT.trm:RT→Nat
 | .node _ n _ xs=>RT.trmL xs+n
def RT.trmL:List RT→Nat
 | []=>0
 | x::xs=>x.trm+RT.trmL xs
end
theorem RT.cntL_take (xs:List RT) (i:Nat) {x:RT} (h:xs[i]? = some x):RT.cntL (xs.take (i+1))=RT.cntL (xs.take i)+x.cnt∧RT.trmL (xs.take (i+1))=RT.trmL (xs.take i)+x.trm:=by
 have key:∀(ys:List RT),RT.cntL (ys++[x])=RT.cntL ys+x.cnt∧RT.trmL (ys++[x])=RT.trmL ys+x.trm:=by
  intro ys
  induction ys with
  | nil=>simp [RT.cntL,RT.trmL]
  | cons y ys ih=>simp only [List.cons_append,RT.cntL,RT.trmL,ih];omega
 rw [List.take_add_one,h,Option.toList_some];exact key _
theorem RT.cntL_le (xs:List RT) (i:Nat):RT.cntL (xs.take i)≤RT.cntL xs:=by
 induction xs generalizing i with
 | nil=>simp [RT.cntL]
 | cons x xs ih =>
  cases i with
  | zero=>simp [RT.cntL]
  | succ i=>simp only [List.take_succ_cons,RT.cntL];have:=ih i;omega
structure xF (w0 w:World) (base:Nat) (v:Value) (rs:List Raw) (ys:List Value):Prop where
 own:w.ownsRow base 25 1 v rs.length ys
 el:∀(i:Nat) (r:Raw),rs[i]? = some r→ys[i]? = some (.slice r.a r.n r.c)∧U8 w0 r
def RetS (w0 w:World) (r0:Raw) (cnt trm:Nat) (e:Ending) (w':World):Prop :=
 ∃v rs ys,e=.returned v∧xF w0 w' w.heap.size v rs ys∧rs.length=cnt∧Gn rs=trm∧rs[0]? = some r0∧Below w.heap.size w w'
theorem Aak:∀(d:Nat) (t:RT),t.dep≤d→t.cnt≤1048576→∀(w0 w:World) (g:Bool) (a:Γ) (n c:Nat) (p:Nat→Tm) (xs:List RT) (a':Γ) (m c':Nat),t=.node g n p xs→Below w0.heap.size w0 w→VAt w0 (.bool g) (.slice a n c) (.slice a' m c') t→Θ 69 #[.agg #[.bool g,.slice a n c,.slice a' m c']] w (RetS w0 w ⟨a,n,c,p⟩ t.cnt t.trm):=by
 intro d
 induction d with
 | zero=>intro t ht;cases t;rw [RT.dep] at ht;omega
 | succ d ih =>
  intro t ht hcn w0 w g a n c p xs a' m c' et hb0 h;subst et;rw [RT.dep] at ht;rw [RT.cnt] at hcn;have HI:=Ae ih;clear ih;have HB:=Ac w.heap.size w;rw [VAt] at h;obtain ⟨-,⟨a1,c1,e1,h2,h3,h4⟩,a2,c2,e2,k1,k2,k3,k4,k5⟩:=h;cases e1
  cases e2
  have HV:=Ae (Ay (U8.mk (r:=⟨a,n,c,p⟩) h2 h3 h4) k5);have B0:=Ae hb0;clear h2 h3 h4 k5 hb0;obtain ⟨i0,hi0,hz0,hz1,hz2⟩:=info_parts Jb;go_enter Tryz.func69,Tryz.ntmps69;go_wp2_with fail;refine Cc ?_;intro w1 hw1;have b1:Below w.heap.size w w1:=by rw [hw1];go_grown
  have V1:Blk w1 w.heap.size #[.bool g,.slice a n c,.slice a' xs.length c'] 60:=by rw [hw1];exact (Bi rfl _ _).alloc _
  have O1:w1.ownsRow (w.heap.size+1) 25 1 (.slice (some ⟨w.heap.size+1,0,none⟩) 1 1) 1 [.slice a n c]:=by
   rw [hw1];have:=World.ownsRow_lit (base:=w.heap.size+1) (e:=25) (size:=1) (w.alloc (.cells #[.bool g,.slice a n c,.slice a' xs.length c'] 60)) #[.slice a n c] 1 qG qO rfl;simpa using this
  clear hw1;have H1:=Ae (Ay V1 O1);clear V1 O1;go_loopw [3,4] (fun v3 v4 wr=>∃(i:Nat) (rs:List Raw) (ys:List Value),i≤xs.length∧v4=.int .i64 i∧Hid (xF w0 wr (w.heap.size+1) v3 rs ys∧rs.length=RT.cntL (xs.take i)+1∧Gn rs=RT.trmL (xs.take i)+n∧rs[0]? = some ⟨a,n,c,p⟩∧Blk wr w.heap.size #[.bool g,.slice a n c,.slice a' xs.length c'] 60)∧Below w.heap.size w wr) (fun _ v4 _=>xs.length-(intOf v4).toNat)
  case atStart=>exact ⟨0,[⟨a,n,c,p⟩],[.slice a n c],by omega,rfl,Ae ⟨⟨H1.out.2,fun i r hr=>by
   cases i with
   | zero=>simp at hr;subst hr;exact ⟨rfl,HV.out.1⟩
   | succ i=>simp at hr⟩,by simp [RT.cntL],by simp [Gn,RT.trmL],rfl,H1.out.1⟩,b1⟩
  case round =>
   obtain ⟨i,rs,ys,hi,rfl,HR,HBr⟩:=hrel;clear H1 b1;obtain ⟨gb,cap,ev,hgb1,hgb2⟩:=HR.out.1.own.form (by have:=HR.out.2.1;omega);subst ev;have HG:=Ae (Ay hgb1 hgb2);have v0:=HR.out.2.2.2.2.cell 2 _ rfl;have vl:=HR.out.2.2.2.2.lt;by_cases hlt:i<xs.length
   ·obtain ⟨b,o,rfl,hp⟩:=HV.out.2.resolve_left (by intro e;rw [e] at hlt;simp at hlt);obtain ⟨x,hx⟩:∃x,xs[i]? = some x:=⟨_,Ai hlt⟩;obtain ⟨x0,x1,x2,d0,d1,d2,hva⟩:=hp.at hx;obtain ⟨hc1,hc2⟩:=RT.cntL_take xs i hx;have hcl:=RT.cntL_le xs (i+1);obtain ⟨gx,nx,px,xsx⟩:=x;have hva':=hva;rw [VAt] at hva';obtain ⟨rfl,⟨ax,cx,rfl,_⟩,ay,cy,rfl,_⟩:=hva';have bw:=B0.out.trans (HBr.mono B0.out.size);replace d0:=Bc bw d0;replace d1:=Bc bw d1;replace d2:=Bc bw d2;have HX:=Ae (Ay hva (Ay hx (Ay hc1 hc2)));have hdx:=RT.depL_mem (A8 hx);have hS:=HI.out (.node gx nx px xsx) qA qA w0 wr gx ax nx cx px xsx ay xsx.length cy rfl bw HX.out.1;have HS:=Ae hS;clear hva hp hx hS;go_wp2_with fail;refine HS.out.mono ?_;rintro e w2 ⟨v2,rs2,ys2,rfl,hS2,hl2,ht2,_,hb2⟩;have hpos:0<rs2.length:=by rw [hl2,RT.cnt];omega
    obtain ⟨g2,cap2,rfl,hg1,hg2⟩:=hS2.own.form hpos;have hone:∀u∈ys2,u.oneCell'=true:=fun u hu=>by
     exact qBz
    have hL1:=HR.out.2.1;have hsum:rs.length+rs2.length≤1048577:=by have h1:=HX.out.2.2.1;omega
    have HO:=Ae hone;have HC2:=Ae (Ay hS2 (Ay hl2 ht2));have bw2:=HBr.trans (hb2.mono HBr.size);clear hone hS2 ht2;clear hL1 hl2 hcl hc1 hc2;go_wp2_with (at_builtin;refine wpList_append_own _ rfl _ _ 97 rfl (w.heap.size+1) 25 i0 (.slice none 0 0) 1 24 Tryz.underlying97 hi0 hz0 hz1 hz2 rfl qI _ rs.length ys rfl (Bo HR.out.1.own hb2) ⟨g2,0,none⟩ rs2.length cap2 ys2 rfl HC2.out.1.own.1 (World.ownsRow.cells HC2.out.1.own rfl) HO.out qO qA (by have:=bw2.size;have:=hb2.size;omega) ?_;intro v4 w4 hown4 hgrow4 hnil4);replace hgrow4:w2.grownBy w4 (some gb):=hgrow4;have hgg:=HG.out.1;have hb4:Below w.heap.size w w4:=bw2.grown hgrow4 bw2.size (fun k hk=>by cases hk;omega);have HB4:=Ae (Blk.row (HR.out.2.2.2.2.keep hb2) hgrow4 (by simp only [ne_eq,Option.some.injEq];omega));have HO4:=Ae hown4;clear hown4 hgrow4 hnil4;go_roundw
    case rel =>
     refine ⟨i+1,rs++rs2,ys++ys2,by omega,by go_num,Ae ⟨⟨by rw [A9];exact HO4.out,fun k r hk=>?_⟩,?_,?_,?_,HB4.out⟩,hb4⟩
     ·exact qBp
     ·rw [A9,HC2.out.2.1,HR.out.2.1,HX.out.2.2.1];omega
     ·have h1:Gn (rs++rs2)=Gn rs+Gn rs2:=by unfold Gn;rw [List.map_append,List.sum_append]
      rw [h1,HC2.out.2.2,HR.out.2.2.1,HX.out.2.2.2];omega
     ·rw [Az (by have h1:=HR.out.2.1;omega)];exact HR.out.2.2.2.1
    case measure=>(first|(simp [intOf];omega)|(simp [intOf];done))
   ·obtain rfl:i=xs.length:=by omega
    have hall:xs.take xs.length=xs:=As (Ad _);go_wp2_with fail;refine bodyPost_ret (v:=.slice (some ⟨gb,0,none⟩) rs.length cap) (by simp [results,Tryz.results69,go_sem]) rfl ?_;have h1:=HR.out.2.1;have h2:=HR.out.2.2.1;rw [hall] at h1 h2;exact ⟨_,rs,ys,rfl,⟨Kd HR.out.1.own qA,HR.out.1.el⟩,by rw [h1,RT.cnt],by rw [h2,RT.trm],HR.out.2.2.2.1,HBr⟩
def rK:RT→Prop
 | .node _ n p _=>∀k,k<n→Xq (p k)
theorem gY {w:World} {base:Nat} {a:Γ} {m c:Nat} {rs:List Raw} {ys:List Value} (h:xF w w base (.slice a m c) rs ys):rs.length=m∧(rs=[]∨∃b o,a=some ⟨b,o,none⟩∧cN w b o rs):=by
 rcases Aq rs.length with h0|h0
 ·have e:rs=[]:=List.eq_nil_of_length_eq_zero h0;refine ⟨?_,.inl e⟩;rcases h.own.2 with ⟨e1,_⟩|⟨g,cap,cur,e1,_⟩
  ·cases e1;omega
  ·cases e1;rfl
 ·obtain ⟨g,cap,e,_,_⟩:=h.own.form h0;cases e
  exact ⟨rfl,.inr ⟨g,0,rfl,fun i r hr=>by
   have h1:=World.ownsRow.cells h.own rfl i _ (h.el i r hr).1;have hadd:(⟨g,0,none⟩:Addr).add i=⟨g,0+i,none⟩:=by unfold Addr.add;split<;>simp_all
   rw [hadd] at h1;exact ⟨h1,(h.el i r hr).2⟩⟩⟩
theorem kJ (w:World) (a:Γ) (n c:Nat) (ts:List RT) (hn:ts.length=n) (h20:n≤1048576) (hc:RT.cntL ts≤1048576) (ht:RT.trmL ts≤1048576) (hrow:ts=[]∨∃b p,a=some ⟨b,p,none⟩∧Fg w b p ts) :
  Θ 23 #[.slice a n c] w (zY w (∀t∈ts,rK t)):=by
 have HB:=Ac w.heap.size w;have HH:=Ae (Ay hn hrow);have HC:=Ae (Ay hc ht);clear hn hrow hc ht;obtain ⟨i0,hi0,hz0,hz1,hz2⟩:=info_parts Jb;go_enter Tryz.func23,Tryz.ntmps23;go_wp2_with fail;go_loopw [3,4] (fun v3 v4 wr=>∃(i:Nat) (z:Int),i≤n∧v4=.int .i64 i∧v3=.int .i64 z∧-9223372036854775808≤z∧z≤9223372036854775807∧Below w.heap.size w wr) (fun _ v4 _=>n-(intOf v4).toNat)
 case atStart=>exact ⟨0,0,by omega,rfl,rfl,by omega,by omega,HB⟩
 case round =>
  obtain ⟨i,z,hi,rfl,rfl,hq1,hq2,HBr⟩:=hrel;by_cases hlt:i<n
  ·obtain ⟨b,p,rfl,hv⟩:=HH.out.2.resolve_left (by intro e;have:=HH.out.1;rw [e] at this;simp at this;omega);obtain ⟨x,hx⟩:∃x,ts[i]? = some x:=⟨_,Ai (by rw [HH.out.1];exact hlt)⟩;obtain ⟨u0,u1,u2,c0,c1,c2,hva⟩:=hv.at hx;have HX:=Ae (VAt.keep HBr hva);replace c0:=Bc HBr c0;replace c1:=Bc HBr c1;replace c2:=Bc HBr c2;clear hx hv hva;go_wp2_with fail;refine (Zj wr _ _ _ x HX.out).mono ?_;rintro e w1 ⟨y,rfl,hy,hb1⟩;have b1:=HBr.trans (hb1.mono HBr.size);go_wp2_with fail;go_roundw
   case rel=>exact ⟨i+1,wrap64 (z+y),by omega,by go_num,rfl,(Jm _).1,(Jm _).2,b1⟩
   case measure=>(first|(simp [intOf];omega)|(simp [intOf];done))
  ·obtain rfl:i=n:=by omega
   by_cases hz:z≤400
   ·obtain ⟨wp,rfl⟩:∃wp,wp=wr:=⟨_,rfl⟩;go_wp2_with fail;go_loopw [5,6] (fun v5 v6 wr=>∃(j:Nat) (rs:List Raw) (ys:List Value),j≤i∧v6=.int .i64 j∧Hid (xF w wr w.heap.size v5 rs ys∧rs.length=RT.cntL (ts.take j)∧Gn rs=RT.trmL (ts.take j)∧∀t∈ts.take j,∃r∈rs,(∀k,k<r.n→Xq (r.p k))→rK t)∧Below w.heap.size w wr) (fun _ v6 _=>i-(intOf v6).toNat)
    case atStart=>exact ⟨0,[],[],by omega,rfl,Ae ⟨⟨World.ownsRow_nil _ _ _ _,fun i r hr=>by simp at hr⟩,rfl,rfl,fun t ht=>by simp at ht⟩,HBr⟩
    case round =>
     obtain ⟨j,rs,ys,hj,rfl,HR,HBk⟩:=hrel;obtain ⟨ao,co,eo⟩:=K7 HR.out.1.own;subst eo;by_cases hjl:j<i
     ·obtain ⟨b,o,rfl,hv⟩:=HH.out.2.resolve_left (by intro e;have:=HH.out.1;rw [e] at this;simp at this;omega);obtain ⟨x,hx⟩:∃x,ts[j]? = some x:=⟨_,Ai (by rw [HH.out.1];exact hjl)⟩;obtain ⟨x0,x1,x2,d0,d1,d2,hva⟩:=hv.at hx;obtain ⟨hc1,hc2⟩:=RT.cntL_take ts j hx;have hcl:=RT.cntL_le ts (j+1);obtain ⟨gx,nx,px,xsx⟩:=x;have hva':=hva;rw [VAt] at hva';obtain ⟨rfl,⟨ax,cx,rfl,_⟩,ay,cy,rfl,_⟩:=hva';replace d0:=Bc HBk d0;replace d1:=Bc HBk d1;replace d2:=Bc HBk d2;have hcx:=HC.out.1;have HX:=Ae (Ay hx (Ay hc1 hc2));have HS:=Ae (Aak (RT.node gx nx px xsx).dep (.node gx nx px xsx) (Ad _) qA w wr gx ax nx cx px xsx ay xsx.length cy rfl HBk hva);clear hva hv hx hc1 hc2 hcl hcx;go_wp2_with fail;refine HS.out.mono ?_;rintro e w2 ⟨v2,rs2,ys2,rfl,hS2,hl2,ht2,h02,hb2⟩;have hpos:0<rs2.length:=by rw [hl2,RT.cnt];omega
      obtain ⟨g2,cap2,rfl,hg1,hg2⟩:=hS2.own.form hpos;have hone:∀u∈ys2,u.oneCell'=true:=fun u hu=>by
       exact qBz
      have hsum:rs.length+rs2.length≤1048577:=by have h1:=HX.out.2.1;have h2:=RT.cntL_le ts (j+1);have h3:=HC.out.1;have h4:=HR.out.2.1;omega
      have HO:=Ae hone;have HC2:=Ae (Ay hS2 (Ay hl2 (Ay ht2 h02)));have bw2:=HBk.trans (hb2.mono HBk.size);have hge:=Hd HR.out.1.own;have HGE:=Ae hge;clear hone hS2 ht2 hl2 h02 hge;go_wp2_with (at_builtin;refine wpList_append_own _ rfl _ _ 97 rfl w.heap.size 25 i0 (.slice none 0 0) 1 24 Tryz.underlying97 hi0 hz0 hz1 hz2 rfl qI _ rs.length ys rfl (Bo HR.out.1.own hb2) ⟨g2,0,none⟩ rs2.length cap2 ys2 rfl HC2.out.1.own.1 (World.ownsRow.cells HC2.out.1.own rfl) HO.out qO qA (by have:=bw2.size;have:=hb2.size;omega) ?_;intro v4 w4 hown4 hgrow4 hnil4);replace hgrow4:w2.grownBy w4 (Value.slice ao rs.length co).ownBlock:=hgrow4;have hb4:Below w.heap.size w w4:=bw2.grown hgrow4 bw2.size (fun k hk=>HGE.out k hk);have HO4:=Ae hown4;clear hown4 hgrow4 hnil4;go_roundw
      case rel =>
       refine ⟨j+1,rs++rs2,ys++ys2,by omega,by go_num,Ae ⟨⟨by rw [A9];exact HO4.out,fun k r hk=>?_⟩,?_,?_,?_⟩,hb4⟩
       ·exact qBp
       ·rw [A9,HC2.out.2.1,HR.out.2.1,HX.out.2.1]
       ·have h1:Gn (rs++rs2)=Gn rs+Gn rs2:=by unfold Gn;rw [List.map_append,List.sum_append]
        rw [h1,HC2.out.2.2.1,HR.out.2.2.1,HX.out.2.2]
       ·intro t ht;rw [List.take_add_one,HX.out.1,Option.toList_some] at ht;rcases List.mem_append.1 ht with ht|ht
        ·obtain ⟨r,hr,h⟩:=HR.out.2.2.2 t ht;exact ⟨r,List.mem_append_left _ hr,h⟩
        ·rw [Ao.1 ht];exact ⟨_,List.mem_append_right _ (A8 HC2.out.2.2.2),fun h=>h⟩
      case measure=>(first|(simp [intOf];omega)|(simp [intOf];done))
     ·obtain rfl:j=i:=by omega
      have hall:ts.take j=ts:=As (by rw [HH.out.1];exact Ad _);have HQ:=Ae (gY (w:=wr) ⟨HR.out.1.own,fun k r h=>⟨(HR.out.1.el k r h).1,(HR.out.1.el k r h).2.keep HBk⟩⟩);have HL:=Ae (show rs.length≤1048576∧Gn rs≤1048576 by
       have h1:=HR.out.2.1;have h2:=HR.out.2.2.1;rw [hall] at h1 h2;have:=HC.out
       omega)
      have HA:=Ae hall;clear hall;go_wp2_with fail;refine (tE wr ao rs.length co rs rfl HL.out.1 HL.out.2 HQ.out.2).mono ?_;rintro e w5 ⟨r,rfl,hr,hb5⟩;have HR5:=Ae hr;clear hr;go_wp2_with fail;refine bodyPost_ret (v:=.bool r) (by simp [results,Tryz.results23,go_sem]) rfl ?_;exact ⟨r,rfl,fun h t ht=>by
       obtain ⟨r0,hr0,h0⟩:=HR.out.2.2.2 t (by rw [HA.out];exact ht);exact h0 ((HR5.out h).2 r0 hr0),HBk.trans (hb5.mono HBk.size)⟩
   ·go_wp2_with fail;refine bodyPost_ret (v:=.bool true) (by simp [results,Tryz.results23,go_sem]) rfl ?_;exact ⟨true,rfl,fun h=>absurd h qI,HBr⟩
def Eqv (c d:PC):Prop:=c.1*d.2=d.1*c.2
theorem fC {a b:Int} (hb:0<b):Eqv (E6 a b,Fi a b) (a,b):=by
 unfold Eqv E6 Fi;simp only;obtain ⟨x,hx⟩:(Int.gcd a b:Int)∣a:=Int.gcd_dvd_left ..;obtain ⟨y,hy⟩:(Int.gcd a b:Int)∣b:=Int.gcd_dvd_right ..;have hg:0<Int.gcd a b:=Int.gcd_pos_of_ne_zero_right _ qA;have hg':(Int.gcd a b:Int)≠0:=by omega
 generalize (Int.gcd a b:Int)=g at *;subst hx hy;rw [Int.mul_ediv_cancel_left _ hg',Int.mul_ediv_cancel_left _ hg'];rw [←Int.mul_assoc,Int.mul_comm x g]
theorem pV {c d:PC} (hc:CW c) (hd:CW d) (h:Eqv c d):c=d:=by
 obtain ⟨p,q⟩:=c;obtain ⟨r,s⟩:=d;obtain ⟨h1,h2⟩:=hc;obtain ⟨h3,h4⟩:=hd;unfold Eqv at h;simp only at h h1 h2 h3 h4;have hn:p.natAbs*s.natAbs=r.natAbs*q.natAbs:=by rw [←Int.natAbs_mul,←Int.natAbs_mul,h]
 have c1:Nat.Coprime p.natAbs q.natAbs:=h2;have c2:Nat.Coprime r.natAbs s.natAbs:=h4;have d1:q.natAbs∣s.natAbs:=by
  refine c1.symm.dvd_of_dvd_mul_left ⟨r.natAbs,?_⟩;rw [hn,Nat.mul_comm]
 have d2:s.natAbs∣q.natAbs:=by
  refine c2.symm.dvd_of_dvd_mul_left ⟨p.natAbs,?_⟩;rw [←hn,Nat.mul_comm]
 have hqs:q.natAbs=s.natAbs:=Nat.dvd_antisymm d1 d2;have hq:q=s:=by omega
 subst hq;have:p=r:=Int.eq_of_mul_eq_mul_right qA h;rw [this]
theorem Eqv.trans {c d e:PC} (hd:0<d.2) (h1:Eqv c d) (h2:Eqv d e):Eqv c e:=by
  unfold Eqv at *;apply Int.eq_of_mul_eq_mul_right (show d.2≠0 by omega)
  calc c.1*e.2*d.2=(c.1*d.2)*e.2:=by rw [Int.mul_assoc,Int.mul_comm e.2,←Int.mul_assoc]
    _=(d.1*c.2)*e.2:=by rw [h1]
    _=(d.1*e.2)*c.2:=by rw [Int.mul_assoc,Int.mul_comm c.2,←Int.mul_assoc]
    _=(e.1*d.2)*c.2:=by rw [h2]
    _=e.1*c.2*d.2:=by rw [Int.mul_assoc,Int.mul_comm d.2,←Int.mul_assoc]
theorem Eqv.symm {c d:PC} (h:Eqv c d):Eqv d c:=by unfold Eqv at *;exact h.symm
def H7 (c d:PC):PC:=(c.1*d.2+d.1*c.2,c.2*d.2)
def mU (c d:PC):PC:=(c.1*d.1,c.2*d.2)
theorem Rl {c d:PC} (hc:0<c.2) (hd:0<d.2):Eqv (Ea c d) (H7 c d):=fC (Int.mul_pos hc hd)
theorem gM {c d:PC} (hc:0<c.2) (hd:0<d.2):Eqv (Ca c d) (mU c d):=fC (Int.mul_pos hc hd)
theorem Rq {c c' d:PC} (h:Eqv c c'):Eqv (H7 c d) (H7 c' d):=by
 obtain ⟨c1,c2⟩:=c;obtain ⟨b1,b2⟩:=c';obtain ⟨d1,d2⟩:=d;unfold Eqv H7 at *;simp only at *;have e1:(c1*d2+d1*c2)*(b2*d2)=(c1*b2)*(d2*d2)+d1*c2*(b2*d2):=by
  rw [Int.add_mul];congr 1;ac_rfl
 have e2:(b1*d2+d1*b2)*(c2*d2)=(b1*c2)*(d2*d2)+d1*b2*(c2*d2):=by
  rw [Int.add_mul];congr 1;ac_rfl
 rw [e1,e2,h]
 congr 1
 ac_rfl
theorem Vc (c d:PC):H7 c d=H7 d c:=by
 unfold H7;rw [Int.add_comm,Int.mul_comm c.2]
theorem dA (c d e:PC):H7 (H7 c d) e=H7 c (H7 d e):=by
 obtain ⟨c1,c2⟩:=c;obtain ⟨d1,d2⟩:=d;obtain ⟨e1,e2⟩:=e;unfold H7;simp only
 congr 1
 ·rw [Int.add_mul,Int.add_mul,Int.add_assoc]
  congr 1
  ·ac_rfl
  ·congr 1<;>ac_rfl
 ·ac_rfl
theorem iH (c d:PC):Ea c d=Ea d c:=by
 unfold Ea;rw [Int.add_comm (c.1*d.2),Int.mul_comm c.2]
theorem Js {c d e:PC} (hc:CW c) (hd:CW d) (he:CW e):Ea (Ea c d) e=Ea c (Ea d e):=by
 apply pV ((hc.add hd).add he) (hc.add (hd.add he));have p1:0<(H7 c d).2:=Int.mul_pos hc.pos hd.pos;have p2:0<(H7 d e).2:=Int.mul_pos hd.pos he.pos;have h1:Eqv (Ea (Ea c d) e) (H7 (Ea c d) e):=Rl (hc.add hd).pos he.pos;have h2:Eqv (H7 (Ea c d) e) (H7 (H7 c d) e):=Rq (Rl hc.pos hd.pos);have h3:Eqv (H7 (Ea d e) c) (H7 (H7 d e) c):=Rq (Rl hd.pos he.pos);have h4:Eqv (Ea c (Ea d e)) (H7 c (Ea d e)):=Rl hc.pos (hd.add he).pos;rw [Vc (Ea d e),Vc (H7 d e),←dA] at h3;exact (h1.trans (Int.mul_pos (hc.add hd).pos he.pos) h2).trans (Int.mul_pos p1 he.pos) ((h4.trans (Int.mul_pos hc.pos (hd.add he).pos) h3).symm)
end Go.Proofs.YtnnhcbeiogaknaaGreatDoor
end
