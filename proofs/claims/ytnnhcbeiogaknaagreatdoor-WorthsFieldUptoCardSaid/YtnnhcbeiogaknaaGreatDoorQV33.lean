/- Package squares: Of, of a sum that has one part. -/
import Derived.Test.YtnnhcbeiogaknaaGreatDoorQV32
set_option linter.unusedSimpArgs false
set_option linter.unusedVariables false
set_option maxRecDepth 100000
set_option maxHeartbeats 4000000
section
namespace Go.Proofs.YtnnhcbeiogaknaaGreatDoor
open Go.RowKit
attribute [local go_sem] Oper.semAt_some
structure Sq1 (p r:Δ) where
 q:Δ
 more:Δ
 once:Δ
 next:Δ
 f:Δ
 m2:Δ
 h0:q=Ck p
 h1:Ng (Ed q 4) []=some more
 h2:Fd q more=some (some once)
 h3:C9 once=false
 h4:Ng [once,more] []=some next
 h5:Fd once next=some (some f)
 h6:C9 f=false
 h7:ck (Ck f)=some r
 h8:Fd more next=some (some m2)
 h9:C9 next=true
 sq:Sm q
 xq:Mt q
 sS:∀x∈Ed q 4,Sm x
 sM:Sm more
 sC:Sm once
 sN:Sm next
 sF:Sm f
def aT (W:World) (Lb:Nat) (pre:List PX):Prop :=
 ∃v,B1 W Lb v∧(∃cur,W.heap[Lb]? = some (.cells cur 40 (0,0)))∧((pre=[]∧v=.slice none 0 0)∨∃x G cap,pre=[x]∧v=.slice (some ⟨G,0,none⟩) 1 cap∧1≤cap∧W.cell? ⟨G,0,none⟩=some (.slice x.2.1 x.2.2.1 x.2.2.2)∧W.cell? ⟨G,1,none⟩=some (.int .i64 x.1)∧Lb<G)
theorem aT.nil {W:World} {Lb:Nat} (h:B1 W Lb (.slice none 0 0)) (hp:∃cur,W.heap[Lb]? = some (.cells cur 40 (0,0))):aT W Lb []:=⟨_,h,hp,.inl ⟨rfl,rfl⟩⟩
theorem Abb {W:World} {b:Nat} (h:∃cur,W.heap[b]? = some (.cells cur 40 (0,0))):¬Uj W b:=by
 obtain ⟨cur,h⟩:=h;rintro (⟨c,e⟩|⟨c,e⟩)<;>(rw [h] at e;simp at e)
theorem Vw {W:World} {b:Nat} {T:TypeId} (h:∃cur,W.heap[b]? = some (.cells cur T (0,0))) (i:Nat) (v:Value):∃cur,(W.setCell ⟨b,i,none⟩ v).heap[b]? = some (.cells cur T (0,0)):=by
 obtain ⟨cur,h⟩:=h;refine ⟨cur.setIfInBounds i v,?_⟩;simp [World.setCell,Array.getElem?_modify,h]
theorem aT.own (Lb B:Nat):OwnFrom B (fun pre W=>aT W Lb pre):=fun pre A C row hs hg hr=>by
 obtain ⟨v,h1,h2,h3⟩:=hs;have hr':∀r,row=some r→∃o:Obj,A.heap[r]? = some o∧o.isCells=false:=fun r e=>(hr r e).2
 refine ⟨v,⟨cell_kept h1.c0 hg hr',(frozen_kept h1.c0 hg hr').trans h1.f0⟩,?_,h3.imp id fun⟨x,G,cap,e1,e2,e3,e4,e5,e6⟩=>⟨x,G,cap,e1,e2,e3,cell_kept e4 hg hr',cell_kept e5 hg hr',e6⟩⟩;obtain ⟨o,ho,hc⟩:=cells_of_cell h1.c0;have e:=grownBy_keeps_cells hg hr' ho hc;obtain ⟨cur,h2⟩:=h2;exact ⟨cur,e.trans h2⟩
theorem B4.own {β:Type} (B b:Nat) (v0 v1 v2 v3:Value):OwnFrom B (fun (_:β) W=>B4 W b v0 v1 v2 v3):=fun _ A C row hs hg hr=>by
 have hr':∀r,row=some r→∃o:Obj,A.heap[r]? = some o∧o.isCells=false:=fun r e=>(hr r e).2
 exact ⟨cell_kept hs.c0 hg hr',cell_kept hs.c1 hg hr',cell_kept hs.c2 hg hr',cell_kept hs.c3 hg hr',(frozen_kept hs.c0 hg hr').trans hs.f0,(frozen_kept hs.c1 hg hr').trans hs.f1,(frozen_kept hs.c2 hg hr').trans hs.f2,(frozen_kept hs.c3 hg hr').trans hs.f3⟩
theorem Bj.kp {w w':World} {B:Nat} {g1:Bool} {a1:Γ} {n1 c1:Nat} {p:Int} {g2:Bool} {a2:Γ} {n2 c2:Nat} {q:Int} (h:Bj w g1 a1 n1 c1 p g2 a2 n2 c2 q) (h1:Bg B w a1 c1) (h2:Bg B w a2 c2) (hk:KpT w w'):Bj w' g1 a1 n1 c1 p g2 a2 n2 c2 q :=
 ⟨⟨h.top.neg,h.top.rd.kp h1 hk⟩,⟨h.low.neg,h.low.rd.kp h2 hk⟩,h.pos,h.red⟩
theorem Bg.nw {w:World} {B n c:Nat} {a:Γ} {d:Ξ} (h:Bg B w a c) (hr:RdL w a n c d):Nw B n a:=by
 rcases h with rfl|⟨b,cur,rfl,hb,_,_⟩
 ·exact .inl (by have:=hr.cap;omega)
 ·exact .inr (fun y hy=>by cases hy;exact hb)
def Adc (w:World) (x:PC) (r:Δ) (e:Ending) (w':World):Prop :=
 ∃g1 a1 n1 c1 g2 a2 n2 c2 G a3 n3 c3,e=.returned (.tuple #[.agg #[.bool g1,.slice a1 n1 c1,.bool g2,.slice a2 n2 c2],.slice (some ⟨G,0,none⟩) 1 1,.int .i64 0])∧Bj w' g1 a1 n1 c1 x.1 g2 a2 n2 c2 x.2∧w'.cell? ⟨G,0,none⟩=some (.slice a3 n3 c3)∧w'.cell? ⟨G,1,none⟩=some (.int .i64 1)∧Bd w' w.heap.size a3 n3 c3 r∧Bm w' w.heap.size a3 n3 c3∧Below w.heap.size w w'
def calm (Q:Exit→Act→World→Prop) (e:Exit) (a:Act) (w:World):Prop:=match e with
 | .normal=>Q .normal a w
 | _=>False
theorem uZ {P:Program} {c:Code} {Q:Exit→Act→World→Prop} {a:Act} {w:World} (h:c.wp P (calm Q) a w):c.wp P Q a w :=
 wp_mono h fun e a w h=>by
  cases e with
  | normal=>exact h
  | ret=>exact h.elim
  | exit id=>exact h.elim
  | goto t=>exact h.elim
  | panic ch=>exact h.elim
  | outgrown=>exact h.elim
theorem lP (w:World) (a:Γ) (n c:Nat) :
  Θ 107 #[.slice a n c] w fun e w'=>e=.returned (.func (.func 174) #[] #[.pointer (some ⟨w.heap.size,0,none⟩)])∧w'=w.alloc (.cells #[.slice a n c] 25):=by
 go_enter Tryz.func107,Tryz.ntmps107;go_wp2;go_ret;exact ⟨rfl,rfl⟩
theorem Abn (w:World) (B n c:Nat) (a:Γ) (t0:PT) (pl r:Δ) (h:Bd w B a n c (t0::pl)) (hs:Sm (t0::pl)) (S:Sq1 (t0::pl) r) :
  Θ 49 #[.slice a n c] w (Adc w (Iw (t0::pl)) r):=by
 have hnl:=h.len;have hsl:=hs.len;have hp0:0<n:=by rw [←hnl];simp
 have HB:=Ac w.heap.size w;have hn0:((n:Int)==0)=false:=by rw [beq_eq_false_iff_ne];omega
 refine (callsIn_wide (n:=3)).1 ?_;refine callsIn_of_wp_marks Tryz.func49 rfl trivial ?_ rfl;refine wpIn_wide.2 ?_;simp only [Tryz.ntmps49,List.size_toArray,List.length_cons,List.length_nil,Nat.reduceAdd,Nat.reduceSub,Array.replicate_succ,Array.replicate_zero,List.push_toArray,List.append_toArray,List.nil_append,List.cons_append];go_wp2_with fail;refine Be ?_;intro w1 hw1;have b1:Below w.heap.size w w1:=by rw [hw1];go_grown
 have hC0:B4 w1 w.heap.size (.bool false) (.slice none 0 0) (.bool false) (.slice none 0 0):=by rw [hw1];constructor<;>simp [go_sem]
 have hL0:B1 w1 (w.heap.size+1) (.slice none 0 0):=by rw [hw1];constructor<;>simp [go_sem]
 have hLw:w1.heap[w.heap.size+1]? = some (.cells #[.slice none 0 0] 40):=by
  rw [hw1];have h:=heap_alloc_new (w.alloc (.cells #[.bool false,.slice none 0 0,.bool false,.slice none 0 0] 34)) (.cells #[.slice none 0 0] 40);rw [Aj] at h;exact h
 clear hw1;refine (On (h.keep b1) hs).mono ?_;rintro e w2 ⟨rfl,hb2⟩;have b2:=b1.trans (hb2.mono b1.size);replace hL0:=hL0.keep hb2;replace hC0:=hC0.keep hb2;go_wp2_with fail;refine (Kb (h.keep b2) hs).mono ?_;rintro e w3 ⟨a3,n3,c3,rfl,hP3,hO3,hb3⟩;have b3:=b2.trans (hb3.mono b2.size);replace hL0:=hL0.keep hb3;replace hC0:=hC0.keep hb3;go_wp2_with fail;refine (lP w3 a3 n3 c3).mono ?_;rintro e w4 ⟨rfl,hw4⟩;have b34:Below w3.heap.size w3 w4:=by rw [hw4];go_grown
 have hpb:w4.cell? ⟨w3.heap.size,0,none⟩=some (.slice a3 n3 c3):=by rw [hw4];simp [go_sem]
 have hP4:=hP3.keep b34;have hO4:=hO3.keep b34;have z2:=b2.size;have z3:=b3.size;have z23:=hb3.size;have z34:=b34.size;have b4:=b3.trans (b34.mono b3.size);replace hL0:=hL0.keep b34;replace hC0:=hC0.keep b34;have hb14:=(hb2.trans (hb3.mono hb2.size)).trans (b34.mono (by have:=hb2.size;omega));have hLp:∃cur,w4.heap[w.heap.size+1]? = some (.cells cur 40 (0,0)):=⟨_,(hb14.block (w.heap.size+1) (Ar.1 hLw).1).trans hLw⟩;clear hw4 hb14 hLw b1 hb2 hb3;rw [←S.h0] at hP4;go_wp2_with fail;refine (wpIn_wide (n:=3)).1 ?_;refine Qg (F:=Fence.wide) rfl qA (gf:=174) (lb:=#[.pointer (some ⟨w3.heap.size,0,none⟩)]) rfl trivial (enters_of Tryz.func174 qC rfl)
  (aV 2 qA w4 w3.heap.size w2.heap.size n3 c3 a3 S.q S.more S.once S.next S.f r S.m2 hpb hP4 hO4 qA S.sq S.xq S.h1 S.h2 S.h3 S.h4 S.h5 S.h6 S.h7 S.h8 S.h9 S.sS S.sM S.sC S.sN S.sF)
  (fun _=>rfl) (fun h h'=>KpT.trans h h') (fun W l o o' _ ho hc _=>KpT.putObj ho hc)
  (fun pre x W l o o' _ ho hc ⟨r',k1,k2,k3⟩=>⟨r',k1,Dz k2 k3 (KpT.putObj ho hc)⟩)
  (fun xs W l o o' _ ho hc h=>⟨h.1,h.2.kp (KpT.putObj ho hc)⟩)
  (fun pre W=>(aT W (w.heap.size+1) pre∧Below w.heap.size w W)∧B4 W w.heap.size (.bool false) (.slice none 0 0) (.bool false) (.slice none 0 0))
  (OwnFrom.and (OwnFrom.and (aT.own _ _) (ownFrom_below (Ad _) qA)) (B4.own _ _ _ _ _ _))
  ⟨⟨aT.nil hL0 hLp,b4⟩,hC0⟩ ?a1 ?assign ?body ?done
 case assign =>
  intro l x W K hK;dsimp only [encX]
  gi_wp2
  exact hK
 case body =>
  rintro l pre x W ⟨⟨⟨v,hv,hpd,hF⟩,hB⟩,hC⟩ ⟨r',k1,k2,k3⟩;have hp0:pre=[]:=by
   have:=(List.getElem?_eq_some_iff.1 k1).1;simp at this;exact this
  subst hp0;rcases hF with ⟨-,rfl⟩|⟨x',G,cap,e,_⟩
  ·have hv0:=hv.c0;have hvf:=hv.f0;have hvl:=hv.lt;have hvl2:w.heap.size<W.heap.size:=by omega
   have hvl3:w.heap.size+1<W.heap.size+1:=by omega
   have q1:¬w.heap.size+1=W.heap.size:=by omega
   have q2:¬W.heap.size=w.heap.size+1:=by omega
   have q3:¬w.heap.size=W.heap.size:=by omega
   have q4:¬W.heap.size=w.heap.size:=by omega
   gi_wp2
   have hcap:1≤(Question.appendCap 1 0 47).cut (W.tape W.drawn (Question.appendCap 1 0 47)):=Nat.le_add_right _ _;generalize (Question.appendCap 1 0 47).cut (W.tape W.drawn (Question.appendCap 1 0 47))=cap at *;have hgs:W.grownBy (W.setCell ⟨w.heap.size+1,0,none⟩ (.slice (some ⟨W.heap.size+1,0,none⟩) 1 cap)) (some (w.heap.size+1)):=Bf _ (A7 _ _);have hts:=Vw hpd 0 (.slice (some ⟨W.heap.size+1,0,none⟩) 1 cap);have hvs:=hv.set (.slice (some ⟨W.heap.size+1,0,none⟩) 1 cap);have hbs:=hB.setCell (p:=⟨w.heap.size+1,0,none⟩) qG (.slice (some ⟨W.heap.size+1,0,none⟩) 1 cap);have hcs:=hC.far ⟨w.heap.size+1,0,none⟩ (.slice (some ⟨W.heap.size+1,0,none⟩) 1 cap) (by show w.heap.size+1≠w.heap.size;omega);have hks:=KeepsOthers.setCell W ⟨w.heap.size+1,0,none⟩ (.slice (some ⟨W.heap.size+1,0,none⟩) 1 cap);have hzs:(W.setCell ⟨w.heap.size+1,0,none⟩ (.slice (some ⟨W.heap.size+1,0,none⟩) 1 cap)).heap.size=W.heap.size:=Am _ _ _;generalize W.setCell ⟨w.heap.size+1,0,none⟩ (.slice (some ⟨W.heap.size+1,0,none⟩) 1 cap)=V at *;have hbV:Below V.heap.size V (((V.alloc (.cells #[.slice x.2.1 x.2.2.1 x.2.2.2,.int .i64 x.1] 47)).alloc (.cells (#[.slice x.2.1 x.2.2.1 x.2.2.2,.int .i64 x.1]++Builtin.zeroCells #[.slice none 0 0,.int .i64 0] (cap-1)) 47)).drew):=by go_grown
   have hkV:=((KeepsOthers.alloc V (.cells #[.slice x.2.1 x.2.2.1 x.2.2.2,.int .i64 x.1] 47)).trans (KeepsOthers.alloc _ (.cells (#[.slice x.2.1 x.2.2.1 x.2.2.2,.int .i64 x.1]++Builtin.zeroCells #[.slice none 0 0,.int .i64 0] (cap-1)) 47))).trans (KeepsOthers.drew _);refine ⟨rfl,(hks.trans hkV).from _,(KpT.of_grown hgs (fun k e=>by cases e;exact Abb hpd)).trans (KpT.of_below hbV),⟨⟨_,hvs.keep hbV,?_,.inr ⟨x,W.heap.size+1,cap,rfl,rfl,hcap,?_,?_,by omega⟩⟩,hbs.trans (hbV.mono hbs.size)⟩,hcs.keep hbV⟩
   ·obtain ⟨cur,e⟩:=hts;exact ⟨cur,(hbV.block _ (Ar.1 e).1).trans e⟩
   ·rw [←hzs];simp [go_sem,Array.getElem?_append]
   ·rw [←hzs];simp [go_sem,Array.getElem?_append]
  ·cases e
 case done =>
  rintro D xs W hD hA ⟨⟨⟨v,hv,hty,hF⟩,hB⟩,hC⟩ hK;obtain ⟨⟨xn,a8,n8,c8⟩,G,cap,rfl,rfl,hcap,hg0,hg1,hLG⟩:∃x G cap,xs=[x]∧v=.slice (some ⟨G,0,none⟩) 1 cap∧1≤cap∧W.cell? ⟨G,0,none⟩=some (.slice x.2.1 x.2.2.1 x.2.2.2)∧W.cell? ⟨G,1,none⟩=some (.int .i64 x.1)∧w.heap.size+1<G:=by
   rcases hF with ⟨rfl,_⟩|h9
   ·exact absurd hA.1 qG
   ·exact h9
  obtain ⟨r',e1,hPr,hOr⟩:=hA.2.2 0 (xn,a8,n8,c8) rfl;simp only [List.getElem?_cons_zero,Option.some.injEq,Prod.mk.injEq] at e1;obtain ⟨rfl,rfl⟩:=e1;simp only at hg0 hg1 hPr hOr;have hv0:=hv.c0;have hvf:=hv.f0;obtain ⟨m0,m1,m2,m3,mf0,mf1,mf2,mf3⟩:=hC;have hcB:=h.keep hB;have hWw:=hB.size;have hvl:=hv.lt;have hDW:D<W.heap.size:=(Ar.1 hK).1;have q1:¬w.heap.size+1=w.heap.size:=by omega
  have q2:¬w.heap.size=w.heap.size+1:=by omega
  have hrf:(Instr.sliceAt 40 (.slice (some ⟨G,0,none⟩) 1 cap) none (some (.int .i64 1)) (some (.int .i64 1))).run Tryz.prog=fun W=>.ok (.slice (some ⟨G,0,none⟩) 1 1) W:=by
   funext W
   have h0:(1:Int)≤(cap:Int):=by omega
   simp [Instr.sliceAt,Instr.slice,Instr.sliceBounds,Instr.sliceBound,go_sem,h0,hcap]
  go_wp2_with fail;refine uZ ?_;refine Cf (fun W=>W.cell? ⟨w.heap.size+1,0,none⟩=some (.slice (some ⟨G,0,none⟩) 1 cap)) 9 qC qK (fun hHeld=>?_);(refine Bk.take 9 (i:=0) (v:=?_) rfl qC (fun _ _ _ h=>h) (Or.inl ⟨by rfl,?_⟩) qH ?_;rotate_left;(focus (intro w' hSw;(try dsimp only at hSw);go_simp;(try with_reducible rfl)));(try simp only [Act.put,Au,Av,Aw]));(refine Bk.take 9 (i:=2) (v:=?_) rfl qC (fun _ _ _ h=>h) (Or.inl ⟨by rfl,?_⟩) qH ?_;rotate_left;(focus (intro w' hSw;(try dsimp only at hSw);go_simp;(try with_reducible rfl)));(try simp only [Act.put,Au,Av,Aw]));(refine Bk.take 9 (i:=3) (v:=?_) rfl qC (fun _ _ _ h=>h) (Or.inl ⟨by rfl,?_⟩) qH ?_;rotate_left;(focus (intro w' hSw;(try dsimp only at hSw);go_simp;(try with_reducible rfl)));(try simp only [Act.put,Au,Av,Aw]));(refine Bk.take 9 (i:=4) (v:=?_) rfl qC (fun _ _ _ h=>h) (Or.inl ⟨by rfl,?_⟩) qH ?_;rotate_left;(focus (intro w' hSw;(try dsimp only at hSw);go_simp;(try with_reducible rfl)));(try simp only [Act.put,Au,Av,Aw]));(refine Bk.take 9 (i:=5) (v:=?_) rfl qC (fun _ _ _ h=>h) (Or.inl ⟨by rfl,?_⟩) qH ?_;rotate_left;(focus (intro w' hSw;(try dsimp only at hSw);go_simp;(try with_reducible rfl)));(try simp only [Act.put,Au,Av,Aw]));(refine Bk.take 9 (i:=6) (v:=?_) rfl qC (fun _ _ _ h=>h) (Or.inl ⟨by rfl,?_⟩) qH ?_;rotate_left;(focus (intro w' hSw;(try dsimp only at hSw);go_simp;(try with_reducible rfl)));(try simp only [Act.put,Au,Av,Aw]));(refine Bk.take 9 (i:=7) (v:=?_) rfl qC (fun _ _ _ h=>h) (Or.inl ⟨by rfl,?_⟩) qH ?_;rotate_left;(focus (intro w' hSw;(try dsimp only at hSw);go_simp;(try with_reducible rfl)));(try simp only [Act.put,Au,Av,Aw]));(refine Bk.one (i:=1) rfl qC (fun K hK=>?_);go_simp;(go_at_call 68;(with_reducible refine (Vu _ B a n c t0 pl (hcB.keep qF) hs.pw 100 hs.few (by have:n≤40:=(by rw [←hnl];exact hsl);omega)).mono ?_);rintro e w5 ⟨g1,a1,n1,c1,g2,a2,n2,c2,rfl,hfr,hf1,hf2,hap,hb⟩;have hb5:Below W.heap.size W w5:=(by first|exact hb|exact Al qF (hb.mono qB));have z5:=hb5.size;(replace hv0:=Bc hb5 hv0;replace m0:=Bc hb5 m0;replace m1:=Bc hb5 m1;replace m2:=Bc hb5 m2;replace m3:=Bc hb5 m3;replace hg0:=Bc hb5 hg0;replace hg1:=Bc hb5 hg1);replace hvf:=(hb5.frozen hvl).trans hvf;replace mf0:=(hb5.frozen (show w.heap.size<W.heap.size by omega)).trans mf0;replace mf1:=(hb5.frozen (show w.heap.size<W.heap.size by omega)).trans mf1;replace mf2:=(hb5.frozen (show w.heap.size<W.heap.size by omega)).trans mf2;replace mf3:=(hb5.frozen (show w.heap.size<W.heap.size by omega)).trans mf3);(try go_wp2_with fail);refine hK.out _ _ (fun _=>qK) ?_;clear hK K;(try simp only [Act.put,Au,Av,Aw]));(refine Bk.one (i:=8) rfl qC (fun K hK=>?_);go_simp;skip;(try go_wp2_with fail);refine hK.out _ _ (fun _=>qK) ?_;clear hK K;(try simp only [Act.put,Au,Av,Aw]));(refine Bk.one (i:=9) rfl qC (fun K hK=>?_);go_simp;refine hK.out _ _ (fun h=>absurd h qI) ?_;clear hK K;(try simp only [Act.put,Au,Av,Aw]))
  (refine Bk.one (i:=10) rfl qC (fun K hK=>?_);go_simp;refine hK.out _ _ (fun h=>absurd h qI) ?_;clear hK K;(try simp only [Act.put,Au,Av,Aw]));refine Bk.done qC ?_ _;simp only [calm];go_wp2_with fail;have K5:=(hb5.block D hDW).trans hK;have k1:=KeepsOthers.setCell w5 ⟨w.heap.size,0,none⟩ (.bool g1);have k2:=k1.trans (KeepsOthers.setCell _ ⟨w.heap.size,1,none⟩ (.slice a1 n1 c1));have k3:=k2.trans (KeepsOthers.setCell _ ⟨w.heap.size,2,none⟩ (.bool g2));have k4:=k3.trans (KeepsOthers.setCell _ ⟨w.heap.size,3,none⟩ (.slice a2 n2 c2));have k5:=k4.trans (KeepsOthers.setCell _ ⟨w.heap.size+1,0,none⟩ (.slice (some ⟨G,0,none⟩) 1 1));have K9:=k5.same D _ K5 rfl;have gA:w5.grownBy ((((w5.setCell ⟨w.heap.size,0,none⟩ (.bool g1)).setCell ⟨w.heap.size,1,none⟩ (.slice a1 n1 c1)).setCell ⟨w.heap.size,2,none⟩ (.bool g2)).setCell ⟨w.heap.size,3,none⟩ (.slice a2 n2 c2)) (some w.heap.size):=Bf _ (Bf _ (Bf _ (Bf _ (A7 _ _))));have tA:=(B4.mk m0 m1 m2 m3 mf0 mf1 mf2 mf3).set (.bool g1) (.slice a1 n1 c1) (.bool g2) (.slice a2 n2 c2);have lA:=(B1.mk hv0 hvf).row gA qG;have bA:=Gu (b:=w.heap.size) (hB.trans (hb5.mono hWw)) (Ad _) (.bool g1) (.slice a1 n1 c1) (.bool g2) (.slice a2 n2 c2);have zA:=gA.size;generalize ((((w5.setCell ⟨w.heap.size,0,none⟩ (.bool g1)).setCell ⟨w.heap.size,1,none⟩ (.slice a1 n1 c1)).setCell ⟨w.heap.size,2,none⟩ (.bool g2)).setCell ⟨w.heap.size,3,none⟩ (.slice a2 n2 c2))=wA at *;have gB:wA.grownBy (wA.setCell ⟨w.heap.size+1,0,none⟩ (.slice (some ⟨G,0,none⟩) 1 1)) (some (w.heap.size+1)):=Bf _ (A7 _ _);have tB:=tA.far ⟨w.heap.size+1,0,none⟩ (.slice (some ⟨G,0,none⟩) 1 1) (by show w.heap.size+1≠w.heap.size;omega);have lB:=lA.set (.slice (some ⟨G,0,none⟩) 1 1);have bB:=bA.setCell (p:=⟨w.heap.size+1,0,none⟩) qG (.slice (some ⟨G,0,none⟩) 1 1);have e0:=gB.cell (gA.cell hg0 qJ) qJ;have e1:=gB.cell (gA.cell hg1 qJ) qJ;have h4:w.heap.size+1<w4.heap.size:=hL0.lt;have P5:=((hPr.keep hb5).butR gA (fun k e=>by cases e;omega)).butR gB (fun k e=>by cases e;omega);have O5:=((hOr.keep hb5).butR gA (fun k e=>by cases e;omega)).butR gB (fun k e=>by cases e;omega);have f1:=(hf1.butR gA (fun k e=>by cases e;first|omega|(simp;omega))).butR gB (fun k e=>by cases e;first|omega|(simp;omega));have f2:=(hf2.butR gA (fun k e=>by cases e;first|omega|(simp;omega))).butR gB (fun k e=>by cases e;first|omega|(simp;omega));have hfr2:=(hfr.butR (hf1.nw hfr.top.rd) (hf2.nw hfr.low.rd) gA (fun k e=>by cases e;first|omega|(simp;omega))).butR (hf1.nw hfr.top.rd) (hf2.nw hfr.low.rd) gB (fun k e=>by cases e;first|omega|(simp;omega));generalize wA.setCell ⟨w.heap.size+1,0,none⟩ (.slice (some ⟨G,0,none⟩) 1 1)=w9 at *;clear k1 k2 k3 k4 k5 gA gB tA lA hK K5;refine ⟨by simp,.inl ⟨_,_,rfl,run_takeDeferred K9,?_⟩⟩;have gX:=grownBy_putObj' w9 D (.deferred none);have hrow:∀r,some D=some r→∃o:Obj,w9.heap[r]? = some o∧o.isCells=false:=fun r e=>by cases e;exact ⟨_,K9,rfl⟩
  have kX:KpT w9 (w9.putObj D (.deferred none)):=KpT.putObj K9 rfl;have tX:=B4.own (β:=Unit) 0 _ _ _ _ _ () _ _ _ tB gX (fun r e=>⟨Ba _,hrow r e⟩);have lX:=cell_kept lB.c0 gX hrow;have e0X:=cell_kept e0 gX hrow;have e1X:=cell_kept e1 gX hrow;have PX':=Dz P5 O5 kX;have FX:=hfr2.kp f1 f2 kX;have bX:=bB.grown gX bB.size (fun k e=>by cases e;omega);generalize w9.putObj D (.deferred none)=X at *;obtain ⟨t0',t1',t2',t3',-,-,-,-⟩:=tX;refine ⟨.tuple #[.agg #[.bool g1,.slice a1 n1 c1,.bool g2,.slice a2 n2 c2],.slice (some ⟨G,0,none⟩) 1 1,.int .i64 0],?_,?_⟩
  ·simp [results,Tryz.results49,go_sem,t0',t1',t2',t3',lX]
  ·exact ⟨g1,a1,n1,c1,g2,a2,n2,c2,G,a8,n8,c8,rfl,FX,e0X,e1X,PX'.1.mono qA,PX'.2.mono qA,bX⟩
def pA:Δ:=[(562949953421312,1,1),(0,-1,1)]
def pM:Δ:=[(281474976710656,1,1),(0,-1,1)]
def pP:Δ:=[(281474976710656,1,1),(0,1,1)]
theorem zL {L:List (Δ)} (h:L.all smB=true):∀x∈L,Sm x:=fun x hx=>Sm.of (List.all_eq_true.1 h x hx)
def sqA:Sq1 pA pA where
 q:=pA
 more:=Na
 once:=pA
 next:=Na
 f:=pA
 m2:=Na
 h0:=by decide +kernel
 h1:=by decide +kernel
 h2:=by decide +kernel
 h3:=by decide +kernel
 h4:=by decide +kernel
 h5:=by decide +kernel
 h6:=by decide +kernel
 h7:=by decide +kernel
 h8:=by decide +kernel
 h9:=by decide +kernel
 sq:=Sm.of (by decide +kernel)
 xq:=by intro t ht;simp [pA] at ht;rcases ht with rfl|rfl<;>decide
 sS:=zL (by decide +kernel)
 sM:=I8
 sC:=Sm.of (by decide +kernel)
 sN:=I8
 sF:=Sm.of (by decide +kernel)
theorem Aay (w:World) (g:Bool) (a:Γ) (n c:Nat) (z:Int) (h:Bh w g a n c z) (h2:n≤2):Θ 108 #[.agg #[.bool g,.slice a n c]] w (W9 w z):=by
 by_cases h0:0≤z
 ·exact Wa w g a n c z h h0 h2
 ·exact oZ w g a n c z h qA h2
theorem Acd (w:World) (z:Int) (h1:-4611686018427387904<z) (h2:z<4611686018427387904) :
  Θ 248 #[.int .i64 z] w (fun e w'=>e=.returned (.int .i64 (max z (-z)))∧w'=w):=by
 go_enter Tryz.func248,Tryz.ntmps248;go_wp2_with fail;go_ret;exact ⟨rfl,rfl⟩
theorem Aaf (w:World) (x:Int) (a:Γ) (n c:Nat) (hn:n≤1000000) :
  Θ 112 #[.agg #[.int .i64 x,.slice a n c]] w (fun e w'=>e=.returned (.int .i64 ((n:Int)-1))∧Below w.heap.size w w'):=by
 go_enter Tryz.func112,Tryz.ntmps112;go_wp2_with fail;go_ret;exact ⟨rfl,by go_grown⟩
theorem dK {l:Δ} (hx:Mt l) (j:Nat) (h1:j=1∨j=2∨j=3):C6 l j≤0:=by
 have h:∀(l:Δ) (a:Int),Mt l→a≤0→l.foldl (fun n t=>max n (exN t.1 j:Int)) a≤0:=by
  intro l
  induction l with
  | nil=>intro a _ ha;exact ha
  | cons t l ih =>
   intro a hx ha;refine ih _ (fun u hu=>hx u (by simp [hu])) ?_;have h3:=hx t qG;have e0:(65536:Nat) ^ 3=281474976710656:=by decide
   have e1:(65536:Nat) ^ 2=4294967296:=by decide
   have h2:exN t.1 j=0:=by
    unfold exN;rcases h1 with rfl|rfl|rfl<;>simp only [Nat.reduceSub,e0,e1,Nat.pow_one,Nat.pow_zero,Nat.div_one]<;>omega
   show max a (exN t.1 j:Int)≤0;rw [h2];omega
 exact h l (-1) hx qA
theorem Abc (wo:World) (B n c:Nat) (a:Γ) (l:Δ) (h:Bd wo B a n c l) (hl:Sm l) (hx:Mt l) (hd:0<C6 l 0) :
  Θ 106 #[.slice a n c] wo (fun e w'=>e=.returned (.tuple #[.int .i64 0,.int .i64 1])∧Below wo.heap.size wo w'):=by
 have HB:=Ac wo.heap.size wo;go_enter Tryz.func106,Tryz.ntmps106;go_wp2_with fail;go_loopw [2,3,5] (fun v2 v3 v5 wr=>∃i:Nat,i≤4∧v2=.int .i64 0∧v3=.int .i64 (if i=0 then 0 else 1)∧v5=.int .i64 i∧Below wo.heap.size wo wr) (fun _ _ v5 _=>4-(intOf v5).toNat)
 case atStart=>exact ⟨0,by omega,rfl,rfl,rfl,HB⟩
 case round =>
  obtain ⟨i,hi,rfl,rfl,rfl,HBr⟩:=hrel;by_cases hlt:i<4
  ·have D1:=Il wr B a n c l (h.keep HBr) hl.pw (hl.few.mono qA) (by have:=h.len;have:=hl.len;omega) i hlt;have hlti:(i:Int)<4:=by omega
   by_cases h0:i=0
   ·subst h0;go_wp2_with fail;refine D1.mono ?_;rintro e w2 ⟨rfl,hb2⟩;go_wp2_with fail;go_roundw
    case rel=>exact ⟨1,by omega,rfl,rfl,rfl,HBr.trans (hb2.mono HBr.size)⟩
    case measure=>simp [intOf]
   ·have hdi:¬0<C6 l i:=by have:=dK hx i qA;omega
    rw [if_neg h0];generalize C6 l i=d at *;go_wp2_with fail;refine D1.mono ?_;rintro e w2 ⟨rfl,hb2⟩;go_wp2_with fail;go_roundw
    case rel=>exact ⟨i+1,by omega,rfl,by simp,by go_num,HBr.trans (hb2.mono HBr.size)⟩
    case measure=>(first|(simp [intOf];omega)|(simp [intOf];done))
  ·obtain rfl:i=4:=by omega
   go_wp2_with fail;refine bodyPost_ret (v:=.tuple #[.int .i64 0,.int .i64 1]) (by simp [results,Tryz.results106,go_sem]) rfl ?_;exact ⟨rfl,HBr⟩
def zAt (l:Δ) (k:Nat):Int:=l.foldl (fun z t=>if k=exN t.1 0 then t.2.1 else z) 0
theorem rR (l:Δ) (x:PT) (k:Nat):zAt (l++[x]) k=if k=exN x.1 0 then x.2.1 else zAt l k:=by unfold zAt;rw [List.foldl_append];rfl
structure RdZ (w:World) (a:Γ) (n:Nat) (f:Nat→Int):Prop where
 ex:∃g,a=some ⟨g,0,none⟩∧∀k,k<n→w.cell? ⟨g,k,none⟩=some (.int .i64 (f k))
theorem RdZ.keep {w w':World} {a:Γ} {n:Nat} {f:Nat→Int} (h:RdZ w a n f) (hb:Below w.heap.size w w'):RdZ w' a n f:=by
 obtain ⟨g,e,h⟩:=h.ex;exact ⟨g,e,fun k hk=>Bc hb (h k hk)⟩
theorem eK:(Tryz.prog.info? 3).map (fun i=>(i.zero,i.size,i.bytes))=some (some (.int .i64 0),1,8):=by kernel_rfl
theorem bM (wo:World) (B n c:Nat) (a:Γ) (l:Δ) (h:Bd wo B a n c l) (hl:Sm l) (hne:l≠[]) (N:Nat) (hN:C6 l 0=(N:Int)) (hN1:N≤1000) (most:Int) (hm0:0≤most) (hm1:most≤1099511627776) (hz:∀t∈l,-most≤t.2.1∧t.2.1≤most) :
  Θ 50 #[.slice a n c,.int .i64 0,.int .i64 most] wo (fun e w'=>∃g,wo.heap.size<g∧e=.returned (.tuple #[.agg #[.int .i64 0,.slice (some ⟨g,0,none⟩) (N+1) (N+1)],.bool true])∧RdZ w' (some ⟨g,0,none⟩) (N+1) (zAt l)∧Below wo.heap.size wo w'):=by
 have HB:=Ac wo.heap.size wo;have hnl:=h.len;have hn40:=hl.len;have HN:=Ae hN;have HZ:=Ae hz;have hmk:=fun W=>Qa 90 3 (.int .i64 0) Tryz.underlying90 eK qI rfl (N+1) qA W
 simp only [Int.natCast_add,Int.natCast_one] at hmk;obtain ⟨p,hp,hpx⟩:=h.ts;have P5:=Ae hpx;have HDG:=Ae (Sd l 0);clear hN hz hpx;go_enter Tryz.func50,Tryz.ntmps50;go_wp2_with fail;refine Be ?_;intro w0 hw0;have b0:Below wo.heap.size wo w0:=by rw [hw0];go_grown
 have x0:w0.cell? ⟨wo.heap.size,0,none⟩=some (.int .i64 0):=by rw [hw0];simp [go_sem]
 have x1:w0.cell? ⟨wo.heap.size,1,none⟩=some (.slice none 0 0):=by rw [hw0];simp [go_sem]
 have xf0:w0.frozen? ⟨wo.heap.size,0,none⟩=false:=by rw [hw0];simp [go_sem]
 have xf1:w0.frozen? ⟨wo.heap.size,1,none⟩=false:=by rw [hw0];simp [go_sem]
 have hlt0:wo.heap.size<w0.heap.size:=by rw [hw0];simp
 clear hw0;refine (Il w0 B a n c l (h.keep b0) hl.pw (hl.few.mono qA) qA 0 qA).mono ?_;rintro e w1 ⟨rfl,hb1⟩;rw [HN.out];have z1:=hb1.size;have b1:=b0.trans (hb1.mono b0.size)
 (replace x0:=Bc hb1 x0;replace x1:=Bc hb1 x1)
 replace xf0:=(hb1.frozen hlt0).trans xf0;replace xf1:=(hb1.frozen hlt0).trans xf1;have hlt1:wo.heap.size<w1.heap.size:=by omega
 have hne1:¬wo.heap.size=w1.heap.size:=by omega
 have hne2:¬w1.heap.size=wo.heap.size:=by omega
 go_wp2_with fail;have hcells:∀k,k<N+1→((w1.alloc (.cells (Array.replicate (N+1) (.int .i64 0)) 3)).alloc (.cells #[.int .i64 0,.slice (some ⟨w1.heap.size,0,none⟩) (N+1) (N+1)] 92)).cell? ⟨w1.heap.size,k,none⟩=some (.int .i64 0)∧((w1.alloc (.cells (Array.replicate (N+1) (.int .i64 0)) 3)).alloc (.cells #[.int .i64 0,.slice (some ⟨w1.heap.size,0,none⟩) (N+1) (N+1)] 92)).frozen? ⟨w1.heap.size,k,none⟩=false:=fun k hk=>by constructor<;>simp [go_sem,hk]
 have o0:((w1.alloc (.cells (Array.replicate (N+1) (.int .i64 0)) 3)).alloc (.cells #[.int .i64 0,.slice (some ⟨w1.heap.size,0,none⟩) (N+1) (N+1)] 92)).cell? ⟨w1.heap.size+1,0,none⟩=some (.int .i64 0)∧((w1.alloc (.cells (Array.replicate (N+1) (.int .i64 0)) 3)).alloc (.cells #[.int .i64 0,.slice (some ⟨w1.heap.size,0,none⟩) (N+1) (N+1)] 92)).cell? ⟨w1.heap.size+1,1,none⟩=some (.slice (some ⟨w1.heap.size,0,none⟩) (N+1) (N+1)):=by constructor<;>simp [go_sem]
 have bZ:Below w1.heap.size w1 ((w1.alloc (.cells (Array.replicate (N+1) (.int .i64 0)) 3)).alloc (.cells #[.int .i64 0,.slice (some ⟨w1.heap.size,0,none⟩) (N+1) (N+1)] 92)):=by go_grown
 (replace x0:=Bc bZ x0;replace x1:=Bc bZ x1)
 replace xf0:=(bZ.frozen hlt1).trans xf0;replace xf1:=(bZ.frozen hlt1).trans xf1;have bZ2:=b1.trans (bZ.mono b1.size);generalize ((w1.alloc (.cells (Array.replicate (N+1) (.int .i64 0)) 3)).alloc (.cells #[.int .i64 0,.slice (some ⟨w1.heap.size,0,none⟩) (N+1) (N+1)] 92))=wz at *;have hGlt:=hlt1;clear bZ hb1 b0 b1 hne1 hne2;generalize w1.heap.size=G at *;go_loopw [22] (fun v22 wr=>∃i:Nat,i≤n∧v22=.int .i64 i∧(∀k,k<N+1→wr.cell? ⟨G,k,none⟩=some (.int .i64 (zAt (l.take i) k))∧wr.frozen? ⟨G,k,none⟩=false)∧(wr.cell? ⟨G+1,0,none⟩=some (.int .i64 0)∧wr.cell? ⟨G+1,1,none⟩=some (.slice (some ⟨G,0,none⟩) (N+1) (N+1)))∧(wr.cell? ⟨wo.heap.size,0,none⟩=some (.int .i64 0)∧wr.cell? ⟨wo.heap.size,1,none⟩=some (.slice none 0 0)∧wr.frozen? ⟨wo.heap.size,0,none⟩=false∧wr.frozen? ⟨wo.heap.size,1,none⟩=false)∧Below wo.heap.size wo wr) (fun v22 _=>n-(intOf v22).toNat)
 case atStart=>exact ⟨0,by omega,rfl,hcells,o0,⟨x0,x1,xf0,xf1⟩,bZ2⟩
 case round =>
  clear hcells o0 x0 x1 xf0 xf1 bZ2;obtain ⟨i,hi,rfl,hcells,⟨o0,o1⟩,⟨x0,x1,xf0,xf1⟩,HBr⟩:=hrel;by_cases hlt:i<n
  ·obtain ⟨gb,go,rfl,_⟩:=hp.cell.resolve_left qA;have hil:i<l.length:=by rw [hnl];exact hlt
   obtain ⟨x,hx⟩:∃x,l[i]? = some x:=⟨_,Ai hil⟩;have hm:=A8 hx;have hat:=(hp.keep HBr).at hlt;have hrt:=hp.tm i hlt;have hti:=(P5.out i x hx).1;have hgx:=hl.pw.good x hm;have hzx:=HZ.out x hm;have hex:=(Ec hrt.s1 hrt.s2 hrt.s3 hrt.s0);rw [hti.key] at hex;have hle:(p i).m0<N+1:=by have:=HDG.out x hm;rw [HN.out,hex.1] at this;omega
   have HT:=Ae (show ∀k,zAt (l.take (i+1)) k=if k=(p i).m0 then x.2.1 else zAt (l.take i) k from fun k=>by rw [List.take_add_one,hx];show zAt (l.take i++[x]) k=_;rw [rR,hex.1]);have hfr:=(hti.frac hrt hgx.1);generalize hs:p i=s at *;obtain ⟨e0,e1,e2,e3,e4,e5,e6,e7⟩:=hat;have hn2:s.n1≤2:=by
    have h3:=hfr.top.rd.len;have h4:By 2 ((1099511627776,1):PC):=By.mono (Oc _) qI;have h5:=Bn (a:=x.2.1.natAbs) (b:=1099511627776) qA;have h6:(dg 1099511627776).length≤2:=h4.1;omega
   have hcm:=(hcells s.m0 hle).1;have hcf:=(hcells s.m0 hle).2;have him:(s.m0:Int)<(N:Int)+1:=by omega
   have hil0:(0:Int)≤(s.m0:Int):=by omega
   clear hil hx hs hex;obtain ⟨w,rfl⟩:∃w:World,w=wr:=⟨_,rfl⟩;have hGw:G<w.heap.size:=Aa _ _ hcm;have hOw:G+1<w.heap.size:=Aa _ _ o0;have T0:=Dh.new w s;go_wp2_with fail;refine Be ?_;intro w2 hw2;have b2:Below w.heap.size w w2:=by rw [hw2];go_grown
   have T2:Dh w2 w.heap.size s:=by rw [hw2];exact T0
   clear hw2 T0 e0 e1 e2 e3 e4 e5 e6 e7;refine (Aay w2 s.g1 s.a1 s.n1 s.c1 x.2.1 (hfr.top.keep (HBr.trans (b2.mono HBr.size))) hn2).mono ?_;rintro e w3 ⟨rfl,hb3⟩;have T3:=T2.keep hb3;have z2:=b2.size;have b3:=b2.trans (hb3.mono z2);have hc3:∀k,k<N+1→w3.cell? ⟨G,k,none⟩=some (.int .i64 (zAt (l.take i) k))∧w3.frozen? ⟨G,k,none⟩=false:=fun k hk=>⟨Bc b3 (hcells k hk).1,(b3.frozen hGw).trans (hcells k hk).2⟩
   (replace o0:=Bc b3 o0;replace o1:=Bc b3 o1;replace x0:=Bc b3 x0;replace x1:=Bc b3 x1;replace hcm:=Bc b3 hcm)
   replace hcf:=(b3.frozen hGw).trans hcf;replace xf0:=(b3.frozen (show wo.heap.size<w.heap.size by omega)).trans xf0;replace xf1:=(b3.frozen (show wo.heap.size<w.heap.size by omega)).trans xf1;clear hcells b2 hb3 T2;obtain ⟨t0,t1,t2,t3,t4,t5,t6,t7,-,-,-,-,-,-,-,-⟩:=T3;have hz1:=hzx.1;have hz2:=hzx.2;generalize hzz:x.2.1=z at *;have hw1:IntKind.i64.wrap z=z:=IntWalk.i64_in _ qA;have hlo:¬z < -most:=by omega
   have hhi:¬most<z:=by omega
   clear hzz hzx;go_wp2_with fail;refine Cf (fun W=>W.cell? ⟨G+1,1,none⟩=some (.slice (some ⟨G,0,none⟩) (N+1) (N+1))∧W.cell? ⟨w.heap.size,4,none⟩=some (.int .u16 s.m0)) 8 qC qK (fun hHeld=>?_);(refine Bk.take 8 (i:=0) (v:=?_) rfl qC (fun _ _ _ h=>h) (Or.inl ⟨by rfl,?_⟩) qH ?_;rotate_left;(focus (intro w' hSw;(try dsimp only at hSw);go_simp;(try with_reducible rfl)));(try simp only [Act.put,Au,Av,Aw]));(refine Bk.take 8 (i:=1) (v:=?_) rfl qC (fun _ _ _ h=>h) (Or.inl ⟨by rfl,?_⟩) qH ?_;rotate_left;(focus (intro w' hSw;(try dsimp only at hSw);go_simp;(try with_reducible rfl)));(try simp only [Act.put,Au,Av,Aw]));(refine Bk.take 8 (i:=2) (v:=?_) rfl qC (fun _ _ _ h=>h) (Or.inl ⟨by rfl,?_⟩) qH ?_;rotate_left;(focus (intro w' hSw;(try dsimp only at hSw);go_simp;(try with_reducible rfl)));(try simp only [Act.put,Au,Av,Aw]));(refine Bk.take 8 (i:=3) (v:=?_) rfl qC (fun _ _ _ h=>h) (Or.inl ⟨by rfl,?_⟩) qH ?_;rotate_left;(focus (intro w' hSw;(try dsimp only at hSw);go_simp;(try with_reducible rfl)));(try simp only [Act.put,Au,Av,Aw]));(refine Bk.take 8 (i:=4) (v:=?_) rfl qC (fun _ _ _ h=>h) (Or.inl ⟨by rfl,?_⟩) qH ?_;rotate_left;(focus (intro w' hSw;(try dsimp only at hSw);go_simp;(try with_reducible rfl)));(try simp only [Act.put,Au,Av,Aw]));(refine Bk.take 8 (i:=5) (v:=?_) rfl qC (fun _ _ _ h=>h) (Or.inl ⟨by rfl,?_⟩) qH ?_;rotate_left;(focus (intro w' hSw;(try dsimp only at hSw);go_simp;(try with_reducible rfl)));(try simp only [Act.put,Au,Av,Aw]));(refine Bk.take 8 (i:=6) (v:=?_) rfl qC (fun _ _ _ h=>h) (Or.inl ⟨by rfl,?_⟩) qH ?_;rotate_left;(focus (intro w' hSw;(try dsimp only at hSw);go_simp;(try with_reducible rfl)));(try simp only [Act.put,Au,Av,Aw]));(refine Bk.take 8 (i:=7) (v:=?_) rfl qC (fun _ _ _ h=>h) (Or.inl ⟨by rfl,?_⟩) qH ?_;rotate_left;(focus (intro w' hSw;(try dsimp only at hSw);go_simp;(try with_reducible rfl)));(try simp only [Act.put,Au,Av,Aw]));(refine Bk.one (i:=8) rfl qC (fun K hK=>?_);go_simp;refine hK.out _ _ (fun h=>absurd h qI) ?_;clear hK K;(try simp only [Act.put,Au,Av,Aw]));refine Bk.done qC ?_ _;have hg4:w3.grownBy ((w3.setCell ⟨G,s.m0,none⟩ (.int .i64 z)).drew) (some G):=(Bf _ (A7 _ _)).trans (Bt qF |>.but _);have hb4:Below wo.heap.size wo ((w3.setCell ⟨G,s.m0,none⟩ (.int .i64 z)).drew):=Below.grown (HBr.trans (b3.mono HBr.size)) hg4 (HBr.trans (b3.mono HBr.size)).size (fun k e=>by cases e;omega);have hc4:∀k,k<N+1→((w3.setCell ⟨G,s.m0,none⟩ (.int .i64 z)).drew).cell? ⟨G,k,none⟩=some (.int .i64 (zAt (l.take (i+1)) k))∧((w3.setCell ⟨G,s.m0,none⟩ (.int .i64 z)).drew).frozen? ⟨G,k,none⟩=false:=fun k hk=>by
    refine ⟨?_,?_⟩
    ·rw [HT.out k];by_cases e:k=s.m0
     ·subst e;rw [if_pos rfl];exact World.cell?_setCell_same' _ _ _ (by rw [hcm];rfl)
     ·rw [if_neg e];exact (World.cell?_setCell_other w3 ⟨G,s.m0,none⟩ ⟨G,k,none⟩ _ qT).trans (hc3 k hk).1
    ·exact (World.frozen?_setCell _ _ _ _).trans (hc3 k hk).2
   have y0:=hg4.cell o0 qG;have y1:=hg4.cell o1 qG;have y2:=hg4.cell x0 qJ;have y3:=hg4.cell x1 qJ;have y4:=(hg4.frozen_far _ (Aa _ _ x0) qJ).trans xf0;have y5:=(hg4.frozen_far _ (Aa _ _ x1) qJ).trans xf1;generalize (w3.setCell ⟨G,s.m0,none⟩ (.int .i64 z)).drew=w9 at *;clear hg4 hc3 o0 o1 x0 x1 xf0 xf1 hcm hcf t0 t1 t2 t3 t4 t5 t6 t7;go_wp2_with fail;go_roundw
   case rel=>exact ⟨i+1,by omega,by go_num,hc4,⟨y0,y1⟩,⟨y2,y3,y4,y5⟩,hb4⟩
   case measure=>(first|(simp [intOf];omega)|(simp [intOf];done))
  ·obtain rfl:i=n:=by omega
   rw [As qA] at hcells;go_wp2_with fail;have hgA:wr.grownBy ((wr.setCell ⟨wo.heap.size,0,none⟩ (.int .i64 0)).setCell ⟨wo.heap.size,1,none⟩ (.slice (some ⟨G,0,none⟩) (N+1) (N+1))) (some wo.heap.size):=Bf _ (Bf _ (A7 _ _));have hbA:=(HBr.setCell (p:=⟨wo.heap.size,0,none⟩) (Ad _) (.int .i64 0)).setCell (p:=⟨wo.heap.size,1,none⟩) (Ad _) (.slice (some ⟨G,0,none⟩) (N+1) (N+1));refine bodyPost_ret (v:=.tuple #[.agg #[.int .i64 0,.slice (some ⟨G,0,none⟩) (N+1) (N+1)],.bool true]) (by simp [*,results,Tryz.results50,go_sem]) rfl ?_;exact ⟨G,hGlt,rfl,⟨G,rfl,fun k hk=>hgA.cell (hcells k hk).1 qJ⟩,hbA⟩
theorem oA (w:World) (B n c:Nat) (a:Γ) (l:Δ) (h:Bd w B a n c l) (hl:Sm l) (hx:Mt l) (N:Nat) (hN:C6 l 0=(N:Int)) (hN0:0<N) (hN5:N≤5) (hq:Sm (Ck l)) (hqN:C6 (Ck l) 0=(N:Int)) (hz:∀t∈Ck l,-100≤t.2.1∧t.2.1≤100) :
  Θ 48 #[.slice a n c] w (fun e w'=>∃g,e=.returned (.tuple #[.agg #[.int .i64 0,.slice (some ⟨g,0,none⟩) (N+1) (N+1)],.int .i64 0])∧RdZ w' (some ⟨g,0,none⟩) (N+1) (zAt (Ck l))∧Below w.heap.size w w'):=by
 have hne:l≠[]:=fun e=>by rw [e] at hN;exact absurd hN (by show ¬(-1:Int)=N;omega)
 have hqe:Ck l≠[]:=fun e=>by rw [e] at hqN;exact absurd hqN (by show ¬(-1:Int)=N;omega)
 have hn:0<n:=by rw [←h.len];exact List.length_pos_iff.2 hne
 have hn0:((n:Int)==0)=false:=by rw [beq_eq_false_iff_ne];omega
 have hl40:=hl.len;have hnl:=h.len;have HN:=Ae hN;have HQ:=Ae hqN;clear hN hqN;go_enter Tryz.func48,Tryz.ntmps48;go_wp2_with fail;refine Be ?_;intro w0 hw0;have b0:Below w.heap.size w w0:=by rw [hw0];go_grown
 have x0:w0.cell? ⟨w.heap.size,0,none⟩=some (.int .i64 0):=by rw [hw0];simp [go_sem]
 have x1:w0.cell? ⟨w.heap.size,1,none⟩=some (.slice none 0 0):=by rw [hw0];simp [go_sem]
 have xf0:w0.frozen? ⟨w.heap.size,0,none⟩=false:=by rw [hw0];simp [go_sem]
 have xf1:w0.frozen? ⟨w.heap.size,1,none⟩=false:=by rw [hw0];simp [go_sem]
 have hlt0:w.heap.size<w0.heap.size:=by rw [hw0];simp
 clear hw0;refine (On (h.keep b0) hl).mono ?_;rintro e w1 ⟨rfl,hb1⟩;go_wp2_with fail;refine (Abc w1 B n c a l ((h.keep b0).keep hb1) hl hx (by rw [HN.out];omega)).mono ?_;rintro e w2 ⟨rfl,hb2⟩;go_wp2_with fail;refine (Il w2 B a n c l (((h.keep b0).keep hb1).keep hb2) hl.pw (hl.few.mono qA) qA 0 qA).mono ?_;rintro e w3 ⟨rfl,hb3⟩;rw [HN.out];have hN5':¬(5:Int)<(N:Int):=by omega
 go_wp2_with fail;refine (Kb ((((h.keep b0).keep hb1).keep hb2).keep hb3) hl).mono ?_;rintro e w4 ⟨a4,n4,c4,rfl,hP4,hO4,hb4⟩;go_wp2_with fail;refine (bM w4 _ n4 c4 a4 (Ck l) hP4 hq hqe N HQ.out qA 100 qA qA hz).mono ?_;rintro e w5 ⟨g,-,rfl,hR,hb5⟩;have s1:=hb1.size;have s2:=hb2.size;have s3:=hb3.size;have s4:=hb4.size;have s5:=hb5.size;have b5:=(((hb1.trans (hb2.mono s1)).trans (hb3.mono qA)).trans (hb4.mono qA)).trans (hb5.mono qA)
 (replace x0:=Bc b5 x0;replace x1:=Bc b5 x1)
 replace xf0:=(b5.frozen hlt0).trans xf0;replace xf1:=(b5.frozen hlt0).trans xf1;have bw5:=b0.trans (b5.mono b0.size);have hw5:w.heap.size<w5.heap.size:=by omega
 have q1:¬w.heap.size=w5.heap.size:=by omega
 have q2:¬w5.heap.size=w.heap.size:=by omega
 clear hb1 hb2 hb3 hb4 hb5;go_wp2_with fail;obtain ⟨g',eg,hRc⟩:=hR.ex;cases eg
 have hgne:w.heap.size≠g:=fun e=>by
  have h1:=hRc 1 qA;rw [←e,x1] at h1;cases h1
 have hgA:w5.grownBy (((w5.setCell ⟨w.heap.size,0,none⟩ (.int .i64 0)).setCell ⟨w.heap.size,1,none⟩ (.slice (some ⟨g,0,none⟩) (N+1) (N+1))).alloc (.cells #[.int .i64 0,.slice (some ⟨g,0,none⟩) (N+1) (N+1)] 92)) (some w.heap.size):=(Bf _ (Bf _ (A7 _ _))).trans (Bt (Below.alloc (Ac _ _) (Ad _) _) |>.but _);have hbA:=Below.grown bw5 hgA qA (fun k e=>by cases e;exact Ad _);refine bodyPost_ret (v:=.tuple #[.agg #[.int .i64 0,.slice (some ⟨g,0,none⟩) (N+1) (N+1)],.int .i64 0]) (by simp [*,results,Tryz.results48,go_sem]) rfl ?_;exact ⟨g,rfl,⟨g,rfl,fun k hk=>hgA.cell (hRc k hk) qJ⟩,hbA⟩
end Go.Proofs.YtnnhcbeiogaknaaGreatDoor
end
