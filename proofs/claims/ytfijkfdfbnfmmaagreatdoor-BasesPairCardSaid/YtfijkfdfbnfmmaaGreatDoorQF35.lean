/- Package bases: Of's closure `add`, by OrLex. -/
import Derived.Test.YtfijkfdfbnfmmaaGreatDoorQF34
set_option linter.unusedSimpArgs false
set_option linter.unusedVariables false
set_option maxRecDepth 100000
set_option maxHeartbeats 4000000
section
namespace Go.Proofs.YtfijkfdfbnfmmaaGreatDoor
open Go.RowKit Proofs.Tryz
variable {L:List (Δ)} {xs:List Value} {O LD WT GG H X B B' s n:Nat} {e:TypeId} {hl f lv gv v:Value} {w0 w w':World} {a:Γ} {l m:Δ}
def Lm (gs:List (PT×Δ)):List Value:=gs.flatMap fun z=>[U (exN z.1.1 0:Nat),U (exN z.1.1 1:Nat),U (exN z.1.1 2:Nat),U (exN z.1.1 3:Nat)]
theorem Ju:∀(gs:List (PT×Δ)) (i k:Nat) (z:PT×Δ),gs[i]? = some z→k<4→(Lm gs)[i*4+k]? = some (U (exN z.1.1 k:Nat))
 | [],i,k,z,h,_=>by simp at h
 | g::gs,0,k,z,h,hk=>by
  simp only [List.getElem?_cons_zero,Option.some.injEq] at h;subst h;unfold Lm;rw [List.flatMap_cons]
  match k,hk with
  | 0,_=>rfl
  | 1,_=>rfl
  | 2,_=>rfl
  | 3,_=>rfl
 | g::gs,i+1,k,z,h,hk=>by
  have:=Ju gs i k z (by simpa using h) hk;unfold Lm at this ⊢;rw [List.flatMap_cons,Az qL];simp only [List.length_cons,List.length_nil];rw [show (i+1)*4+k-(0+1+1+1+1)=i*4+k from qB];exact this
structure Qp (w0 w:World) (O LD WT GG H X:Nat) (gs:List (PT×Δ)) (hl f lv gv:Value):Prop where
 o:Blk w O #[.int .u8 0] 22
 wt:Blk w WT #[.pointer (E H)] 86
 hp:Blk w H #[hl,f] 93
 ld:Blk w LD #[lv] 85
 lr:w.ownsRow X 56 4 lv gs.length (Lm gs)
 gg:Blk w GG #[gv] 59
 gr:Gq w X X gv (gs.map fun z=>z.1::z.2)
 lo:w0.heap.size≤O∧w0.heap.size≤LD∧w0.heap.size≤WT∧w0.heap.size≤GG∧w0.heap.size≤H
 hi:O<X∧LD<X∧WT<X∧GG<X∧H<X
 ne:LD≠GG∧LD≠O∧LD≠WT∧LD≠H∧GG≠O∧GG≠WT∧GG≠H∧H≠O∧H≠WT
 b:xp w0 w
 xs:X≤w.heap.size
def BSt (w0 w:World) (O LD WT GG H X:Nat) (gs:List (PT×Δ)) (hl f:Value):Prop:=∃lv gv,Qp w0 w O LD WT GG H X gs hl f lv gv
theorem Qp.keep {gs:List (PT×Δ)} (h:Qp w0 w O LD WT GG H X gs hl f lv gv) (hb:xp w w'):Qp w0 w' O LD WT GG H X gs hl f lv gv :=
 ⟨h.o.keep hb,h.wt.keep hb,h.hp.keep hb,h.ld.keep hb,Bf h.lr hb,h.gg.keep hb,h.gr.keep hb,h.lo,h.hi,h.ne,(xo h.b hb),Ah h.xs hb.size⟩
theorem Gq.off {k:Nat} {cur:Array Value} {t:TypeId} (h:Gq w B B' v L) (hk:Blk w k cur t) (h1:t≠129) (h2:t≠58) (h3:t≠24) (hg:w.grownBy w' (some k)):Gq w' B B' v L:=by
 obtain ⟨xs,e1,e2⟩:=h.ex;refine ⟨xs,e1.kept hg (Sp e1 hk h3.symm),fun i l hl=>?_⟩;obtain ⟨a,n,c,q1,q2,q3⟩:=e2 i l hl;have:=Tk q2 q3 (fun cu e=>by unfold Blk at hk;rw [hk] at e;cases e;exact h1 rfl) (fun cu e=>by unfold Blk at hk;rw [hk] at e;cases e;exact h2 rfl) hg;exact ⟨a,n,c,q1,this.1,this.2⟩
theorem Hk {wi W w1:World} {row:Option Nat} (hb:xp wi W) (hg:W.grownBy w1 row):wi.grownBy w1 row:=(Bl hb row).trans hg
theorem mI (h:w.ownsRow B e s v n xs):∀k,v.ownBlock=some k→B≤k∧k<w.heap.size:=fun k hk=>by
 obtain ⟨cu,e1⟩:=Ik h hk;exact ⟨Dj h k hk,(Ar.1 e1).1⟩
theorem Qm {W:World} {b:Nat} {x:Value} (h:Z W b 0 x):∀(j:Nat) (u:Value),[x][j]? = some u→W.cell? ((J b 0:Addr).add j)=some u
 | 0,u,e=>by rw [Hx];simp at e;subst e;exact h
 | j+1,u,e=>by simp at e
theorem Qz {W:World} {b:Nat} {x0 x1 x2 x3:Value} (h0:Z W b 0 x0) (h1:Z W b 1 x1) (h2:Z W b 2 x2) (h3:Z W b 3 x3):∀(j:Nat) (u:Value),[x0,x1,x2,x3][j]? = some u→W.cell? ((J b 0:Addr).add j)=some u
 | 0,u,e=>by rw [Hx];simp at e;subst e;exact h0
 | 1,u,e=>by rw [Hx];simp at e;subst e;exact h1
 | 2,u,e=>by rw [Hx];simp at e;subst e;exact h2
 | 3,u,e=>by rw [Hx];simp at e;subst e;exact h3
 | j+4,u,e=>by simp at e
theorem Gq.offO {row:Option Nat} (h:Gq w B B' v L) (hr:∀k,row=some k→∃cur t,Blk w k cur t∧t≠129∧t≠58∧t≠24) (hg:w.grownBy w' row):Gq w' B B' v L:=by
 cases row with
 | none=>exact h.keep ⟨hg.os,hg.tape,hg.output,hg.size,fun k hk=>hg.block k hk qH⟩
 | some k =>
  obtain ⟨cur,t,h1,h2,h3,h4⟩:=hr k rfl;exact h.off h1 h2 h3 h4 hg
theorem Qp.push {gs:List (PT×Δ)} {hl':Value} (h:Qp w0 w O LD WT GG H X gs hl f lv gv) (hg:w.grownBy w' (some H)) (hB:Blk w' H #[hl',f] 93):Qp w0 w' O LD WT GG H X gs hl' f lv gv:=by
 obtain ⟨n1,n2,n3,n4,n5,n6,n7,n8,n9⟩:=h.ne;refine ⟨h.o.row hg (by intro e;cases e;exact n8 rfl),h.wt.row hg (by intro e;cases e;exact n9 rfl),hB,h.ld.row hg (by intro e;cases e;exact n4 rfl),h.lr.kept hg (Sp h.lr h.hp qI),h.gg.row hg (by intro e;cases e;exact n7 rfl),h.gr.off h.hp qI qI qI hg,h.lo,h.hi,h.ne,h.b.grown hg h.b.size (fun k hk=>by cases hk;exact h.lo.2.2.2.2),Ah h.xs hg.size⟩
theorem wC (v:Value):v.ownBlock=none∨v.ownBlock≠none:=Classical.em _
theorem Qe {b b':Nat} {e':TypeId} {s':Nat} {v':Value} {n':Nat} {xs':List Value} (h:w.ownsRow b e s v n xs) (h':w.ownsRow b' e' s' v' n' xs') (di:e≠e'):v.ownBlock=none∨v.ownBlock≠v'.ownBlock:=by
 cases h9:v'.ownBlock with
 | none=>exact (wC v).imp id id
 | some k =>
  obtain ⟨cu,e1⟩:=Ik h' h9;exact Sp h e1 di
theorem pL:(prog.info? 56).map (fun i=>(i.zero,i.size,i.bytes))=some (some (.agg #[U 0,U 0,U 0,U 0]),4,8):=qE
def apK (a b:Nat):Bool:=apB (exN a 0) (exN a 1) (exN a 2) (exN a 3) (exN b 0) (exN b 1) (exN b 2) (exN b 3)
theorem gP {c:Nat} {x:PT} (h:Be w B a n c (x::l)) (hx:Sm (x::l)):Θ 78 #[.int .u8 0,.slice a n c] w (Fy w (Fx 0 x l)) :=
 vL w 0 qB B a n c x l h hx.pw 100 hx.few qB (by have h1:=h.len;have h2:=hx.len;omega) fun k=>by
  have hm:=Oy 0 x l;exact jE hx (Kw (hx.pw.good _ hm).2) (Ch.mono (I9 (hx.few _ hm)) qB) k
theorem uD {wi wG wL:World} {gs:List (PT×Δ)} {y:PT} {rg rl:Option Nat} {v1 v2:Value} (HS:Qp w0 w O LD WT GG H X gs hl f v1 v2) (bi:xp w wi) (G1:wi.grownBy wG rg) (hg:∀k,rg=some k→X≤k∧k<w.heap.size) (L1:wG.grownBy wL rl) (pb:∀k,rl=some k→X≤k∧k<w.heap.size) (bj:∀k,rl=some k→∃cur,Blk wG k cur 56)
  (RG:Gq wG X X gv ((gs.map fun z=>z.1::z.2)++[y::m])) (HOL:wL.ownsRow X 56 4 lv (gs.length+1) (Lm (gs++[(y,m)]))) :
  Qp w0 ((wL.setCell (J GG 0) gv).setCell (J LD 0) lv) O LD WT GG H X (gs++[(y,m)]) hl f lv gv:=by
 obtain ⟨i1,i2,i3,i4,i5⟩:=HS.hi;obtain ⟨l1,l2,l3,l4,l5⟩:=HS.lo;obtain ⟨n1,n2,n3,n4,n5,n6,n7,n8,n9⟩:=HS.ne;have old:∀{b:Nat} {cur:Array Value} {t:TypeId},Blk w b cur t→b<X→Blk wL b cur t:=fun {b cur t} h hb =>
  ((h.keep bi).row G1 (fun e=>by have:=hg _ e.symm;omega)).row L1 (fun e=>by have:=pb _ e.symm;omega)
 have RI:=HS.ld;have IL:=HS.gg;have KL:=old RI i2;have KG:=old IL i4;have two:∀{b:Nat} {cur:Array Value} {t:TypeId},Blk w b cur t→b<X→b≠GG→b≠LD→Blk ((wL.setCell (J GG 0) gv).setCell (J LD 0) lv) b cur t:=fun {b cur t} h hb e1 e2=>((old h hb).far _ _ e1).far _ _ e2
 have YB:w0.heap.size≤X:=qB;have bL:xp w0 wL:=by
  have b1:=xo HS.b bi;have b2:=b1.grown G1 b1.size (fun k hk=>by have:=hg k hk;omega);exact b2.grown L1 b2.size (fun k hk=>by have:=pb k hk;omega)
 have RL:=RG.offO (fun k hk=>by obtain ⟨cur,h⟩:=bj k hk;exact ⟨cur,_,h,qI,qI,qI⟩) L1;have R1:=RL.off KG qI qI qI (Bm (o:=0) gv (World.grownBy.refl _ _));have FV:Blk (wL.setCell (J GG 0) gv) LD #[v1] 85:=KL.far _ _ n1;have R2:=R1.off FV qI qI qI (Bm (o:=0) lv (World.grownBy.refl _ _));refine ⟨two HS.o i1 (Ne.symm n5) (Ne.symm n2),two HS.wt i3 (Ne.symm n6) (Ne.symm n3),two HS.hp i5 (Ne.symm n7) (Ne.symm n4),FV.set 0 lv,?_,(KG.set 0 gv).far _ _ (Ne.symm n1),?_,HS.lo,HS.hi,HS.ne,?_,?_⟩
 ·rw [A8,List.length_singleton];exact Lx (Lx HOL i4) i2
 ·rw [List.map_append];exact R2
 ·exact (bL.setCell (p:=⟨GG,0,none⟩) l4 _).setCell (p:=⟨LD,0,none⟩) l2 _
 ·have:=HS.xs;have:=bi.size;have:=G1.size;have:=L1.size;simp only [Am];omega
theorem tN (a b:Nat):exN (Gg a b) 0=max (exN a 0) (exN b 0)∧exN (Gg a b) 1=max (exN a 1) (exN b 1)∧exN (Gg a b) 2=max (exN a 2) (exN b 2)∧exN (Gg a b) 3=max (exN a 3) (exN b 3):=by
 have h:=fun i=>Fv a i
 have h':=fun i=>Fv b i
 have a0:=h 0;have a1:=h 1;have a2:=h 2;have a3:=h 3;have b0:=h' 0;have b1:=h' 1;have b2:=h' 2;have b3:=h' 3;exact Dz qB qB qB qB
def HpS (wr:World) (X i N:Nat) (gs:List (PT×Δ)) (y:PT) (hl pb:Value):Prop :=
 (pb=hl∧((∀z∈gs,apK z.1.1 y.1=true)∨i=0∧0<N))∨(i=N∧∃z g c,gs=[z]∧apK z.1.1 y.1=false∧pb=.slice (E g) 1 c∧wr.ownsRow X 88 6 pb 1 [M 0,M 1,U (exN (Gg z.1.1 y.1) 0:Nat),U (exN (Gg z.1.1 y.1) 1:Nat),U (exN (Gg z.1.1 y.1) 2:Nat),U (exN (Gg z.1.1 y.1) 3:Nat)])
theorem mL (w0 w:World) (O LD WT GG H X:Nat) (gs:List (PT×Δ)) (hl f lv gv:Value) (hS:Qp w0 w O LD WT GG H X gs hl f lv gv) (SH:gs.length≤40) (B n c:Nat) (a:Γ) (x:PT) (l:Δ) (h:Be w B a n c (x::l)) (hx:Sm (x::l)) (y:PT) (m:Δ) (hr:Fx 0 x l=y::m) (hy:Sm (y::m)) (gw:(∀z∈gs,apK z.1.1 y.1=true)∨(∃z,gs=[z]∧apK z.1.1 y.1=false∧hl=.slice none 0 0)) :
  Θ 77 #[.slice a n c,.pointer (E O),.pointer (E LD),.pointer (E WT),.pointer (E GG)] w (fun e w'=>e=.returned (.tuple #[])∧∃hl',BSt w0 w' O LD WT GG H X (gs++[(y,m)]) hl' f∧HpS w' X gs.length gs.length gs y hl hl'):=by
 have HB:=Ac w w;have HS:=Ae hS;have HR:=Ae hr;have JN:=Ae gw;have o0:=hS.o.cell 0 _ rfl;clear hS hr gw;go_enter func77,ntmps77;go_wp2_with fail;refine (gP (h.keep qD) hx).mono ?_;rintro e w1 ⟨a1,n1,c1,rfl,P1,O1,br⟩;rw [HR.out] at P1;obtain ⟨la,lc,rfl⟩:=Fr HS.out.lr;have ao0:=br.size;have hLw:LD<w.heap.size:=HS.out.ld.lt;have hOw:O<w.heap.size:=HS.out.o.lt;have o1:=(HS.out.o.keep br).cell 0 _ rfl;clear o0;go_wp2_with fail;refine (Xg P1 hy).mono ?_;rintro e w2 ⟨t,rfl,ht,kz,ln,nk,bp⟩;have b2:=br.trans (bp.mono ao0);have a2r:=bp.size;have d2:Z w2 LD 0 (.slice la gs.length lc):=(HS.out.ld.keep b2).cell 0 _ rfl;have lL:LD<w2.heap.size:=qB;have P2:=P1.keep bp;have O2:=O1.keep bp;have nL:¬w2.heap.size=LD:=qB;clear o1 br bp P1 O1;go_wp2_with fail;refine Bx ?_;intro w3 eb;have TB:Dt w3 w2 t:=by rw [eb];exact Dt.new w2 t
 have b23:Below w2 w2 w3:=by rw [eb];go_grown
 have zw3:=b23.size;have b3:=xo b2 b23;have P3:=P2.keep b23;have O3:=O2.keep b23;have T3:=Ae (Ax ht (kz.keep b23));clear eb d2 nL lL P2 O2 ht kz ln nk b2;have lT:=TB.lt;generalize w2.heap.size=T at *;have hzT:w.heap.size≤T:=qB;have hlen:=SH;have HS3:=HS.out.keep b3;have HG0:=HS.out.gr;obtain ⟨xs0,AV,-⟩:=HG0.ex;obtain ⟨ga,gc,rfl⟩:=Fr AV;have zt:(gs.map fun z=>z.1::z.2).length=gs.length:=List.length_map ..;rw [zt] at AV HS3;have ug:=mI AV;have AW:=mI HS.out.lr;have hXw:=HS.out.xs;clear AV HG0;generalize hN:gs.length=N at *;have HN:=Ae hN;clear hN;have hHw:H<w.heap.size:=HS.out.hp.lt;go_loopw [21] (fun v21 wr=>∃(i:Nat) (pb:Value),i≤N∧v21=M i∧Qp w0 wr O LD WT GG H X gs pb f (.slice la N lc) (.slice ga N gc)∧Dt wr T t∧Be wr w a1 n1 c1 (y::m)∧Ca wr w a1 n1 c1∧w.heap.size≤wr∧HpS wr X i N gs y hl pb) (fun v21 _=>N-(intOf v21).toNat)
 case atStart =>
  refine ⟨0,hl,qB,rfl,HS3,TB,P3,O3,b3.size,.inl ⟨rfl,?_⟩⟩;rcases JN.out with h9|⟨z,h9,-⟩
  ·exact .inl h9
  ·exact .inr ⟨rfl,by rw [←HN.out,h9];simp⟩
 case round =>
  obtain ⟨i,pb,hi,rfl,hSi,TBi,hPi,hOi,XV,hHi⟩:=hrel;obtain ⟨wi,rfl⟩:∃w':World,w'=wr:=⟨_,rfl⟩;have qs:=Ae hSi;have PI:=Ae hPi;have OI:=Ae hOi;have HI:=Ae hHi;have TI:=Ae TBi;clear hSi hPi hOi hHi HS3 P3 O3 TB;by_cases bj:i<N
  ·obtain ⟨z,hz⟩:∃z,gs[i]? = some z:=⟨_,Ai (by rw [HN.out];exact bj)⟩;have ow:=qs.out.lr;rw [HN.out] at ow;have hrc:∃G,la=some ⟨G,0,none⟩:=by
    rcases ow.2 with ⟨e,h0⟩|⟨G,cap,cur,e,_⟩
    ·omega
    ·cases e;exact ⟨G,rfl⟩
   obtain ⟨G,rfl⟩:=hrc;have c0:=World.ownsRow.cells ow rfl _ _ (Ju gs i 0 z hz qB);have c1:=World.ownsRow.cells ow rfl _ _ (Ju gs i 1 z hz qB);have c2:=World.ownsRow.cells ow rfl _ _ (Ju gs i 2 z hz qB);have c3:=World.ownsRow.cells ow rfl _ _ (Ju gs i 3 z hz qB);simp only [Hx,Nat.add_zero] at c0 c1 c2 c3;have hG:G<wi.heap.size:=Aa _ _ c0;have HZ:=Ae hz;clear ow hz;have lTi:=TBi.lt;have nT:¬wi.heap.size=T:=qB;obtain ⟨-,-,-,-,t4,t5,t6,t7,-,-,-,-,-,-,-,-⟩:=TBi;go_wp2_with fail;refine Bt ?_;intro w4 jg;have b4:Below wi wi w4:=by rw [jg];go_grown
   have M4:Blk w4 wi #[U (exN z.1.1 0:Nat),U (exN z.1.1 1:Nat),U (exN z.1.1 2:Nat),U (exN z.1.1 3:Nat)] 56:=by rw [jg];exact C0 rfl _ _
   clear jg c0 c1 c2 c3 t4 t5 t6 t7 nT;refine (tL w4 (exN z.1.1 0) (exN z.1.1 1) (exN z.1.1 2) (exN z.1.1 3) t.m0 t.m1 t.m2 t.m3).mono ?_;rintro e w5 ⟨rfl,dx⟩;have b5:=xo b4 dx;have zb5:=b5.size;have M5:=M4.keep dx;clear M4;have e9:apB (exN z.1.1 0) (exN z.1.1 1) (exN z.1.1 2) (exN z.1.1 3) t.m0 t.m1 t.m2 t.m3=apK z.1.1 y.1:=by
    have e7:=Dz T3.out.2.s1 T3.out.2.s2 T3.out.2.s3 T3.out.2.s0;rw [T3.out.1.key] at e7;unfold apK;rw [e7.1,e7.2.1,e7.2.2.1,e7.2.2.2]
   rw [e9];clear e9
   cases YC:apK z.1.1 y.1 with
   | true =>
    have HCZ:=Ae YC;clear YC M5;go_wp2_with fail;go_roundw
    case rel =>
     refine ⟨i+1,pb,qB,by go_num,qs.out.keep b5,TI.out.keep b5,PI.out.keep b5,OI.out.keep b5,qB,?_⟩;rcases HI.out with ⟨e1,h9|⟨h9,-⟩⟩|⟨h9,-⟩
     ·exact .inl ⟨e1,.inl h9⟩
     ·subst h9;refine .inl ⟨e1,.inl ?_⟩;rcases JN.out with h8|⟨z',h8,h7,-⟩
      ·exact h8
      ·exfalso;have h6:=HZ.out;rw [h8] at h6;simp at h6;rw [h6] at h7;rw [HCZ.out] at h7;cases h7
     ·omega
    case measure=>(first|(simp [intOf];omega)|(simp [intOf];done))
   | false =>
    have HCZ:=Ae YC;clear YC;have kp:Hid (gs=[z]∧pb=.slice none 0 0∧i=0∧N=1):=by
     have OP:=HZ.out;rcases JN.out with h8|⟨z',h8,h7,h6⟩
     ·have h5:=h8 z (A7 OP);rw [HCZ.out] at h5;cases h5
     ·have hN1:N=1:=by rw [←HN.out,h8];rfl
      have sy:i=0:=qB;subst sy;rw [h8] at OP;simp at OP;subst OP;rcases HI.out with ⟨e1,-⟩|⟨h9,-⟩
      ·exact Ae ⟨h8,e1.trans h6,rfl,hN1⟩
      ·omega
    go_wp2_with fail;have BB5:=Ae (qs.out.keep b5);have QX:=Ae (TI.out.keep b5);have PP5:=Ae (PI.out.keep b5);have OO5:=Ae (OI.out.keep b5);have x0:Z w5 WT 0 (.pointer (E H)):=BB5.out.wt.cell 0 _ rfl;have x1:Z w5 GG 0 (.slice ga N gc):=BB5.out.gg.cell 0 _ rfl;have m0:Z w5 wi 0 (U (exN z.1.1 0:Nat)):=M5.cell 0 _ rfl;have m1:Z w5 wi 1 (U (exN z.1.1 1:Nat)):=M5.cell 1 _ rfl;have m2:Z w5 wi 2 (U (exN z.1.1 2:Nat)):=M5.cell 2 _ rfl;have m3:Z w5 wi 3 (U (exN z.1.1 3:Nat)):=M5.cell 3 _ rfl;obtain ⟨-,-,-,-,t4,t5,t6,t7,-,-,-,-,-,-,-,-⟩:=QX.out;have CN:∀W,Θ 21 #[Cd (exN z.1.1 0) (exN z.1.1 1) (exN z.1.1 2) (exN z.1.1 3),Cd t.m0 t.m1 t.m2 t.m3] W (fun e w'=>∃k0 k1 k2 k3:Nat,e=.returned (.agg #[U k0,U k1,U k2,U k3])∧(k0=exN (Gg z.1.1 y.1) 0∧k1=exN (Gg z.1.1 y.1) 1∧k2=exN (Gg z.1.1 y.1) 2∧k3=exN (Gg z.1.1 y.1) 3)∧Below W W w'):=fun W=>by
     have r2:=T3.out.2;have e7:=Dz r2.s1 r2.s2 r2.s3 r2.s0;rw [T3.out.1.key] at e7;have e8:=tN z.1.1 y.1;rw [e7.1,e7.2.1,e7.2.2.1,e7.2.2.2] at e8;refine (wY W _ _ _ _ _ _ _ _ (Fv _ _) (Fv _ _) (Fv _ _) (Fv _ _) r2.s0 r2.s1 r2.s2 r2.s3).mono fun e w' ⟨e1,e2⟩=>⟨_,_,_,_,e1,?_,e2⟩
     exact ⟨e8.1.symm,e8.2.1.symm,e8.2.2.1.symm,e8.2.2.2.symm⟩
    have HLC:=Ae CN;clear CN M5;have hM5:wi.heap.size<w5:=Aa _ _ m0;generalize wi.heap.size=zh at *;refine Bw (fun W=>Z W WT 0 (.pointer (E H))∧Z W GG 0 (.slice ga N gc)∧Z W zh 0 (U (exN z.1.1 0:Nat))∧Z W zh 1 (U (exN z.1.1 1:Nat))∧Z W zh 2 (U (exN z.1.1 2:Nat))∧Z W zh 3 (U (exN z.1.1 3:Nat))∧Z W T 4 (U t.m0)∧Z W T 5 (U t.m1)∧Z W T 6 (U t.m2)∧Z W T 7 (U t.m3)) 9 qE qK (fun ib=>?_);(refine Bd.takeL [9] (i:=0) (v:=?_) rfl qE (fun _ _ _ h=>h) (Or.inl ⟨qM,?_⟩) qG ?_;rotate_left;(focus (intro w' vp;(try dsimp only at vp);go_simp;(try with_reducible rfl)));(try simp only [xb]));(refine Bd.takeL [8,9] (i:=1) (v:=?_) rfl qE (fun _ _ _ h=>h) (Or.inl ⟨qM,?_⟩) qG ?_;rotate_left;(focus (intro w' vp;(try dsimp only at vp);go_simp;(try with_reducible rfl)));(try simp only [xb]));(refine Bd.takeL [3,8,9] (i:=2) (v:=?_) rfl qE (fun _ _ _ h=>h) (Or.inl ⟨qM,?_⟩) qG ?_;rotate_left;(focus (intro w' vp;(try dsimp only at vp);go_simp;(try with_reducible rfl)));(try simp only [xb]));(refine Bd.takeL [8,9] (i:=3) (v:=?_) rfl qE (fun _ _ _ h=>h) (Or.inl ⟨qM,?_⟩) qG ?_;rotate_left;(focus (intro w' vp;(try dsimp only at vp);go_simp;(try with_reducible rfl)));(try simp only [xb]));(refine Bd.takeL [7,8,9] (i:=4) (v:=?_) rfl qE (fun _ _ _ h=>h) (Or.inl ⟨qM,?_⟩) qG ?_;rotate_left;(focus (intro w' vp;(try dsimp only at vp);go_simp;(try with_reducible rfl)));(try simp only [xb]));(refine Bd.takeL [6,7,8,9] (i:=5) (v:=?_) rfl qE (fun _ _ _ h=>h) (Or.inl ⟨qM,?_⟩) qG ?_;rotate_left;(focus (intro w' vp;(try dsimp only at vp);go_simp;(try with_reducible rfl)));(try simp only [xb]));(refine Bd.takeL [7,8,9] (i:=6) (v:=?_) rfl qE (fun _ _ _ h=>h) (Or.inl ⟨qM,?_⟩) qG ?_;rotate_left;(focus (intro w' vp;(try dsimp only at vp);go_simp;(try with_reducible rfl)));(try simp only [xb]));(refine Bd.one (i:=7) rfl qE (fun K hK=>?_);go_simp;(go_at_call 21;(with_reducible refine (HLC.out _).mono ?_);rintro e w6 ⟨k0,k1,k2,k3,rfl,hks,hb⟩;have ee:=zP w5 hb;(replace ⟨x0,x1,m0,m1,m2,m3,t4,t5⟩:=xl ee x0 x1 m0 m1 m2 m3 t4 t5;replace ⟨t6,t7⟩:=xk ee t6 t7));(try go_wp2_with fail);refine hK.out _ _ (fun _=>qK) ?_;clear hK K;(try simp only [xb]));(refine Bd.one (i:=8) rfl qE (fun K hK=>?_);go_simp;skip;(try go_wp2_with fail);refine hK.out _ _ (fun _=>qK) ?_;clear hK K;(try simp only [xb]))
    (refine Bd.one (i:=9) rfl qE (fun K hK=>?_);go_simp;(go_at_call 80;(with_reducible refine (Aag _ H f (by have h9:=BB5.out.hp.keep (W':=w6) ee;rw [kp.out.2.1] at h9;exact h9.keep qD) i N (exN (Gg z.1.1 y.1) 0) (exN (Gg z.1.1 y.1) 1) (exN (Gg z.1.1 y.1) 2) (exN (Gg z.1.1 y.1) 3)).mono ?_);rintro e w7 ⟨rfl,g,c9,CQ,hB7,ie⟩;have G7:=Hk (wi:=w5) qD CQ);(try go_wp2_with fail);refine hK.out _ _ (fun h=>absurd h qI) ?_;clear hK K;(try simp only [xb]));refine Bd.done qE ?_ _;have zG7:=G7.size;have hTH:T≠H:=qB;have q1:=BB5.out.push G7 hB7;have q2:=QX.out.row G7 (by intro e;cases e;exact hTH rfl);have q3:=PP5.out.butR G7 (fun k hk=>by cases hk;exact hHw);have q4:=OO5.out.butR G7 (fun k hk=>by cases hk;exact hHw);have q5:HpS w7 X (i+1) N gs y hl (.slice (E g) 1 c9):=by
     refine .inr ⟨by have:=kp.out;omega,z,g,c9,kp.out.1,HCZ.out,rfl,?_⟩;have h9:=Ye (base':=X) ie (by have:=BB5.out.xs;have:=ee.size;first|omega|(simp;omega));rw [kp.out.2.2.1,kp.out.2.2.2] at h9;exact h9
    clear x0 x1 m0 m1 m2 m3 t4 t5 t6 t7 CQ G7 ie hB7;go_wp2_with fail;go_roundw
    case rel=>exact ⟨i+1,_,qB,by go_num,q1,q2,q3,q4,qB,q5⟩
    case measure=>(first|(simp [intOf];omega)|(simp [intOf];done))
  ·obtain rfl:i=N:=qB;obtain ⟨xs,MP,yd⟩:=qs.out.gr.ex;have zt:(gs.map fun z=>z.1::z.2).length=i:=by rw [List.length_map];exact HN.out
   rw [zt] at MP;have YD:=qs.out.lr;rw [HN.out] at YD;have hX:=qs.out.hi;have OG:=Ae MP;have OL:=Ae YD;have KG:=qs.out.gg;have KL:=qs.out.ld;have d4:Z wi GG 0 (.slice ga i gc):=KG.cell 0 _ rfl;have d2:Z wi LD 0 (.slice la i lc):=KL.cell 0 _ rfl;have f4:=KG.frozen 0;have f2:=KL.frozen 0;have lTi:=TBi.lt;have hzb:=XV;have lG:GG<wi.heap.size:=qB;have lL:LD<wi.heap.size:=qB;have nq1:¬wi.heap.size=T:=qB;have nq2:¬wi.heap.size=GG:=qB;have nq3:¬wi.heap.size=LD:=qB;have nr1:¬wi.heap.size+1=T:=qB;have nr2:¬wi.heap.size+1=GG:=qB;have nr3:¬wi.heap.size+1=LD:=qB;have leA:wi.heap.size≥w.heap.size:=hzb;have nGL:¬GG=LD:=fun e=>qs.out.ne.1 e.symm
   have nLG:¬LD=GG:=qs.out.ne.1;have RE:=Ae yd;clear yd MP YD;obtain ⟨-,-,-,-,t4,t5,t6,t7,-,-,-,-,-,-,-,-⟩:=TBi;obtain ⟨i0,sy,dw,ed,en⟩:=info_parts Iq;obtain ⟨j0,hj0,ss,GK,JC⟩:=info_parts pL;go_wp2_with fail;refine Bw (fun W=>Z W GG 0 (.slice ga i gc)∧Z W LD 0 (.slice la i lc)∧Z W T 4 (U t.m0)∧Z W T 5 (U t.m1)∧Z W T 6 (U t.m2)∧Z W T 7 (U t.m3)) 9 qE qK (fun ib=>?_);(refine xc 9 0 ?_;(try simp only [xb]));(refine xc 9 1 ?_;(try simp only [xb]));(refine Bd.takeL [8,9] (i:=4) (v:=?_) rfl qE (fun _ _ _ h=>h) (Or.inl ⟨qM,?_⟩) qG ?_;rotate_left;(focus (intro w' vp;(try dsimp only at vp);go_simp;(try with_reducible rfl)));(try simp only [xb]));(refine Bd.takeL [6,7,8,9] (i:=5) (v:=?_) rfl qE (fun _ _ _ h=>h) (Or.inl ⟨qM,?_⟩) qG ?_;rotate_left;(focus (intro w' vp;(try dsimp only at vp);go_simp;(try with_reducible rfl)));(try simp only [xb]));(refine Bd.takeL [7,8,9] (i:=6) (v:=?_) rfl qE (fun _ _ _ h=>h) (Or.inl ⟨qM,?_⟩) qG ?_;rotate_left;(focus (intro w' vp;(try dsimp only at vp);go_simp;(try with_reducible rfl)));(try simp only [xb]));refine Bd.two (i:=2) (j:=7) rfl rfl qE (fun K hK=>?_) (fun K hK=>?_)
   ·(go_simp;skip;(try go_wp2_with fail);refine hK.out _ _ (fun _=>qK) ?_;clear hK K;(try simp only [xb]));refine Bd.two (i:=3) (j:=7) rfl rfl qE (fun K hK=>?_) (fun K hK=>?_)
    ·(refine step_append_lies _ qM _ _ _ qM X 24 i0 _ 1 24 underlying59 sy dw ed en rfl qI (.slice ga i gc) i xs qM (by exact Bf OG.out qD) (J wi 0) 1 1 [.slice a1 n1 c1] qJ qM (Qm qO) (by simp [Value.oneCell']) qI qN qB qY _ rfl ?_;intro gb IM wG MQ DO afh afi;have G1:=Hk (wi:=wi) qD DO;have RG:Gq wG X X (.slice (E gb) (i+1) IM) ((gs.map fun z=>z.1::z.2)++[y::m]):=Gq.next (by rw [zt];exact Bf OG.out qD) (fun i' l' hl'=>by obtain ⟨qa,qn,qc,q1,q2,q3⟩:=RE.out i' l' hl';exact ⟨qa,qn,qc,q1,q2.keep qD,q3.keep qD⟩) ((PI.out.keep qD).mono hXw) ((OI.out.keep qD).mono hXw) (by rw [zt];exact MQ) DO;have YE:=OL.out.kept G1 (Qe OL.out OG.out qI);have MR:=KG.row G1 (fun e=>by have:=ug _ e.symm;omega);have FV:=KL.row G1 (fun e=>by have:=ug _ e.symm;omega);have zG1:=G1.size;replace t4:=G1.cell t4 (fun e=>by have:=ug _ e.symm;(try simp only at this);omega);replace t5:=G1.cell t5 (fun e=>by have:=ug _ e.symm;(try simp only at this);omega);replace t6:=G1.cell t6 (fun e=>by have:=ug _ e.symm;(try simp only at this);omega);replace t7:=G1.cell t7 (fun e=>by have:=ug _ e.symm;(try simp only at this);omega);replace d4:Z wG GG 0 (.slice ga i gc):=MR.cell 0 _ rfl;replace d2:Z wG LD 0 (.slice la i lc):=FV.cell 0 _ rfl;have lG1:GG<wG.heap.size:=MR.lt;have lL1:LD<wG.heap.size:=FV.lt;have lT1:T<wG.heap.size:=Aa _ _ t4;have ng1:¬wG.heap.size=T:=qB;have ng2:¬wG.heap.size=GG:=qB;have ng3:¬wG.heap.size=LD:=qB;refine hK.out _ _ (fun _=>qK) ?_;clear hK K;(try simp only [xb]));(refine Bd.one (i:=7) rfl qE (fun K hK=>?_);go_simp;skip;(try go_wp2_with fail);refine hK.out _ _ (fun _=>qK) ?_;clear hK K;(try simp only [xb]));(refine Bd.one (i:=8) rfl qE (fun K hK=>?_);refine step_append_lies _ qM _ _ _ qM X 56 j0 _ 4 8 underlying85 hj0 ss GK JC rfl qI (.slice la i lc) i (Lm gs) qM (by exact Bf YE qD) (J wG 0) 1 1 [U t.m0,U t.m1,U t.m2,U t.m3] qJ qM (Qz qO qO qO qO) (by simp [Value.oneCell']) qI qN qB qY _ rfl ?_;intro lb YF wL YG hgL afk afl;have L1:=Hk (wi:=wG) qD hgL;have TQ:=MR.row L1 (fun e=>by have:=AW _ e.symm;omega);have TR:=FV.row L1 (fun e=>by have:=AW _ e.symm;omega);have e4:Z wL GG 0 (.slice ga i gc):=TQ.cell 0 _ rfl;have e2:Z wL LD 0 (.slice la i lc):=TR.cell 0 _ rfl;have g4:=TQ.frozen 0;have g2:=TR.frozen 0;replace t4:=L1.cell t4 (fun e=>by have:=AW _ e.symm;(try simp only at this);omega);replace t5:=L1.cell t5 (fun e=>by have:=AW _ e.symm;(try simp only at this);omega);replace t6:=L1.cell t6 (fun e=>by have:=AW _ e.symm;(try simp only at this);omega);replace t7:=L1.cell t7 (fun e=>by have:=AW _ e.symm;(try simp only at this);omega);refine hK.out _ _ (fun _=>qK) ?_;clear hK K;(try simp only [xb]))
     (refine Bd.one (i:=9) rfl qE (fun K hK=>?_);go_simp;refine hK.out _ _ (fun h=>absurd h qI) ?_;clear hK K;(try simp only [xb]));(refine Bd.one (i:=10) rfl qE (fun K hK=>?_);go_simp;refine hK.out _ _ (fun h=>absurd h qI) ?_;clear hK K;(try simp only [xb]));exact qAm
    ·(go_simp;skip;(try go_wp2_with fail);refine hK.out _ _ (fun _=>qK) ?_;clear hK K;(try simp only [xb]));(refine Bd.one (i:=3) rfl qE (fun K hK=>?_);refine step_append_lies _ qM _ _ _ qM X 24 i0 _ 1 24 underlying59 sy dw ed en rfl qI (.slice ga i gc) i xs qM (by exact Bf OG.out qD) (J wi 0) 1 1 [.slice a1 n1 c1] qJ qM (Qm qO) (by simp [Value.oneCell']) qI qN qB qY _ rfl ?_;intro gb IM wG MQ DO afh afi;have q0:=DO.cell (show World.cell? _ ⟨(wi+1),0,none⟩=some (U t.m0) by simp [*,go_sem,Array.getElem?_append]) (fun e=>by have:=ug _ e.symm;(try simp only at this);omega);have q1:=DO.cell (show World.cell? _ ⟨(wi+1),1,none⟩=some (U t.m1) by simp [*,go_sem,Array.getElem?_append]) (fun e=>by have:=ug _ e.symm;(try simp only at this);omega);have q2:=DO.cell (show World.cell? _ ⟨(wi+1),2,none⟩=some (U t.m2) by simp [*,go_sem,Array.getElem?_append]) (fun e=>by have:=ug _ e.symm;(try simp only at this);omega);have q3:=DO.cell (show World.cell? _ ⟨(wi+1),3,none⟩=some (U t.m3) by simp [*,go_sem,Array.getElem?_append]) (fun e=>by have:=ug _ e.symm;(try simp only at this);omega);have G1:=Hk (wi:=wi) qD DO;have RG:Gq wG X X (.slice (E gb) (i+1) IM) ((gs.map fun z=>z.1::z.2)++[y::m]):=Gq.next (by rw [zt];exact Bf OG.out qD) (fun i' l' hl'=>by obtain ⟨qa,qn,qc,q1,q2,q3⟩:=RE.out i' l' hl';exact ⟨qa,qn,qc,q1,q2.keep qD,q3.keep qD⟩) ((PI.out.keep qD).mono hXw) ((OI.out.keep qD).mono hXw) (by rw [zt];exact MQ) DO;have YE:=OL.out.kept G1 (Qe OL.out OG.out qI);have MR:=KG.row G1 (fun e=>by have:=ug _ e.symm;omega);have FV:=KL.row G1 (fun e=>by have:=ug _ e.symm;omega);have zG1:=G1.size;replace t4:=G1.cell t4 (fun e=>by have:=ug _ e.symm;(try simp only at this);omega);replace t5:=G1.cell t5 (fun e=>by have:=ug _ e.symm;(try simp only at this);omega);replace t6:=G1.cell t6 (fun e=>by have:=ug _ e.symm;(try simp only at this);omega);replace t7:=G1.cell t7 (fun e=>by have:=ug _ e.symm;(try simp only at this);omega);replace d4:Z wG GG 0 (.slice ga i gc):=MR.cell 0 _ rfl;replace d2:Z wG LD 0 (.slice la i lc):=FV.cell 0 _ rfl;have lG1:GG<wG.heap.size:=MR.lt;have lL1:LD<wG.heap.size:=FV.lt;have lT1:T<wG.heap.size:=Aa _ _ t4;have ng1:¬wG.heap.size=T:=qB;have ng2:¬wG.heap.size=GG:=qB;have ng3:¬wG.heap.size=LD:=qB;refine hK.out _ _ (fun _=>qK) ?_;clear hK K;(try simp only [xb]))
     (refine Bd.one (i:=8) rfl qE (fun K hK=>?_);refine step_append_lies _ qM _ _ _ qM X 56 j0 _ 4 8 underlying85 hj0 ss GK JC rfl qI (.slice la i lc) i (Lm gs) qM (by exact Bf YE qD) (J (wi+1) 0) 1 1 [U t.m0,U t.m1,U t.m2,U t.m3] qJ qM (Qz q0 q1 q2 q3) (by simp [Value.oneCell']) qI qN qB qY _ rfl ?_;intro lb YF wL YG hgL afk afl;have L1:=Hk (wi:=wG) qD hgL;have TQ:=MR.row L1 (fun e=>by have:=AW _ e.symm;omega);have TR:=FV.row L1 (fun e=>by have:=AW _ e.symm;omega);have e4:Z wL GG 0 (.slice ga i gc):=TQ.cell 0 _ rfl;have e2:Z wL LD 0 (.slice la i lc):=TR.cell 0 _ rfl;have g4:=TQ.frozen 0;have g2:=TR.frozen 0;replace t4:=L1.cell t4 (fun e=>by have:=AW _ e.symm;(try simp only at this);omega);replace t5:=L1.cell t5 (fun e=>by have:=AW _ e.symm;(try simp only at this);omega);replace t6:=L1.cell t6 (fun e=>by have:=AW _ e.symm;(try simp only at this);omega);replace t7:=L1.cell t7 (fun e=>by have:=AW _ e.symm;(try simp only at this);omega);refine hK.out _ _ (fun _=>qK) ?_;clear hK K;(try simp only [xb]));(refine Bd.one (i:=9) rfl qE (fun K hK=>?_);go_simp;refine hK.out _ _ (fun h=>absurd h qI) ?_;clear hK K;(try simp only [xb]));(refine Bd.one (i:=10) rfl qE (fun K hK=>?_);go_simp;refine hK.out _ _ (fun h=>absurd h qI) ?_;clear hK K;(try simp only [xb]));exact qAm
   ·(go_simp;skip;(try go_wp2_with fail);refine hK.out _ _ (fun _=>qK) ?_;clear hK K;(try simp only [xb]));(refine Bd.one (i:=2) rfl qE (fun K hK=>?_);go_simp;skip;(try go_wp2_with fail);refine hK.out _ _ (fun _=>qK) ?_;clear hK K;(try simp only [xb]));(refine Bd.one (i:=3) rfl qE (fun K hK=>?_);refine step_append_lies _ qM _ _ _ qM X 24 i0 _ 1 24 underlying59 sy dw ed en rfl qI (.slice ga i gc) i xs qM (by exact Bf OG.out qD) (J (wi+1) 0) 1 1 [.slice a1 n1 c1] qJ qM (Qm qO) (by simp [Value.oneCell']) qI qN qB qY _ rfl ?_;intro gb IM wG MQ DO afh afi;have q0:=DO.cell (show World.cell? _ ⟨wi,0,none⟩=some (U t.m0) by simp [*,go_sem,Array.getElem?_append]) (fun e=>by have:=ug _ e.symm;(try simp only at this);omega);have q1:=DO.cell (show World.cell? _ ⟨wi,1,none⟩=some (U t.m1) by simp [*,go_sem,Array.getElem?_append]) (fun e=>by have:=ug _ e.symm;(try simp only at this);omega);have q2:=DO.cell (show World.cell? _ ⟨wi,2,none⟩=some (U t.m2) by simp [*,go_sem,Array.getElem?_append]) (fun e=>by have:=ug _ e.symm;(try simp only at this);omega);have q3:=DO.cell (show World.cell? _ ⟨wi,3,none⟩=some (U t.m3) by simp [*,go_sem,Array.getElem?_append]) (fun e=>by have:=ug _ e.symm;(try simp only at this);omega);have G1:=Hk (wi:=wi) qD DO;have RG:Gq wG X X (.slice (E gb) (i+1) IM) ((gs.map fun z=>z.1::z.2)++[y::m]):=Gq.next (by rw [zt];exact Bf OG.out qD) (fun i' l' hl'=>by obtain ⟨qa,qn,qc,q1,q2,q3⟩:=RE.out i' l' hl';exact ⟨qa,qn,qc,q1,q2.keep qD,q3.keep qD⟩) ((PI.out.keep qD).mono hXw) ((OI.out.keep qD).mono hXw) (by rw [zt];exact MQ) DO;have YE:=OL.out.kept G1 (Qe OL.out OG.out qI);have MR:=KG.row G1 (fun e=>by have:=ug _ e.symm;omega);have FV:=KL.row G1 (fun e=>by have:=ug _ e.symm;omega);have zG1:=G1.size;replace t4:=G1.cell t4 (fun e=>by have:=ug _ e.symm;(try simp only at this);omega);replace t5:=G1.cell t5 (fun e=>by have:=ug _ e.symm;(try simp only at this);omega);replace t6:=G1.cell t6 (fun e=>by have:=ug _ e.symm;(try simp only at this);omega);replace t7:=G1.cell t7 (fun e=>by have:=ug _ e.symm;(try simp only at this);omega);replace d4:Z wG GG 0 (.slice ga i gc):=MR.cell 0 _ rfl;replace d2:Z wG LD 0 (.slice la i lc):=FV.cell 0 _ rfl;have lG1:GG<wG.heap.size:=MR.lt;have lL1:LD<wG.heap.size:=FV.lt;have lT1:T<wG.heap.size:=Aa _ _ t4;have ng1:¬wG.heap.size=T:=qB;have ng2:¬wG.heap.size=GG:=qB;have ng3:¬wG.heap.size=LD:=qB;refine hK.out _ _ (fun _=>qK) ?_;clear hK K;(try simp only [xb]))
    (refine Bd.one (i:=8) rfl qE (fun K hK=>?_);refine step_append_lies _ qM _ _ _ qM X 56 j0 _ 4 8 underlying85 hj0 ss GK JC rfl qI (.slice la i lc) i (Lm gs) qM (by exact Bf YE qD) (J wi 0) 1 1 [U t.m0,U t.m1,U t.m2,U t.m3] qJ qM (Qz q0 q1 q2 q3) (by simp [Value.oneCell']) qI qN qB qY _ rfl ?_;intro lb YF wL YG hgL afk afl;have L1:=Hk (wi:=wG) qD hgL;have TQ:=MR.row L1 (fun e=>by have:=AW _ e.symm;omega);have TR:=FV.row L1 (fun e=>by have:=AW _ e.symm;omega);have e4:Z wL GG 0 (.slice ga i gc):=TQ.cell 0 _ rfl;have e2:Z wL LD 0 (.slice la i lc):=TR.cell 0 _ rfl;have g4:=TQ.frozen 0;have g2:=TR.frozen 0;replace t4:=L1.cell t4 (fun e=>by have:=AW _ e.symm;(try simp only at this);omega);replace t5:=L1.cell t5 (fun e=>by have:=AW _ e.symm;(try simp only at this);omega);replace t6:=L1.cell t6 (fun e=>by have:=AW _ e.symm;(try simp only at this);omega);replace t7:=L1.cell t7 (fun e=>by have:=AW _ e.symm;(try simp only at this);omega);refine hK.out _ _ (fun _=>qK) ?_;clear hK K;(try simp only [xb]));(refine Bd.one (i:=9) rfl qE (fun K hK=>?_);go_simp;refine hK.out _ _ (fun h=>absurd h qI) ?_;clear hK K;(try simp only [xb]));(refine Bd.one (i:=10) rfl qE (fun K hK=>?_);go_simp;refine hK.out _ _ (fun h=>absurd h qI) ?_;clear hK K;(try simp only [xb]));exact qAm
end Go.Proofs.YtfijkfdfbnfmmaaGreatDoor
end
