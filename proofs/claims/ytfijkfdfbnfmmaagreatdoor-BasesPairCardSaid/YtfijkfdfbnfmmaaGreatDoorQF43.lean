/- Package bases: Of, of one sum at most, and of the two of the chapter. -/
import Derived.Test.YtfijkfdfbnfmmaaGreatDoorQF42
set_option linter.unusedSimpArgs false
set_option linter.unusedVariables false
set_option maxRecDepth 100000
set_option maxHeartbeats 4000000
section
namespace Go.Proofs.YtfijkfdfbnfmmaaGreatDoor
open Go.RowKit Proofs.Tryz
variable (w:World) (n:Nat) (la:Γ) (lc L lo:Nat) (a:Γ) (g1:Bool) (a1:Γ) (n1 c1:Nat) (g2:Bool) (a2:Γ) (n2 c2:Nat) (l:List (List UInt8)) (m:Nat→Nat) {xs:List Value} {base:Nat} {e:TypeId} {ga:Γ}
theorem SR.mono {w:World} {B B':Nat} {gs:List (PT×Δ)} (h:SR w B ga gs) (hB:B'≤B):SR w B' ga gs :=
 h.imp id fun⟨G,e,h1⟩=>⟨G,e,fun i z hz=>by obtain ⟨a,n,c,q1,q2,q3⟩:=h1 i z hz;exact ⟨a,n,c,q1,q2.mono hB,q3.mono hB⟩⟩
def HpI (w:World) (X i:Nat) (ms:List (PT×Δ)) (hl:Value):Prop :=
 (i≤1∧hl=.slice none 0 0)∨(i=2∧∃z y g c,ms=[z,y]∧hl=.slice (E g) 1 c∧w.ownsRow X 88 6 hl 1 [M 0,M 1,U (exN (Gg z.1.1 y.1.1) 0:Nat),U (exN (Gg z.1.1 y.1.1) 1:Nat),U (exN (Gg z.1.1 y.1.1) 2:Nat),U (exN (Gg z.1.1 y.1.1) 3:Nat)])
def cJ (w:World) (rs:List (PT×Δ)) (e:Ending) (w':World):Prop :=
 ∃a c,e=.returned (.tuple #[.slice a rs.length c,M 0])∧rs.length≤c∧SR w' w a rs.reverse∧xp w w'
theorem gQ (n lc:Nat) (L lo:Nat) (ls:List (PT×Δ)) (hn:ls.length=n) (vh:n≤40) (ri:n≤lc) (py:n=0∨la=some ⟨L,lo,none⟩) (j8:DIn w L lo ls) (W:World) (hW:xp w W) :
  Θ 19 #[.int .u8 0,.slice la n lc] W (fun e w'=>e=.returned (.bool true)∧xp W w'):=by
 have key:∀i,i<n→∃v,Z W L (lo+i) v∧Eh W v true:=fun i hi=>by
  obtain ⟨⟨x,l⟩,hx⟩:∃y,ls[i]? = some y:=⟨_,Ai (by rw [hn];exact hi)⟩;obtain ⟨a,m,c,h1,h2,h3⟩:=j8.el i x l hx;exact ⟨_,Bb hW h1,Eh.of (h2.keep hW) h3.pw h3.few qB⟩
 refine gV W 0 la n lc ri qB (fun i=>(W.cell? (J L (lo+i))).getD (.bool false)) (fun _=>true) (py.imp id fun e=>⟨L,lo,e,fun i hi=>?_⟩) (fun i hi=>?_) true ⟨fun _=>Ax qB (fun _ _=>rfl),fun _=>rfl⟩
 ·obtain ⟨v,h1,_⟩:=key i hi;rw [h1,Option.getD_some]
 ·obtain ⟨v,h1,h2⟩:=key i hi;rw [h1,Option.getD_some];exact h2
theorem pA {w w':World} {X i n:Nat} {ms:List (PT×Δ)} {y:PT} {q:Δ} {hl hl':Value} (AY:ms.length=n) (hn:n≤2) (hi:i<n) (hy:ms[i]? = some (y,q)) (gw:∀z y,ms=[z,y]→apK z.1.1 y.1.1=false) (h:HpI w X i ms hl) :
  ((∀z∈ms.take i,apK z.1.1 y.1=true)∨(∃z,ms.take i=[z]∧apK z.1.1 y.1=false∧hl=.slice none 0 0))∧(HpS w' X (ms.take i).length (ms.take i).length (ms.take i) y hl hl'→HpI w' X (i+1) ms hl'):=by
 have h0:hl=.slice none 0 0:=by
  rcases h with ⟨_,h⟩|⟨h,_⟩
  ·exact h
  ·omega
 rcases (by omega:i=0∨i=1) with rfl|rfl
 ·rw [List.take_zero];refine ⟨.inl (fun z hz=>by simp at hz),fun hs=>.inl ⟨qB,?_⟩⟩;rcases hs with ⟨h1,_⟩|⟨_,z,_,_,h1,_⟩
  ·rw [h1,h0]
  ·cases h1
 ·obtain ⟨z0,z1,rfl⟩:∃z0 z1,ms=[z0,z1]:=by
   match ms,AY with
   | [a,b],_=>exact ⟨a,b,rfl⟩
   | [],h=>simp at h;omega
   | [a],h=>simp at h;omega
   | a::b::c::d,h=>simp at h;omega
  have ed:z1=(y,q):=by simpa using hy
  subst ed;have ha:=gw _ _ rfl;refine ⟨.inr ⟨z0,rfl,ha,h0⟩,fun hs=>?_⟩;rcases hs with ⟨_,h1|⟨h1,_⟩⟩|⟨_,z,g,c,h1,h2,h3,h4⟩
  ·have:=h1 z0 qH;rw [ha] at this;cases this
  ·simp at h1
  ·have hz:z=z0:=by simpa using h1.symm
   subst hz;exact .inr ⟨rfl,z,(y,q),g,c,rfl,h3,h4⟩
theorem Abc (n lc:Nat) (L lo:Nat) (ls:List (PT×Δ)) (hn:ls.length=n) (vh:n≤1) (ri:n≤lc) (py:n=0∨la=some ⟨L,lo,none⟩) (j8:DIn w L lo ls) (ms:List (PT×Δ)) (AY:ms.length=n) (UA:∀(i:Nat) (z:PT×Δ),ls[i]? = some z→∃y q,Fx 0 z.1 z.2=y::q∧Sm (y::q)∧ms[i]? = some (y,q))
  (rs:List (PT×Δ)) (lj:rs.length=(ms.foldl Ci []).length) (ew:∀(j:Nat) (z:PT×Δ),(ms.foldl Ci [])[j]? = some z→∃f x l y q,Ii ((ms.foldl Ci []).take j++(ms.foldl Ci []).drop (j+1)) f (z.1::z.2) (((ms.foldl Ci []).take j++(ms.foldl Ci []).drop (j+1)).map fun _=>[]) []=some (x::l)∧Sm (x::l)∧Fx 0 x l=y::q∧rs[j]? = some (y,q)) :
  Θ 14 #[.int .u8 0,.slice la n lc] w (cJ w rs):=by
 have OQ:=Ae lj;have RJ:=Ae ew;clear lj ew;have agn:n≤2:=qB;have JN:Hid (∀z y,ms=[z,y]→apK z.1.1 y.1.1=false):=Ae (fun z y e=>by rw [e] at AY;simp at AY;omega);have HM:=Ae (gQ w la n lc L lo ls hn qB ri py j8);have HI:=Ae (Ax hn (Ax py j8));have IY:=Ae (Ax AY UA);clear hn py j8 AY UA;have HB:=Ac w w;go_enter func14,ntmps14;go_wp2_with fail;refine (HM.out _ qD).mono ?_;rintro e w1 ⟨rfl,br⟩;have B1:=zP w br;have OB:Blk w1 w #[.int .u8 0] 22:=Blk.keep (C0 rfl _ _) br;have zo:=OB.lt;clear br HB;go_wp2_with fail;refine Bx ?_;intro w2 df;have gg2:Blk w2 w1 #[.slice none 0 0] 59:=by rw [df];exact (((C0 rfl _ _).alloc _).alloc _).alloc _
 have ld2:Blk w2 (w1+1) #[.slice none 0 0] 85:=by rw [df];exact ((C0 qH _ _).alloc _).alloc _
 have OJ:Blk w2 (w1+1+1) #[.slice none 0 0,.func (.func 75) #[] #[.pointer (E w)]] 93:=by rw [df];exact (C0 qH _ _).alloc _
 have wt2:Blk w2 (w1+1+1+1) #[.pointer (E (w1+1+1))] 86:=by rw [df];exact C0 qH _ _
 have b2:xp w1 w2:=by rw [df];go_grown
 have z2:w2.heap.size=w1.heap.size+1+1+1+1:=by rw [df];simp
 have B2:=xo B1 b2;obtain ⟨F,hF⟩:∃F:Value,F=.func (.func 75) #[] #[.pointer (E w)]:=⟨_,rfl⟩;rw [←hF] at OJ;have S2:Qp w w2 w (w1+1) (w1+1+1+1) w1 (w1+1+1) (w1+1+1+1+1) [] (.slice none 0 0) F (.slice none 0 0) (.slice none 0 0) :=
  ⟨OB.keep b2,wt2,OJ,ld2,World.ownsRow_nil _ _ _ _,gg2,Gq.nil _ _ _,by have:=B1.size;omega,qB,qB,B2,qB⟩
 clear df gg2 ld2 OJ wt2 OB hF;obtain ⟨O,hO⟩:∃O,O=w.heap.size:=⟨_,rfl⟩;obtain ⟨GG,IL⟩:∃GG,GG=w1.heap.size:=⟨_,rfl⟩;obtain ⟨LD,RI⟩:∃LD,LD=GG+1:=⟨_,rfl⟩;obtain ⟨H,hH⟩:∃H,H=GG+1+1:=⟨_,rfl⟩;obtain ⟨WT,YO⟩:∃WT,WT=GG+1+1+1:=⟨_,rfl⟩;obtain ⟨X,hX⟩:∃X,X=GG+1+1+1+1:=⟨_,rfl⟩;rw [←IL,←hX,←YO,←hH,←RI] at S2;have RT:=Ae (Ax hO (Ax IL (Ax hX z2)));rw [←hO] at S2;rw [←IL] at z2;rw [←hO,←IL,←YO,←hH,←RI];clear hO IL RI hH YO hX z2;go_loopw [25] (fun v25 wr=>∃(i:Nat) (hl:Value),i≤n∧v25=M i∧BSt w wr O LD WT GG H X (ms.take i) hl F∧Hid (HpI wr X i ms hl)) (fun v25 _=>n-(intOf v25).toNat)
 case atStart=>exact ⟨0,_,qB,by go_num,⟨_,_,S2⟩,Ae (.inl ⟨qB,rfl⟩)⟩
 case round =>
  obtain ⟨i,hl,hi,rfl,⟨lv,gv,hS⟩,HH⟩:=hrel;obtain ⟨wi,rfl⟩:∃w':World,w'=wr:=⟨_,rfl⟩;clear S2 B2 b2;have qs:=Ae hS;have bI:=hS.b;clear hS;by_cases bj:i<n
  ·exact qAu
  ·obtain rfl:i=n:=qB;have hT:ms.take i=ms:=As (by have:=IY.out.1;omega);rw [hT] at qs;clear hT;have sw:hl=.slice none 0 0:=by
    rcases HH.out with ⟨_,h⟩|⟨h,_⟩
    ·exact h
    ·omega
   subst sw;have o0:=qs.out.o.cell 0 _ rfl;have t0:=qs.out.wt.cell 0 _ rfl;have p0:=qs.out.hp.cell 0 _ rfl;have g0:=qs.out.gg.cell 0 _ rfl;obtain ⟨ys,ah,FW⟩:=qs.out.gr.ex;obtain ⟨ga,gc,rfl⟩:=Fr ah;rw [List.length_map] at ah g0;rw [IY.out.1] at g0;obtain ⟨u1,u2,u3,u4⟩:=Kf ah;have ri:i≤gc:=by have:=IY.out.1;omega
   have sv:Gq wi X X (.slice ga i gc) (ms.map fun z=>z.1::z.2):=by
    have h:=qs.out.gr;simp only [List.length_map] at h;rw [IY.out.1] at h;exact h
   have HG:=Ae sv;clear sv;clear ah FW u1 u2 u3 u4;go_wp2_with fail;refine wp_loop_rounds 1 ?_;rw [rounds_succ];go_wp2_with fail;have mh:∀z∈ms,Sm (z.1::z.2):=fun z hz=>by
    obtain ⟨k,hk⟩:=List.mem_iff_getElem?.1 hz;have ky:k<ls.length:=by rw [HI.out.1,←IY.out.1];exact (List.getElem?_eq_some_iff.1 hk).1
    obtain ⟨y,q,k1,k2,k3⟩:=IY.out.2 k _ (Ai ky);rw [hk] at k3;cases k3;exact k2
   have hXl:=qs.out.xs;have hwX:w.heap.size≤X:=by have:=qs.out.lo;have:=qs.out.hi;omega
   have hbI:=qs.out.b;refine (Wv wi X X ga i gc ms IY.out.1 qB ri mh hXl (fun W O' LB hW _ _ _ _=>yJ wi X ga i gc ms IY.out.1 qB HG.out W O' LB hW) rs OQ.out RJ.out).mono ?_;rintro e w4 ⟨ra,rc,rfl,j1,j2,j3⟩;have HJ:=Ae (Ax j1 (Ax j2 j3));clear j1 j2 j3;go_wp2_with fail;refine bodyPost_ret (v:=.tuple #[.slice ra rs.length rc,M 0]) (by simp [results,results14,go_sem]) rfl ?_;exact ⟨ra,rc,rfl,HJ.out.1,HJ.out.2.1.mono qB,hbI.trans (HJ.out.2.2.mono hwX)⟩
theorem sm_S:Sm bS:=Sm.of (by decide +kernel)
theorem oL (W:World) (X:Nat) (a:Γ) (n c:Nat) (h:Be W X a n c (zP1.1::zP1.2)) (a':Γ) (n' c':Nat) (h':Be W X a' n' c' (zP2.1::zP2.2)) :
  Θ 7 #[.int .u8 0,.slice a n c,.slice a' n' c'] W (fun e w'=>∃a n c,e=.returned (.tuple #[.slice a n c,M 0])∧Be w' W a n c bS∧xp W w'):=by
 have hn:n=3:=by rw [←h.len];rfl
 have rk:n'=2:=by rw [←h'.len];rfl
 refine (fF W 0 qB X a n c _ _ h Uh.pw 100 Uh.few qB X a' n' c' _ _ h' Pw.pw 100 Pw.few qB qB qB).mono ?_;rintro e w' (⟨_,a9,n9,c9,rfl,hp,ho,hb⟩|⟨h1,_⟩)
 ·exact ⟨a9,n9,c9,rfl,by rw [←oR.2];exact hp,hb⟩
 ·exact absurd (oR.1.symm.trans h1) qI
theorem wK (n lc:Nat) (L lo:Nat) (ls:List (PT×Δ)) (hn:ls.length=n) (vh:n=2) (ri:n≤lc) (py:n=0∨la=some ⟨L,lo,none⟩) (j8:DIn w L lo ls) (ms:List (PT×Δ)) (AY:ms.length=n) (UA:∀(i:Nat) (z:PT×Δ),ls[i]? = some z→∃y q,Fx 0 z.1 z.2=y::q∧Sm (y::q)∧ms[i]? = some (y,q)) (YP:ms=[zP1,zP2]) :
  Θ 14 #[.int .u8 0,.slice la n lc] w (cJ w [zM,zP2]):=by
 have agn:n≤2:=qB;have HN2:=Ae (Ax vh YP);have JN:Hid (∀z y,ms=[z,y]→apK z.1.1 y.1.1=false):=Ae (fun z y e=>by rw [YP] at e;cases e;exact Aa8);clear vh YP;have HM:=Ae (gQ w la n lc L lo ls hn qB ri py j8);have HI:=Ae (Ax hn (Ax py j8));have IY:=Ae (Ax AY UA);clear hn py j8 AY UA;have HB:=Ac w w;go_enter func14,ntmps14;go_wp2_with fail;refine (HM.out _ qD).mono ?_;rintro e w1 ⟨rfl,br⟩;have B1:=zP w br;have OB:Blk w1 w #[.int .u8 0] 22:=Blk.keep (C0 rfl _ _) br;have zo:=OB.lt;clear br HB;go_wp2_with fail;refine Bx ?_;intro w2 df;have gg2:Blk w2 w1 #[.slice none 0 0] 59:=by rw [df];exact (((C0 rfl _ _).alloc _).alloc _).alloc _
 have ld2:Blk w2 (w1+1) #[.slice none 0 0] 85:=by rw [df];exact ((C0 qH _ _).alloc _).alloc _
 have OJ:Blk w2 (w1+1+1) #[.slice none 0 0,.func (.func 75) #[] #[.pointer (E w)]] 93:=by rw [df];exact (C0 qH _ _).alloc _
 have wt2:Blk w2 (w1+1+1+1) #[.pointer (E (w1+1+1))] 86:=by rw [df];exact C0 qH _ _
 have b2:xp w1 w2:=by rw [df];go_grown
 have z2:w2.heap.size=w1.heap.size+1+1+1+1:=by rw [df];simp
 have B2:=xo B1 b2;obtain ⟨F,hF⟩:∃F:Value,F=.func (.func 75) #[] #[.pointer (E w)]:=⟨_,rfl⟩;rw [←hF] at OJ;have S2:Qp w w2 w (w1+1) (w1+1+1+1) w1 (w1+1+1) (w1+1+1+1+1) [] (.slice none 0 0) F (.slice none 0 0) (.slice none 0 0) :=
  ⟨OB.keep b2,wt2,OJ,ld2,World.ownsRow_nil _ _ _ _,gg2,Gq.nil _ _ _,by have:=B1.size;omega,qB,qB,B2,qB⟩
 clear df gg2 ld2 OJ wt2 OB hF;obtain ⟨O,hO⟩:∃O,O=w.heap.size:=⟨_,rfl⟩;obtain ⟨GG,IL⟩:∃GG,GG=w1.heap.size:=⟨_,rfl⟩;obtain ⟨LD,RI⟩:∃LD,LD=GG+1:=⟨_,rfl⟩;obtain ⟨H,hH⟩:∃H,H=GG+1+1:=⟨_,rfl⟩;obtain ⟨WT,YO⟩:∃WT,WT=GG+1+1+1:=⟨_,rfl⟩;obtain ⟨X,hX⟩:∃X,X=GG+1+1+1+1:=⟨_,rfl⟩;rw [←IL,←hX,←YO,←hH,←RI] at S2;have RT:=Ae (Ax hO (Ax IL (Ax hX z2)));rw [←hO] at S2;rw [←IL] at z2;rw [←hO,←IL,←YO,←hH,←RI];clear hO IL RI hH YO hX z2;go_loopw [25] (fun v25 wr=>∃(i:Nat) (hl:Value),i≤n∧v25=M i∧BSt w wr O LD WT GG H X (ms.take i) hl F∧Hid (HpI wr X i ms hl)) (fun v25 _=>n-(intOf v25).toNat)
 case atStart=>exact ⟨0,_,qB,by go_num,⟨_,_,S2⟩,Ae (.inl ⟨qB,rfl⟩)⟩
 case round =>
  obtain ⟨i,hl,hi,rfl,⟨lv,gv,hS⟩,HH⟩:=hrel;obtain ⟨wi,rfl⟩:∃w':World,w'=wr:=⟨_,rfl⟩;clear S2 B2 b2;have qs:=Ae hS;have bI:=hS.b;clear hS;by_cases bj:i<n
  ·exact qAu
  ·obtain rfl:i=n:=qB;have hT:ms.take i=ms:=As (by have:=IY.out.1;omega);rw [hT] at qs;clear hT;obtain ⟨z,y,g,c,hmz,rfl,how⟩:∃z y g c,ms=[z,y]∧hl=.slice (E g) 1 c∧wi.ownsRow X 88 6 hl 1 [M 0,M 1,U (exN (Gg z.1.1 y.1.1) 0:Nat),U (exN (Gg z.1.1 y.1.1) 1:Nat),U (exN (Gg z.1.1 y.1.1) 2:Nat),U (exN (Gg z.1.1 y.1.1) 3:Nat)]:=by
    rcases HH.out with ⟨h,_⟩|⟨_,h⟩
    ·have:=HN2.out.1;omega
    ·exact h
   have hme:=HN2.out.2;subst hme;have aqi:=HN2.out.1;subst aqi;have o0:=qs.out.o.cell 0 _ rfl;have t0:=qs.out.wt.cell 0 _ rfl;have p0:=qs.out.hp.cell 0 _ rfl;have ah:=Tj how (Ba _);have HW:=Ae ah;clear ah how hmz;go_wp2_with fail;refine wp_loop_rounds 3 ?_;rw [rounds_succ];go_wp2_with fail;refine (Abr wi H g c F qs.out.hp 0 1 _ _ _ _ HW.out).mono ?_;rintro e w5 ⟨rfl,yl,hB5⟩;have hbI:=qs.out.b;have HS5:=Ae (qs.out.push yl hB5);have zw5:=yl.size;clear yl hB5 o0 t0 p0 HW;have t5:=HS5.out.wt.cell 0 _ rfl;have l5:WT<w5.heap.size:=HS5.out.wt.lt;go_wp2_with fail;go_upto_region 15 with fail
   refine Bx ?_;intro w6 uk;have k6:xp w5 w6:=by rw [uk];go_grown
   have x0:Z w6 w5 0 (M 0):=by rw [uk];simp [go_sem]
   have x1:Z w6 w5 1 (M 1):=by rw [uk];simp [go_sem]
   have z6:w5.heap.size<w6:=by rw [uk];simp
   clear uk;have HS6:=Ae (HS5.out.keep k6);have o6:=HS6.out.o.cell 0 _ rfl;have g6:=HS6.out.gg.cell 0 _ rfl;have sv:=HS6.out.gr;obtain ⟨ys,ah,FW⟩:=sv.ex;obtain ⟨ga,gc,rfl⟩:=Fr ah;have cv:w6.ownsRow X 24 1 (.slice ga 2 gc) 2 ys:=ah;replace g6:Z w6 GG 0 (.slice ga 2 gc):=g6;obtain ⟨u1,u2,u3,u4⟩:=Kf cv;obtain ⟨G,rfl,hGX,ij⟩:=u4.resolve_left qB;obtain ⟨a1,n1,c1,e1,P1,O1⟩:=FW 0 _ rfl;obtain ⟨a2,n2,c2,e2,P2,O2⟩:=FW 1 _ rfl;have r0:=ij 0 _ e1;have r1:=ij 1 _ e2;have HPP:=Ae (Ax P1 (Ax P2 (Ax ij FW)));have HB:=Ac w6 w6;clear sv ah cv FW u1 u2 u4 ij e1 e2 P1 O1 P2 O2 t5 l5 k6;go_region_held3 (fun W=>Z W O 0 (.int .u8 0)∧Z W GG 0 (.slice (E G) 2 gc)∧Z W w5 0 (M 0)∧Z W w5 1 (M 1)∧Z W G 0 (.slice a1 n1 c1)∧Z W G 1 (.slice a2 n2 c2)) (exact qK) (first
    | (go_at_call 7;(with_reducible refine (oL _ X a1 n1 c1 (HPP.out.1.keep qD) a2 n2 c2 (HPP.out.2.1.keep qD)).mono ?_);rintro e w7 ⟨sa,sn,sc,rfl,hPs,hb⟩;have iw:=zP w6 hb;have o7:=Bb iw o6;have g7:=Bb iw g6;have x07:=Bb iw x0;have x17:=Bb iw x1;have r07:=Bb iw r0;have r17:=Bb iw r1))
   go_wp2_with fail;have ags:DIn w7 G 0 [zP1,zP2]:=⟨fun k x l hx=>by
    match k,hx with
    | 0,hx=>cases hx;exact ⟨a1,n1,c1,r07,(HPP.out.1.keep iw).mono (Ba _),Uh⟩
    | 1,hx=>cases hx;exact ⟨a2,n2,c2,r17,(HPP.out.2.1.keep iw).mono (Ba _),Pw⟩
    | m+2,hx=>simp at hx⟩
   refine (W8 w7 _ sn sc sa bS G 0 (E G) gc [zP1,zP2] 2 rfl qB u3 (.inr rfl) ags hPs sm_S 10 bR Aaw).mono ?_;rintro e w8 ⟨ra,rn,rc,rfl,hPr,jt⟩;have b68:=xo iw jt;have HS8:=Ae (HS6.out.keep b68);obtain rfl:rn=2:=by have:=hPr.len;simpa [bR] using this.symm
   have TH:=Ae hPr;clear hPr iw jt ags hPs o7 g7 x07 x17 r07 r17 o6 g6 x0 x1 r0 r1 HPP HB b68 z6;go_wp2_with fail;refine (mL w w8 O LD WT GG H X [zP1,zP2] _ F _ _ HS8.out qH _ 2 rc ra zR.1 zR.2 TH.out sm_R zM.1 zM.2 tA nE (.inl (fun z hz=>by
    simp only [List.mem_cons,List.not_mem_nil,or_false] at hz;rcases hz with rfl|rfl
    ·exact Abn
    ·exact Abq))).mono ?_
   rintro e w9 ⟨rfl,hl',⟨lv',gv',OS⟩,hp9⟩;have hl9:hl'=.slice (E g) 0 c:=by
    rcases hp9 with ⟨h,_⟩|⟨_,z,_,_,h,_⟩
    ·exact h
    ·cases h
   subst hl9;have o9:=OS.o.cell 0 _ rfl;have t9:=OS.wt.cell 0 _ rfl;have p9:=OS.hp.cell 0 _ rfl;have g9:=OS.gg.cell 0 _ rfl;have sv:=OS.gr;obtain ⟨ys,ah,FW⟩:=sv.ex;obtain ⟨ga,gc',rfl⟩:=Fr ah;have dh:w9.ownsRow X 24 1 (.slice ga 3 gc') 3 ys:=ah;replace g9:Z w9 GG 0 (.slice ga 3 gc'):=g9;obtain ⟨u1,u2,u3',u4⟩:=Kf dh;obtain ⟨G',rfl,a5j,ij⟩:=u4.resolve_left qB;have HG9:Hid (Gq w9 X X (.slice (E G') 3 gc') [zP1.1::zP1.2,zP2.1::zP2.2,zM.1::zM.2]):=Ae sv;have hXl:=OS.xs;have hwX:w.heap.size≤X:=by have:=OS.lo;have:=OS.hi;omega
   have hb9:=OS.b;clear sv ah dh FW u1 u2 u4 ij OS hp9 HS8 TH;go_wp2_with fail;rw [rounds_succ];go_wp2_with fail;refine (Wv w9 X X (E G') 3 gc' [zM,zP2,zP1] rfl qB u3' (fun z hz=>by
    simp only [List.mem_cons,List.not_mem_nil,or_false] at hz;rcases hz with rfl|rfl|rfl
    ·exact nE
    ·exact Pw
    ·exact Uh) hXl (fun W O' LB hW k1 k2 k3 k4=>yW w9 X G' gc' zP1 zP2 zM HG9.out Uh Pw nE Abw Abf Abe W O' LB hW k1 k2 k3 k4) [zM,zP2] (by rw [iU]) Ab0).mono ?_
   rintro e w4 ⟨ra,rc,rfl,j1,j2,j3⟩;have HJ:=Ae (Ax j1 (Ax j2 j3));clear j1 j2 j3;go_wp2_with fail;refine bodyPost_ret (v:=.tuple #[.slice ra [zM,zP2].length rc,M 0]) (by simp [results,results14,go_sem]) rfl ?_;exact ⟨ra,rc,rfl,HJ.out.1,HJ.out.2.1.mono qB,hb9.trans (HJ.out.2.2.mono hwX)⟩
theorem Ab8 (ri:2≤lc) (j8:DIn w L lo [zP1,zP2]):Θ 14 #[.int .u8 0,.slice (some ⟨L,lo,none⟩) (2:Nat) lc] w (cJ w [zM,zP2]) :=
 wK w _ 2 lc L lo [zP1,zP2] rfl rfl ri (.inr rfl) j8 [zP1,zP2] rfl (fun i z hz=>by
  match i,hz with
  | 0,hz=>cases hz;exact ⟨_,_,sO,Uh,rfl⟩
  | 1,hz=>cases hz;exact ⟨_,_,iK,Pw,rfl⟩
  | n+2,hz=>simp at hz) rfl
theorem nR (n c:Nat) (us:List Value) (oz:n≤c) (hl:us.length=n) (hc:(a=none∧n=0∧c=0)∨∃b o,a=some ⟨b,o,none⟩∧∀j u,us[j]? = some u→w.cell? ((J b o:Addr).add j)=some u) (h1:∀u∈us,u.oneCell'=true) (hn:n≤500000) :
  Θ 85 #[.slice a n c] w fun e w'=>∃v,e=.returned v∧w'.ownsRow w 24 1 v n us∧xp w w':=by
 have HB:=Ac w w;rcases hc with ⟨rfl,rfl,rfl⟩|⟨b,o,rfl,ij⟩
 ·have DM:us=[]:=List.length_eq_zero_iff.1 hl;subst DM;have hq:=fun (W:World)=>Lib.run_eql_slice_nil (P:=prog) W 59 24 none 0 0 0 0 underlying59
  go_enter func85,ntmps85;go_wp2_with fail;go_ret;exact ⟨_,rfl,World.ownsRow_nil _ _ _ _,HB⟩
 ·have HC:=Ae (Ax hl (Ax ij h1));clear hl ij h1;have hq:=fun (W:World)=>Lib.run_eql_slice_nil (P:=prog) W 59 24 (some ⟨b,o,none⟩) n c 0 0 underlying59
  go_enter func85,ntmps85;have hk:xp w (w.alloc (.cells #[] 24)):=qD;go_wp2_with (first|(at_builtin;refine Eu rfl _ _ rfl w (.slice (E w) 0 0) 0 [] rfl ⟨rfl,.inr ⟨w.heap.size,0,#[],rfl,Ad _,World.alloc_heap_new w _,Ad _,qN,rfl,rfl⟩⟩ (some ⟨b,o,none⟩) n c us rfl oz HC.out.1 (.inr ⟨b,o,rfl,fun j u hj=>Bb hk (HC.out.2.1 j u hj)⟩) HC.out.2.2 qB qB qH ?_;intro v2 w2 cv js));have bp:xp w w2:=hk.grown js qH (fun k e=>by simp [Value.ownBlock] at e;omega);rw [List.nil_append,Nat.zero_add] at cv;go_wp2_with fail;refine bodyPost_ret (v:=v2) (by simp [results,results85,go_sem]) rfl ?_;exact ⟨v2,rfl,cv,bp⟩
theorem xI (n lc:Nat) (L lo:Nat) (ls:List (PT×Δ)) (hn:ls.length=n) (vh:n≤1) (ri:n≤lc) (py:(la=none∧n=0∧lc=0)∨la=some ⟨L,lo,none⟩) (j8:DIn w L lo ls) (ms:List (PT×Δ)) (AY:ms.length=n) (UA:∀(i:Nat) (z:PT×Δ),ls[i]? = some z→∃y q,Fx 0 z.1 z.2=y::q∧Sm (y::q)∧ms[i]? = some (y,q))
  (rs:List (PT×Δ)) (lj:rs.length=(ms.foldl Ci []).length) (ew:∀(j:Nat) (z:PT×Δ),(ms.foldl Ci [])[j]? = some z→∃f x l y q,Ii ((ms.foldl Ci []).take j++(ms.foldl Ci []).drop (j+1)) f (z.1::z.2) (((ms.foldl Ci []).take j++(ms.foldl Ci []).drop (j+1)).map fun _=>[]) []=some (x::l)∧Sm (x::l)∧Fx 0 x l=y::q∧rs[j]? = some (y,q))
  (B pn pc:Nat) (pa:Γ) (lp:Δ) (hp:Be w B pa pn pc lp) (YR:Sm lp) (XS:∀z∈rs,Sm (z.1::z.2)) (aql:rs.length≤40) (f:Nat) (r:Δ) (hr:Ii rs.reverse f lp (rs.reverse.map fun _=>[]) []=some r) :
  Θ 16 #[.int .u8 0,.slice la n lc,.slice pa pn pc] w (fun e w'=>e=.returned (.tuple #[.bool (decide (r=[])),M 0])∧xp w w'):=by
 obtain ⟨i0,sy,dw,ed,en⟩:=info_parts Iq;have agu:n=0∨la=some ⟨L,lo,none⟩:=py.imp (fun h=>h.2.1) id;have NP:=fun W (hW:xp w W)=>Abc W la n lc L lo ls hn vh ri agu ⟨fun i x l hx=>by obtain ⟨a,m,c,h1,h2,h3⟩:=j8.el i x l hx;exact ⟨a,m,c,Bb hW h1,h2.keep hW,h3⟩⟩ ms AY UA rs lj ew
 obtain ⟨us,KQ,DM⟩:∃us:List Value,us.length=n∧∀i u,us[i]? = some u→Z w L (lo+i) u∧Eh w u true:=by
  refine ⟨(List.range n).map fun i=>(w.cell? (J L (lo+i))).getD (.bool false),qH,fun i u hu=>?_⟩;have hi:i<n:=by
   have:=(List.getElem?_eq_some_iff.1 hu).1;simpa using this
  obtain ⟨⟨x,l⟩,hx⟩:∃y,ls[i]? = some y:=⟨_,Ai (by rw [hn];exact hi)⟩;obtain ⟨a,m,c,h1,h2,h3⟩:=j8.el i x l hx;rw [List.getElem?_map,List.getElem?_range hi,Option.map_some,h1,Option.getD_some] at hu;cases hu;exact ⟨h1,Eh.of h2 h3.pw h3.few qB⟩
 have one:∀u∈us,u.oneCell'=true:=fun u hu=>by
  obtain ⟨k,hk⟩:=List.mem_iff_getElem?.1 hu;obtain ⟨a,m,c,p,rfl,_⟩:=(DM k u hk).2;rfl
 have ij:=fun W (hW:xp w W)=>nR W la n lc us ri KQ (py.imp id fun e=>⟨L,lo,e,fun j u hj=>by rw [aO];exact Bb hW (DM j u hj).1⟩) one qB
 have HP:=Ae (Ax hp (Ax YR (Ax XS hr)));have HU:=Ae (Ax KQ DM);have HO:=Ae NP;have HC:=Ae ij;clear hn py agu j8 AY UA lj ew hp YR XS hr NP KQ DM one ij;have HB:=Ac w w;go_enter func16,ntmps16;go_wp2_with fail;refine (HC.out _ qD).mono ?_;rintro e w1 ⟨v1,rfl,du,br⟩;have B1:=zP w br;go_wp2_with (first|(at_builtin;refine Eu rfl _ _ rfl w v1 n us rfl (Tj (Bf du qD) qV) (E w1) 1 1 [.slice pa pn pc] rfl qB rfl (.inr ⟨w1.heap.size,0,rfl,cell_one_new _ _ _⟩) (by simp [Value.oneCell']) qB qB (by have:=B1.size;simp;omega) ?_;intro v2 w2 cv js));have B2:xp w w2:=(B1.alloc B1.size _).grown js (by have:=B1.size;simp;omega) (fun k e=>Ah qV (Dj du k e));obtain ⟨va,vc,rfl⟩:=Fr cv;obtain ⟨-,k2,k3,k4⟩:=Kf cv;have CM:Θ 19 #[.int .u8 0,.slice va (n+1) vc] w2 (fun e w'=>e=.returned (.bool true)∧xp w2 w'):=by
  obtain ⟨G,rfl,hG,ij⟩:=k4.resolve_left qB;have xq:∀i,i<n+1→∃u,(us++[.slice pa pn pc])[i]? = some u∧Eh w2 u true:=fun i hi=>by
   rcases Nat.lt_or_ge i n with h|h
   ·obtain ⟨u,hu⟩:∃u,us[i]? = some u:=⟨_,Ai (by rw [HU.out.1];exact h)⟩;exact ⟨u,by rw [Ay (by rw [HU.out.1];exact h)];exact hu,(HU.out.2 i u hu).2.keep B2⟩
   ·obtain rfl:i=n:=qB;exact ⟨_,by rw [Az (by rw [HU.out.1];exact Ad _),HU.out.1,Nat.sub_self];rfl,Eh.of (HP.out.1.keep B2) HP.out.2.1.pw HP.out.2.1.few qB⟩
  refine gV w2 0 _ (n+1) vc k3 qB (fun i=>((us++[.slice pa pn pc])[i]?).getD (.bool false)) (fun _=>true) (.inr ⟨G,0,rfl,fun i hi=>?_⟩) (fun i hi=>?_) true ⟨fun _=>Ax qB (fun _ _=>rfl),fun _=>rfl⟩
  ·obtain ⟨u,hu,_⟩:=xq i hi;rw [hu,Option.getD_some,Nat.zero_add];exact ij i u hu
  ·obtain ⟨u,hu,hm⟩:=xq i hi;rw [hu,Option.getD_some];exact hm
 have HM:=Ae CM;clear CM k2 k3 k4 du cv js br HC HU B1;go_wp2_with fail;refine HM.out.mono ?_;rintro e w3 ⟨rfl,ea⟩;have B3:=xo B2 ea;clear HM ea B2;go_wp2_with fail;refine (HO.out _ B3).mono ?_;rintro e w4 ⟨ra,rc,rfl,j1,j2,ec⟩;have B4':=xo B3 ec;have pb:rs.reverse.length=rs.length:=List.length_reverse;obtain ⟨G,hG⟩:∃G,(rs.length=0∨ra=some ⟨G,0,none⟩)∧DIn w4 G 0 rs.reverse:=by
  rcases j2 with h|⟨G,h,xq⟩
  ·exact ⟨0,.inl (by rw [←pb,h];rfl),⟨fun i x l hx=>by rw [h] at hx;simp at hx⟩⟩
  ·exact ⟨G,.inr h,⟨fun i x l hx=>by
    obtain ⟨a,m,c,q1,q2,q3⟩:=xq i (x,l) hx;exact ⟨a,m,c,by rw [Nat.zero_add];exact q1,q2.mono (Ba _),HP.out.2.2.1 (x,l) (List.mem_reverse.1 (A7 hx))⟩⟩⟩
 have UC:=W8 w4 B pn pc pa lp G 0 ra rc rs.reverse rs.length pb aql j1 hG.1 hG.2 (HP.out.1.keep B4') HP.out.2.1 f r HP.out.2.2.2;have HLF:=Ae UC;clear UC hG j1 j2 ec HO B3 pb;go_wp2_with fail;refine HLF.out.mono ?_;rintro e w5 ⟨qa,qn,qc,rfl,hq,dx⟩;have B5:=xo B4' dx;have uo:=hq.len;clear hq dx HLF;have hd:decide (r=[])=decide ((qn:Int)=0):=by
  rw [decide_eq_decide,←List.length_eq_zero_iff,uo];omega
 have HD:=Ae hd;clear hd uo;go_wp2_with fail;refine bodyPost_ret (v:=.tuple #[.bool ((qn:Int)==0),M 0]) (by simp [results,results16,go_sem]) rfl ?_;exact ⟨by rw [HD.out];rfl,B5⟩
theorem Aav (n:Int) (h0:-9223372036854775808≤n) (h1:n≤9223372036854775807) (w:World) (hT:Tab w) :
  Θ 232 #[M n] w (Gs w (Lib.itoa n)) :=
 (Tryz.strconv_Itoa n h0 h1 w hT).mono fun _ _ ⟨h,k,os,hw⟩=>⟨h,by rw [hw];exact Ud _ _ _ (Ad _)⟩
def xyzt:Nat→UInt8
 | 0=>120
 | 1=>121
 | 2=>122
 | _=>116
def Ek (i n:Nat):List UInt8:=xyzt i::(if 1<n then 94::Lib.itoa (n:Int) else [])
theorem Hh (h:n<65536):(Lib.itoa (n:Int)).length≤5:=by
 rw [Lib.itoa,if_neg qB,Int.toNat_natCast];exact (Si 4 n qB).2
theorem rA (hn:n<65536) (hT:Tab w) :
  Θ 208 #[M 0,U n] w (Gs w (Ek 0 n)):=by
 have hl:=Hh n hn;have FY:(⟨#[94]⟩:ByteArray).size+(⟨(Lib.itoa (n:Int)).toArray⟩:ByteArray).size≤9223372036854775807:=by show 1+(Lib.itoa (n:Int)).length≤_;omega
 have FZ:((⟨#[94]⟩:ByteArray)++(⟨(Lib.itoa (n:Int)).toArray⟩:ByteArray))=⟨(94::Lib.itoa (n:Int)).toArray⟩:=H7 [94] _;have hnw:IntKind.i64.wrap (n:Int)=n:=IntWalk.i64_in _ qB;have hex:(⟨#[120,121,122,116]⟩:ByteArray).extract 0 1=⟨#[120]⟩:=qM;by_cases h1:1<n
 ·have GA:(⟨#[120]⟩:ByteArray).size+(⟨(94::Lib.itoa (n:Int)).toArray⟩:ByteArray).size≤9223372036854775807:=by show 1+(94::Lib.itoa (n:Int)).length≤_;simp only [List.length_cons];omega
  have GC:((⟨#[120]⟩:ByteArray)++(⟨(94::Lib.itoa (n:Int)).toArray⟩:ByteArray))=⟨(120::94::Lib.itoa (n:Int)).toArray⟩:=H7 [120] _;exact qBl
 ·exact qCd
theorem oA (hn:n<65536) (hT:Tab w) :
  Θ 208 #[M 1,U n] w (Gs w (Ek 1 n)):=by
 have hl:=Hh n hn;have FY:(⟨#[94]⟩:ByteArray).size+(⟨(Lib.itoa (n:Int)).toArray⟩:ByteArray).size≤9223372036854775807:=by show 1+(Lib.itoa (n:Int)).length≤_;omega
 have FZ:((⟨#[94]⟩:ByteArray)++(⟨(Lib.itoa (n:Int)).toArray⟩:ByteArray))=⟨(94::Lib.itoa (n:Int)).toArray⟩:=H7 [94] _;have hnw:IntKind.i64.wrap (n:Int)=n:=IntWalk.i64_in _ qB;have hex:(⟨#[120,121,122,116]⟩:ByteArray).extract 1 2=⟨#[121]⟩:=qM;by_cases h1:1<n
 ·have GA:(⟨#[121]⟩:ByteArray).size+(⟨(94::Lib.itoa (n:Int)).toArray⟩:ByteArray).size≤9223372036854775807:=by show 1+(94::Lib.itoa (n:Int)).length≤_;simp only [List.length_cons];omega
  have GC:((⟨#[121]⟩:ByteArray)++(⟨(94::Lib.itoa (n:Int)).toArray⟩:ByteArray))=⟨(121::94::Lib.itoa (n:Int)).toArray⟩:=H7 [121] _;exact qBl
 ·exact qCd
theorem rD (hn:n<65536) (hT:Tab w) :
  Θ 208 #[M 2,U n] w (Gs w (Ek 2 n)):=by
 have hl:=Hh n hn;have FY:(⟨#[94]⟩:ByteArray).size+(⟨(Lib.itoa (n:Int)).toArray⟩:ByteArray).size≤9223372036854775807:=by show 1+(Lib.itoa (n:Int)).length≤_;omega
 have FZ:((⟨#[94]⟩:ByteArray)++(⟨(Lib.itoa (n:Int)).toArray⟩:ByteArray))=⟨(94::Lib.itoa (n:Int)).toArray⟩:=H7 [94] _;have hnw:IntKind.i64.wrap (n:Int)=n:=IntWalk.i64_in _ qB;have hex:(⟨#[120,121,122,116]⟩:ByteArray).extract 2 3=⟨#[122]⟩:=qM;by_cases h1:1<n
 ·have GA:(⟨#[122]⟩:ByteArray).size+(⟨(94::Lib.itoa (n:Int)).toArray⟩:ByteArray).size≤9223372036854775807:=by show 1+(94::Lib.itoa (n:Int)).length≤_;simp only [List.length_cons];omega
  have GC:((⟨#[122]⟩:ByteArray)++(⟨(94::Lib.itoa (n:Int)).toArray⟩:ByteArray))=⟨(122::94::Lib.itoa (n:Int)).toArray⟩:=H7 [122] _;exact qBl
 ·exact qCd
theorem pD (hn:n<65536) (hT:Tab w) :
  Θ 208 #[M 3,U n] w (Gs w (Ek 3 n)):=by
 have hl:=Hh n hn;have FY:(⟨#[94]⟩:ByteArray).size+(⟨(Lib.itoa (n:Int)).toArray⟩:ByteArray).size≤9223372036854775807:=by show 1+(Lib.itoa (n:Int)).length≤_;omega
 have FZ:((⟨#[94]⟩:ByteArray)++(⟨(Lib.itoa (n:Int)).toArray⟩:ByteArray))=⟨(94::Lib.itoa (n:Int)).toArray⟩:=H7 [94] _;have hnw:IntKind.i64.wrap (n:Int)=n:=IntWalk.i64_in _ qB;have hex:(⟨#[120,121,122,116]⟩:ByteArray).extract 3 4=⟨#[116]⟩:=qM;by_cases h1:1<n
 ·have GA:(⟨#[116]⟩:ByteArray).size+(⟨(94::Lib.itoa (n:Int)).toArray⟩:ByteArray).size≤9223372036854775807:=by show 1+(94::Lib.itoa (n:Int)).length≤_;simp only [List.length_cons];omega
  have GC:((⟨#[116]⟩:ByteArray)++(⟨(94::Lib.itoa (n:Int)).toArray⟩:ByteArray))=⟨(116::94::Lib.itoa (n:Int)).toArray⟩:=H7 [116] _;exact qBl
 ·exact qCd
theorem pP (i n:Nat) (hi:i<4) (hn:n<65536) (hT:Tab w) :
  Θ 208 #[M i,U n] w (Gs w (Ek i n)):=by
 match i,hi with
 | 0,_=>exact rA w n hn hT
 | 1,_=>exact oA w n hn hT
 | 2,_=>exact rD w n hn hT
 | 3,_=>exact pD w n hn hT
theorem Zv :
  Θ 154 #[.agg #[.bool g1,.slice a1 n1 c1,.bool g2,.slice a2 n2 c2]] w fun e w'=>e=.returned (.tuple #[.agg #[.bool false,.slice a1 n1 c1,.bool g2,.slice a2 n2 c2],.bool g1])∧xp w w':=by
 have HB:=Ac w w;go_enter func154,ntmps154;go_wp2_with fail;refine bodyPost_ret (v:=.tuple #[.agg #[.bool false,.slice a1 n1 c1,.bool g2,.slice a2 n2 c2],.bool g1]) (by simp [results,results154,go_sem]) rfl ?_;exact ⟨rfl,qD⟩
theorem xE:(prog.info? 9).map (fun i=>(i.zero,i.size,i.bytes))=some (some (.string ⟨#[]⟩),1,16):=qE
def Gk (l:List (List UInt8)):List Value:=l.map fun t=>Value.string ⟨t.toArray⟩
theorem G6:(Gk l).length=l.length:=by simp [Gk]
theorem Kv (m:List (List UInt8)):Gk (l++m)=Gk l++Gk m:=by simp [Gk]
theorem Nf:∀u∈Gk l,u.oneCell'=true:=by
 intro u hu;simp only [Gk,List.mem_map] at hu;obtain ⟨z,_,rfl⟩:=hu;rfl
def Ez (m:Nat→Nat):Nat→List (List UInt8)
 | 0=>[]
 | k+1=>Ez m k++(if 0<m k then [Ek k (m k)] else [])
theorem Ts (k:Nat):(Ez m k).length≤k:=by
 induction k with
 | zero=>simp [Ez]
 | succ k ih=>rw [Ez,A8];split<;>simp<;>omega
def Ef (t:List UInt8) (m:Nat→Nat):List (List UInt8):=if t≠[49]∨Ez m 4=[] then t::Ez m 4 else Ez m 4
def rW (w:World) (l:List (List UInt8)) (e:Ending) (w':World):Prop :=
 ∃v,e=.returned v∧w'.ownsRow w 9 1 v l.length (Gk l)∧xp w w'
def D9 (m0 m1 m2 m3:Nat):Nat→Nat
 | 0=>m0
 | 1=>m1
 | 2=>m2
 | _=>m3
theorem Kp {w:World} {base':Nat} {size:Nat} {v:Value} {n:Nat} (h:w.ownsRow base e size v n xs) (hb:base'≤base):w.ownsRow base' e size v n xs:=qEi
theorem Ko {w:World} {g n c:Nat} (h:w.ownsRow base e 1 (.slice (E g) n c) n xs):∀j u,xs[j]? = some u→w.cell? ((J g 0:Addr).add j)=some u:=by
 intro j u hj;have vu:(J g 0:Addr).add j=⟨g,j,none⟩:=by unfold Addr.add;split<;>simp_all
 have hl:=h.1;have yi:j<xs.length:=by
  rcases Nat.lt_or_ge j xs.length with h1|h1
  ·exact h1
  ·rw [List.getElem?_eq_none h1] at hj;cases hj
 rw [vu,h.cellAt j qB];exact hj
theorem gD (p:Int) (g2:Bool) (a2:Γ) (n2 c2:Nat) (q:Int) (h:Bo w g1 a1 n1 c1 p g2 a2 n2 c2 q) (hs:n2≤1000000) (br:n1≤1000000) (hT:Tab w)
  (m0 m1 m2 m3:Nat) (h0:m0<65536) (h1:m1<65536) (h2:m2<65536) (h3:m3<65536) :
  Θ 155 #[.agg #[.bool g1,.slice a1 n1 c1,.bool g2,.slice a2 n2 c2],.agg #[U m0,U m1,U m2,U m3]] w (rW w (Ef (E6 p q) (D9 m0 m1 m2 m3))):=by
 obtain ⟨i0,hi,dw,ed,en⟩:=info_parts xE;have HB:=Ac w w;go_enter func155,ntmps155;go_wp2_with fail;go_loopw [4,9] (fun v4 v9 wr=>∃k:Nat,k≤4∧v9=M k∧wr.ownsRow (w+1+1) 9 1 v4 (Ez (D9 m0 m1 m2 m3) k).length (Gk (Ez (D9 m0 m1 m2 m3) k))∧w.heap.size+1<wr∧Z wr w 0 (.bool g1)∧Z wr w 1 (.slice a1 n1 c1)∧Z wr w 2 (.bool g2)∧Z wr w 3 (.slice a2 n2 c2)∧xp w wr∧(Ez (D9 m0 m1 m2 m3) k=[]→v4=.slice none 0 0)) (fun _ v9 _=>4-(intOf v9).toNat)
 case atStart=>exact ⟨0,qB,rfl,World.ownsRow_nil _ _ _ _,qH,qJ,qJ,qJ,qJ,qD,fun _=>rfl⟩
 case round =>
  obtain ⟨k,hk,rfl,ah,pb,k0,k1,k2,k3,dm,nu⟩:=hrel;have HN:=Ae nu;clear nu;clear HB;by_cases bj:k<4
  ·obtain ⟨x,hx⟩:∃x,x=D9 m0 m1 m2 m3 k:=⟨_,rfl⟩;have AI:x<65536:=by
    rw [hx]
    match k,bj with
    | 0,_=>exact h0
    | 1,_=>exact h1
    | 2,_=>exact h2
    | 3,_=>exact h3
   have IZ:∀W:World,(Instr.index 56 (.agg #[U m0,U m1,U m2,U m3]) (M k)).run prog W=.ok (U x) W:=by
    rw [hx]
    match k,bj with
    | 0,_=>intro W;kernel_rfl
    | 1,_=>intro W;kernel_rfl
    | 2,_=>intro W;kernel_rfl
    | 3,_=>intro W;kernel_rfl
   have HX:=Ae hx;clear hx;by_cases hp:0<x
   ·go_wp2_with fail;refine (pP wr k x bj AI (hT.keep dm)).mono ?_;rintro e w2 ⟨rfl,bp⟩;have cv:=Bf ah bp;have UQ:=bp.size;have fg:=xo dm bp;have k0':=Bb bp k0;have k1':=Bb bp k1;have k2':=Bb bp k2;have k3':=Bb bp k3;have AN:=Ts (D9 m0 m1 m2 m3) k;clear ah k0 k1 k2 k3;go_wp2_with (at_builtin;refine wpList_append_own _ rfl _ _ 131 rfl (w+1+1) 9 i0 (.string ⟨#[]⟩) 1 16 underlying131 hi dw ed en rfl qI _ _ _ rfl (cv.alloc _) (J w2 0) 1 1 [.string ⟨(Ek k x).toArray⟩] rfl rfl (cell_one_new _ _ _) (by simp [Value.oneCell']) qN qB qA ?_;intro v' w3 dh er _);have ea:Below (w+1+1) w2 w3:=((Ac (w+1+1) w2).alloc qB _).grown er qA (fun k hk=>(cv.lt k hk).1);have al6:=ea.size;go_roundw
    case rel =>
     have e:Ez (D9 m0 m1 m2 m3) (k+1)=Ez (D9 m0 m1 m2 m3) k++[Ek k x]:=by rw [Ez,←HX.out,if_pos hp]
     refine ⟨k+1,qB,qH,?_,qB,(ea.cell (by show w.heap.size<_;omega)).trans k0',(ea.cell (by show w.heap.size<_;omega)).trans k1',(ea.cell (by show w.heap.size<_;omega)).trans k2',(ea.cell (by show w.heap.size<_;omega)).trans k3',fg.trans (ea.mono qB),fun h=>by rw [e] at h;simp at h⟩;rw [e,A8,List.length_singleton,Kv];exact dh
    case measure=>simp [intOf];omega
   ·obtain rfl:x=0:=qB;go_wp2_with fail;go_roundw
    case rel =>
     have e:Ez (D9 m0 m1 m2 m3) (k+1)=Ez (D9 m0 m1 m2 m3) k:=by rw [Ez,if_neg (by rw [←HX.out];omega),List.append_nil]
     refine ⟨k+1,qB,qH,by rw [e];exact ah,pb,k0,k1,k2,k3,dm,fun h=>HN.out (by rw [←e];exact h)⟩
    case measure=>simp [intOf];omega
  ·obtain rfl:k=4:=qB;go_wp2_with fail;refine (wH _ _ _ _ _ _ _ _ _ _ _ (h.keep dm) hs br (hT.keep dm)).mono ?_;rintro e w2 ⟨rfl,bp⟩;have cv:=Bf ah bp;have UQ:=bp.size;have fg:=xo dm bp;have AN:=Ts (D9 m0 m1 m2 m3) 4;clear ah k0 k1 k2 k3;by_cases sw:Ez (D9 m0 m1 m2 m3) 4=[]
   ·obtain rfl:=HN.out sw;have HL:=Ae sw;have KZ:=fg.size;have CL:=World.ownsRow_lit (base:=w.heap.size) (e:=9) (size:=1) w2 #[.string ⟨(E6 p q).toArray⟩] 1 qB qN rfl;have e:Ef (E6 p q) (D9 m0 m1 m2 m3)=[E6 p q]:=by rw [Ef,if_pos (.inr sw),sw]
    have MC:=Ae CL;have HE:=Ae e;clear CL e sw;generalize E6 p q=T at *;go_wp2_with fail;all_goals
     go_ret;refine ⟨.slice (E w2) 1 1,rfl,?_,qD⟩;have h9:=MC.out;have h8:=HE.out;first
      | (rw [h8];exact h9)
      | (rename_i YS _;subst YS;rw [h8];exact h9)
      | (simp only [*] at h8 h9 ⊢;rw [h8];exact h9)
   ·have HL0:=Ae sw;have YR:0<(Ez (D9 m0 m1 m2 m3) 4).length:=by
     rcases Aq (Ez (D9 m0 m1 m2 m3) 4).length with h|h
     ·exact absurd (List.eq_nil_of_length_eq_zero h) sw
     ·exact h
    have hlz:(((Ez (D9 m0 m1 m2 m3) 4).length:Int)==0)=false:=by rw [beq_eq_false_iff_ne];omega
    obtain ⟨g,cap,rfl,qq,FQ⟩:=cv.form YR;have HW1:=Ae (show E6 p q=[49]→Ef (E6 p q) (D9 m0 m1 m2 m3)=Ez (D9 m0 m1 m2 m3) 4 from fun h=>by rw [Ef,if_neg (by simp [h,sw])]);have JQ:=Ae (show E6 p q≠[49]→Ef (E6 p q) (D9 m0 m1 m2 m3)=E6 p q::Ez (D9 m0 m1 m2 m3) 4 from fun h=>by rw [Ef,if_pos (.inl h)]);clear sw;have KZ:=fg.size;generalize E6 p q=T at *;by_cases hT:T=[49]
    ·have HWE:=Ae (HW1.out hT);have HT:=Ae hT;subst hT;go_wp2_with fail;go_ret;refine ⟨_,rfl,?_,fg⟩;rw [HWE.out];exact Kp cv qB
    ·have HWE:=Ae (JQ.out hT);have hT1:(T==[49])=false:=by rw [beq_eq_false_iff_ne];exact hT
     clear hT;have CL:=World.ownsRow_lit (base:=w.heap.size) (e:=9) (size:=1) w2 #[.string ⟨T.toArray⟩] 1 qB qN rfl;have MC:=Ae CL;have II:=Ae (Ko (cv.alloc (.cells #[.string ⟨T.toArray⟩] 9)));clear CL;go_wp2_with (at_builtin;refine wpList_append_own _ rfl _ _ 131 rfl w 9 i0 (.string ⟨#[]⟩) 1 16 underlying131 hi dw ed en rfl qI _ _ _ rfl MC.out (J g 0) (Ez (D9 m0 m1 m2 m3) 4).length cap (Gk (Ez (D9 m0 m1 m2 m3) 4)) rfl (by rw [G6];omega) II.out (Nf _) qN qB qA ?_;intro v' w3 dh er _);go_ret;refine ⟨_,rfl,?_,fg.trans (((Ac w2 w2).alloc (Ad _) _).grown er qH (fun k hk=>by cases hk;exact Ad _) |>.mono qB)⟩;rw [HWE.out];have e:(T::Ez (D9 m0 m1 m2 m3) 4).length=1+(Ez (D9 m0 m1 m2 m3) 4).length:=qL;rw [e];exact dh
end Go.Proofs.YtfijkfdfbnfmmaaGreatDoor
end
section
namespace Go.Proofs.YtfijkfdfbnfmmaaGreatDoor
open Proofs.Tryz
variable (k:Nat) (neg:Nat→Bool) {l:List (List UInt8)}
theorem Sa (sep:List UInt8) (l m:List (List UInt8)):Lib.joinTail sep (l++m)=Lib.joinTail sep l++Lib.joinTail sep m:=by
 simp [Lib.joinTail]
theorem I7 {m:List (List UInt8)} (hl:l≠[]) (hm:m≠[]):Lib.join (l++m) [32]=Lib.join l [32]++32::Lib.join m [32]:=by
 obtain ⟨x,l,rfl⟩:=List.exists_cons_of_ne_nil hl;obtain ⟨y,m,rfl⟩:=List.exists_cons_of_ne_nil hm;rw [List.cons_append,Lib.join_cons,Sa,Lib.join_cons,Lib.join_cons,List.append_assoc];simp [Lib.joinTail]
def Wg (t l:List UInt8):List UInt8:=if l=[] then t else if t=[49] then l else t++32::l
theorem fD (i n:Nat):Ek i n≠[]:=by simp [Ek]
theorem iT {m:Nat→Nat}:∀x∈Ez m k,x≠[]:=by
 induction k with
 | zero=>intro x hx;cases hx
 | succ k ih =>
  intro x hx;rw [Ez,List.mem_append] at hx;rcases hx with hx|hx
  ·exact ih x hx
  ·split at hx
   ·rw [Ao] at hx;rw [hx];exact fD _ _
   ·cases hx
theorem Qg (h:∀x∈l,x≠[]):Lib.join l [32]=[]↔l=[]:=by
 constructor
 ·intro e
  cases l with
  | nil=>rfl
  | cons x l =>
   rw [Lib.join_cons] at e;exact absurd (List.append_eq_nil_iff.1 e).1 (h x (List.mem_cons_self ..))
 ·rintro rfl;rfl
theorem Sz (t:List UInt8) (m:Nat→Nat):Lib.join (Ef t m) [32]=Wg t (Lib.join (Ez m 4) [32]):=by
 unfold Ef Wg;by_cases hl:Ez m 4=[]
 ·rw [if_pos (.inr hl),hl];simp [Lib.join_one,Lib.join_nil]
 ·have hj:¬Lib.join (Ez m 4) [32]=[]:=fun e=>hl ((Qg (iT 4)).1 e)
  rw [if_neg hj];by_cases ht:t=[49]
  ·rw [if_neg (by simp [ht,hl]),if_pos ht]
  ·rw [if_pos (.inl ht),if_neg ht,show t::Ez m 4=[t]++Ez m 4 from rfl,I7 qH hl,Lib.join_one]
theorem Iw (t:List UInt8) (m:Nat→Nat):∃x l,Ef t m=x::l:=by
 unfold Ef
 split
 ·exact ⟨_,_,rfl⟩
 ·rename_i h;simp only [not_or] at h;exact List.exists_cons_of_ne_nil h.2
def Kr (neg:Bool):List (List UInt8)→List (List UInt8)
 | []=>[]
 | x::l=>(if neg then 45::x else x)::l
theorem aE (neg:Bool) (h:l≠[]):Lib.join (Kr neg l) [32]=(if neg then [45] else [])++Lib.join l [32]:=by
 obtain ⟨x,l,rfl⟩:=List.exists_cons_of_ne_nil h
 cases neg<;>simp [Kr,Lib.join_cons]
def Jw (neg:Nat→Bool) (t:Nat→List UInt8) (m:Nat→Nat→Nat):Nat→List (List UInt8)
 | 0=>[]
 | k+1=>if k=0 then Kr (neg 0) (Ef (t 0) (m 0)) else Jw neg t m k++[if neg k then [45] else [43]]++Ef (t k) (m k)
def Se (neg:Nat→Bool) (t:Nat→List UInt8) (m:Nat→Nat→Nat):Nat→List UInt8
 | 0=>[]
 | k+1=>Se neg t m k++(if k=0 then (if neg k then [45] else []) else (if neg k then [32,45,32] else [32,43,32]))++Wg (t k) (Lib.join (Ez (m k) 4) [32])
theorem gM (t:Nat→List UInt8) (m:Nat→Nat→Nat) {k:Nat} (hk:0<k):Jw neg t m k≠[]:=by
 match k,hk with
 | k+1,_ =>
  rw [Jw];obtain ⟨x,l,e⟩:=Iw (t 0) (m 0)
  split
  ·rw [e];simp [Kr]
  ·simp
theorem rI (t:Nat→List UInt8) (m:Nat→Nat→Nat) (k:Nat):Lib.join (Jw neg t m k) [32]=Se neg t m k:=by
 induction k with
 | zero=>rfl
 | succ k ih =>
  rw [Jw,Se];by_cases hk:k=0
  ·subst hk;obtain ⟨x,l,e⟩:=Iw (t 0) (m 0);rw [if_pos rfl,if_pos rfl,aE _ (by rw [e];simp),Sz];rfl
  ·obtain ⟨x,l,e⟩:=Iw (t k) (m k);rw [if_neg hk,if_neg hk,List.append_assoc,I7 (gM neg t m qB) qH,I7 qH (by rw [e];simp),Lib.join_one,ih,Sz]
   cases neg k<;>simp
end Go.Proofs.YtfijkfdfbnfmmaaGreatDoor
end
