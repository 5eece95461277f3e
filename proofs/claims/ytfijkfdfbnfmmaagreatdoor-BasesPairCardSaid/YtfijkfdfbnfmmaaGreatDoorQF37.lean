/- The document's answer: a term as a sum (layer 18), Mul by a sum of one term (layer 4). -/
import Derived.Test.YtfijkfdfbnfmmaaGreatDoorQF36
set_option linter.unusedSimpArgs false
set_option linter.unusedVariables false
set_option maxRecDepth 100000
set_option maxHeartbeats 4000000
section
namespace Go.Proofs.YtfijkfdfbnfmmaaGreatDoor
open Go.RowKit Proofs.Tryz
variable (w:World) (B:Nat) (a:Γ) (n c:Nat) (l:Δ) (o:Nat) (x0 x1 x2 x3:Int)
theorem sA (g1:Bool) (a1:Γ) (n1 c1:Nat) (g2:Bool) (a2:Γ) (n2 c2:Nat) (y:PC) (hy:Bo w g1 a1 n1 c1 y.1 g2 a2 n2 c2 y.2) (k0 k1 k2 k3:Nat) (s0:k0<65536) (s1:k1<65536) (s2:k2<65536) (s3:k3<65536) :
  Θ 32 #[.agg #[.bool g1,.slice a1 n1 c1,.bool g2,.slice a2 n2 c2],Cd k0 k1 k2 k3] w (fun e w'=>∃a c,e=.returned (.slice a 1 c)∧Be w' 0 a 1 c [(Bv k0 k1 k2 k3,y)]∧xp w w'):=by
 have HB:=Ac w w;have HY:=Ae hy;clear hy;obtain ⟨t,ht⟩:∃t:Tm,t=⟨g1,a1,n1,c1,dg y.1.natAbs,g2,a2,n2,c2,dg y.2.natAbs,k0,k1,k2,k3⟩:=⟨_,rfl⟩;have HT:=Ae ht;clear ht;go_enter func32,ntmps32;go_wp2_with fail;refine bodyPost_ret (v:=.slice (E (w+1+1)) 1 1) (by simp [results,results32,go_sem]) rfl ?_;have hb:xp w (((w.alloc (.cells #[.bool g1,.slice a1 n1 c1,.bool g2,.slice a2 n2 c2] 53)).alloc (.cells #[U k0,U k1,U k2,U k3] 56)).alloc (.cells #[.bool g1,.slice a1 n1 c1,.bool g2,.slice a2 n2 c2,U k0,U k1,U k2,U k3] 58)):=qD;have hf:=HY.out.keep hb;refine ⟨_,1,rfl,⟨rfl,.inr fun x _=>Ba _,fun e=>(by cases e),fun _=>t,⟨Ad _,qB,qB,fun i hi=>?_,.inr ⟨w.heap.size+1+1,0,rfl,fun i hi=>?_⟩⟩,fun i x hx=>?_⟩,hb⟩
 ·rw [HT.out];exact ⟨hf.top.rd,hf.low.rd,s0,s1,s2,s3⟩
 ·obtain rfl:i=0:=qB;rw [HT.out];constructor<;>simp [go_sem]
 ·have FL:i=0∧(Bv k0 k1 k2 k3,y)=x:=by
   match i,hx with
   | 0,hx=>exact ⟨rfl,by simpa using hx⟩
   | n+1,hx=>simp at hx
  obtain ⟨rfl,rfl⟩:=FL;rw [HT.out];exact ⟨⟨hf.top.neg,rfl,hf.low.neg,rfl,rfl⟩,.inr fun x _=>Ba _,.inr fun x _=>Ba _⟩
theorem Ta (h:Be w B a n c l) (hl:PW l) (K:Nat) (hK:Cj K l) (CZ:K≤1000000) :
  Θ 103 #[.slice a n c] w fun e w'=>e=.returned (.bool true)∧xp w w':=by
 obtain ⟨p,hp,jv⟩:=h.ts;exact Rf w a n c p hp (fun k hk=>by have:=h.few hK hp jv k hk;omega) true ⟨fun _=>rfl,fun _=>h.pok hl hp jv⟩
theorem gG (h:Be w B a n c l) (hl:PW l) (K:Nat) (hK:Cj K l) (CZ:K≤1000000) (hn:n≤500000) (B':Nat) (a':Γ) (c':Nat) (y:PT) (h':Be w B' a' 1 c' [y]) (hy:PW [y]) (hyf:Ch K y.2) :
  Θ 31 #[.slice a n c,.slice a' 1 c'] w (Nn w l y):=by
 have afu:=fun W (hW:xp w W)=>Ta W B a n c l (h.keep hW) hl K hK CZ
 have afv:=fun W (hW:xp w W)=>Ta W B' a' 1 c' [y] (h'.keep hW) hy K (fun t ht=>by rw [Ao] at ht;subst ht;exact hyf) CZ
 obtain ⟨g,o,t,rfl,-,VY,jn,jx,ph⟩:=h'.head;have HT:=Ae (Ax jn (Ax jx ph));have yp:=fun W (hW:xp w W)=>pW W B a n c l (h.keep hW) hl K hK CZ hn t y ph (jx.keep hW) (hy.good y (Ao.2 rfl)).1 hyf
 have HH:=Ae (Ax afu (Ax afv yp));clear h hl hK h' hy hyf afu afv yp jn jx ph;have HB:=Ac w w;go_enter func31,ntmps31;go_wp2_with fail;refine (HH.out.1 w HB).mono ?_;rintro e w1 ⟨rfl,b1⟩;go_wp2_with fail;refine (HH.out.2.1 w1 b1).mono ?_;rintro e w2 ⟨rfl,k2⟩;have b2:=xo b1 k2;obtain ⟨e0,e1,e2,e3,e4,e5,e6,e7⟩:=HT.out.1.keep b2;clear k2 b1 HB;go_wp2_with fail;refine wp_loop_rounds 2 ?_;rw [rounds_succ];go_wp2_with fail;refine (HH.out.2.2 w2 b2).mono ?_;rintro e w3 (⟨hk,ra,rn,rc,rfl,hp,hb⟩|⟨hk,rfl,hb⟩)
 ·have b3:=xo b2 hb;have HP:=Ae (Ax hk (hp.mono b2.size));clear hk hp hb e0 e1 e2 e3 e4 e5 e6 e7;go_wp2_with (first|(at_builtin;refine Eu rfl _ _ rfl w3 (.slice none 0 0) 0 [] rfl (World.ownsRow_nil _ _ _ _) (E w3) 1 1 [.slice ra rn rc] rfl qB rfl (.inr ⟨w3.heap.size,0,rfl,cell_one_new _ _ _⟩) (by simp [Value.oneCell']) qB qB qH ?_;intro v4 w4 jk FX));rw [List.nil_append,Nat.zero_add] at jk;have k4:xp w3 w4:=((Ac w3 w3).alloc (Ad _) _).grown FX qH (fun k e=>by cases e);have b4:=xo b3 k4;obtain ⟨va,vc,rfl⟩:=Fr jk;obtain ⟨-,-,u3,u4⟩:=Kf jk;obtain ⟨G,rfl,-,ij⟩:=u4.resolve_left qB;have r0:=ij 0 _ rfl;have HP4:=Ae (Ax HP.out.1 (HP.out.2.keep k4));clear jk FX ij HP k4 u4;go_wp2_with fail;rw [rounds_succ];go_wp2_with fail;refine wp_loop_rounds 1 ?_;rw [rounds_succ];go_wp2_with fail;refine bodyPost_ret (v:=.tuple #[.slice ra rn rc,M 0]) (by simp [results,results31,go_sem]) rfl ?_;exact .inl ⟨HP4.out.1,ra,rn,rc,rfl,HP4.out.2,b4⟩
 ·have b3:=xo b2 hb;have HK:=Ae hk;clear hk hb e0 e1 e2 e3 e4 e5 e6 e7;go_wp2_with fail;refine bodyPost_ret (v:=.tuple #[.slice none 0 0,M 3]) (by simp [results,results31,go_sem]) rfl ?_;exact .inr ⟨HK.out,rfl,b3⟩
theorem U2 (v:Value) (r:Bool) (h:Eh w v r):Θ 103 #[v] w fun e w'=>e=.returned (.bool r)∧xp w w':=by
 obtain ⟨a,n,c,p,rfl,hp,mh,hr⟩:=h;exact Rf w a n c p hp mh r hr
theorem Yl (ho:o<256) (L:Nat) (v1 v2:Value) (r1 r2:Bool) (h1:Eh w v1 r1) (h2:Eh w v2 r2) (e1:Z w L 0 v1) (e2:Z w L 1 v2) (z:Int) (hz:z=if o≤2∧r1=true∧r2=true then 0 else 1) :
  Θ 25 #[.int .u8 o,.slice (E L) 2 2] w (fun e w'=>e=.returned (M z)∧xp w w'):=by
 have HH:=Ae (Ax h1 h2);have HZ:=Ae hz;clear h1 h2 hz;have HB:=Ac w w;go_enter func25,ntmps25;by_cases h3:o≤2
 ·have hq:¬(2:Int)<o:=qB;go_wp2_with fail;refine wp_loop_rounds 3 ?_;rw [rounds_succ];go_wp2_with fail;refine (U2 w _ _ HH.out.1).mono ?_;rintro e w1 ⟨rfl,b1⟩;have e3:=Bb b1 e2;have HR:Hid (r1=false→z=1):=Ae (fun h=>by rw [HZ.out,if_neg (by rw [h];exact fun k=>absurd k.2.1 qI)])
  cases r1 with
  | false =>
   go_wp2_with fail;go_ret;exact ⟨by (have OP:=HR.out qX);rw [OP];try rfl,b1⟩
  | true =>
   go_wp2_with fail;rw [rounds_succ];go_wp2_with fail;refine (U2 w1 _ _ (HH.out.2.keep b1)).mono ?_;rintro e w2 ⟨rfl,k2⟩;have b2:=xo b1 k2;have HR2:Hid ((r2=false→z=1)∧(r2=true→z=0)):=Ae ⟨fun h=>by rw [HZ.out,if_neg (by rw [h];exact fun k=>absurd k.2.2 qI)],fun h=>by rw [HZ.out,if_pos ⟨h3,qX,h⟩]⟩
   cases r2 with
   | false =>
    go_wp2_with fail;go_ret;exact ⟨by (have OP:=HR2.out.1 qX);rw [OP];try rfl,b2⟩
   | true =>
    go_wp2_with fail;rw [rounds_succ];go_wp2_with fail;go_ret;exact ⟨by (have OP:=HR2.out.2 qX);rw [OP];try rfl,b2⟩
 ·have hq:(2:Int)<o:=qB;have HR:Hid (z=1):=Ae (by rw [HZ.out,if_neg (fun k=>h3 k.1)]);go_wp2_with fail;go_ret;exact ⟨by rw [HR.out];try rfl,HB⟩
theorem Rj (h0:Cc x0) (h1:Cc x1) (h2:Cc x2) (h3:Cc x3) :
  Θ 176 #[.agg #[U x0,U x1,U x2,U x3]] w fun e w'=>e=.returned (M (x0+x1+x2+x3))∧xp w w':=by
 have HB:=Ac w w;obtain ⟨h0,k0⟩:=h0;obtain ⟨h1,k1⟩:=h1;obtain ⟨h2,k2⟩:=h2;obtain ⟨h3,k3⟩:=h3;have a0:IntKind.i64.wrap x0=x0:=IntWalk.i64_in _ qB;have a1:IntKind.i64.wrap x1=x1:=IntWalk.i64_in _ qB;have a2:IntKind.i64.wrap x2=x2:=IntWalk.i64_in _ qB;have a3:IntKind.i64.wrap x3=x3:=IntWalk.i64_in _ qB;have s1:IntKind.i64.wrap (x0+x1)=x0+x1:=IntWalk.i64_in _ qB;have s2:IntKind.i64.wrap (x0+x1+x2)=x0+x1+x2:=IntWalk.i64_in _ qB;have s3:IntKind.i64.wrap (x0+x1+x2+x3)=x0+x1+x2+x3:=IntWalk.i64_in _ qB;go_enter func176,ntmps176;go_wp2_with fail;go_ret;exact ⟨rfl,qD⟩
theorem Oa (a b:Int):min 1 (max (-1) (a-b))=Bz a b:=by
 rcases Int.lt_trichotomy a b with h|h|h
 ·rw [C6 h];omega
 ·subst h;rw [Du];omega
 ·rw [C7 h];omega
theorem iW (ho:o=1∨o=2) (x0 x1 x2 x3 y0 y1 y2 y3:Int) (h0:Cc x0) (h1:Cc x1) (h2:Cc x2) (h3:Cc x3) (k0:Cc y0) (k1:Cc y1) (k2:Cc y2) (k3:Cc y3) (di:x0+x1+x2+x3≠y0+y1+y2+y3) :
  Θ 105 #[.int .u8 o,.agg #[U x0,U x1,U x2,U x3],.agg #[U y0,U y1,U y2,U y3]] w fun e w'=>e=.returned (M (Bz (x0+x1+x2+x3) (y0+y1+y2+y3)))∧xp w w':=by
 have uq:(x0+x1+x2+x3-(y0+y1+y2+y3) != 0)=true:=by rw [bne_iff_ne];omega
 have od:(x0+x1+x2+x3-(y0+y1+y2+y3)==0)=false:=by rw [beq_eq_false_iff_ne];omega
 have xy:=Ae (Oa (x0+x1+x2+x3) (y0+y1+y2+y3));have e1:((1:Nat):Int)=1:=rfl;have e2:((2:Nat):Int)=2:=rfl;rcases ho with rfl|rfl
 ·rw [e1];exact qAr
 ·rw [e2];exact qAr
theorem vI (y0 y1 y2 y3:Int) (h0:Cc x0) (h1:Cc x1) (h2:Cc x2) (h3:Cc x3) (k0:Cc y0) (k1:Cc y1) (k2:Cc y2) (k3:Cc y3) (di:x0+x1+x2+x3=y0+y1+y2+y3) :
  Θ 105 #[.int .u8 1,.agg #[U x0,U x1,U x2,U x3],.agg #[U y0,U y1,U y2,U y3]] w fun e w'=>e=.returned (M (Dd (Bn x0 x1 x2 x3) (Bn y0 y1 y2 y3)))∧xp w w':=by
 have HX:=Ae (Na h0 h1 h2 h3);have HY:=Ae (Na k0 k1 k2 k3);have uq:(x0+x1+x2+x3-(y0+y1+y2+y3) != 0)=false:=by rw [bne_eq_false_iff_eq];omega
 have od:(x0+x1+x2+x3-(y0+y1+y2+y3)==0)=true:=by rw [beq_iff_eq];omega
 have hd:IntKind.i64.wrap (x0+x1+x2+x3-(y0+y1+y2+y3))=x0+x1+x2+x3-(y0+y1+y2+y3):=IntWalk.i64_in _ (by unfold Cc at *;omega);have HU:=Ae di;clear di;go_enter func105,ntmps105;go_wp2_with fail;refine Bx ?_;intro w1 fk;have b1:xp w w1:=by rw [fk];go_grown
 have c0:∀n:Cw w1,Z n.1 w 0 (U x0):=Bk (by rw [fk];simp [go_sem]);have c1:∀n:Cw w1,Z n.1 w 1 (U x1):=Bk (by rw [fk];simp [go_sem]);have c2:∀n:Cw w1,Z n.1 w 2 (U x2):=Bk (by rw [fk];simp [go_sem]);have c3:∀n:Cw w1,Z n.1 w 3 (U x3):=Bk (by rw [fk];simp [go_sem]);have d0:∀n:Cw w1,Z n.1 (w+1) 0 (U y0):=Bk (by rw [fk];simp [go_sem]);have d1:∀n:Cw w1,Z n.1 (w+1) 1 (U y1):=Bk (by rw [fk];simp [go_sem]);have d2:∀n:Cw w1,Z n.1 (w+1) 2 (U y2):=Bk (by rw [fk];simp [go_sem]);have d3:∀n:Cw w1,Z n.1 (w+1) 3 (U y3):=Bk (by rw [fk];simp [go_sem]);clear fk;(refine Bi qE qE ?_;(repeat (go_big_quiet_step (first|(go_at_call 176;exact Cr (Rj _ _ _ _ _ qG qG qG qG)))));refine wpQuiet_nil ?_;intro _ cw;obtain ⟨nq,cw⟩:=cw;subst cw);obtain ⟨w2,bp⟩:=nq;have HB:xp w w2:=xo b1 bp;have HF:Hid (∀i,i<4→Z w2 w i (U (Bn x0 x1 x2 x3 i))):=Ae (fun i hi=>by
  match i,hi with
  | 0,_=>exact c0 ⟨w2,bp⟩
  | 1,_=>exact c1 ⟨w2,bp⟩
  | 2,_=>exact c2 ⟨w2,bp⟩
  | 3,_=>exact c3 ⟨w2,bp⟩)
 have HG:Hid (∀i,i<4→Z w2 (w+1) i (U (Bn y0 y1 y2 y3 i))):=Ae (fun i hi=>by
  match i,hi with
  | 0,_=>exact d0 ⟨w2,bp⟩
  | 1,_=>exact d1 ⟨w2,bp⟩
  | 2,_=>exact d2 ⟨w2,bp⟩
  | 3,_=>exact d3 ⟨w2,bp⟩)
 try dsimp only
 clear c0 c1 c2 c3 d0 d1 d2 d3 bp b1 h0 h1 h2 h3 k0 k1 k2 k3 hd;go_wp2_with fail;clear od uq;go_loopw [9] (fun v wr=>∃k:Nat,k≤4∧v=M k∧Hid (∀j,j<k→Bn x0 x1 x2 x3 j=Bn y0 y1 y2 y3 j)∧xp w2 wr) (fun v _=>4-(intOf v).toNat)
 case atStart=>exact ⟨0,qB,rfl,Ae (fun j hj=>qB),Ac _ _⟩
 case round =>
  obtain ⟨k,hk,rfl,he,jr⟩:=hrel;have dm:xp w wr:=xo HB jr;by_cases bj:k<4
  ·have c1:=Bb jr (HF.out k bj);have c2:=Bb jr (HG.out k bj);have hx:=HX.out k;have hy:=HY.out k;have HL:=Ae (fun h=>Ht (f:=Bn x0 x1 x2 x3) (g:=Bn y0 y1 y2 y3) bj he.out h);have HE:=Ae (show Bn x0 x1 x2 x3 k=Bn y0 y1 y2 y3 k→∀j,j<k+1→Bn x0 x1 x2 x3 j=Bn y0 y1 y2 y3 j from fun h j hj=>by
     rcases Nat.lt_or_ge j k with h'|h'
     ·exact he.out j h'
     ·obtain rfl:j=k:=qB;exact h)
   generalize Bn x0 x1 x2 x3 k=x at *;generalize Bn y0 y1 y2 y3 k=y at *;have w1x:IntKind.i64.wrap x=x:=IntWalk.i64_in _ qB;have w1y:IntKind.i64.wrap y=y:=IntWalk.i64_in _ qB;have w1d:IntKind.i64.wrap (x-y)=x-y:=IntWalk.i64_in _ qB;by_cases h:x=y
   ·exact qCm
   ·have HR:=Ae ((HL.out qB).trans (Oa x y).symm);have hq:(x==y)=false:=by rw [beq_eq_false_iff_ne];omega
    have uq:(x != y)=true:=by rw [bne_iff_ne];omega
    go_wp2_with fail;go_quiet (fail);go_wp2_with fail;go_quiet (fail);go_wp2_with fail;go_ret;exact ⟨by rw [HR.out];rfl,Bj _ (Bj _ dm)⟩
  ·exact qEr
theorem vB (y0 y1 y2 y3:Int) (h0:Cc x0) (h1:Cc x1) (h2:Cc x2) (h3:Cc x3) (k0:Cc y0) (k1:Cc y1) (k2:Cc y2) (k3:Cc y3) (di:x0+x1+x2+x3=y0+y1+y2+y3) :
  Θ 105 #[.int .u8 2,.agg #[U x0,U x1,U x2,U x3],.agg #[U y0,U y1,U y2,U y3]] w fun e w'=>e=.returned (M (Rp (Bn x0 x1 x2 x3) (Bn y0 y1 y2 y3)))∧xp w w':=by
 have HX:=Ae (Na h0 h1 h2 h3);have HY:=Ae (Na k0 k1 k2 k3);have uq:(x0+x1+x2+x3-(y0+y1+y2+y3) != 0)=false:=by rw [bne_eq_false_iff_eq];omega
 have od:(x0+x1+x2+x3-(y0+y1+y2+y3)==0)=true:=by rw [beq_iff_eq];omega
 have hd:IntKind.i64.wrap (x0+x1+x2+x3-(y0+y1+y2+y3))=x0+x1+x2+x3-(y0+y1+y2+y3):=IntWalk.i64_in _ (by unfold Cc at *;omega);have HU:=Ae di;clear di;go_enter func105,ntmps105;go_wp2_with fail;refine Bx ?_;intro w1 fk;have b1:xp w w1:=by rw [fk];go_grown
 have c0:∀n:Cw w1,Z n.1 w 0 (U x0):=Bk (by rw [fk];simp [go_sem]);have c1:∀n:Cw w1,Z n.1 w 1 (U x1):=Bk (by rw [fk];simp [go_sem]);have c2:∀n:Cw w1,Z n.1 w 2 (U x2):=Bk (by rw [fk];simp [go_sem]);have c3:∀n:Cw w1,Z n.1 w 3 (U x3):=Bk (by rw [fk];simp [go_sem]);have d0:∀n:Cw w1,Z n.1 (w+1) 0 (U y0):=Bk (by rw [fk];simp [go_sem]);have d1:∀n:Cw w1,Z n.1 (w+1) 1 (U y1):=Bk (by rw [fk];simp [go_sem]);have d2:∀n:Cw w1,Z n.1 (w+1) 2 (U y2):=Bk (by rw [fk];simp [go_sem]);have d3:∀n:Cw w1,Z n.1 (w+1) 3 (U y3):=Bk (by rw [fk];simp [go_sem]);clear fk;(refine Bi qE qE ?_;(repeat (go_big_quiet_step (first|(go_at_call 176;exact Cr (Rj _ _ _ _ _ qG qG qG qG)))));refine wpQuiet_nil ?_;intro _ cw;obtain ⟨nq,cw⟩:=cw;subst cw);obtain ⟨w2,bp⟩:=nq;have HB:xp w w2:=xo b1 bp;have HF:Hid (∀i,i<4→Z w2 w i (U (Bn x0 x1 x2 x3 i))):=Ae (fun i hi=>by
  match i,hi with
  | 0,_=>exact c0 ⟨w2,bp⟩
  | 1,_=>exact c1 ⟨w2,bp⟩
  | 2,_=>exact c2 ⟨w2,bp⟩
  | 3,_=>exact c3 ⟨w2,bp⟩)
 have HG:Hid (∀i,i<4→Z w2 (w+1) i (U (Bn y0 y1 y2 y3 i))):=Ae (fun i hi=>by
  match i,hi with
  | 0,_=>exact d0 ⟨w2,bp⟩
  | 1,_=>exact d1 ⟨w2,bp⟩
  | 2,_=>exact d2 ⟨w2,bp⟩
  | 3,_=>exact d3 ⟨w2,bp⟩)
 try dsimp only
 clear c0 c1 c2 c3 d0 d1 d2 d3 bp b1 h0 h1 h2 h3 k0 k1 k2 k3 hd;go_wp2_with fail;clear od uq;go_loopw [8] (fun v wr=>∃k:Nat,k≤4∧v=M (3-(k:Int))∧Hid (∀j,j<k→Ji (Bn y0 y1 y2 y3) j=Ji (Bn x0 x1 x2 x3) j)∧xp w2 wr) (fun v _=>(1+intOf v).toNat)
 case atStart=>exact ⟨0,qB,by go_num,Ae (fun j hj=>qB),Ac _ _⟩
 case round =>
  obtain ⟨k,hk,rfl,he,jr⟩:=hrel;have dm:xp w wr:=xo HB jr;by_cases bj:k<4
  ·obtain ⟨j,hj,hkj⟩:∃j:Nat,j<4∧k+j=3:=⟨3-k,qB,qB⟩;have e3:3-k=j:=qB;rw [show (3:Int)-(k:Int)=(j:Int) from qB];have c1:=Bb jr (HF.out j hj);have c2:=Bb jr (HG.out j hj);have hx:=HX.out j;have hy:=HY.out j;have hl:=fun h=>Ht (f:=Ji (Bn y0 y1 y2 y3)) (g:=Ji (Bn x0 x1 x2 x3)) bj he.out h
   have ex:Ji (Bn x0 x1 x2 x3) k=Bn x0 x1 x2 x3 j:=by unfold Ji;rw [e3]
   have ey:Ji (Bn y0 y1 y2 y3) k=Bn y0 y1 y2 y3 j:=by unfold Ji;rw [e3]
   have hE:Bn x0 x1 x2 x3 j=Bn y0 y1 y2 y3 j→∀i,i<k+1→Ji (Bn y0 y1 y2 y3) i=Ji (Bn x0 x1 x2 x3) i:=fun h i hi=>by
    rcases Nat.lt_or_ge i k with h'|h'
    ·exact he.out i h'
    ·obtain rfl:i=k:=qB;rw [ex,ey,h]
   rw [ex,ey] at hl;have HL:=Ae hl;have HE:=Ae hE;clear hl hE ex ey;generalize Bn x0 x1 x2 x3 j=x at *;generalize Bn y0 y1 y2 y3 j=y at *;have w1x:IntKind.i64.wrap x=x:=IntWalk.i64_in _ qB;have w1y:IntKind.i64.wrap y=y:=IntWalk.i64_in _ qB;have w1d:IntKind.i64.wrap (y-x)=y-x:=IntWalk.i64_in _ qB;by_cases h:x=y
   ·have HQ:=Ae h;subst h;go_wp2_with fail;go_quiet (fail);go_wp2_with fail;go_roundw
    case rel=>exact ⟨k+1,qB,by first|go_num|exact congrArg (Value.int .i64) qB,Ae (HE.out (by first|trivial|rfl)),Bj _ jr⟩
    case measure=>first|(first|(simp [intOf];omega)|(simp [intOf];done))|(simp only [intOf];omega)
   ·have HR:=Ae ((HL.out qB).trans (Oa y x).symm);have hq:(x==y)=false:=by rw [beq_eq_false_iff_ne];omega
    have uq:(x != y)=true:=by rw [bne_iff_ne];omega
    go_wp2_with fail;go_quiet (fail);go_wp2_with fail;go_quiet (fail);go_wp2_with fail;go_ret;exact ⟨by unfold Rp;rw [HR.out];rfl,Bj _ (Bj _ dm)⟩
  ·obtain rfl:k=4:=qB;have HR:=Ae (Nh he.out);go_wp2_with fail;go_ret;exact ⟨by unfold Rp;rw [HR.out];rfl,dm⟩
theorem uB (ho:o≤2) (x0 x1 x2 x3 y0 y1 y2 y3:Int) (h0:Cc x0) (h1:Cc x1) (h2:Cc x2) (h3:Cc x3) (k0:Cc y0) (k1:Cc y1) (k2:Cc y2) (k3:Cc y3) :
  Θ 105 #[.int .u8 o,.agg #[U x0,U x1,U x2,U x3],.agg #[U y0,U y1,U y2,U y3]] w fun e w'=>e=.returned (M (F7 o (Bn x0 x1 x2 x3) (Bn y0 y1 y2 y3)))∧xp w w':=by
 have hdx:Ia (Bn x0 x1 x2 x3)=x0+x1+x2+x3:=rfl;have hdy:Ia (Bn y0 y1 y2 y3)=y0+y1+y2+y3:=rfl;rcases (by omega:o=0∨o=1∨o=2) with rfl|rfl|rfl
 ·exact Uj w x0 x1 x2 x3 y0 y1 y2 y3 h0 h1 h2 h3 k0 k1 k2 k3
 ·by_cases h:x0+x1+x2+x3=y0+y1+y2+y3
  ·have:=vI w x0 x1 x2 x3 y0 y1 y2 y3 h0 h1 h2 h3 k0 k1 k2 k3 h;rw [show F7 1 (Bn x0 x1 x2 x3) (Bn y0 y1 y2 y3)=Dd (Bn x0 x1 x2 x3) (Bn y0 y1 y2 y3) by rw [F7,if_pos rfl,if_neg (by rw [hdx,hdy];exact fun n=>n h)]];exact this
  ·have:=iW w 1 (.inl rfl) x0 x1 x2 x3 y0 y1 y2 y3 h0 h1 h2 h3 k0 k1 k2 k3 h;rw [show F7 1 (Bn x0 x1 x2 x3) (Bn y0 y1 y2 y3)=Bz (x0+x1+x2+x3) (y0+y1+y2+y3) by rw [F7,if_pos rfl,if_pos (by rw [hdx,hdy];exact h),hdx,hdy]];exact this
 ·by_cases h:x0+x1+x2+x3=y0+y1+y2+y3
  ·have:=vB w x0 x1 x2 x3 y0 y1 y2 y3 h0 h1 h2 h3 k0 k1 k2 k3 h;rw [show F7 2 (Bn x0 x1 x2 x3) (Bn y0 y1 y2 y3)=Rp (Bn x0 x1 x2 x3) (Bn y0 y1 y2 y3) by rw [F7,if_neg qI,if_pos rfl,if_neg (by rw [hdx,hdy];exact fun n=>n h)]];exact this
  ·have:=iW w 2 (.inr rfl) x0 x1 x2 x3 y0 y1 y2 y3 h0 h1 h2 h3 k0 k1 k2 k3 h;rw [show F7 2 (Bn x0 x1 x2 x3) (Bn y0 y1 y2 y3)=Bz (x0+x1+x2+x3) (y0+y1+y2+y3) by rw [F7,if_neg qI,if_pos rfl,if_pos (by rw [hdx,hdy];exact h),hdx,hdy]];exact this
theorem uP (ho:o≤2) (t s:Tm) {w1 w2:World} (rt:Dg w1 t) (rs:Dg w2 s) :
  Θ 105 #[.int .u8 o,.agg #[U t.m0,U t.m1,U t.m2,U t.m3],.agg #[U s.m0,U s.m1,U s.m2,U s.m3]] w fun e w'=>e=.returned (M (F7 o t.mono s.mono))∧xp w w':=by
 have k0:=rt.s0;have k1:=rt.s1;have k2:=rt.s2;have k3:=rt.s3;have j0:=rs.s0;have j1:=rs.s1;have j2:=rs.s2;have j3:=rs.s3;exact uB w o ho t.m0 t.m1 t.m2 t.m3 s.m0 s.m1 s.m2 s.m3 ⟨qB,qB⟩ ⟨qB,qB⟩ ⟨qB,qB⟩ ⟨qB,qB⟩ ⟨qB,qB⟩ ⟨qB,qB⟩ ⟨qB,qB⟩ ⟨qB,qB⟩
theorem gX (x:PT) (l:Δ) (h:Be w B a n c (x::l)) (hl:PW (x::l)) (K:Nat) (hK:Cj K (x::l)) (QF:K≤1000000) (o:Nat) (ho:o≤2) :
  Θ 26 #[.int .u8 o,.slice a n c] w (Sk w (B8 o x l)):=by
 obtain ⟨p,hp,jv⟩:=h.ts;have hlen:n=l.length+1:=by have:=h.len;simpa using this.symm
 have FR:0<n:=qB;have nn:((n:Int)==0)=false:=by rw [beq_eq_false_iff_ne];omega
 have BN:=iQ (o:=o) (fun i hi=>hp.tm i hi) hlen (fun i y hy=>(jv i y hy).1) (n-1) qB;rw [As qB] at BN;have hm:=Gt o x l;have vx:=(hl.good _ hm).1;have hfk:=hK _ hm;have XE:=Mz o p (n-1);have P5:=Ae (Ax BN (Ax vx (Ax hfk (show G8 o p (n-1)<n from qB))));have oo:=fun W (hW:xp w W)=>Pa W B a n c (x::l) (h.keep hW) hl K hK QF
 have hnf:=hp.few;clear BN vx XE hfk hm jv hlen h hl hK;go_enter func26,ntmps26;go_wp2_with fail;refine (oo _ qD).mono ?_;clear oo;rintro e w1 ⟨rfl,KM⟩;have br:xp w w1:=Al qD (KM.mono qA);have T1:Dt w1 w tm0:=Dt.keep (by constructor<;>simp [go_sem,tm0]) KM;clear KM;obtain ⟨gb,go,rfl,FQ⟩:=hp.cell.resolve_left qB;clear FQ;have BE:=hp.keep br;obtain ⟨e0,e1,e2,e3,e4,e5,e6,e7⟩:=BE.at FR;rw [Nat.zero_mul,Nat.add_zero] at e0 e1 e2 e3 e4 e5 e6 e7;have zt:=Aa _ _ e0;go_wp2_with fail;go_loopw [7] (fun v7 wr=>∃i:Nat,1≤i∧i≤n∧v7=M i∧Dt wr w1 (p (G8 o p (i-1)))∧xp w1 wr) (fun v7 _=>n-(intOf v7).toNat)
 case atStart=>exact ⟨1,qB,qB,by go_num,Dt.new w1 (p 0),qD⟩
 case round =>
  obtain ⟨i,hi1,hi,rfl,TM,dm⟩:=hrel;clear e0 e1 e2 e3 e4 e5 e6 e7;by_cases bj:i<n
  ·have jn:=(BE.keep dm).at bj;have TM':=TM;have BN:G8 o p (i+1-1)=if 0<F7 o (p i).mono (p (G8 o p (i-1))).mono then i else G8 o p (i-1):=by
    obtain ⟨j,rfl⟩:∃j,i=j+1:=⟨i-1,qB⟩;rfl
   have HBI:=Ae BN;have kz:=(BE.tm i bj).keep dm;have lj:=(BE.tm (G8 o p (i-1)) (by have:=Mz o p (i-1);omega)).keep dm;have OH:=Ae (Ax kz lj);clear BN kz lj;generalize ht:p i=t at *;generalize hs:p (G8 o p (i-1))=s at *;obtain ⟨r,hr⟩:∃r,F7 o t.mono s.mono=r:=⟨_,rfl⟩;have HR:=Ae hr;clear hr;obtain ⟨e0,e1,e2,e3,e4,e5,e6,e7⟩:=jn;obtain ⟨m0,m1,m2,m3,m4,m5,m6,m7,mf0,mf1,mf2,mf3,mf4,mf5,mf6,mf7⟩:=TM;have HB:=Ac wr wr;have sy:(0:Int)≤(i:Int):=qB;have j8:(i:Int)<(n:Int):=qB;have HP1:=Ae BE;have IN:w1.heap.size<wr:=Aa _ _ m0;clear hp BE;go_wp2_with fail;go_region_held3 (fun W=>Z W gb (go+i*8) (.bool t.g1)∧Z W gb (go+i*8+1) (.slice t.a1 t.n1 t.c1)∧Z W gb (go+i*8+2) (.bool t.g2)∧Z W gb (go+i*8+3) (.slice t.a2 t.n2 t.c2)∧Z W gb (go+i*8+4) (U t.m0)∧Z W gb (go+i*8+5) (U t.m1)∧Z W gb (go+i*8+6) (U t.m2)∧Z W gb (go+i*8+7) (U t.m3)∧Z W w1 0 (.bool s.g1)∧Z W w1 1 (.slice s.a1 s.n1 s.c1)∧Z W w1 2 (.bool s.g2)∧Z W w1 3 (.slice s.a2 s.n2 s.c2)∧Z W w1 4 (U s.m0)∧Z W w1 5 (U s.m1)∧Z W w1 6 (U s.m2)∧Z W w1 7 (U s.m3)) (exact qK) (first
    | (go_at_call 105;(with_reducible refine (uP _ o ho t s OH.out.1 OH.out.2).mono ?_);rintro e w7 ⟨rfl,hb⟩;rw [HR.out];have iw:=zP wr hb;(replace ⟨m0,mf0,m1,mf1,m2,mf2,m3,mf3⟩:=xi iw m0 mf0 m1 mf1 m2 mf2 m3 mf3;replace ⟨m4,mf4,m5,mf5,m6,mf6,m7,mf7⟩:=xi iw m4 mf4 m5 mf5 m6 mf6 m7 mf7;replace ⟨e0,e1,e2,e3,e4,e5,e6,e7⟩:=xl iw e0 e1 e2 e3 e4 e5 e6 e7)))
   have AX:w1.heap.size<w7:=Aa _ _ m0;by_cases hc:0<r
   ·go_wp2_with fail;go_roundw
    case rel =>
     have hW:xp w1 w7:=xo dm iw;refine ⟨i+1,qB,qB,by go_num,?_,?_⟩
     ·rw [HBI.out,HR.out,if_pos hc,ht];constructor<;>simp [*,go_sem]
     ·go_grown
    case measure=>(first|(simp [intOf];omega)|(simp [intOf];done))
   ·go_wp2_with fail;go_roundw
    case rel=>exact ⟨i+1,qB,qB,by go_num,by rw [HBI.out,HR.out,if_neg hc,hs];exact TM'.keep iw,(xo dm iw)⟩
    case measure=>(first|(simp [intOf];omega)|(simp [intOf];done))
  ·obtain rfl:i=n:=qB;have lj:=(BE.tm (G8 o p (i-1)) P5.out.2.2.2).keep dm;have eh:=P5.out.1.frac lj P5.out.2.1;have jh:(p (G8 o p (i-1))).n1≤1000000:=by have h8:=lj.top.len;rw [P5.out.1.d1] at h8;have:=P5.out.2.2.1.1;omega
   have ki:(p (G8 o p (i-1))).n2≤1000000:=by have h8:=lj.low.len;rw [P5.out.1.d2] at h8;have:=P5.out.2.2.1.2;omega
   have OQ:=Ae lj;have HB:xp w wr:=xo br dm;clear hp BE lj;generalize B8 o x l=x at *;generalize p (G8 o p (i-1))=s at *;have IN:=TM.lt;have hTw:w.heap.size<wr:=(T1.keep dm).lt;obtain ⟨z0,z1,z2,z3,z4,z5,z6,z7,LP,LQ,LR,LS,WY,WZ,XA,XB⟩:=T1.keep dm;obtain ⟨m0,m1,m2,m3,m4,m5,m6,m7,-,-,-,-,-,-,-,-⟩:=TM;go_wp2_with fail;refine Bw (fun W=>Z W w1 0 (.bool s.g1)∧Z W w1 1 (.slice s.a1 s.n1 s.c1)∧Z W w1 2 (.bool s.g2)∧Z W w1 3 (.slice s.a2 s.n2 s.c2)∧Z W w1 4 (U s.m0)∧Z W w1 5 (U s.m1)∧Z W w1 6 (U s.m2)∧Z W w1 7 (U s.m3)) 6 qE qK (fun ib=>?_);(refine xc 6 0 ?_;(try simp only [xb]));(refine xc 6 1 ?_;(try simp only [xb]));(refine xc 6 3 ?_;(try simp only [xb]));(refine xc 6 4 ?_;(try simp only [xb]));(refine Bd.one (i:=2) rfl qE (fun K hK=>?_);go_simp;(go_at_call 106;(with_reducible refine (Lw _ _ _ _ _ _ _ _ _ _ _ (eh.keep qD) ki jh).mono ?_);rintro e w6 ⟨ge,ae,ne,ce,gf,af,nf,cf,rfl,iq,pk,po,ee⟩;have iu:=zP wr ee;have zl6:w.heap.size<w6:=Nat.lt_of_lt_of_le hTw iu.size;(replace ⟨z0,LP,z1,LQ,z2,LR,z3,LS⟩:=xi iu z0 LP z1 LQ z2 LR z3 LS;replace ⟨z4,WY,z5,WZ,z6,XA,z7,XB⟩:=xi iu z4 WY z5 WZ z6 XA z7 XB;replace ⟨m0,m1,m2,m3,m4,m5,m6,m7⟩:=xl iu m0 m1 m2 m3 m4 m5 m6 m7));(try go_wp2_with fail);refine hK.out _ _ (fun _=>qK) ?_;clear hK K;(try simp only [xb]));(refine Bd.one (i:=5) rfl qE (fun K hK=>?_);go_simp;skip;(try go_wp2_with fail);refine hK.out _ _ (fun _=>qK) ?_;clear hK K;(try simp only [xb]));(refine Bd.one (i:=6) rfl qE (fun K hK=>?_);go_simp;refine hK.out _ _ (fun h=>absurd h qI) ?_;clear hK K;(try simp only [xb]));(refine Bd.one (i:=7) rfl qE (fun K hK=>?_);go_simp;refine hK.out _ _ (fun h=>absurd h qI) ?_;clear hK K;(try simp only [xb]));refine Bd.done qE ?_ _;have u:w.heap.size<wr:=hTw;have f1:Bc wr w6 ae ce:=pk.mono (by first|omega|(simp;omega)|simp);have f2:Bc wr w6 af cf:=po.mono (by first|omega|(simp;omega)|simp);have wh:=xo HB iu;go_wp2_with fail;refine bodyPost_ret (v:=.tuple #[(⟨ge,ae,ne,ce,dg x.2.1.natAbs,gf,af,nf,cf,dg x.2.2.natAbs,s.m0,s.m1,s.m2,s.m3⟩:Tm).val,.bool true]) (by simp [*,results,results26,go_sem]) rfl ?_;refine ⟨⟨ge,ae,ne,ce,dg x.2.1.natAbs,gf,af,nf,cf,dg x.2.2.natAbs,s.m0,s.m1,s.m2,s.m3⟩,rfl,⟨iq.top.neg,rfl,iq.low.neg,rfl,P5.out.1.key⟩,⟨?_,?_,OQ.out.s0,OQ.out.s1,OQ.out.s2,OQ.out.s3⟩,((f1.set4 _ _ _ _ _ _ _ _ u u u u).set4 _ _ _ _ _ _ _ _ u u u u).mono HB.size,((f2.set4 _ _ _ _ _ _ _ _ u u u u).set4 _ _ _ _ _ _ _ _ u u u u).mono HB.size,qD⟩
   ·exact (((iq.top.set4 f1 _ _ _ _ _ _ _ _ u u u u).set4 (f1.set4 _ _ _ _ _ _ _ _ u u u u) _ _ _ _ _ _ _ _ u u u u)).rd
   ·exact (((iq.low.set4 f2 _ _ _ _ _ _ _ _ u u u u).set4 (f2.set4 _ _ _ _ _ _ _ _ u u u u) _ _ _ _ _ _ _ _ u u u u)).rd
theorem zU (a0 a1 a2 a3 b0 b1 b2 b3:Nat) :
  Θ 27 #[Cd a0 a1 a2 a3,Cd b0 b1 b2 b3] w (fun e w'=>e=.returned (Cd (max a0 b0) (max a1 b1) (max a2 b2) (max a3 b3))∧xp w w'):=by
 have m0:max (a0:Int) (b0:Int)=((max a0 b0:Nat):Int):=qB;have m1:max (a1:Int) (b1:Int)=((max a1 b1:Nat):Int):=qB;have m2:max (a2:Int) (b2:Int)=((max a2 b2:Nat):Int):=qB;have m3:max (a3:Int) (b3:Int)=((max a3 b3:Nat):Int):=qB;have HB:=Ac w w;go_enter func27,ntmps27;go_wp2_with fail;refine wp_loop_rounds 5 ?_;rw [rounds_succ];go_wp2_with fail;refine Bw (fun W=>Z W w 0 (U (a0:Nat))∧Z W (w+1) 0 (U (b0:Nat))) 9 qE qK (fun ib=>?_);(refine xc 9 0 ?_;(try simp only [xb]));(refine xc 9 1 ?_;(try simp only [xb]));(refine xc 9 2 ?_;(try simp only [xb]));(refine xc 9 3 ?_;(try simp only [xb]));(refine xc 9 4 ?_;(try simp only [xb]));(refine xc 9 5 ?_;(try simp only [xb]));(refine xc 9 6 ?_;(try simp only [xb]));(refine Bd.one (i:=7) rfl qE (fun K hK=>?_);go_simp;skip;(try go_wp2_with fail);refine hK.out _ _ (fun _=>qK) ?_;clear hK K;(try simp only [xb]));(refine xc 9 8 ?_;(try simp only [xb]));(refine Bd.one (i:=9) rfl qE (fun K hK=>?_);go_simp;refine hK.out _ _ (fun h=>absurd h qI) ?_;clear hK K;(try simp only [xb]));refine Bd.done qE ?_ _;go_wp2_with fail;rw [rounds_succ];go_wp2_with fail;refine Bw (fun W=>Z W w 1 (U (a1:Nat))∧Z W (w+1) 1 (U (b1:Nat))) 9 qE qK (fun ib=>?_);(refine xc 9 0 ?_;(try simp only [xb]));(refine xc 9 1 ?_;(try simp only [xb]));(refine xc 9 2 ?_;(try simp only [xb]));(refine xc 9 3 ?_;(try simp only [xb]));(refine xc 9 4 ?_;(try simp only [xb]));(refine xc 9 5 ?_;(try simp only [xb]));(refine xc 9 6 ?_;(try simp only [xb]));(refine Bd.one (i:=7) rfl qE (fun K hK=>?_);go_simp;skip;(try go_wp2_with fail);refine hK.out _ _ (fun _=>qK) ?_;clear hK K;(try simp only [xb]));(refine xc 9 8 ?_;(try simp only [xb]));(refine Bd.one (i:=9) rfl qE (fun K hK=>?_);go_simp;refine hK.out _ _ (fun h=>absurd h qI) ?_;clear hK K;(try simp only [xb]));refine Bd.done qE ?_ _;go_wp2_with fail;rw [rounds_succ];go_wp2_with fail;refine Bw (fun W=>Z W w 2 (U (a2:Nat))∧Z W (w+1) 2 (U (b2:Nat))) 9 qE qK (fun ib=>?_);(refine xc 9 0 ?_;(try simp only [xb]));(refine xc 9 1 ?_;(try simp only [xb]));(refine xc 9 2 ?_;(try simp only [xb]));(refine xc 9 3 ?_;(try simp only [xb]));(refine xc 9 4 ?_;(try simp only [xb]))
 (refine xc 9 5 ?_;(try simp only [xb]));(refine xc 9 6 ?_;(try simp only [xb]));(refine Bd.one (i:=7) rfl qE (fun K hK=>?_);go_simp;skip;(try go_wp2_with fail);refine hK.out _ _ (fun _=>qK) ?_;clear hK K;(try simp only [xb]));(refine xc 9 8 ?_;(try simp only [xb]));(refine Bd.one (i:=9) rfl qE (fun K hK=>?_);go_simp;refine hK.out _ _ (fun h=>absurd h qI) ?_;clear hK K;(try simp only [xb]));refine Bd.done qE ?_ _;go_wp2_with fail;rw [rounds_succ];go_wp2_with fail;refine Bw (fun W=>Z W w 3 (U (a3:Nat))∧Z W (w+1) 3 (U (b3:Nat))) 9 qE qK (fun ib=>?_);(refine xc 9 0 ?_;(try simp only [xb]));(refine xc 9 1 ?_;(try simp only [xb]));(refine xc 9 2 ?_;(try simp only [xb]));(refine xc 9 3 ?_;(try simp only [xb]));(refine xc 9 4 ?_;(try simp only [xb]));(refine xc 9 5 ?_;(try simp only [xb]));(refine xc 9 6 ?_;(try simp only [xb]));(refine Bd.one (i:=7) rfl qE (fun K hK=>?_);go_simp;skip;(try go_wp2_with fail);refine hK.out _ _ (fun _=>qK) ?_;clear hK K;(try simp only [xb]));(refine xc 9 8 ?_;(try simp only [xb]));(refine Bd.one (i:=9) rfl qE (fun K hK=>?_);go_simp;refine hK.out _ _ (fun h=>absurd h qI) ?_;clear hK K;(try simp only [xb]));refine Bd.done qE ?_ _;go_wp2_with fail;rw [rounds_succ];go_wp2_with fail;refine bodyPost_ret (v:=Cd (max a0 b0) (max a1 b1) (max a2 b2) (max a3 b3)) (by simp [*,results,results27,go_sem,Cd]) rfl ?_;exact ⟨rfl,qD⟩
theorem iA (a0 a1 a2 a3 b0 b1 b2 b3:Nat) (x0:a0<65536) (x1:a1<65536) (x2:a2<65536) (x3:a3<65536) (h0:b0≤a0) (h1:b1≤a1) (h2:b2≤a2) (h3:b3≤a3) :
  Θ 28 #[Cd a0 a1 a2 a3,Cd b0 b1 b2 b3] w (fun e w'=>e=.returned (.tuple #[Cd (a0-b0) (a1-b1) (a2-b2) (a3-b3),.bool true])∧xp w w'):=by
 have m0:IntKind.u16.wrap ((a0:Int)-(b0:Int))=((a0-b0:Nat):Int):=by
  rw [IntWalk.u16_in _ qB];omega
 have q0:¬(a0:Int)<(b0:Int):=qB;have m1:IntKind.u16.wrap ((a1:Int)-(b1:Int))=((a1-b1:Nat):Int):=by
  rw [IntWalk.u16_in _ qB];omega
 have q1:¬(a1:Int)<(b1:Int):=qB;have m2:IntKind.u16.wrap ((a2:Int)-(b2:Int))=((a2-b2:Nat):Int):=by
  rw [IntWalk.u16_in _ qB];omega
 have q2:¬(a2:Int)<(b2:Int):=qB;have m3:IntKind.u16.wrap ((a3:Int)-(b3:Int))=((a3-b3:Nat):Int):=by
  rw [IntWalk.u16_in _ qB];omega
 have q3:¬(a3:Int)<(b3:Int):=qB;clear x0 x1 x2 x3 h0 h1 h2 h3;have HB:=Ac w w;go_enter func28,ntmps28;go_wp2_with fail;refine wp_loop_rounds 5 ?_;rw [rounds_succ];go_wp2_with fail;go_quiet (fail);go_wp2_with fail;refine Bw (fun W=>Z W w 0 (U (a0:Nat))∧Z W (w+1) 0 (U (b0:Nat))) 9 qE qK (fun ib=>?_);(refine xc 9 0 ?_;(try simp only [xb]));(refine xc 9 1 ?_;(try simp only [xb]));(refine xc 9 2 ?_;(try simp only [xb]));(refine xc 9 3 ?_;(try simp only [xb]));(refine xc 9 4 ?_;(try simp only [xb]));(refine xc 9 5 ?_;(try simp only [xb]));(refine xc 9 6 ?_;(try simp only [xb]));(refine Bd.one (i:=7) rfl qE (fun K hK=>?_);go_simp;skip;(try go_wp2_with fail);refine hK.out _ _ (fun _=>qK) ?_;clear hK K;(try simp only [xb]));(refine xc 9 8 ?_;(try simp only [xb]));(refine Bd.one (i:=9) rfl qE (fun K hK=>?_);go_simp;refine hK.out _ _ (fun h=>absurd h qI) ?_;clear hK K;(try simp only [xb]));refine Bd.done qE ?_ _;go_wp2_with fail;rw [rounds_succ];go_wp2_with fail;go_quiet (fail);go_wp2_with fail;refine Bw (fun W=>Z W w 1 (U (a1:Nat))∧Z W (w+1) 1 (U (b1:Nat))) 9 qE qK (fun ib=>?_);(refine xc 9 0 ?_;(try simp only [xb]));(refine xc 9 1 ?_;(try simp only [xb]));(refine xc 9 2 ?_;(try simp only [xb]));(refine xc 9 3 ?_;(try simp only [xb]));(refine xc 9 4 ?_;(try simp only [xb]));(refine xc 9 5 ?_;(try simp only [xb]));(refine xc 9 6 ?_;(try simp only [xb]));(refine Bd.one (i:=7) rfl qE (fun K hK=>?_);go_simp;skip;(try go_wp2_with fail);refine hK.out _ _ (fun _=>qK) ?_;clear hK K;(try simp only [xb]));(refine xc 9 8 ?_;(try simp only [xb]));(refine Bd.one (i:=9) rfl qE (fun K hK=>?_);go_simp;refine hK.out _ _ (fun h=>absurd h qI) ?_;clear hK K;(try simp only [xb]));refine Bd.done qE ?_ _;go_wp2_with fail;rw [rounds_succ];go_wp2_with fail;go_quiet (fail);go_wp2_with fail;refine Bw (fun W=>Z W w 2 (U (a2:Nat))∧Z W (w+1) 2 (U (b2:Nat))) 9 qE qK (fun ib=>?_);(refine xc 9 0 ?_;(try simp only [xb]));(refine xc 9 1 ?_;(try simp only [xb]));(refine xc 9 2 ?_;(try simp only [xb]));(refine xc 9 3 ?_;(try simp only [xb]))
 (refine xc 9 4 ?_;(try simp only [xb]));(refine xc 9 5 ?_;(try simp only [xb]));(refine xc 9 6 ?_;(try simp only [xb]));(refine Bd.one (i:=7) rfl qE (fun K hK=>?_);go_simp;skip;(try go_wp2_with fail);refine hK.out _ _ (fun _=>qK) ?_;clear hK K;(try simp only [xb]));(refine xc 9 8 ?_;(try simp only [xb]));(refine Bd.one (i:=9) rfl qE (fun K hK=>?_);go_simp;refine hK.out _ _ (fun h=>absurd h qI) ?_;clear hK K;(try simp only [xb]));refine Bd.done qE ?_ _;go_wp2_with fail;rw [rounds_succ];go_wp2_with fail;go_quiet (fail);go_wp2_with fail;refine Bw (fun W=>Z W w 3 (U (a3:Nat))∧Z W (w+1) 3 (U (b3:Nat))) 9 qE qK (fun ib=>?_);(refine xc 9 0 ?_;(try simp only [xb]));(refine xc 9 1 ?_;(try simp only [xb]));(refine xc 9 2 ?_;(try simp only [xb]));(refine xc 9 3 ?_;(try simp only [xb]));(refine xc 9 4 ?_;(try simp only [xb]));(refine xc 9 5 ?_;(try simp only [xb]));(refine xc 9 6 ?_;(try simp only [xb]));(refine Bd.one (i:=7) rfl qE (fun K hK=>?_);go_simp;skip;(try go_wp2_with fail);refine hK.out _ _ (fun _=>qK) ?_;clear hK K;(try simp only [xb]));(refine xc 9 8 ?_;(try simp only [xb]));(refine Bd.one (i:=9) rfl qE (fun K hK=>?_);go_simp;refine hK.out _ _ (fun h=>absurd h qI) ?_;clear hK K;(try simp only [xb]));refine Bd.done qE ?_ _;go_wp2_with fail;rw [rounds_succ];go_wp2_with fail;refine bodyPost_ret (v:=.tuple #[Cd (a0-b0) (a1-b1) (a2-b2) (a3-b3),.bool true]) (by simp [*,results,results28,go_sem,Cd]) rfl ?_;exact ⟨rfl,by go_grown;refine Bj _ ?_;go_grown;refine Bj _ ?_;go_grown;refine Bj _ ?_;go_grown;refine Bj _ ?_;go_grown⟩
end Go.Proofs.YtfijkfdfbnfmmaaGreatDoor
end
