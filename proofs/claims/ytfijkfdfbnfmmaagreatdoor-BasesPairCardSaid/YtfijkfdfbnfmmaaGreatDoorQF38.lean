/- The document's answer, layer 18: Pair. -/
import Derived.Test.YtfijkfdfbnfmmaaGreatDoorQF37
set_option linter.unusedSimpArgs false
set_option linter.unusedVariables false
set_option maxRecDepth 100000
set_option maxHeartbeats 4000000
section
namespace Go.Proofs.YtfijkfdfbnfmmaaGreatDoor
open Go.RowKit Proofs.Tryz
variable (o:Nat) (d:Ξ) {K n c g B s B0:Nat} {fz:Nat×Nat} {S:Nat→Prop} {e:TypeId} {w w':World} {a:Γ} {l p m:Δ}
def mK (w:World) (o:Nat) (x:PT) (l:Δ) (y:PT) (m:Δ) (e:Ending) (w':World):Prop :=
 (El o x l y m=true∧∃a n c,e=.returned (.tuple #[.slice a n c,M 0])∧Be w' w a n c (I8 o x l y m)∧xp w w')∨(El o x l y m=false∧e=.returned (.tuple #[.slice none 0 0,M 3])∧xp w w')
theorem Nn.uni {y:PT} {e:Ending} (h:Nn w l y e w'):∃a n c,∃z:Int,e=.returned (.tuple #[.slice a n c,M z])∧(z=0∧Cm l [y]=true∧Be w' w a n c (Dk l y)∨z=3∧Cm l [y]=false)∧xp w w':=by
 rcases h with ⟨h1,a,n,c,rfl,h2,h3⟩|⟨h1,rfl,h3⟩
 ·exact ⟨a,n,c,0,rfl,.inl ⟨rfl,h1,h2⟩,h3⟩
 ·exact ⟨none,0,0,3,rfl,.inr ⟨rfl,h1⟩,h3⟩
theorem Mt {a b:PT} (hp:PW p) (hK:Cj K p) (ha:a∈p):Cj (K+K) (Dk p (upT a b)):=fun t ht=>by
 obtain ⟨s,hs,rfl⟩:=List.mem_map.1 ht;exact Ch.mul (hp.good s hs).1 (Kw (y:=a.2) (hp.good a ha).2) (hK s hs) (I9 (hK a ha))
theorem mH {a b:PT} (hp:PW p) (ha:a∈p):PW [upT a b]:=⟨by simp [Dh],fun t ht=>by
 simp only [Ao] at ht;subst ht;exact ⟨Kw (y:=a.2) (hp.good a ha).2,Qk (y:=a.2) (hp.good a ha).2 (hp.good a ha).1.pos⟩,fun t ht=>by
 simp only [Ao] at ht;subst ht;exact Nk a b⟩
theorem sR (w:World) (o:Nat) (ho:o≤2) (B:Nat) (a:Γ) (n c:Nat) (x:PT) (l:Δ) (h:Be w B a n c (x::l)) (hl:PW (x::l)) (K:Nat) (hK:Cj K (x::l)) (hnK:n*(K+K+1)≤400000)
  (B':Nat) (a':Γ) (n' c':Nat) (y:PT) (m:Δ) (h':Be w B' a' n' c' (y::m)) (hl':PW (y::m)) (K':Nat) (hK':Cj K' (y::m)) (MD:n'*(K'+K'+1)≤400000) (hk:K≤10000) (vn:K'≤10000) :
  Θ 8 #[.int .u8 o,.slice a n c,.slice a' n' c'] w (mK w o x l y m):=by
 have hn:0<n:=by have:=h.len;simp at this;omega
 have rk:0<n':=by have:=h'.len;simp at this;omega
 have HB:=Ac w w;have P1:=Ae h;have P2:=Ae h';have Q1:=Ae (Ax hl (Ax hK hnK));have Q2:=Ae (Ax hl' (Ax hK' MD));have nn:((n:Int)==0)=false:=by rw [beq_eq_false_iff_ne];omega
 have nn':((n':Int)==0)=false:=by rw [beq_eq_false_iff_ne];omega
 have CM:∀(W:World),Below w w W→∀L,Z W L 0 (.slice a n c)→Z W L 1 (.slice a' n' c')→Θ 25 #[.int .u8 o,.slice (E L) 2 2] W (fun e w'=>e=.returned (M 0)∧Below W W w'):=fun W hW L e1 e2 =>
  Yl W o qB L _ _ true true (Eh.of (P1.out.keep hW) Q1.out.1 Q1.out.2.1 qB) (Eh.of (P2.out.keep hW) Q2.out.1 Q2.out.2.1 qB) e1 e2 0 (by rw [if_pos ⟨ho,rfl,rfl⟩])
 have HM:=Ae CM;clear CM h h' hl hK hnK hl' hK' MD;go_enter func8,ntmps8;go_wp2_with fail;refine (HM.out _ qD _ qJ qJ).mono ?_;rintro e w1 ⟨rfl,br⟩;have EL:=zP w br;clear br HM HB;go_wp2_with fail;refine (gX w1 B a n c x l (P1.out.keep EL) Q1.out.1 K Q1.out.2.1 qB o ho).mono ?_;rintro e w2 ⟨s,rfl,hs,lj,ln,nk,bp⟩;have XG:=xo EL bp;have zz2:=bp.size;clear bp EL;go_wp2_with fail;refine Bt ?_;intro w3 eb;have TA:Dt w3 w2 s:=by rw [eb];exact Dt.new w2 s
 have b3:Below w2 w2 w3:=by rw [eb];go_grown
 have Bw3:=xo XG b3;clear eb;have S3:=Ae (Ax hs (Ax (lj.keep b3) (Ax (ln.keep b3) (nk.keep b3))));have zb3:=b3.size;have zB2:=XG.size;generalize w2.heap.size=A at *;clear hs lj ln nk XG b3;refine (gX w3 B' a' n' c' y m (P2.out.keep Bw3) Q2.out.1 K' Q2.out.2.1 qB o ho).mono ?_;rintro e w4 ⟨t,rfl,ht,kz,oh,js,ec⟩;have Bw4:=xo Bw3 ec;have XH:=TA.keep ec;have S4:=Ae (Ax S3.out.1 (Ax (S3.out.2.1.keep ec) (Ax (S3.out.2.2.1.keep ec) (S3.out.2.2.2.keep ec))));have zb4:=ec.size;clear ec TA S3;have TAk:=XH;have hAT:A<w4.heap.size:=XH.lt;have nA:¬w4.heap.size=A:=qB;have ME:¬A=w4.heap.size:=qB;obtain ⟨-,-,-,-,a4,a5,a6,a7,-,-,-,-,-,-,-,-⟩:=XH;go_wp2_with fail;refine Bt ?_;intro w5 iy;have TB:Dt w5 w4 t:=by rw [iy];exact Dt.new w4 t
 have b5:Below w4 w4 w5:=by rw [iy];go_grown
 have TA5:=TAk.keep b5;have Bw5:=xo Bw4 b5;have U5:=Ae (Ax ht (Ax (kz.keep b5) (Ax (oh.keep b5) (js.keep b5))));have S5:=Ae (Ax S4.out.1 (Ax (S4.out.2.1.keep b5) (Ax (S4.out.2.2.1.keep b5) (S4.out.2.2.2.keep b5))));have zb5:=b5.size;clear nA ME;clear iy ht kz oh js TAk S4 b5 a4 a5 a6 a7;generalize w4.heap.size=D at *;have r1:=S5.out.2.1;have r2:=U5.out.2.1;have CN:Θ 27 #[Cd s.m0 s.m1 s.m2 s.m3,Cd t.m0 t.m1 t.m2 t.m3] w5 (fun e w'=>∃k0 k1 k2 k3:Nat,e=.returned (.agg #[U k0,U k1,U k2,U k3])∧(k0=max s.m0 t.m0∧k1=max s.m1 t.m1∧k2=max s.m2 t.m2∧k3=max s.m3 t.m3)∧Below w5 w5 w'):=(zU w5 _ _ _ _ _ _ _ _).mono fun e w' ⟨e1,e2⟩=>⟨_,_,_,_,e1,⟨rfl,rfl,rfl,rfl⟩,e2⟩
 clear r1 r2;refine CN.mono ?_;rintro e w6 ⟨k0,k1,k2,k3,rfl,hks,ee⟩;have MF:=Ae hks;have TA6:=TA5.keep ee;have TB6:=TB.keep ee;have Bw6:=xo Bw5 ee;have zb6:=ee.size;have EM:=TA6;have EN:=TB6;have LA:A<w6.heap.size:=EM.lt;have LD:D<w6.heap.size:=EN.lt;have nA:¬w6.heap.size=A:=qB;have ME:¬A=w6.heap.size:=qB;obtain ⟨-,-,-,-,a4,a5,a6,a7,-,-,-,-,-,-,-,-⟩:=TA6;clear hks CN TA5 TB TB6;have b56:=ee;clear ee;go_wp2_with fail;refine Bt ?_;intro w7 mb;have MB:B4 w7 w6 (U k0) (U k1) (U k2) (U k3):=by rw [mb];constructor<;>simp [go_sem]
 have DJ:Below w6 w6 w7:=by rw [mb];go_grown
 have zb7:=DJ.size;have TA7:=EM.keep DJ;have QR:=EN.keep DJ;have b57:=b56.trans (DJ.mono zb6);clear mb nA ME a4 a5 a6 a7 EM EN b56 DJ;generalize w6.heap.size=zh at *;have r1:=S5.out.2.1;have r2:=U5.out.2.1;have JH:Θ 28 #[Cd k0 k1 k2 k3,Cd s.m0 s.m1 s.m2 s.m3] w7 (fun e w'=>∃u0 u1 u2 u3:Nat,e=.returned (.tuple #[.agg #[U u0,U u1,U u2,U u3],.bool true])∧(u0=k0-s.m0∧u1=k1-s.m1∧u2=k2-s.m2∧u3=k3-s.m3)∧Below w7 w7 w'):=by
  obtain ⟨e0,e1,e2,e3⟩:=MF.out;have q0:=r1.s0;have q1:=r1.s1;have q2:=r1.s2;have q3:=r1.s3;have p0:=r2.s0;have p1:=r2.s1;have p2:=r2.s2;have p3:=r2.s3;refine (iA w7 k0 k1 k2 k3 s.m0 s.m1 s.m2 s.m3 qB qB qB qB qB qB qB qB).mono ?_;rintro e w' ⟨h1,h2⟩;exact ⟨_,_,_,_,h1,⟨rfl,rfl,rfl,rfl⟩,h2⟩
 have XI:∀W,Θ 28 #[Cd k0 k1 k2 k3,Cd t.m0 t.m1 t.m2 t.m3] W (fun e w'=>∃u0 u1 u2 u3:Nat,e=.returned (.tuple #[.agg #[U u0,U u1,U u2,U u3],.bool true])∧(u0=k0-t.m0∧u1=k1-t.m1∧u2=k2-t.m2∧u3=k3-t.m3)∧Below W W w'):=fun W=>by
  obtain ⟨e0,e1,e2,e3⟩:=MF.out;have q0:=r1.s0;have q1:=r1.s1;have q2:=r1.s2;have q3:=r1.s3;have p0:=r2.s0;have p1:=r2.s1;have p2:=r2.s2;have p3:=r2.s3;refine (iA W k0 k1 k2 k3 t.m0 t.m1 t.m2 t.m3 qB qB qB qB qB qB qB qB).mono ?_;rintro e w' ⟨h1,h2⟩;exact ⟨_,_,_,_,h1,⟨rfl,rfl,rfl,rfl⟩,h2⟩
 have JD:=Ae XI;clear r1 r2 XI;refine JH.mono ?_;rintro e w8 ⟨u0,u1,u2,u3,rfl,DM,jt⟩;have HU:=Ae DM;have zb8:=jt.size;have XJ:=MB.keep jt;have TA8:=TA7.keep jt;have TB8:=QR.keep jt;have b58:=b57.trans (jt.mono qB);have XK:=XJ;have MG:=TB8;have LM:zh<w8.heap.size:=XJ.lt;have LD8:D<w8.heap.size:=qB;have nM:¬w8.heap.size=zh:=qB;have nM':¬zh=w8.heap.size:=qB;have nD:¬w8.heap.size=D:=qB;have nD':¬D=w8.heap.size:=qB;obtain ⟨c0,c1,c2,c3,-,-,-,-⟩:=XJ;obtain ⟨-,-,-,-,a4,a5,a6,a7,-,-,-,-,-,-,-,-⟩:=TB8;clear DM JH MB TA7 QR b57 jt;go_wp2_with fail;refine Bt ?_;intro w9 yw;have UB:B4 w9 w8 (U u0) (U u1) (U u2) (U u3):=by rw [yw];constructor<;>simp [go_sem]
 have DN:Below w8 w8 w9:=by rw [yw];go_grown
 have zb9:=DN.size;have TA9:=TA8.keep DN;have TB9:=MG.keep DN;have b59:=b58.trans (DN.mono qB);clear yw nM nM' nD nD' c0 c1 c2 c3 a4 a5 a6 a7 TA8 MG XK b58 DN LM LD8;generalize w8.heap.size=zg at *;refine (JD.out w9).mono ?_;rintro e AE ⟨v0,v1,v2,v3,rfl,hvs,kk⟩;have HV:=Ae hvs;have aob:=kk.size;have IK:=UB.keep kk;have EP:=TA9.keep kk;have QZ:=TB9.keep kk;have MH:=b59.trans (kk.mono qB);have FT:=EP;have afx:=IK;have LU:zg<AE.heap.size:=IK.lt;have aez:A<AE.heap.size:=EP.lt;have nU:¬AE.heap.size=zg:=qB;have nU':¬zg=AE.heap.size:=qB;have nA:¬AE.heap.size=A:=qB;have ME:¬A=AE.heap.size:=qB;obtain ⟨c0,c1,c2,c3,-,-,-,-⟩:=IK;obtain ⟨a0,a1,a2,a3,-,-,-,-,-,-,-,-,-,-,-,-⟩:=EP;clear hvs UB TA9 TB9 b59 kk JD;go_wp2_with fail;go_upto_region 11 with fail
 refine Bx ?_;intro BJ ER;have VB:B4 BJ AE (U v0) (U v1) (U v2) (U v3):=by rw [ER];constructor<;>simp [go_sem]
 have px:Below AE AE BJ:=by rw [ER];go_grown
 have aod:=px.size;have MI:=QZ.keep px;have AU:=MH.trans (px.mono qB);have IP:=FT.keep px;have afy:=afx.keep px;have hS:=S5.out.2.1.keep AU;have hU:=U5.out.2.1.keep AU;have hmx:=Gt o x l;have IJ:=Gt o y m;have hyn:(B8 o x l).2.1≠0:=(Q1.out.1.good _ hmx).2;have afz:(B8 o y m).2.1≠0:=(Q2.out.1.good _ IJ).2;have eh:=S5.out.1.frac hS (Q1.out.1.good _ hmx).1;have af0:=U5.out.1.frac hU (Q2.out.1.good _ IJ).1;have mm1:s.n1≤1000000:=by have h8:=hS.top.len;rw [S5.out.1.d1] at h8;have:=(Q1.out.2.1 _ hmx).1;omega
 have mm2:s.n2≤1000000:=by have h8:=hS.low.len;rw [S5.out.1.d2] at h8;have:=(Q1.out.2.1 _ hmx).2;omega
 have af1:t.n1≤1000000:=by have h8:=hU.top.len;rw [U5.out.1.d1] at h8;have:=(Q2.out.2.1 _ IJ).1;omega
 have af2:t.n2≤1000000:=by have h8:=hU.low.len;rw [U5.out.1.d2] at h8;have:=(Q2.out.2.1 _ IJ).2;omega
 have TAo:=IP;have x0:=IP.c0;have x1:=IP.c1;have x2:=IP.c2;have x3:=IP.c3;have xl0:A<BJ.heap.size:=IP.lt;have H2:=Ae (Ax af0 (Ax afz (Ax af1 af2)));have MS:=Ae (Ax MI (Ax afy (Ax VB AU)));clear hS hU hmx IJ afz af0 af1 af2 MI afy VB FT px AU MH ER nU nU' nA ME c0 c1 c2 c3 a0 a1 a2 a3;have HFR:=Ae (Ax eh (Ax hyn (Ax mm1 mm2)));clear eh hyn mm1 mm2 TAo;have ir:=Ac (BJ).heap.size BJ;have nA1:¬(BJ).heap.size=A:=qB;have nA2:¬A=(BJ).heap.size:=qB;go_cut [18,19] (fun va vb wc=>aR BJ wc va (Fl (B8 o x l).2))
 case first =>
  go_region_held3 (fun W=>Z W A 0 (.bool (s).g1)∧Z W A 1 (.slice (s).a1 (s).n1 (s).c1)∧Z W A 2 (.bool (s).g2)∧Z W A 3 (.slice (s).a2 (s).n2 (s).c2)) (exact qK) (first
   | (go_at_call 30;(with_reducible refine (fI _ 1 qB qB).mono ?_);rintro e XM ⟨g3,a3,n3,c3,g4,a4,n4,c4,rfl,j7,sq,GJ,hb⟩;obtain ⟨hc,hf⟩:=Bg hb;have bp:Below (BJ).heap.size BJ XM:=Al qD (hb.mono qA);have hz:=hb.size;(try simp only [Aj,Ak] at hz);replace ir:=bp;(replace ⟨x0,x1,x2,x3⟩:=xj bp x0 x1 x2 x3);(try have k1:(BJ).heap.size<(XM).heap.size:=qB))
   | (go_at_call 29;(with_reducible refine (oY _ _ _ _ _ _ _ _ _ (j7.keep qD) _ _ _ _ _ _ _ _ (B8 o x l).2 ((HFR.out.1).keep qD) HFR.out.2.1 HFR.out.2.2.1 HFR.out.2.2.2).mono ?_);rintro e XN ⟨g5,a5,n5,c5,g6,a6,n6,c6,rfl,ew,nh,ED,hb⟩;obtain ⟨hc,hf⟩:=Bg hb;have ea:Below (XM).heap.size XM XN:=Al qD (hb.mono qA);have hz:=hb.size;(try simp only [Aj,Ak] at hz);replace ir:Below (BJ).heap.size BJ XN:=xo ir ea;(replace ⟨x0,x1,x2,x3⟩:=xj ea x0 x1 x2 x3);(try have k1:(BJ).heap.size<(XN).heap.size:=qB);(try have k2:(XM).heap.size<(XN).heap.size:=qB)))
  all_goals
   exact qAs
 case rest =>
  obtain ⟨C,g5,a5,n5,c5,g6,a6,n6,c6,rfl,z0,z1,z2,z3,ew,-,-,HD⟩:=hcut;obtain ⟨MK,rfl⟩:∃w':World,w'=wc:=⟨_,rfl⟩;have TD:=MS.out.1.keep HD;have UB:=MS.out.2.1.keep HD;have VB:=MS.out.2.2.1.keep HD;have b14:=xo MS.out.2.2.2 HD;replace x0:=TD.c0;replace x1:=TD.c1;replace x2:=TD.c2;replace x3:=TD.c3;have xl1:D<MK.heap.size:=TD.lt;have HF2:=Ae (Ax (H2.out.1.keep HD) H2.out.2);have HZ:=Ae (Ax z0 (Ax z1 (Ax z2 (Ax z3 ew))));have yr:=Ae (Ax UB (Ax VB b14));clear z0 z1 z2 z3 ew TD UB VB b14 HD xl0 nA1 nA2 ir;go_wp2_with fail;go_upto_region 12 with fail
  have ir:=Ac (MK).heap.size MK;have nA1:¬(MK).heap.size=D:=qB;have nA2:¬D=(MK).heap.size:=qB;go_cut [20,21] (fun va vb wc=>aR MK wc va (Fl (B8 o y m).2))
  case first =>
   go_region_held3 (fun W=>Z W D 0 (.bool (t).g1)∧Z W D 1 (.slice (t).a1 (t).n1 (t).c1)∧Z W D 2 (.bool (t).g2)∧Z W D 3 (.slice (t).a2 (t).n2 (t).c2)) (exact qK) (first
    | (go_at_call 30;(with_reducible refine (fI _ 1 qB qB).mono ?_);rintro e w15 ⟨g3,a3,n3,c3,g4,a4,n4,c4,rfl,j7,sq,GJ,hb⟩;obtain ⟨hc,hf⟩:=Bg hb;have bp:Below (MK).heap.size MK w15:=Al qD (hb.mono qA);have hz:=hb.size;(try simp only [Aj,Ak] at hz);replace ir:=bp;(replace ⟨x0,x1,x2,x3⟩:=xj bp x0 x1 x2 x3);(try have k1:(MK).heap.size<(w15).heap.size:=qB))
    | (go_at_call 29;(with_reducible refine (oY _ _ _ _ _ _ _ _ _ (j7.keep qD) _ _ _ _ _ _ _ _ (B8 o y m).2 ((HF2.out.1).keep qD) HF2.out.2.1 HF2.out.2.2.1 HF2.out.2.2.2).mono ?_);rintro e w16 ⟨g5,a5,n5,c5,g6,a6,n6,c6,rfl,ew,nh,ED,hb⟩;obtain ⟨hc,hf⟩:=Bg hb;have ea:Below (w15).heap.size w15 w16:=Al qD (hb.mono qA);have hz:=hb.size;(try simp only [Aj,Ak] at hz);replace ir:Below (MK).heap.size MK w16:=xo ir ea;(replace ⟨x0,x1,x2,x3⟩:=xj ea x0 x1 x2 x3);(try have k1:(MK).heap.size<(w16).heap.size:=qB);(try have k2:(w15).heap.size<(w16).heap.size:=qB)))
   all_goals
    exact qAs
  case rest =>
   obtain ⟨C',g7,a7,n7,c7,g8,a8,n8,c8,rfl,y0,y1,y2,y3,CR,-,-,HD⟩:=hcut;obtain ⟨w17,rfl⟩:∃w':World,w'=wc:=⟨_,rfl⟩;have z0:=Bb HD HZ.out.1;have z1:=Bb HD HZ.out.2.1;have z2:=Bb HD HZ.out.2.2.1;have z3:=Bb HD HZ.out.2.2.2.1;have ew:=HZ.out.2.2.2.2.keep HD;obtain ⟨d0,d1,d2,d3,-,-,-,-⟩:=yr.out.1.keep HD;have VB:=yr.out.2.1.keep HD;have b17:=xo yr.out.2.2 HD;have apd:=xo Bw5 b17;have YH:=Ae (Ax y0 (Ax y1 (Ax y2 (Ax y3 (Ax CR VB)))));have i1:=Gt o x l;have i2:=Gt o y m;have HI:=Ae (Ax i1 i2);have r1:=S5.out.2.1;have r2:=U5.out.2.1;have ku:u0<65536∧u1<65536∧u2<65536∧u3<65536∧v0<65536∧v1<65536∧v2<65536∧v3<65536:=by
    obtain ⟨e0,e1,e2,e3⟩:=MF.out;obtain ⟨f0,f1,f2,f3⟩:=HU.out;obtain ⟨h0,h1,h2,h3⟩:=HV.out;have q0:=r1.s0;have q1:=r1.s1;have q2:=r1.s2;have q3:=r1.s3;have p0:=r2.s0;have p1:=r2.s1;have p2:=r2.s2;have p3:=r2.s3;omega
   have eu:(Bv u0 u1 u2 u3,Fl (B8 o x l).2)=upT (B8 o x l) (B8 o y m):=by
    obtain ⟨e0,e1,e2,e3⟩:=MF.out;obtain ⟨f0,f1,f2,f3⟩:=HU.out;have:=fN S5.out.1 r1 U5.out.1 r2;rw [f0,f1,f2,f3,e0,e1,e2,e3,this];rfl
   have ev:(Bv v0 v1 v2 v3,Fl (B8 o y m).2)=upT (B8 o y m) (B8 o x l):=by
    obtain ⟨e0,e1,e2,e3⟩:=MF.out;obtain ⟨f0,f1,f2,f3⟩:=HV.out;have:=iE S5.out.1 r1 U5.out.1 r2;rw [f0,f1,f2,f3,e0,e1,e2,e3,this];rfl
   have HE:=Ae (Ax ku (Ax eu ev));clear ku eu ev r1 r2 i1 i2 y0 y1 y2 y3 CR VB HD HZ yr x0 x1 x2 x3 xl1 nA1 nA2 ir H2 HF2 HFR MS;go_wp2_with fail;refine (sA w17 g5 a5 n5 c5 g6 a6 n6 c6 (Fl (B8 o x l).2) ew u0 u1 u2 u3 HE.out.1.1 HE.out.1.2.1 HE.out.1.2.2.1 HE.out.1.2.2.2.1).mono ?_;rintro e w18 ⟨a9,c9,rfl,hp9,TV⟩;rw [HE.out.2.1] at hp9;have b18:=xo apd TV;have EU:=Ae (Ax (Bb TV YH.out.1) (Ax (Bb TV YH.out.2.1) (Ax (Bb TV YH.out.2.2.1) (Ax (Bb TV YH.out.2.2.2.1) (Ax (YH.out.2.2.2.2.1.keep TV) (YH.out.2.2.2.2.2.keep TV))))));have H9:=Ae hp9;clear hp9 TV YH ew d0 d1 d2 d3 z0 z1 z2 z3;go_wp2_with fail;refine (gG w18 B a n c (x::l) (P1.out.keep b18) Q1.out.1 K Q1.out.2.1 qB (Ah (Nat.le_mul_of_pos_right n (show 0<K+K+1 from qB)) (Ah Q1.out.2.2 qB)) 0 a9 c9 _ H9.out (mH Q1.out.1 HI.out.1) (I9 (Q1.out.2.1 _ HI.out.1))).mono ?_;rintro e w19 lg;obtain ⟨p1,p2,p3,zz,rfl,sj,TW⟩:=lg.uni;have b19:=xo b18 TW;have HC1:=Ae sj;have d0:=Bb TW EU.out.1;have d1:=Bb TW EU.out.2.1;have d2:=Bb TW EU.out.2.2.1;have d3:=Bb TW EU.out.2.2.2.1;have CR:=EU.out.2.2.2.2.1.keep TW;obtain ⟨z0,z1,z2,z3,-,-,-,-⟩:=EU.out.2.2.2.2.2.keep TW;clear lg sj TW EU H9;go_wp2_with fail;refine (sA w19 g7 a7 n7 c7 g8 a8 n8 c8 (Fl (B8 o y m).2) CR v0 v1 v2 v3 HE.out.1.2.2.2.2.1 HE.out.1.2.2.2.2.2.1 HE.out.1.2.2.2.2.2.2.1 HE.out.1.2.2.2.2.2.2.2).mono ?_;rintro e w20 ⟨aa,ca,rfl,hpa,k20⟩;rw [HE.out.2.2] at hpa;have b20:=xo b19 k20;have HC2:=Ae (show zz=0∧Cm (x::l) [upT (B8 o x l) (B8 o y m)]=true∧Be w20 w18 p1 p2 p3 (Dk (x::l) (upT (B8 o x l) (B8 o y m)))∨zz=3∧Cm (x::l) [upT (B8 o x l) (B8 o y m)]=false from HC1.out.imp (fun⟨h1,h2,h3⟩=>⟨h1,h2,h3.keep k20⟩) id);have HA:=Ae hpa;clear hpa CR d0 d1 d2 d3 z0 z1 z2 z3 HC1 k20;go_wp2_with fail;refine (gG w20 B' a' n' c' (y::m) (P2.out.keep b20) Q2.out.1 K' Q2.out.2.1 qB (Ah (Nat.le_mul_of_pos_right n' (show 0<K'+K'+1 from qB)) (Ah Q2.out.2.2 qB)) 0 aa ca _ HA.out (mH Q2.out.1 HI.out.2) (I9 (Q2.out.2.1 _ HI.out.2))).mono ?_;rintro e w21 lf;obtain ⟨s1,s2,s3,zv,rfl,sj,k21⟩:=lf.uni;have b21:=xo b20 k21;have HC3:=Ae (Ax (show zz=0∧Cm (x::l) [upT (B8 o x l) (B8 o y m)]=true∧Be w21 w18 p1 p2 p3 (Dk (x::l) (upT (B8 o x l) (B8 o y m)))∨zz=3∧Cm (x::l) [upT (B8 o x l) (B8 o y m)]=false from HC2.out.imp (fun⟨h1,h2,h3⟩=>⟨h1,h2,h3.keep k21⟩) id) sj);clear lf sj k21 HA HC2;rcases HC3.out.1 with ⟨rfl,o1,H1⟩|⟨rfl,o1⟩
   ·rcases HC3.out.2 with ⟨rfl,o2,H2⟩|⟨rfl,o2⟩
    ·have kx:El o x l y m=true:=by unfold El;rw [o1,o2];rfl
     have HOK:=Ae (Ax kx (Wb Q1.out.1 Q2.out.1 kx));have l1:p2=n:=by have h1:=H1.len;have h2:=P1.out.len;unfold Dk at h1;rw [List.length_map] at h1;omega
     have l2:s2=n':=by have h1:=H2.len;have h2:=P2.out.len;unfold Dk at h1;rw [List.length_map] at h1;omega
     subst l1;subst l2;have CP:=uS w21 _ p1 p2 p3 _ H1 (Jn Q1.out.1 HI.out.1 o1) (K+K) (Mt Q1.out.1 Q1.out.2.1 HI.out.1) _ s1 s2 s3 _ H2 (Jn Q2.out.1 HI.out.2 o2) (K'+K') (Mt Q2.out.1 Q2.out.2.1 HI.out.2) qB (Ah (Nat.le_mul_of_pos_right p2 (show 0<K+K+1 from qB)) (Ah Q1.out.2.2 qB)) (Ah (Nat.le_mul_of_pos_right s2 (show 0<K'+K'+1 from qB)) (Ah Q2.out.2.2 qB));rw [←HOK.out.2] at CP;have HSB:=Ae CP;clear CP H1 H2 o1 o2 kx HC3;go_wp2_with fail;refine HSB.out.mono ?_;rintro e w22 ⟨ra,rn,rc,rfl,uy,k22⟩;have b22:=xo b21 k22;have TH:=Ae (uy.mono b21.size);clear uy k22 HSB;go_wp2_with fail;refine bodyPost_ret (v:=.tuple #[.slice ra rn rc,M 0]) (by simp [results,results8,go_sem]) rfl ?_;exact .inl ⟨HOK.out.1,ra,rn,rc,rfl,TH.out,b22⟩
    ·have DI:=Ae (show El o x l y m=false by unfold El;rw [o2,Bool.and_false]);clear o1 o2 H1 HC3;exact qDu
   ·have DI:=Ae (show El o x l y m=false by unfold El;rw [o1,Bool.false_and]);clear o1 HC3;exact qDu
theorem mN (w:World) (o:Nat) (ho:o<256) (a:Γ) (n c:Nat) (r1:Bool) (h1:Eh w (.slice a n c) r1) (a':Γ) (n' c':Nat) (r2:Bool) (h2:Eh w (.slice a' n' c') r2) (hr:¬(o≤2∧r1=true∧r2=true)) :
  Θ 8 #[.int .u8 o,.slice a n c,.slice a' n' c'] w (fun e w'=>e=.returned (.tuple #[.slice none 0 0,M 1])∧xp w w'):=by
 have HM:=Ae (fun (W:World) (hW:xp w W) L e1 e2=>Yl W o ho L _ _ r1 r2 (h1.keep hW) (h2.keep hW) e1 e2 1 (by rw [if_neg hr]));clear h1 h2 hr;have HB:=Ac w w;go_enter func8,ntmps8;go_wp2_with fail;refine (HM.out _ qD _ qJ qJ).mono ?_;rintro e w1 ⟨rfl,br⟩;have EL:=zP w br;clear br HM HB;go_wp2_with fail;refine bodyPost_ret (v:=.tuple #[.slice none 0 0,M 1]) (by simp [results,results8,go_sem]) rfl ?_;exact ⟨rfl,EL⟩
theorem Zp (w:World) (o:Nat) (ho:o≤2) (a:Γ) (n c:Nat) (h1:Eh w (.slice a n c) true) (a':Γ) (n' c':Nat) (h2:Eh w (.slice a' n' c') true) (hz:n=0∨n'=0) :
  Θ 8 #[.int .u8 o,.slice a n c,.slice a' n' c'] w (fun e w'=>e=.returned (.tuple #[.slice none 0 0,M 6])∧xp w w'):=by
 have HM:=Ae (fun (W:World) (hW:xp w W) L e1 e2=>Yl W o qB L _ _ true true (h1.keep hW) (h2.keep hW) e1 e2 0 (by rw [if_pos ⟨ho,rfl,rfl⟩]));clear h1 h2;have HB:=Ac w w;go_enter func8,ntmps8;go_wp2_with fail;refine (HM.out _ qD _ qJ qJ).mono ?_;rintro e w1 ⟨rfl,br⟩;have EL:=zP w br;clear br HM HB;by_cases h0:n=0
 ·subst h0;exact qEe
 ·obtain rfl:n'=0:=hz.resolve_left h0;have nn:((n:Int)==0)=false:=by rw [beq_eq_false_iff_ne];omega
  exact qEe
theorem pE (w:World) (o:Nat) (a:Γ) (n c:Nat) (r1:Bool) (h1:Eh w (.slice a n c) r1) (a':Γ) (n' c':Nat) (r2:Bool) (h2:Eh w (.slice a' n' c') r2) (r:Bool) (hr:r=true↔o≤2∧r1=true∧r2=true) :
  ∀(W:World),xp w W→∀L,Z W L 0 (.slice a n c)→Z W L 1 (.slice a' n' c')→Θ 19 #[.int .u8 o,.slice (E L) 2 2] W (fun e w'=>e=.returned (.bool r)∧xp W w'):=fun W hW L e1 e2=>by
 refine gV W o _ 2 2 (Ad _) qB (fun i=>if i=0 then .slice a n c else .slice a' n' c') (fun i=>if i=0 then r1 else r2) (.inr ⟨L,0,rfl,fun i hi=>?_⟩) (fun i hi=>?_) r ⟨fun h=>⟨(hr.1 h).1,fun i hi=>?_⟩,fun h=>hr.2 ⟨h.1,h.2 0 qB,h.2 1 qB⟩⟩
 ·rcases (by omega:i=0∨i=1) with rfl|rfl
  ·exact e1
  ·exact e2
 ·rcases (by omega:i=0∨i=1) with rfl|rfl
  ·exact h1.keep hW
  ·exact h2.keep hW
 ·rcases (by omega:i=0∨i=1) with rfl|rfl
  ·exact (hr.1 h).2.1
  ·exact (hr.1 h).2.2
theorem vC (w:World) (o:Nat) (a:Γ) (n c:Nat) (r1:Bool) (h1:Eh w (.slice a n c) r1) (a':Γ) (n' c':Nat) (r2:Bool) (h2:Eh w (.slice a' n' c') r2) (hr:¬(o≤2∧r1=true∧r2=true)) :
  Θ 7 #[.int .u8 o,.slice a n c,.slice a' n' c'] w (fun e w'=>e=.returned (.tuple #[.slice none 0 0,M 1])∧xp w w'):=by
 have HM:=Ae (pE w o a n c r1 h1 a' n' c' r2 h2 false ⟨fun h=>absurd h qI,fun h=>absurd h hr⟩);clear h1 h2 hr;have HB:=Ac w w;go_enter func7,ntmps7;go_wp2_with fail;refine (HM.out _ qD _ qJ qJ).mono ?_;rintro e w1 ⟨rfl,br⟩;have EL:=zP w br;clear br HM HB;go_wp2_with fail;refine bodyPost_ret (v:=.tuple #[.slice none 0 0,M 1]) (by simp [results,results7,go_sem]) rfl ?_;exact ⟨rfl,EL⟩
theorem iL (w:World) (o:Nat) (ho:o≤2) (a:Γ) (n c:Nat) (h1:Eh w (.slice a n c) true) (a':Γ) (n' c':Nat) (h2:Eh w (.slice a' n' c') true) (hz:n=0∨n'=0) :
  Θ 7 #[.int .u8 o,.slice a n c,.slice a' n' c'] w (fun e w'=>e=.returned (.tuple #[.slice none 0 0,M 6])∧xp w w'):=by
 have HM:=Ae (pE w o a n c true h1 a' n' c' true h2 true ⟨fun _=>Ax ho (Ax rfl rfl),fun _=>rfl⟩);clear h1 h2;have HB:=Ac w w;go_enter func7,ntmps7;go_wp2_with fail;refine (HM.out _ qD _ qJ qJ).mono ?_;rintro e w1 ⟨rfl,br⟩;have EL:=zP w br;clear br HM HB;by_cases h0:n=0
 ·subst h0;exact qEf
 ·obtain rfl:n'=0:=hz.resolve_left h0;have nn:((n:Int)==0)=false:=by rw [beq_eq_false_iff_ne];omega
  exact qEf
def tmX (t:Tm):PT:=(Bv t.m0 t.m1 t.m2 t.m3,(if t.g1 then -(val t.d1:Int) else (val t.d1:Int)),(val t.d2:Int))
def lst (p:Nat→Tm) (n:Nat):Δ:=(List.range n).map fun i=>tmX (p i)
theorem I5 (p:Nat→Tm) (n:Nat):(lst p n).length=n:=by simp [lst]
theorem uY (p:Nat→Tm) {i:Nat} (h:i<n):(lst p n)[i]? = some (tmX (p i)):=by
 unfold lst;rw [List.getElem?_map,List.getElem?_range h];rfl
theorem yU {t:Tm} (h:TOk t):CW (tmX t).2∧(tmX t).2.1≠0:=by
 obtain ⟨⟨o1,o2,e2,di,hg⟩,hd⟩:=h;have h1:=Cz o1.1 hd;have h2:=Cz o2.1 di;refine ⟨⟨by show (0:Int)<(val t.d2:Int);omega,?_⟩,?_⟩
 ·show Int.gcd (if t.g1 then -(val t.d1:Int) else (val t.d1:Int)) (val t.d2:Int)=1
  split
  ·rw [Int.neg_gcd];simpa [Int.gcd] using hg
  ·simpa [Int.gcd] using hg
 ·show (if t.g1 then -(val t.d1:Int) else (val t.d1:Int))≠0
  split<;>omega
theorem oX {t:Tm} (h:TOk t):Ey t (tmX t):=by
 obtain ⟨⟨o1,o2,e2,di,hg⟩,hd⟩:=h;have h1:=Cz o1.1 hd;refine ⟨?_,?_,?_,?_,rfl⟩
 ·show t.g1=decide ((if t.g1 then -(val t.d1:Int) else (val t.d1:Int))<0)
  cases t.g1
  ·rw [if_neg qI];simp
  ·rw [if_pos rfl];simp;omega
 ·show t.d1=dg (if t.g1 then -(val t.d1:Int) else (val t.d1:Int)).natAbs;have:(if t.g1 then -(val t.d1:Int) else (val t.d1:Int)).natAbs=val t.d1:=by split<;>omega
  rw [this,Gl o1.1]
 ·show t.g2=decide ((val t.d2:Int)<0);rw [e2];simp
 ·show t.d2=dg (val t.d2:Int).natAbs;rw [Int.natAbs_natCast,Gl o2.1]
theorem xY {s t:Tm} (hs:Dg w s) (ht:Dg w t) (h:Dd s.mono t.mono<0):(tmX s).1<(tmX t).1:=by
 unfold Tm.mono at h;rw [Lu hs.s0 hs.s1 hs.s2 hs.s3 ht.s0 ht.s1 ht.s2 ht.s3,Rh] at h;show Bv s.m0 s.m1 s.m2 s.m3<Bv t.m0 t.m1 t.m2 t.m3
 split at h
 ·assumption
 ·split at h<;>omega
theorem kZ {p:Nat→Tm} (hp:RdP w a n c p) (kx:POk p n):∀j,j<n→∀i,i<j→(tmX (p j)).1<(tmX (p i)).1:=by
 intro j
 induction j with
 | zero=>intro _ i hi;omega
 | succ j ih =>
  intro hj i hi;have h1:=xY (hp.tm (j+1) hj) (hp.tm j qB) ((kx (j+1) hj).2 qB);rcases Nat.lt_or_ge i j with h|h
  ·exact Nat.lt_trans h1 (ih qB i h)
  ·obtain rfl:i=j:=qB;exact h1
theorem xM {p:Nat→Tm} (hp:RdP w a n c p) (kx:POk p n):PW (lst p n):=by
 have CC:∀t∈lst p n,∃i,i<n∧t=tmX (p i):=fun t ht=>by
  obtain ⟨i,hi,rfl⟩:=List.mem_map.1 ht;exact ⟨i,List.mem_range.1 hi,rfl⟩
 refine ⟨?_,fun t ht=>?_,fun t ht=>?_⟩
 ·rw [Dh,List.pairwise_iff_getElem];intro i j hi hj BC;rw [I5] at hi hj;have e1:(lst p n)[i]'(by rw [I5];exact hi)=tmX (p i):=by simp [lst]
  have e2:(lst p n)[j]'(by rw [I5];exact hj)=tmX (p j):=by simp [lst]
  rw [e1,e2];exact kZ hp kx j hj i BC
 ·obtain ⟨i,hi,rfl⟩:=CC t ht;exact yU (kx i hi).1
 ·obtain ⟨i,hi,rfl⟩:=CC t ht;have h:=hp.tm i hi;exact Ka h.s0 h.s1 h.s2 h.s3
theorem Aat {p:Nat→Tm} (hp:RdP w a n c p) (kx:POk p n) (yg:a=none→c=0):Be w 0 a n c (lst p n):=by
 refine ⟨I5 p n,.inr fun x _=>Ba _,yg,p,hp,fun i x hx=>?_⟩;have hi:i<n:=by
  rcases Nat.lt_or_ge i n with h|h
  ·exact h
  ·rw [List.getElem?_eq_none (by rw [I5];exact h)] at hx;cases hx
 rw [uY p hi] at hx;obtain rfl:=Option.some.inj hx;exact ⟨oX (kx i hi).1,.inr fun x _=>Ba _,.inr fun x _=>Ba _⟩
theorem wE {p:Nat→Tm} (hp:RdP w a n c p) (kx:POk p n) (hK:∀i,i<n→(p i).n1≤K∧(p i).n2≤K):Cj K (lst p n):=by
 intro t ht;obtain ⟨i,hi,rfl⟩:=List.mem_map.1 ht;have hi:=List.mem_range.1 hi;have h1:=oX (kx i hi).1;have h2:=hp.tm i hi;rw [←h1.d1,←h1.d2,h2.top.len,h2.low.len];exact hK i hi
def Pf (o:Nat):Δ→Δ→Int×Δ
 | x::l,y::m=>if El o x l y m then (0,I8 o x l y m) else (3,[])
 | _,_=>(6,[])
def E9 (o:Nat) (r:Bool) (l m:Δ):Int×Δ:=if o≤2∧r=true then Pf o l m else (1,[])
theorem To (m:Δ):Pf o [] m=(6,[]):=by unfold Pf;rfl
theorem Ug (l:Δ):Pf o l []=(6,[]):=by cases l<;>(unfold Pf;rfl)
theorem Rg {o:Nat} {x y:PT} (h:El o x l y m=true):Pf o (x::l) (y::m)=(0,I8 o x l y m):=by rw [Pf,if_pos h]
theorem Tq {o:Nat} {x y:PT} (h:El o x l y m=false):Pf o (x::l) (y::m)=(3,[]):=by rw [Pf,if_neg (by rw [h];decide)]
def RetR (w:World) (z:Int×Δ) (e:Ending) (w':World):Prop :=
 ∃a n c,e=.returned (.tuple #[.slice a n c,M z.1])∧Be w' w a n c z.2∧Ca w' w a n c∧xp w w'
def Abb (w:World) (z:Int×Δ) (e:Ending) (w':World):Prop :=
 ∃a n c,e=.returned (.tuple #[.slice a n c,M z.1])∧Be w' w a n c z.2∧xp w w'
structure Zu (w:World) (a:Γ) (n c:Nat) (r:Bool) (l:Δ) (K:Nat):Prop where
 el:Eh w (.slice a n c) r
 at_:r=true→Be w 0 a n c l
 pw:r=true→PW l
 few:r=true→Cj K l
 len:l.length=n
 sz:n*(K+K+1)≤400000
 k:K≤10000
theorem jG (w:World) (o:Nat) (ho:o<256) (a:Γ) (n c:Nat) (r:Bool) (l:Δ) (K:Nat) (h:Zu w a n c r l K) (a':Γ) (n' c':Nat) (r':Bool) (m:Δ) (K':Nat) (h':Zu w a' n' c' r' m K') :
  Θ 7 #[.int .u8 o,.slice a n c,.slice a' n' c'] w (RetR w (E9 o (r&&r') l m)):=by
 by_cases hr:o≤2∧r=true∧r'=true
 ·obtain ⟨h1,rfl,rfl⟩:=hr;have hc:o≤2∧(true&&true)=true:=⟨h1,rfl⟩
  match l,m,h,h' with
  | [],m,h,h' =>
   have e:E9 o (true&&true) [] m=(6,[]):=by unfold E9;rw [if_pos hc,To]
   rw [e];refine (iL w o h1 a n c h.el a' n' c' h'.el (.inl (by have:=h.len;simpa using this.symm))).mono ?_;exact qDs
  | x::l,[],h,h' =>
   have e:E9 o (true&&true) (x::l) []=(6,[]):=by unfold E9;rw [if_pos hc,Ug]
   rw [e];refine (iL w o h1 a n c h.el a' n' c' h'.el (.inr (by have:=h'.len;simpa using this.symm))).mono ?_;exact qDs
  | x::l,y::m,h,h' =>
   refine (fF w o h1 0 a n c x l (h.at_ rfl) (h.pw rfl) K (h.few rfl) h.sz 0 a' n' c' y m (h'.at_ rfl) (h'.pw rfl) K' (h'.few rfl) h'.sz h.k h'.k).mono ?_;rintro e w' (⟨k1,a9,n9,c9,rfl,hp,ho,hb⟩|⟨k1,rfl,hb⟩)
   ·have e:E9 o (true&&true) (x::l) (y::m)=(0,I8 o x l y m):=by unfold E9;rw [if_pos hc,Rg k1]
    rw [e];exact ⟨a9,n9,c9,rfl,hp,ho,hb⟩
   ·have e:E9 o (true&&true) (x::l) (y::m)=(3,[]):=by unfold E9;rw [if_pos hc,Tq k1]
    rw [e];exact ⟨none,0,0,rfl,Be.nil _ _,Ca.nil _ _,hb⟩
 ·have e:E9 o (r&&r') l m=(1,[]):=qEz;rw [e];refine (vC w o a n c r h.el a' n' c' r' h'.el hr).mono ?_;exact qDs
theorem cM (w:World) (o:Nat) (ho:o<256) (a:Γ) (n c:Nat) (r:Bool) (l:Δ) (K:Nat) (h:Zu w a n c r l K) (a':Γ) (n' c':Nat) (r':Bool) (m:Δ) (K':Nat) (h':Zu w a' n' c' r' m K') :
  Θ 8 #[.int .u8 o,.slice a n c,.slice a' n' c'] w (Abb w (E9 o (r&&r') l m)):=by
 by_cases hr:o≤2∧r=true∧r'=true
 ·obtain ⟨h1,rfl,rfl⟩:=hr;have hc:o≤2∧(true&&true)=true:=⟨h1,rfl⟩
  match l,m,h,h' with
  | [],m,h,h' =>
   have e:E9 o (true&&true) [] m=(6,[]):=by unfold E9;rw [if_pos hc,To]
   rw [e];refine (Zp w o h1 a n c h.el a' n' c' h'.el (.inl (by have:=h.len;simpa using this.symm))).mono ?_;exact qEm
  | x::l,[],h,h' =>
   have e:E9 o (true&&true) (x::l) []=(6,[]):=by unfold E9;rw [if_pos hc,Ug]
   rw [e];refine (Zp w o h1 a n c h.el a' n' c' h'.el (.inr (by have:=h'.len;simpa using this.symm))).mono ?_;exact qEm
  | x::l,y::m,h,h' =>
   refine (sR w o h1 0 a n c x l (h.at_ rfl) (h.pw rfl) K (h.few rfl) h.sz 0 a' n' c' y m (h'.at_ rfl) (h'.pw rfl) K' (h'.few rfl) h'.sz h.k h'.k).mono ?_;rintro e w' (⟨k1,a9,n9,c9,rfl,hp,hb⟩|⟨k1,rfl,hb⟩)
   ·have e:E9 o (true&&true) (x::l) (y::m)=(0,I8 o x l y m):=by unfold E9;rw [if_pos hc,Rg k1]
    rw [e];exact ⟨a9,n9,c9,rfl,hp,hb⟩
   ·have e:E9 o (true&&true) (x::l) (y::m)=(3,[]):=by unfold E9;rw [if_pos hc,Tq k1]
    rw [e];exact ⟨none,0,0,rfl,Be.nil _ _,hb⟩
 ·have e:E9 o (r&&r') l m=(1,[]):=qEz;rw [e];refine (mN w o ho a n c r h.el a' n' c' r' h'.el hr).mono ?_;exact qEm
theorem lE {o:Nat} {r:Bool} {K':Nat} (hl:r=true→PW l∧Cj K l) (hm:r=true→PW m∧Cj K' m) (hk:K≤10000) (vn:K'≤10000) (hn:l.length≤400000) (rk:m.length≤400000):Cj 1000000 (E9 o r l m).2∧(E9 o r l m).2.length≤1000000:=by
 have nu:Cj 1000000 []∧([]:Δ).length≤1000000:=⟨fun t ht=>by simp at ht,qH⟩;unfold E9
 split
 ·rename_i hc;obtain ⟨h1,h2⟩:=hl hc.2;obtain ⟨h3,h4⟩:=hm hc.2
  match l,m,h1,h2,h3,h4,hn,rk with
  | [],m,_,_,_,_,_,_=>rw [To];exact nu
  | x::l,[],_,_,_,_,_,_=>rw [Ug];exact nu
  | x::l,y::m,h1,h2,h3,h4,hn,rk =>
   by_cases ho:El o x l y m=true
   ·rw [Rg ho];have ho2:=ho;unfold El at ho2;rw [Bool.and_eq_true] at ho2;have i1:=Gt o x l;have i2:=Gt o y m;have p1:=Jn h1 i1 ho2.1;have p2:=Jn h3 i2 ho2.2;show Cj 1000000 (I8 o x l y m)∧(I8 o x l y m).length≤1000000;rw [Wb h1 h3 ho];refine ⟨fun t ht=>Ch.mono (Cj.add _ _ p1.good (So p2).good (Mt h1 h2 i1) (bA p2 (Xe (-1)) (Mt h3 h4 i2) Zr) t ht) qB,?_⟩;refine Ah (Lr _ _) ?_;rw [Y5];unfold Dk;rw [List.length_map,List.length_map];omega
   ·rw [Tq (by simpa using ho)];exact nu
 ·exact nu
theorem lS (k:Nat) (h:k<d.length):Cg (d.take (k+1))=Cg (d.take k)++[.int .u32 (lim d k)]:=by
 rw [List.take_succ_eq_append_getElem h,Cv];simp [Cg,lim,Ai h]
theorem Hw (e:Ξ) (i:Nat) (h:i<d.length):lim (d++e) i=lim d i:=by simp [lim,Ay h]
theorem Vh (z:Nat):lim (d++[z]) d.length=z:=by simp [lim]
theorem Q4 {d e:Ξ} (h1:∀i,0≤lim d i∧lim d i<4294967296) (h2:∀i,0≤lim e i∧lim e i<4294967296) (i:Nat):0≤lim (d++e) i∧lim (d++e) i<4294967296:=by
 by_cases h:i<d.length
 ·rw [Hw d e i h];exact h1 i
 ·have:lim (d++e) i=lim e (i-d.length):=by simp [lim,Az (Nat.le_of_not_lt h)]
  rw [this];exact h2 _
structure Uk (s t:Tm):Prop where
 g1:s.g1=t.g1
 n1:s.n1=t.n1
 d1:s.d1=t.d1
 g2:s.g2=t.g2
 n2:s.n2=t.n2
 d2:s.d2=t.d2
 m0:s.m0=t.m0
 m1:s.m1=t.m1
 m2:s.m2=t.m2
 m3:s.m3=t.m3
structure Gh (w:World) (B:Nat) (t s:Tm):Prop where
 alike:Uk s t
 top:RdL w s.a1 (s.n1+1) s.c1 (s.d1++[77])
 low:RdL w s.a2 (s.n2+1) s.c2 (s.d2++[77])
 new1:K0 B s.a1
 new2:K0 B s.a2
theorem RdL.grown {d:Ξ} (h:RdL w a n c d) (hg:w.grownBy w' (some g)) (hn:K0 (g+1) a):RdL w' a n c d:=by
 refine ⟨h.len,h.cap,h.few,h.top,h.small,?_⟩;rcases h.cell with h0|⟨b,o,ha,hc⟩
 ·exact .inl h0
 ·refine .inr ⟨b,o,ha,fun i hi=>hg.cell (hc i hi) ?_⟩;have:=hn _ ha;simp at this ⊢;omega
theorem Gh.keep {t s:Tm} (h:Gh w B t s) (hb:xp w w'):Gh w' B t s:=⟨h.alike,h.top.keep hb,h.low.keep hb,h.new1,h.new2⟩
theorem Gh.mono {B':Nat} {t s:Tm} (h:Gh w B t s) (hB:B'≤B):Gh w B' t s:=⟨h.alike,h.top,h.low,h.new1.mono hB,h.new2.mono hB⟩
theorem Gh.grown {t s:Tm} (h:Gh w (g+1) t s) (hg:w.grownBy w' (some g)):Gh w' (g+1) t s:=⟨h.alike,h.top.grown hg h.new1,h.low.grown hg h.new2,h.new1,h.new2⟩
def Yb:Tm:=⟨false,none,0,0,[],false,none,0,0,[],77,77,77,0⟩
def Jt (w:World) (B:Nat) (a:Γ) (n c:Nat) (p s:Nat→Tm):Prop :=
 ∃b,a=some ⟨b,0,none⟩∧B≤b∧n<c∧c≤35184372088832∧(∀j,j<n→Nr w b (0+j*8) (s j)∧Gh w B (p j) (s j))∧Nr w b (0+n*8) Yb
def Aa9 (n:Nat) (p:Nat→Tm):Prop:=∀j,j<n→(p j).n1<35184372088832∧(p j).n2<35184372088832
structure Hl where
 a:Γ
 b:Nat
 n:Nat
 c:Nat
 m:Nat
structure Dn (w:World) (e:TypeId) (s B0 B:Nat) (h:Hl):Prop where
 le:h.n≤h.c
 few:h.n≤1000000
 top:h.c≤maxLen
 lies:h.c=0∨(h.a=some ⟨h.b,0,none⟩∧B0≤h.b∧h.b<B∧∃cur,w.heap[h.b]? = some (.cells cur e (0,0))∧h.c*s≤cur.size)
def Dq (p q:Hl×Value):Prop:=p.1.c≠0→q.1.c≠0→p.1.b≠q.1.b
def Dm (R:List (Hl×Value)):List Value:=R.flatMap fun p=>[.slice p.1.a p.1.n p.1.c,p.2,M p.1.m]
theorem Nj (R S:List (Hl×Value)):Dm (R++S)=Dm R++Dm S:=by simp [Dm]
theorem Pt (R:List (Hl×Value)):(Dm R).length=R.length*3:=by
 induction R with
 | nil=>rfl
 | cons p R ih=>show (_++Dm R).length=_;rw [A8,ih];simp;omega
theorem lI (R:List (Hl×Value)) (i:Nat) (p:Hl×Value) (h:R[i]? = some p):(Dm R)[i*3]? = some (.slice p.1.a p.1.n p.1.c)∧(Dm R)[i*3+1]? = some p.2∧(Dm R)[i*3+2]? = some (M p.1.m):=by
 induction R generalizing i with
 | nil=>simp at h
 | cons q R ih =>
  have e:Dm (q::R)=[.slice q.1.a q.1.n q.1.c,q.2,M q.1.m]++Dm R:=rfl;rw [e]
  cases i with
  | zero=>simp only [List.getElem?_cons_zero,Option.some.injEq] at h;subst h;simp
  | succ i =>
   have:=ih i (by simpa using h);rw [Az qL,Az qL,Az qL];simp only [List.length_cons,List.length_nil,Nat.zero_add,Nat.reduceAdd];rw [show (i+1)*3-3=i*3 from qB,show (i+1)*3+1-3=i*3+1 from qB,show (i+1)*3+2-3=i*3+2 from qB];exact this
structure Ec (S:Nat→Prop) (w w':World):Prop where
 os:w'.os=w.os
 output:w'.output=w.output
 size:w.heap.size≤w'
 block:∀g,g<w.heap.size→¬S g→w'.heap[g]? = w.heap[g]?
def inR (R:List (Hl×Value)) (g:Nat):Prop:=∃p∈R,p.1.c≠0∧g=p.1.b
structure Ck (w:World) (B0 B N:Nat) (Rl Rt:List (Hl×Value)):Prop where
 c0:Z w B 0 (M (N:Nat))
 nl:∀j,j=1∨(3≤j∧j≤5)∨(7≤j∧j≤12)→Z w B j (.slice none 0 0)
 fz:∀j,Y w B j
 l:∃v,Z w B 2 v∧w.ownsRow (B+1) 128 3 v Rl.length (Dm Rl)
 t:∃v,Z w B 6 v∧w.ownsRow (B+1) 122 3 v Rt.length (Dm Rt)
 hl:∀p∈Rl,Dn w 129 1 B0 B p.1
 ht:∀p∈Rt,Dn w 58 8 B0 B p.1
 al:Rl.Pairwise Dq
 at':Rt.Pairwise Dq
theorem Dn.kept {h:Hl} (hh:Dn w e s B0 B h) (hb:h.c≠0→w'.heap[h.b]? = w.heap[h.b]?):Dn w' e s B0 B h:=by
 refine ⟨hh.le,hh.few,hh.top,?_⟩;rcases hh.lies with h0|⟨h1,h2,h3,cur,h4,h5⟩
 ·exact .inl h0
 ·by_cases h0:h.c=0
  ·exact .inl h0
  ·exact .inr ⟨h1,h2,h3,cur,by rw [hb h0];exact h4,h5⟩
theorem Dn.keep {h:Hl} (hh:Dn w e s B0 B h) (hb:xp w w'):Dn w' e s B0 B h:=by
 refine hh.kept fun h0=>?_
 rcases hh.lies with h1|⟨_,_,_,cur,h4,_⟩
 ·exact absurd h1 h0
 ·exact hb.block _ (Ar.1 h4).1
theorem Dn.lt {h:Hl} (hh:Dn w e s B0 B h) (h0:h.c≠0):h.b<B:=by
 rcases hh.lies with h1|⟨_,_,h3,_⟩
 ·exact absurd h1 h0
 ·exact h3
theorem Dn.keepB {h:Hl} (hh:Dn w e s B0 B h) (hb:Below B w w'):Dn w' e s B0 B h:=hh.kept fun h0=>hb.block _ (hh.lt h0)
theorem Dn.other {e':TypeId} {s':Nat} {h:Hl} {R:List (Hl×Value)} (hh:Dn w e s B0 B h) (hR:∀p∈R,Dn w e' s' B0 B p.1) (di:e≠e') (h0:h.c≠0):¬inR R h.b:=by
 rintro ⟨p,hp,hc,e1⟩;rcases hh.lies with h1|⟨_,_,_,cur,h4,_⟩
 ·exact h0 h1
 ·rcases (hR p hp).lies with h1|⟨_,_,_,kj,SL,_⟩
  ·exact hc h1
  ·rw [e1,SL] at h4;simp only [Option.some.injEq,Obj.cells.injEq] at h4;exact di h4.2.1.symm
theorem M6 {base:Nat} {v:Value} {xs:List Value} (h:w.ownsRow base e s v n xs) (hb:Ec S w w') (hS:∀g,base≤g→¬S g):w'.ownsRow base e s v n xs:=by
 refine ⟨h.1,h.2.imp id fun⟨g,cap,cur,h1,h2,h3,h4⟩=>⟨g,cap,cur,h1,h2,?_,h4⟩⟩;rw [hb.block g (Ar.1 h3).1 (hS g h2)];exact h3
theorem Ck.keepS {N:Nat} {Rl Rt:List (Hl×Value)} (h:Ck w B0 B N Rl Rt) (hb:Ec S w w') (hS:∀g,B≤g→¬S g) (hl:∀p∈Rl,Dn w' 129 1 B0 B p.1) (ht:∀p∈Rt,Dn w' 58 8 B0 B p.1):Ck w' B0 B N Rl Rt:=by
 have hB:B<w.heap.size:=Aa _ _ h.c0;have hBb:=hb.block B hB (hS B (Ad _));have hc:∀j,w'.cell? ⟨B,j,none⟩=w.cell? (J B j):=fun j=>Af (a:=⟨B,j,none⟩) hBb
 have RN:∀g,B+1≤g→¬S g:=fun g hg=>hS g qB
 refine ⟨(hc 0).trans h.c0,fun j hj=>(hc j).trans (h.nl j hj),fun j=>(World.frozen?_of_block (a:=⟨B,j,none⟩) hBb).trans (h.fz j),?_,?_,hl,ht,h.al,h.at'⟩
 ·obtain ⟨v,h1,h2⟩:=h.l;exact ⟨v,(hc 2).trans h1,M6 h2 hb RN⟩
 ·obtain ⟨v,h1,h2⟩:=h.t;exact ⟨v,(hc 6).trans h1,M6 h2 hb RN⟩
theorem Fp (h:xp w w') (S:Nat→Prop):Ec S w w':=⟨h.os,h.output,h.size,fun g hg _=>h.block g hg⟩
theorem Ck.keep {N:Nat} {Rl Rt:List (Hl×Value)} (h:Ck w B0 B N Rl Rt) (hb:xp w w'):Ck w' B0 B N Rl Rt:=by
 have hB:B<w.heap.size:=Aa _ _ h.c0;refine h.keepS (Fp hb (fun _=>False)) (fun _ _=>id) (fun p hp=>(h.hl p hp).kept fun h0=>hb.block _ (by have:=(h.hl p hp).lt h0;omega)) (fun p hp=>(h.ht p hp).kept fun h0=>hb.block _ (by have:=(h.ht p hp).lt h0;omega))
theorem Kh {R:List (Hl×Value)} (hR:∀p∈R,Dn w e s B0 B p.1):∀g,B≤g→¬inR R g:=by
 rintro g hg ⟨p,hp,hc,rfl⟩;have:=(hR p hp).lt hc;omega
structure Eo (B:Nat) (w w':World):Prop where
 b:Below B w w'
 k:∀g,g<w.heap.size→g≠B→(∀cur e fz,w.heap[g]? = some (.cells cur e fz)→e≠128∧e≠122)→w'.heap[g]? = w.heap[g]?
theorem Eo.trans {w1 w2:World} (h:Eo B w w1) (h':Eo B w1 w2):Eo B w w2 :=
 ⟨h.b.trans h'.b,fun g hg hB ht=>by
  have e:=h.k g hg hB ht;rw [h'.k g (Nat.lt_of_lt_of_le hg h.b.size) hB (fun cur t fz hc=>ht cur t fz (by rw [←e];exact hc)),e]⟩
theorem Eo.of (h:xp w w') (hB:B≤w.heap.size):Eo B w w':=⟨h.mono hB,fun g hg _ _=>h.block g hg⟩
theorem Eo.box {cur:Array Value} (h:Eo B w w') (hg:w.heap[g]? = some (.cells cur e fz)) (hB:g≠B) (h1:e≠128) (h2:e≠122):w'.heap[g]? = some (.cells cur e fz):=by
 rw [h.k g (Ar.1 hg).1 hB (fun kj e' fz' hc=>by rw [hg] at hc;cases hc;exact ⟨h1,h2⟩)];exact hg
def Dr (w:World) (s:Nat) (mk:Nat→List Value) (b n m:Nat):Prop:=∀k,k<n→∀j,j<s→w.cell? ⟨b,k*s+j,none⟩=(mk m)[j]?
end Go.Proofs.YtfijkfdfbnfmmaaGreatDoor
end
