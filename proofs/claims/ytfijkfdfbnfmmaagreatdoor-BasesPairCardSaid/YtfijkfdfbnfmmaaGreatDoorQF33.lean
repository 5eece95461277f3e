/- Package bases: Pair. -/
import Derived.Test.YtfijkfdfbnfmmaaGreatDoorQF32
set_option linter.unusedSimpArgs false
set_option linter.unusedVariables false
set_option maxRecDepth 100000
set_option maxHeartbeats 4000000
section
namespace Go.Proofs.YtfijkfdfbnfmmaaGreatDoor
open Go.RowKit Proofs.Tryz
variable (o:Nat) {L:List (Δ)} {xs:List Value} {n K g i B c B' D b gb:Nat} {fz:Nat×Nat} {t ty:TypeId} {v:Value} {w w':World} {a:Γ} {l:Δ} {d:Ξ}
def sF (w:World) (o:Nat) (x:PT) (l:Δ) (y:PT) (m:Δ) (e:Ending) (w':World):Prop :=
 (El o x l y m=true∧∃a n c,e=.returned (.tuple #[.slice a n c,M 0])∧Be w' w a n c (I8 o x l y m)∧Ca w' w a n c∧xp w w')∨(El o x l y m=false∧e=.returned (.tuple #[.slice none 0 0,M 3])∧xp w w')
theorem Sl.uni {l':Δ} {e:Ending} (h:Sl w l l' e w'):∃a n c,∃z:Int,e=.returned (.tuple #[.slice a n c,M z])∧(z=0∧Cm l l'=true∧Be w' w a n c (Jk l l')∨z=3∧Cm l l'=false)∧xp w w':=by
 rcases h with ⟨h1,a,n,c,rfl,h2,-,h3⟩|⟨h1,rfl,h3⟩
 ·exact ⟨a,n,c,0,rfl,.inl ⟨rfl,h1,h2⟩,h3⟩
 ·exact ⟨none,0,0,3,rfl,.inr ⟨rfl,h1⟩,h3⟩
theorem Oy (x:PT) (l:Δ):B8 o x l∈x::l:=by
 rcases J5 o l x with h|h
 ·rw [h];simp
 ·simp [h]
theorem fN {s t:Tm} {a b:PT} (hs:Ey s a) (hr:Dg w s) (ht:Ey t b) (BA:Dg w t):Bv (max s.m0 t.m0-s.m0) (max s.m1 t.m1-s.m1) (max s.m2 t.m2-s.m2) (max s.m3 t.m3-s.m3)=Gg a.1 b.1-a.1:=by
 have e1:=Dz hr.s1 hr.s2 hr.s3 hr.s0;have e2:=Dz BA.s1 BA.s2 BA.s3 BA.s0;rw [hs.key] at e1;rw [ht.key] at e2;unfold Gg;rw [e1.1,e1.2.1,e1.2.2.1,e1.2.2.2,e2.1,e2.2.1,e2.2.2.1,e2.2.2.2,←hs.key];unfold Bv;omega
theorem iE {s t:Tm} {a b:PT} (hs:Ey s a) (hr:Dg w s) (ht:Ey t b) (BA:Dg w t):Bv (max s.m0 t.m0-t.m0) (max s.m1 t.m1-t.m1) (max s.m2 t.m2-t.m2) (max s.m3 t.m3-t.m3)=Gg b.1 a.1-b.1:=by
 have:=fN ht BA hs hr;rw [Nat.max_comm s.m0,Nat.max_comm s.m1,Nat.max_comm s.m2,Nat.max_comm s.m3];exact this
theorem wW (hn:l.length=n) (hl:PW l) (hK:Cj K l) (hnK:n*(K+K+1)≤400000) {a:PT} (ha:a∈l) (k0:Nat) (k:Nat):wtk (C4 l [(k0,Fl a.2)]) k≤400000:=by
 have h1:=Yj (C4 l [(k0,Fl a.2)]) k;have h2:=Yz (p:=l) (q:=[(k0,Fl a.2)]) (K:=K) (K':=K) (fun t ht=>(hl.good t ht).1) (fun t ht=>by simp only [Ao] at ht;subst ht;exact Kw (hl.good a ha).2) hK (fun t ht=>by simp only [Ao] at ht;subst ht;exact I9 (hK a ha));rw [hn,List.length_singleton,Nat.mul_one] at h2;omega
theorem oD (hl:PW l) (hK:Cj K l) {a:PT} (ha:a∈l) {k0:Nat} (qp:k0<18446744073709551616) (ho:Cm l [(k0,Fl a.2)]=true):PW (Jk l [(k0,Fl a.2)])∧Cj (K+K) (Jk l [(k0,Fl a.2)])∧(Jk l [(k0,Fl a.2)]).length=l.length:=by
 have hc:=Kw (y:=a.2) (hl.good a ha).2;have hn:=Qk (y:=a.2) (hl.good a ha).2 (hl.good a ha).1.pos;rw [Ln hl hc hn qp ho];refine ⟨Qn hl hc hn qp ho,fun t ht=>?_,by simp [Dk]⟩;obtain ⟨s,hs,rfl⟩:=List.mem_map.1 ht;exact Ch.mul (hl.good s hs).1 hc (hK s hs) (I9 (hK a ha))
theorem fF (w:World) (o:Nat) (ho:o≤2) (B:Nat) (a:Γ) (n c:Nat) (x:PT) (l:Δ) (h:Be w B a n c (x::l)) (hl:PW (x::l)) (K:Nat) (hK:Cj K (x::l)) (hnK:n*(K+K+1)≤400000)
  (B':Nat) (a':Γ) (n' c':Nat) (y:PT) (m:Δ) (h':Be w B' a' n' c' (y::m)) (hl':PW (y::m)) (K':Nat) (hK':Cj K' (y::m)) (MD:n'*(K'+K'+1)≤400000) (hk:K≤10000) (vn:K'≤10000) :
  Θ 7 #[.int .u8 o,.slice a n c,.slice a' n' c'] w (sF w o x l y m):=by
 have hn:0<n:=by have:=h.len;simp at this;omega
 have rk:0<n':=by have:=h'.len;simp at this;omega
 have HB:=Ac w w;have P1:=Ae h;have P2:=Ae h';have Q1:=Ae (Ax hl (Ax hK hnK));have Q2:=Ae (Ax hl' (Ax hK' MD));have nn:((n:Int)==0)=false:=by rw [beq_eq_false_iff_ne];omega
 have nn':((n':Int)==0)=false:=by rw [beq_eq_false_iff_ne];omega
 have CM:∀(W:World),Below w w W→∀L,Z W L 0 (.slice a n c)→Z W L 1 (.slice a' n' c')→Θ 19 #[.int .u8 o,.slice (E L) 2 2] W (fun e w'=>e=.returned (.bool true)∧Below W W w'):=fun W hW L e1 e2=>by
  refine gV W o _ 2 2 (Ad _) qB (fun i=>if i=0 then .slice a n c else .slice a' n' c') (fun _=>true) (.inr ⟨L,0,rfl,fun i hi=>?_⟩) (fun i hi=>?_) true ⟨fun _=>⟨ho,fun _ _=>rfl⟩,fun _=>rfl⟩
  ·rcases (by omega:i=0∨i=1) with rfl|rfl
   ·exact e1
   ·exact e2
  ·rcases (by omega:i=0∨i=1) with rfl|rfl
   ·exact Eh.of (P1.out.keep hW) Q1.out.1 Q1.out.2.1 qB
   ·exact Eh.of (P2.out.keep hW) Q2.out.1 Q2.out.2.1 qB
 have HM:=Ae CM;clear CM h h' hl hK hnK hl' hK' MD;go_enter func7,ntmps7;go_wp2_with fail;refine (HM.out _ qD _ qJ qJ).mono ?_;rintro e w1 ⟨rfl,br⟩;have EL:=zP w br;clear br HM HB;go_wp2_with fail;refine (Yo w1 B a n c x l (P1.out.keep EL) Q1.out.1 K Q1.out.2.1 qB o ho).mono ?_;rintro e w2 ⟨s,rfl,hs,lj,ln,nk,bp⟩;have XG:=xo EL bp;have zz2:=bp.size;clear bp EL;go_wp2_with fail;refine Bt ?_;intro w3 eb;have TA:Dt w3 w2 s:=by rw [eb];exact Dt.new w2 s
 have b3:Below w2 w2 w3:=by rw [eb];go_grown
 have Bw3:=xo XG b3;clear eb;have S3:=Ae (Ax hs (Ax (lj.keep b3) (Ax (ln.keep b3) (nk.keep b3))));have zb3:=b3.size;have zB2:=XG.size;generalize w2.heap.size=A at *;clear hs lj ln nk XG b3;refine (Yo w3 B' a' n' c' y m (P2.out.keep Bw3) Q2.out.1 K' Q2.out.2.1 qB o ho).mono ?_;rintro e w4 ⟨t,rfl,ht,kz,oh,js,ec⟩;have Bw4:=xo Bw3 ec;have XH:=TA.keep ec;have S4:=Ae (Ax S3.out.1 (Ax (S3.out.2.1.keep ec) (Ax (S3.out.2.2.1.keep ec) (S3.out.2.2.2.keep ec))));have zb4:=ec.size;clear ec TA S3;have TAk:=XH;have hAT:A<w4.heap.size:=XH.lt;have nA:¬w4.heap.size=A:=qB;have ME:¬A=w4.heap.size:=qB;obtain ⟨-,-,-,-,a4,a5,a6,a7,-,-,-,-,-,-,-,-⟩:=XH;go_wp2_with fail;refine Bt ?_;intro w5 iy;have TB:Dt w5 w4 t:=by rw [iy];exact Dt.new w4 t
 have b5:Below w4 w4 w5:=by rw [iy];go_grown
 have TA5:=TAk.keep b5;have Bw5:=xo Bw4 b5;have U5:=Ae (Ax ht (Ax (kz.keep b5) (Ax (oh.keep b5) (js.keep b5))));have S5:=Ae (Ax S4.out.1 (Ax (S4.out.2.1.keep b5) (Ax (S4.out.2.2.1.keep b5) (S4.out.2.2.2.keep b5))));have zb5:=b5.size;clear nA ME;clear iy ht kz oh js TAk S4 b5 a4 a5 a6 a7;generalize w4.heap.size=D at *;have r1:=S5.out.2.1;have r2:=U5.out.2.1;have CN:Θ 21 #[Cd s.m0 s.m1 s.m2 s.m3,Cd t.m0 t.m1 t.m2 t.m3] w5 (fun e w'=>∃k0 k1 k2 k3:Nat,e=.returned (.agg #[U k0,U k1,U k2,U k3])∧(k0=max s.m0 t.m0∧k1=max s.m1 t.m1∧k2=max s.m2 t.m2∧k3=max s.m3 t.m3)∧Below w5 w5 w'):=(wY w5 _ _ _ _ _ _ _ _ r1.s0 r1.s1 r1.s2 r1.s3 r2.s0 r2.s1 r2.s2 r2.s3).mono fun e w' ⟨e1,e2⟩=>⟨_,_,_,_,e1,⟨rfl,rfl,rfl,rfl⟩,e2⟩
 clear r1 r2;refine CN.mono ?_;rintro e w6 ⟨k0,k1,k2,k3,rfl,hks,ee⟩;have MF:=Ae hks;have TA6:=TA5.keep ee;have TB6:=TB.keep ee;have Bw6:=xo Bw5 ee;have zb6:=ee.size;have EM:=TA6;have EN:=TB6;have LA:A<w6.heap.size:=EM.lt;have LD:D<w6.heap.size:=EN.lt;have nA:¬w6.heap.size=A:=qB;have ME:¬A=w6.heap.size:=qB;obtain ⟨-,-,-,-,a4,a5,a6,a7,-,-,-,-,-,-,-,-⟩:=TA6;clear hks CN TA5 TB TB6;have b56:=ee;clear ee;go_wp2_with fail;refine Bt ?_;intro w7 mb;have MB:B4 w7 w6 (U k0) (U k1) (U k2) (U k3):=by rw [mb];constructor<;>simp [go_sem]
 have DJ:Below w6 w6 w7:=by rw [mb];go_grown
 have zb7:=DJ.size;have TA7:=EM.keep DJ;have QR:=EN.keep DJ;have b57:=b56.trans (DJ.mono zb6);clear mb nA ME a4 a5 a6 a7 EM EN b56 DJ;generalize w6.heap.size=zh at *;have r1:=S5.out.2.1;have r2:=U5.out.2.1;have JH:Θ 22 #[Cd k0 k1 k2 k3,Cd s.m0 s.m1 s.m2 s.m3] w7 (fun e w'=>∃u0 u1 u2 u3:Nat,e=.returned (.tuple #[.agg #[U u0,U u1,U u2,U u3],.bool true])∧(u0=k0-s.m0∧u1=k1-s.m1∧u2=k2-s.m2∧u3=k3-s.m3)∧Below w7 w7 w'):=by
  obtain ⟨e0,e1,e2,e3⟩:=MF.out;have q0:=r1.s0;have q1:=r1.s1;have q2:=r1.s2;have q3:=r1.s3;have p0:=r2.s0;have p1:=r2.s1;have p2:=r2.s2;have p3:=r2.s3;refine (Jm w7 k0 k1 k2 k3 s.m0 s.m1 s.m2 s.m3 qB qB qB qB q0 q1 q2 q3 true (by rw [decide_eq_true qB,decide_eq_true qB,decide_eq_true qB,decide_eq_true qB];rfl)).mono ?_;exact qFi
 have XI:∀W,Θ 22 #[Cd k0 k1 k2 k3,Cd t.m0 t.m1 t.m2 t.m3] W (fun e w'=>∃u0 u1 u2 u3:Nat,e=.returned (.tuple #[.agg #[U u0,U u1,U u2,U u3],.bool true])∧(u0=k0-t.m0∧u1=k1-t.m1∧u2=k2-t.m2∧u3=k3-t.m3)∧Below W W w'):=fun W=>by
  obtain ⟨e0,e1,e2,e3⟩:=MF.out;have q0:=r1.s0;have q1:=r1.s1;have q2:=r1.s2;have q3:=r1.s3;have p0:=r2.s0;have p1:=r2.s1;have p2:=r2.s2;have p3:=r2.s3;refine (Jm W k0 k1 k2 k3 t.m0 t.m1 t.m2 t.m3 qB qB qB qB p0 p1 p2 p3 true (by rw [decide_eq_true qB,decide_eq_true qB,decide_eq_true qB,decide_eq_true qB];rfl)).mono ?_;exact qFi
 have JD:=Ae XI;clear r1 r2 XI;refine JH.mono ?_;rintro e w8 ⟨u0,u1,u2,u3,rfl,DM,jt⟩;have HU:=Ae DM;have zb8:=jt.size;have XJ:=MB.keep jt;have TA8:=TA7.keep jt;have TB8:=QR.keep jt;have b58:=b57.trans (jt.mono qB);have XK:=XJ;have MG:=TB8;have LM:zh<w8.heap.size:=XJ.lt;have LD8:D<w8.heap.size:=qB;have nM:¬w8.heap.size=zh:=qB;have nM':¬zh=w8.heap.size:=qB;have nD:¬w8.heap.size=D:=qB;have nD':¬D=w8.heap.size:=qB;obtain ⟨c0,c1,c2,c3,-,-,-,-⟩:=XJ;obtain ⟨-,-,-,-,a4,a5,a6,a7,-,-,-,-,-,-,-,-⟩:=TB8;clear DM JH MB TA7 QR b57 jt;go_wp2_with fail;refine Bt ?_;intro w9 yw;have UB:B4 w9 w8 (U u0) (U u1) (U u2) (U u3):=by rw [yw];constructor<;>simp [go_sem]
 have DN:Below w8 w8 w9:=by rw [yw];go_grown
 have zb9:=DN.size;have TA9:=TA8.keep DN;have TB9:=MG.keep DN;have b59:=b58.trans (DN.mono qB);clear yw nM nM' nD nD' c0 c1 c2 c3 a4 a5 a6 a7 TA8 MG XK b58 DN LM LD8;generalize w8.heap.size=zg at *;refine (JD.out w9).mono ?_;rintro e AE ⟨v0,v1,v2,v3,rfl,hvs,kk⟩;have HV:=Ae hvs;have aob:=kk.size;have IK:=UB.keep kk;have EP:=TA9.keep kk;have QZ:=TB9.keep kk;have MH:=b59.trans (kk.mono qB);have FT:=EP;have LU:zg<AE.heap.size:=IK.lt;have aez:A<AE.heap.size:=EP.lt;have nU:¬AE.heap.size=zg:=qB;have nU':¬zg=AE.heap.size:=qB;have nA:¬AE.heap.size=A:=qB;have ME:¬A=AE.heap.size:=qB;obtain ⟨c0,c1,c2,c3,-,-,-,-⟩:=IK;obtain ⟨a0,a1,a2,a3,-,-,-,-,-,-,-,-,-,-,-,-⟩:=EP;clear hvs UB TA9 TB9 b59 kk JD;go_wp2_with fail;refine Bt ?_;intro BJ ER;have VB:B4 BJ AE (U v0) (U v1) (U v2) (U v3):=by rw [ER];constructor<;>simp [go_sem]
 have px:Below AE AE BJ:=by rw [ER];go_grown
 have aod:=px.size;have MI:=QZ.keep px;have AU:=MH.trans (px.mono qB);have ae0:=xo Bw5 AU;clear ER nU nU' nA ME c0 c1 c2 c3 a0 a1 a2 a3 FT QZ MH px LU aez;generalize AE.heap.size=V at *;have XL:=Oy o x l;have hmb:=Oy o y m;have yg:=P1.out.len;have DY:=P2.out.len;have EK:Bv u0 u1 u2 u3=Gg (B8 o x l).1 (B8 o y m).1-(B8 o x l).1:=by
  obtain ⟨e0,e1,e2,e3⟩:=MF.out;obtain ⟨f0,f1,f2,f3⟩:=HU.out;rw [←fN S5.out.1 S5.out.2.1 U5.out.1 U5.out.2.1,f0,f1,f2,f3,e0,e1,e2,e3]
 have EK':Bv v0 v1 v2 v3=Gg (B8 o y m).1 (B8 o x l).1-(B8 o y m).1:=by
  obtain ⟨e0,e1,e2,e3⟩:=MF.out;obtain ⟨f0,f1,f2,f3⟩:=HV.out;rw [←iE S5.out.1 S5.out.2.1 U5.out.1 U5.out.2.1,f0,f1,f2,f3,e0,e1,e2,e3]
 have yr:Hid ((u0<65536∧u1<65536∧u2<65536∧u3<65536)∧v0<65536∧v1<65536∧v2<65536∧v3<65536):=by
  obtain ⟨e0,e1,e2,e3⟩:=MF.out;obtain ⟨f0,f1,f2,f3⟩:=HU.out;obtain ⟨g0,g1,g2,g3⟩:=HV.out;have r1:=S5.out.2.1;have r2:=U5.out.2.1;have q0:=r1.s0;have q1:=r1.s1;have q2:=r1.s2;have q3:=r1.s3;have p0:=r2.s0;have p1:=r2.s1;have p2:=r2.s2;have p3:=r2.s3;exact Ae qB
 have HEK:=Ae (Ax EK EK');have KX:=Q1.out.1.good _ XL;have qq:=Q2.out.1.good _ hmb;have hfa:=(S5.out.1.frac S5.out.2.1 KX.1).keep AU;have hfb:=(U5.out.1.frac U5.out.2.1 qq.1).keep AU;have qv:n≤400000:=by
  have:=Q1.out.2.2;have h9:n*1≤n*(K+K+1):=Nat.mul_le_mul (Ad _) qB;omega
 have qg:n'≤400000:=by
  have:=Q2.out.2.2;have h9:n'*1≤n'*(K'+K'+1):=Nat.mul_le_mul (Ad _) qB;omega
 have MA:s.n1≤K∧s.n2≤K:=by
  have h8:=S5.out.2.1.top.len;have h7:=S5.out.2.1.low.len;rw [S5.out.1.d1] at h8;rw [S5.out.1.d2] at h7;have:=Q1.out.2.1 _ XL;exact qFc
 have NV:t.n1≤K'∧t.n2≤K':=by
  have h8:=U5.out.2.1.top.len;have h7:=U5.out.2.1.low.len;rw [U5.out.1.d1] at h8;rw [U5.out.1.d2] at h7;have:=Q2.out.2.1 _ hmb;exact qFc
 refine ((Wj BJ B a n c (x::l) (P1.out.keep ae0) Q1.out.1 K Q1.out.2.1 qB qv u0 u1 u2 u3 yr.out.1.1 yr.out.1.2.1 yr.out.1.2.2.1 yr.out.1.2.2.2 _ _ _ _ _ _ _ _ (B8 o x l).2 hfa KX.1 KX.2 qB qB (wW yg Q1.out.1 Q1.out.2.1 Q1.out.2.2 XL _)).mono fun e w' h=>h.uni).mono ?_;rintro e XM ⟨ax,nx,cx,zx,rfl,hX,ia⟩;have HX:=Ae hX;have aoe:=VB.keep ia;have aof:=MI.keep ia;have a16:=ia.size;have ae1:=xo ae0 ia;have TK:=hfb.keep ia;clear VB MI hX hfa hfb AU;obtain ⟨c0,c1,c2,c3,-,-,-,-⟩:=aoe;obtain ⟨a0,a1,a2,a3,-,-,-,-,-,-,-,-,-,-,-,-⟩:=aof;go_wp2_with fail;refine ((Wj XM B' a' n' c' (y::m) (P2.out.keep ae1) Q2.out.1 K' Q2.out.2.1 qB qg v0 v1 v2 v3 yr.out.2.1 yr.out.2.2.1 yr.out.2.2.2.1 yr.out.2.2.2.2 _ _ _ _ _ _ _ _ (B8 o y m).2 TK qq.1 qq.2 qB qB (wW DY Q2.out.1 Q2.out.2.1 Q2.out.2.2 hmb _)).mono fun e w' h=>h.uni).mono ?_;rintro e XN ⟨ay,ny,cy,zy,rfl,hY,RA⟩;have HY:=Ae hY;have MJ:=xo ae1 RA;have aog:Hid (Cm (x::l) [(Bv u0 u1 u2 u3,Fl (B8 o x l).2)]=true→Be XN BJ ax nx cx (Jk (x::l) [(Bv u0 u1 u2 u3,Fl (B8 o x l).2)])):=Ae fun h=>by
  rcases HX.out with ⟨-,-,h2⟩|⟨-,h2⟩
  ·exact h2.keep RA
  ·rw [h] at h2;cases h2
 have a18:=RA.size;clear hY RA ia TK c0 c1 c2 c3 a0 a1 a2 a3;have hpk:Hid (El o x l y m=(Cm (x::l) [(Bv u0 u1 u2 u3,Fl (B8 o x l).2)]&&Cm (y::m) [(Bv v0 v1 v2 v3,Fl (B8 o y m).2)])):=Ae (by unfold El upT;rw [HEK.out.1,HEK.out.2]);rcases HX.out with ⟨rfl,ox,-⟩|⟨rfl,ox⟩
 ·rcases HY.out with ⟨rfl,oy,hPy⟩|⟨rfl,oy⟩
  ·have SX:=oD Q1.out.1 Q1.out.2.1 XL (Ka yr.out.1.1 yr.out.1.2.1 yr.out.1.2.2.1 yr.out.1.2.2.2) ox;have SY:=oD Q2.out.1 Q2.out.2.1 hmb (Ka yr.out.2.1 yr.out.2.2.1 yr.out.2.2.2.1 yr.out.2.2.2.2) oy;have hPx:=aog.out ox;have HPS:=Ae (show I8 o x l y m=Sd (Jk (x::l) [(Bv u0 u1 u2 u3,Fl (B8 o x l).2)]) (Jk (y::m) [(Bv v0 v1 v2 v3,Fl (B8 o y m).2)]) by unfold I8 upT;rw [HEK.out.1,HEK.out.2]);have HOX:=Ae (Ax ox oy);clear ox oy;generalize Jk (x::l) [(Bv u0 u1 u2 u3,Fl (B8 o x l).2)]=X at *;generalize Jk (y::m) [(Bv v0 v1 v2 v3,Fl (B8 o y m).2)]=zb at *;have AO:=hPx.len;have VR:=hPy.len;have es:Ti (-1,1) zb=Ej (-1,1) zb:=Mu (Xh SY.1);have hwy:∀k,wtk (Ej (-1,1) zb) k≤400000:=fun k=>by
    have h1:=Yj (Ej (-1,1) zb) k;have h2:wt (Ej (-1,1) zb)≤(Ej (-1,1) zb).length*(K'+K'+1):=nC fun t ht=>Xw SY.1 SY.2.1 t ht
    rw [show (Ej (-1,1) zb).length=n' by simp [Ej];rw [SY.2.2];exact DY] at h2;have:=Q2.out.2.2;omega
   have CP:=xC XN BJ ax nx cx X hPx SX.1 (K+K) SX.2.1 XM ay ny cy zb hPy SY.1 (K'+K') SY.2.1 (by rw [es];exact Xh SY.1) (by rw [es];exact Xw SY.1 SY.2.1) (by rw [es];simp [Ej];rw [SY.2.2];omega) qB (by rw [←AO,SX.2.2];omega) (by rw [←VR,SY.2.2];omega) hwy;have HS:=Ae CP;clear CP SX SY hPx hPy AO VR es hwy;go_wp2_with fail;refine HS.out.mono ?_;rintro e MK ⟨az,nz,cz,rfl,hPz,hOz,aok⟩;go_wp2_with fail;refine bodyPost_ret (v:=.tuple #[.slice az nz cz,M 0]) (by simp [results,results7,go_sem]) rfl ?_;refine .inl ⟨by rw [hpk.out,HOX.out.1,HOX.out.2];rfl,az,nz,cz,rfl,?_,hOz.mono MJ.size,(xo MJ aok)⟩;rw [HPS.out];exact hPz.mono MJ.size
  ·have HO:=Ae oy;clear oy;go_wp2_with fail;refine bodyPost_ret (v:=.tuple #[.slice none 0 0,M 3]) (by simp [results,results7,go_sem]) rfl ?_;exact .inr ⟨by rw [hpk.out,HO.out,Bool.and_false],rfl,MJ⟩
 ·have HO:=Ae ox;clear ox;go_wp2_with fail;refine bodyPost_ret (v:=.tuple #[.slice none 0 0,M 3]) (by simp [results,results7,go_sem]) rfl ?_;exact .inr ⟨by rw [hpk.out,HO.out,Bool.false_and],rfl,MJ⟩
theorem vL (w:World) (o:Nat) (ho:o≤2) (B:Nat) (a:Γ) (n c:Nat) (x:PT) (l:Δ) (h:Be w B a n c (x::l)) (hl:PW (x::l)) (K:Nat) (hK:Cj K (x::l)) (QF:K≤100000) (hn:n≤400000) (hw:∀k,wtk (Ej (Fl (B8 o x l).2) (x::l)) k≤400000) :
  Θ 78 #[.int .u8 o,.slice a n c] w (Fy w (Fx o x l)):=by
 have HB:=Ac w w;have P1:=Ae h;have Q1:=Ae (Ax hl (Ax hK hw));clear h hl hK hw;go_enter func78,ntmps78;go_wp2_with fail;refine (Yo w B a n c x l P1.out Q1.out.1 K Q1.out.2.1 qB o ho).mono ?_;rintro e w2 ⟨s,rfl,hs,lj,ln,nk,bp⟩;have XL:=Oy o x l;have KX:=Q1.out.1.good _ XL;have MA:s.n1≤K∧s.n2≤K:=by
  have h8:=lj.top.len;have h7:=lj.low.len;rw [hs.d1] at h8;rw [hs.d2] at h7;have:=Q1.out.2.1 _ XL;exact qFc
 have eh:=hs.frac lj KX.1;have HS:=Ae (Ax hs lj);clear hs lj ln nk HB;go_wp2_with fail;refine Bt ?_;intro w3 eb;have b3:xp w2 w3:=by rw [eb];go_grown
 have B3:=xo bp b3;clear eb;refine (by_c w3 B a n c (x::l) (P1.out.keep B3) Q1.out.1 K Q1.out.2.1 qB hn _ _ _ _ _ _ _ _ (B8 o x l).2 (eh.keep b3) KX.2 qB qB Q1.out.2.2).mono ?_;rintro e w4 ⟨a4,n4,c4,rfl,P4,O4,ec⟩;go_wp2_with fail;refine bodyPost_ret (v:=.slice a4 n4 c4) (by simp [results,results78,go_sem]) rfl ?_;exact ⟨_,_,_,rfl,P4.mono B3.size,O4.mono B3.size,(xo B3 ec)⟩
def apB (a0 a1 a2 a3 b0 b1 b2 b3:Nat):Bool:=(decide (a0=0) || decide (b0=0))&&(decide (a1=0) || decide (b1=0))&&(decide (a2=0) || decide (b2=0))&&(decide (a3=0) || decide (b3=0))
theorem tL (w:World) (a0 a1 a2 a3 b0 b1 b2 b3:Nat) :
  Θ 79 #[.agg #[U a0,U a1,U a2,U a3],.agg #[U b0,U b1,U b2,U b3]] w fun e w'=>e=.returned (.bool (apB a0 a1 a2 a3 b0 b1 b2 b3))∧xp w w':=by
 have HB:=Ac w w;go_enter func79,ntmps79;go_wp2_with fail;refine Bx ?_;intro w1 fk;have HF:Hid (∀i,i<4→Z w1 w i (U (Ev a0 a1 a2 a3 i))):=Ae (fun i hi=>by
  rw [fk]
  match i,hi with
  | 0,_=>simp [go_sem,Ev]
  | 1,_=>simp [go_sem,Ev]
  | 2,_=>simp [go_sem,Ev]
  | 3,_=>simp [go_sem,Ev])
 have HG:Hid (∀i,i<4→Z w1 (w+1) i (U (Ev b0 b1 b2 b3 i))):=Ae (fun i hi=>by
  rw [fk]
  match i,hi with
  | 0,_=>simp [go_sem,Ev]
  | 1,_=>simp [go_sem,Ev]
  | 2,_=>simp [go_sem,Ev]
  | 3,_=>simp [go_sem,Ev])
 have b1w:xp w w1:=by rw [fk];go_grown
 clear fk HB;have HD:=Ae (show apB a0 a1 a2 a3 b0 b1 b2 b3=true↔∀j,j<4→Ev a0 a1 a2 a3 j=0∨Ev b0 b1 b2 b3 j=0 by
  unfold apB;simp only [Bool.and_eq_true,Bool.or_eq_true,decide_eq_true_eq];constructor
  ·rintro ⟨⟨⟨h0,h1⟩,h2⟩,h3⟩ j hj
   match j,hj with
   | 0,_=>exact h0
   | 1,_=>exact h1
   | 2,_=>exact h2
   | 3,_=>exact h3
  ·intro h;exact ⟨⟨⟨h 0 qB,h 1 qB⟩,h 2 qB⟩,h 3 qB⟩)
 go_loopw [6] (fun v6 wr=>∃k:Nat,k≤4∧v6=M k∧Hid (∀j,j<k→Ev a0 a1 a2 a3 j=0∨Ev b0 b1 b2 b3 j=0)∧wr=w1) (fun v6 _=>4-(intOf v6).toNat)
 case atStart=>exact ⟨0,qB,rfl,Ae (fun j hj=>qB),rfl⟩
 case round =>
  obtain ⟨k,hk,rfl,he,RB⟩:=hrel;subst RB;by_cases bj:k<4
  ·have c1:=HF.out k bj;have c2:=HG.out k bj;by_cases h1:Ev a0 a1 a2 a3 k=0
   ·have HE:=Ae h1;rw [h1] at c1;clear h1;go_wp2_with fail;go_roundw
    case rel=>exact ⟨k+1,qB,by go_num,Ae (fun j hj=>by
     rcases Nat.lt_or_ge j k with h'|h'
     ·exact he.out j h'
     ·obtain rfl:j=k:=qB;exact .inl HE.out),qX⟩
    case measure=>(first|(simp [intOf];omega)|(simp [intOf];done))
   ·have FD:(0:Int)<(Ev a0 a1 a2 a3 k:Nat):=qB;by_cases h2:Ev b0 b1 b2 b3 k=0
    ·have HE:=Ae h2;rw [h2] at c2;clear h2 h1;go_wp2_with fail;go_roundw
     case rel=>exact ⟨k+1,qB,by go_num,Ae (fun j hj=>by
      rcases Nat.lt_or_ge j k with h'|h'
      ·exact he.out j h'
      ·obtain rfl:j=k:=qB;exact .inr HE.out),qX⟩
     case measure=>(first|(simp [intOf];omega)|(simp [intOf];done))
    ·have KJ:(0:Int)<(Ev b0 b1 b2 b3 k:Nat):=qB;have HE:=Ae (Ax h1 h2);clear h1 h2;go_wp2_with fail;go_ret;have e9:apB a0 a1 a2 a3 b0 b1 b2 b3=false:=by
      cases h9:apB a0 a1 a2 a3 b0 b1 b2 b3
      ·rfl
      ·rcases HD.out.1 h9 k bj with h|h
       ·exact absurd h HE.out.1
       ·exact absurd h HE.out.2
     exact ⟨by rw [e9];rfl,b1w⟩
  ·obtain rfl:k=4:=qB;have e9:=Ae (HD.out.2 he.out);go_wp2_with fail;go_ret;exact ⟨by rw [e9.out];rfl,b1w⟩
theorem Hx (G i:Nat):(J G 0:Addr).add i=⟨G,i,none⟩:=by unfold Addr.add;split<;>simp_all
theorem Jz {cu:Array Value} (h:Blk w g cu t) (hv:cu[i]? = some v):Blk (w.setCell (J g i) v) g cu t:=by
 have h1:=h.set i v;have h2:cu.setIfInBounds i v=cu:=by
  apply Array.ext_getElem?;intro k;rw [Array.getElem?_setIfInBounds]
  split
  ·rename_i h3;subst h3
   split
   ·rw [hv]
   ·rename_i h4;rw [Array.getElem?_eq_none qB] at hv;cases hv
  ·rfl
 rwa [h2] at h1
theorem Gp {cu:Array Value} (h:Blk w g cu t) (hc:Z w g i v):cu[i]? = some v:=by
 unfold Blk at h;simpa [World.cell?,h] using hc
theorem rE:(prog.info? 88).map (fun i=>(i.zero,i.size,i.bytes))=some (some (.agg #[M 0,M 0,U 0,U 0,U 0,U 0]),6,24):=qE
theorem Aag (w:World) (H:Nat) (f:Value) (hB:Blk w H #[.slice none 0 0,f] 93) (i j m0 m1 m2 m3:Nat) :
  Θ 80 #[.pointer (E H),.agg #[M i,M j,U m0,U m1,U m2,U m3]] w
   (fun e w'=>e=.returned (.tuple #[])∧∃g c,w.grownBy w' (some H)∧Blk w' H #[.slice (E g) 1 c,f] 93∧w'.ownsRow w 88 6 (.slice (E g) 1 c) 1 [M i,M j,U m0,U m1,U m2,U m3]):=by
 have h0:=hB.cell 0 _ rfl;have f0:=hB.frozen 0;obtain ⟨i0,hi,dw,ed,en⟩:=info_parts rE;have hH:=Aa _ _ h0;go_enter func80,ntmps80;go_wp2_with fail;have nH:¬w.heap.size=H:=qB;have nH':¬H=w.heap.size:=qB;have ji:World.ownsRow ((((w.alloc (.cells #[M i,M j,U m0,U m1,U m2,U m3] 88)).alloc (.cells #[M i,M j,U m0,U m1,U m2,U m3] 88))).drew) w 88 6 (.slice none 0 0) 0 []:=World.ownsRow_nil _ _ _ _;have p0:World.cell? ((((w.alloc (.cells #[M i,M j,U m0,U m1,U m2,U m3] 88)).alloc (.cells #[M i,M j,U m0,U m1,U m2,U m3] 88))).drew) ⟨H,0,none⟩=some (.slice none 0 0):=qO;have g0:World.frozen? ((((w.alloc (.cells #[M i,M j,U m0,U m1,U m2,U m3] 88)).alloc (.cells #[M i,M j,U m0,U m1,U m2,U m3] 88))).drew) ⟨H,0,none⟩=false:=qO;have x0:World.cell? ((((w.alloc (.cells #[M i,M j,U m0,U m1,U m2,U m3] 88)).alloc (.cells #[M i,M j,U m0,U m1,U m2,U m3] 88))).drew) ⟨w,0,none⟩=some (M i):=qO;have x1:World.cell? ((((w.alloc (.cells #[M i,M j,U m0,U m1,U m2,U m3] 88)).alloc (.cells #[M i,M j,U m0,U m1,U m2,U m3] 88))).drew) ⟨w,1,none⟩=some (M j):=qO;have x2:World.cell? ((((w.alloc (.cells #[M i,M j,U m0,U m1,U m2,U m3] 88)).alloc (.cells #[M i,M j,U m0,U m1,U m2,U m3] 88))).drew) ⟨w,2,none⟩=some (U m0):=qO;have x3:World.cell? ((((w.alloc (.cells #[M i,M j,U m0,U m1,U m2,U m3] 88)).alloc (.cells #[M i,M j,U m0,U m1,U m2,U m3] 88))).drew) ⟨w,3,none⟩=some (U m1):=qO;have x4:World.cell? ((((w.alloc (.cells #[M i,M j,U m0,U m1,U m2,U m3] 88)).alloc (.cells #[M i,M j,U m0,U m1,U m2,U m3] 88))).drew) ⟨w,4,none⟩=some (U m2):=qO;have x5:World.cell? ((((w.alloc (.cells #[M i,M j,U m0,U m1,U m2,U m3] 88)).alloc (.cells #[M i,M j,U m0,U m1,U m2,U m3] 88))).drew) ⟨w,5,none⟩=some (U m3):=qO;have lz:xp w ((((w.alloc (.cells #[M i,M j,U m0,U m1,U m2,U m3] 88)).alloc (.cells #[M i,M j,U m0,U m1,U m2,U m3] 88))).drew):=qD
 refine Bw (fun W=>Z W H 0 (.slice none 0 0)∧Z W w 0 (M i)∧Z W w 1 (M j)∧Z W w 2 (U m0)∧Z W w 3 (U m1)∧Z W w 4 (U m2)∧Z W w 5 (U m3)) 10 qE qK (fun ib=>?_);(refine xc 10 0 ?_;(try simp only [xb]));(refine xc 10 1 ?_;(try simp only [xb]));(refine xc 10 2 ?_;(try simp only [xb]));(refine xc 10 3 ?_;(try simp only [xb]));(refine xc 10 4 ?_;(try simp only [xb]));(refine xc 10 5 ?_;(try simp only [xb]));(refine Bd.one (i:=6) rfl qE (fun K hK=>?_);go_simp;skip;(try go_wp2_with fail);refine hK.out _ _ (fun _=>qK) ?_;clear hK K;(try simp only [xb]));(refine Bd.one (i:=7) rfl qE (fun K hK=>?_);refine step_append_lies _ qM _ _ _ qM w 88 i0 _ 6 24 underlying91 hi dw ed en rfl qI (.slice none 0 0) 0 [] qM ji (J (w+1) 0) 1 1 [M i,M j,U m0,U m1,U m2,U m3] qJ qM (fun j' u h=>by have:=Dp (w.alloc (.cells #[M i,M j,U m0,U m1,U m2,U m3] 88)) _ 88 j' u h;simpa using this) (by simp [Value.oneCell']) qI qN qB qL _ rfl ?_;intro g cap w1 du dn XO tu;have r0:=dn.cell p0 (by simp [Value.ownBlock]);have y0:=dn.cell x0 (by simp [Value.ownBlock]);have y1:=dn.cell x1 (by simp [Value.ownBlock]);have y2:=dn.cell x2 (by simp [Value.ownBlock]);have y3:=dn.cell x3 (by simp [Value.ownBlock]);have y4:=dn.cell x4 (by simp [Value.ownBlock]);have y5:=dn.cell x5 (by simp [Value.ownBlock]);have fz:Y w1 H 0:=(World.frozen?_of_block (a:=⟨H,0,none⟩) (dn.block H qL (by simp [Value.ownBlock]))).trans g0;refine hK.out _ _ (fun _=>qK) ?_;clear hK K;(try simp only [xb]));(refine Bd.one (i:=8) rfl qE (fun K hK=>?_);go_simp;skip;(try go_wp2_with fail);refine hK.out _ _ (fun _=>qK) ?_;clear hK K;(try simp only [xb]));(refine Bd.one (i:=9) rfl qE (fun K hK=>?_);go_simp;skip;(try go_wp2_with fail);refine hK.out _ _ (fun _=>qK) ?_;clear hK K;(try simp only [xb]));(refine Bd.one (i:=10) rfl qE (fun K hK=>?_);go_simp;refine hK.out _ _ (fun h=>absurd h qI) ?_;clear hK K;(try simp only [xb]));refine Bd.done qE ?_ _;have br:xp w w1:=lz.grown dn lz.size (by simp [Value.ownBlock]);have oh:w.heap.size≤g:=by
  rcases XO with h9|h9
  ·cases h9
  ·rw [h9];simp;omega
 go_wp2_with fail;have ig:Z (w1.setCell (J H 0) (.slice (E g) 1 cap)) H 0 (.slice (E g) 1 cap):=qO;refine Bx ?_;intro w2 df;rw [←df] at ig;refine wp_loop_rounds 1 ?_;rw [rounds_succ];go_wp2_with fail;(refine Bi qE qE ?_;(repeat (go_big_quiet_step (fail)));refine wpQuiet_nil ?_;intro _ cw;obtain ⟨nq,cw⟩:=cw;subst cw);go_wp2_with fail;have js:w.grownBy w2 (some H):=by rw [df];exact Bm _ (Bl br (some H))
 have vd:=js.trans (Bl nq.2 (some H));have AF:Blk w1 H #[.slice none 0 0,f] 93:=hB.keep br;have uv:Blk w2 H #[.slice (E g) 1 cap,f] 93:=by rw [df];exact AF.set 0 _
 have cv:w2.ownsRow w 88 6 (.slice (E g) 1 cap) 1 [M i,M j,U m0,U m1,U m2,U m3]:=by rw [df];exact Lx du hH
 exact bodyPost_end (v:=.tuple #[]) (by simp [results,results80,go_sem]) rfl ⟨rfl,g,cap,vd,uv.keep nq.2,Bf cv nq.2⟩
theorem Abr (w:World) (H g c:Nat) (f:Value) (hB:Blk w H #[.slice (E g) 1 c,f] 93) (i j m0 m1 m2 m3:Nat) (ah:w.ownsRow 0 88 6 (.slice (E g) 1 c) 1 [M i,M j,U m0,U m1,U m2,U m3]) :
  Θ 81 #[.pointer (E H)] w
   (fun e w'=>e=.returned (.agg #[M i,M j,U m0,U m1,U m2,U m3])∧w.grownBy w' (some H)∧Blk w' H #[.slice (E g) 0 c,f] 93):=by
 have h0:=hB.cell 0 _ rfl;have f0:=hB.frozen 0;have hH:H<w.heap.size:=Aa _ _ h0;have HO:=Ae ah;have c0:=World.ownsRow.cells ah rfl 0 _ rfl;have c1:=World.ownsRow.cells ah rfl 1 _ rfl;have c2:=World.ownsRow.cells ah rfl 2 _ rfl;have c3:=World.ownsRow.cells ah rfl 3 _ rfl;have c4:=World.ownsRow.cells ah rfl 4 _ rfl;have c5:=World.ownsRow.cells ah rfl 5 _ rfl;simp only [Hx] at c0 c1 c2 c3 c4 c5;have hg:g<w.heap.size:=Aa _ _ c0;have n1:¬w.heap.size=H:=qB;have n2:¬w.heap.size=g:=qB;have n3:¬H=w.heap.size:=qB;have n4:¬g=w.heap.size:=qB;have hgH:g≠H:=fun e=>by
  obtain ⟨cu,e1⟩:=Ik ah (g:=g) rfl;subst e;unfold Blk at hB;rw [e1] at hB;cases hB
 go_enter func81,ntmps81;go_wp2_with fail;refine Bx ?_;intro w1 fk;have b1:Below w w w1:=by rw [fk];go_grown
 have X0:Blk w1 w #[M 0,M 0,U 0,U 0,U 0,U 0] 88:=by rw [fk];exact (C0 rfl _ _).alloc _
 have X1:Blk w1 (w+1) #[M i,M j,U m0,U m1,U m2,U m3] 88:=by rw [fk];exact C0 qH _ _
 clear fk n1 n2 n3 n4 h0 f0 c0 c1 c2 c3 c4 c5;have B1:=hB.keep b1;have O1:=Bf ah b1;obtain ⟨cu,e1⟩:=Ik O1 (g:=g) rfl;have fz:∀k,Y w1 g k:=fun k=>by simp [World.frozen?,e1]
 have h0:Z w1 H 0 (.slice (E g) 1 c):=B1.cell 0 _ rfl;have c0:=World.ownsRow.cells O1 rfl 0 _ rfl;have c1:=World.ownsRow.cells O1 rfl 1 _ rfl;have c2:=World.ownsRow.cells O1 rfl 2 _ rfl;have c3:=World.ownsRow.cells O1 rfl 3 _ rfl;have c4:=World.ownsRow.cells O1 rfl 4 _ rfl;have c5:=World.ownsRow.cells O1 rfl 5 _ rfl;simp only [Hx] at c0 c1 c2 c3 c4 c5;have fz0:=fz 0;have fz1:=fz 1;have fz2:=fz 2;have fz3:=fz 3;have fz4:=fz 4;have fz5:=fz 5;have AD:=Aa _ _ c0;generalize hT:w.heap.size=T at *;have hc:1≤c:=by
  rcases O1.2 with ⟨h9,_⟩|⟨g',cap,cur,h9,-,-,h8,_⟩
  ·cases h9
  ·cases h9;exact h8
 refine Bw (fun W=>Z W H 0 (.slice (E g) 1 c)∧Z W g 0 (M i)∧Z W g 1 (M j)∧Z W g 2 (U m0)∧Z W g 3 (U m1)∧Z W g 4 (U m2)∧Z W g 5 (U m3)) 12 qE qK (fun ib=>?_);(refine xc 12 0 ?_;(try simp only [xb]));(refine xc 12 1 ?_;(try simp only [xb]));(refine xc 12 2 ?_;(try simp only [xb]));(refine xc 12 3 ?_;(try simp only [xb]));(refine xc 12 4 ?_;(try simp only [xb]));(refine xc 12 5 ?_;(try simp only [xb]));(refine xc 12 6 ?_;(try simp only [xb]));(refine xc 12 7 ?_;(try simp only [xb]));(refine xc 12 8 ?_;(try simp only [xb]));(refine xc 12 9 ?_;(try simp only [xb]));(refine xc 12 10 ?_;(try simp only [xb]));(refine Bd.one (i:=11) rfl qE (fun K hK=>?_);go_simp;skip;(try go_wp2_with fail);refine hK.out _ _ (fun _=>qK) ?_;clear hK K;(try simp only [xb]));(refine Bd.one (i:=12) rfl qE (fun K hK=>?_);go_simp;refine hK.out _ _ (fun h=>absurd h qI) ?_;clear hK K;(try simp only [xb]));refine Bd.done qE ?_ _;go_upto_region 4 with fail
 refine Bx ?_;intro w2 df;have js:w1.grownBy w2 (some g):=by rw [df];exact (Bm _ (Bm _ (Bm _ (Bm _ (Bm _ (Bm _ (World.grownBy.refl _ _))))))).trans (Bl qD _)
 have hgn:Blk w2 g cu 88:=by
  rw [df];exact Blk.keep (Jz (Jz (Jz (Jz (Jz (Jz e1 (Gp e1 c0)) (Gp e1 c1)) (Gp e1 c2)) (Gp e1 c3)) (Gp e1 c4)) (Gp e1 c5)) qD
 have hgk:Below w1 w1 w2:=⟨js.os,js.tape,js.output,js.size,fun k hk=>by
  by_cases hkg:k=g
  ·subst hkg;exact hgn.trans e1.symm
  ·exact js.block k hk (by intro e;cases e;exact hkg rfl)⟩
 clear df c0 c1 c2 c3 c4 c5 fz0 fz1 fz2 fz3 fz4 fz5 h0;have B2:=B1.row js (by intro e;cases e;exact hgH rfl);have X02:=X0.row js (by intro e;cases e;omega);have X12:=X1.row js (by intro e;cases e;omega);have h0:Z w2 H 0 (.slice (E g) 1 c):=B2.cell 0 _ rfl;have f0:=B2.frozen 0;go_wp2_with fail;refine Bx ?_;intro w3 eb;have vd:w2.grownBy w3 (some H):=by rw [eb];exact Bm _ (World.grownBy.refl _ _)
 have B3:Blk w3 H #[.slice (E g) 0 c,f] 93:=by rw [eb];exact B2.set 0 _
 have JX:=X02.row vd (by intro e;cases e;omega);have X13:=X12.row vd (by intro e;cases e;omega);have hG:w.grownBy w3 (some H):=(Bl (by unfold xp;rw [hT];exact b1) (some H)).trans ((Bl hgk (some H)).trans vd);clear eb h0 f0 X02 X12 B2 X0 X1 B1 O1 e1 fz;refine wp_loop_rounds 1 ?_;rw [rounds_succ];go_wp2_with fail;(refine Bi qE qE ?_;(repeat (go_big_quiet_step (fail)));refine wpQuiet_nil ?_;intro _ cw;obtain ⟨nq,cw⟩:=cw;subst cw);have ba:Below w3 w3 nq.1:=nq.2;generalize nq.1=wa at ba ⊢;clear nq;have h0:Z wa H 0 (.slice (E g) 0 c):=(B3.keep ba).cell 0 _ rfl;go_wp2_with fail;(refine Bi qE qE ?_;(repeat (go_big_quiet_step (fail)));refine wpQuiet_nil ?_;intro _ cw;obtain ⟨nq,cw⟩:=cw;subst cw);have bb:Below w3 w3 nq.1:=xo ba nq.2;generalize nq.1=wb at bb ⊢;clear nq h0;have x0:Z wb (T+1) 0 (M i):=(X13.keep bb).cell 0 _ rfl;have x1:Z wb (T+1) 1 (M j):=(X13.keep bb).cell 1 _ rfl;have x2:Z wb (T+1) 2 (U m0):=(X13.keep bb).cell 2 _ rfl;have x3:Z wb (T+1) 3 (U m1):=(X13.keep bb).cell 3 _ rfl;have x4:Z wb (T+1) 4 (U m2):=(X13.keep bb).cell 4 _ rfl;have x5:Z wb (T+1) 5 (U m3):=(X13.keep bb).cell 5 _ rfl;have y0:Z wb T 0 (M 0):=(JX.keep bb).cell 0 _ rfl;have y1:Z wb T 1 (M 0):=(JX.keep bb).cell 1 _ rfl;have y2:Z wb T 2 (U 0):=(JX.keep bb).cell 2 _ rfl;have y3:Z wb T 3 (U 0):=(JX.keep bb).cell 3 _ rfl;have y4:Z wb T 4 (U 0):=(JX.keep bb).cell 4 _ rfl;have y5:Z wb T 5 (U 0):=(JX.keep bb).cell 5 _ rfl;have z0:=(JX.keep bb).frozen 0;have z1:=(JX.keep bb).frozen 1;have z2:=(JX.keep bb).frozen 2;have z3:=(JX.keep bb).frozen 3;have z4:=(JX.keep bb).frozen 4;have z5:=(JX.keep bb).frozen 5;have B4:=B3.keep bb;have hTb:T<wb.heap.size:=Aa _ _ y0;have a2g:T+1<wb.heap.size:=Aa _ _ x0;have nT:¬T=T+1:=qB;have nT':¬T+1=T:=qB;go_wp2_with fail;have XQ:H≠T:=qB;refine bodyPost_ret (v:=.agg #[M i,M j,U m0,U m1,U m2,U m3]) (by simp [*,results,results81,go_sem]) rfl ⟨rfl,?_,?_⟩
 ·(repeat (first|(with_reducible exact hG.trans (Bl bb _))|(with_reducible refine Ce _ ?_ (by show w.heap.size≤T;omega))))
 ·(repeat (first|(with_reducible exact B4)|(with_reducible refine Blk.far ?_ _ _ XQ)))
def oC (w:World) (k:Nat):Prop:=∀cur,w.heap[k]?≠some (.cells cur 129 (0,0))
def Abp (w:World) (k:Nat):Prop:=∀cur,w.heap[k]?≠some (.cells cur 58 (0,0))
theorem Bc.ap_not {k:Nat} (h:Bc B w a c) (hm:oC w k):Ap k c a:=by
 rcases h with h|⟨b,cur,h1,h2,h3,_⟩
 ·exact .inl h
 ·refine .inr fun x hx e=>?_
  rw [h1] at hx;cases hx;have e:b=k:=e;subst e;exact hm cur h3
theorem Tk {k:Nat} (h:Be w B a n c l) (ho:Ca w B a n c) (hd:oC w k) (ht:Abp w k) (hg:w.grownBy w' (some k)):Be w' B a n c l∧Ca w' B a n c:=by
 obtain ⟨p,hp,hx⟩:=h.ts;obtain ⟨p',o,t,h1,h2,h3⟩:=ho.ts;have je:n=0∨∀b o',a=some ⟨b,o',none⟩→b≠k:=by
  rcases ho.row with h0|⟨b,cur,e1,e2,e3,e4⟩
  ·exact .inl (by have:=hp.cap;omega)
  ·refine .inr fun b' o' e=>?_
   rw [e1] at e;cases e;intro e;subst e;exact ht cur e3
 have gz:∀q,RdP w a n c q→n=0∨∃b o,a=some ⟨b,o,none⟩∧∀i,i<n→Nr w' b (o+i*8) (q i):=by
  intro q hq;rcases hq.cell with h0|⟨b,o,ha,hc⟩
  ·exact .inl h0
  ·rcases je with h0|hr
   ·exact .inl h0
   ·exact .inr ⟨b,o,ha,fun i hi=>(hc i hi).butR hg (fun e=>hr b o ha (by simpa using e))⟩
 have ae3:∀i,i<n→(p i).a1=(p' i).a1∧(p i).c1=(p' i).c1∧(p i).a2=(p' i).a2∧(p i).c2=(p' i).c2:=by
  intro i hi;obtain ⟨b,o,ha,hc⟩:=hp.cell.resolve_left qB;obtain ⟨b',o',GZ,jf⟩:=h1.cell.resolve_left qB;rw [ha] at GZ
  cases GZ
  have e1:=(hc i hi).e1;have e3:=(hc i hi).e3;rw [(jf i hi).e1] at e1;rw [(jf i hi).e3] at e3;simp only [Option.some.injEq,Value.slice.injEq] at e1 e3;exact ⟨e1.1.symm,e1.2.2.symm,e3.1.symm,e3.2.2.symm⟩
 have gw:∀i,i<n→Ap k (p' i).c1 (p' i).a1∧Ap k (p' i).c2 (p' i).a2:=fun i hi=>⟨(h3 i hi).top.ap_not hd,(h3 i hi).low.ap_not hd⟩
 have htm:∀q,RdP w a n c q→(∀i,i<n→Ap k (q i).c1 (q i).a1∧Ap k (q i).c2 (q i).a2)→RdP w' a n c q:=fun q hq hA=>⟨hq.cap,hq.few,hq.top,fun i hi=>by
  have hr:=hq.tm i hi;obtain ⟨k1,k2⟩:=hA i hi;exact ⟨hr.top.ap (k1.few hr.top.cap) hg,hr.low.ap (k2.few hr.low.cap) hg,hr.s0,hr.s1,hr.s2,hr.s3⟩,gz q hq⟩
 refine ⟨⟨h.len,h.base,h.nl,p,htm p hp (fun i hi=>?_),hx⟩,⟨?_,p',o,t,htm p' h1 gw,h2,fun i hi=>?_⟩⟩
 ·obtain ⟨s1,s2,s3,s4⟩:=ae3 i hi;rw [s1,s2,s3,s4];exact gw i hi
 ·refine ho.row.imp id fun⟨b,cur,e1,e2,e3,e4⟩=>⟨b,cur,e1,e2,?_,e4⟩
  rw [hg.block b (Ar.1 e3).1 (fun e=>by
   have e:b=k:=by simpa using e
   subst e;exact ht cur e3)]
  exact e3
 ·obtain ⟨k1,k2⟩:=gw i hi;exact ⟨(h3 i hi).top.off_ap k1 hg,(h3 i hi).low.off_ap k2 hg,(h3 i hi).ap,(h3 i hi).m1,(h3 i hi).m2⟩
theorem Ye {base base':Nat} {e:TypeId} {size:Nat} (h:w.ownsRow base e size v n xs) (hb:base'≤base):w.ownsRow base' e size v n xs:=qEi
structure Gq (w:World) (B B':Nat) (v:Value) (L:List (Δ)):Prop where
 ex:∃xs:List Value,w.ownsRow B 24 1 v L.length xs∧∀(i:Nat) (l:Δ),L[i]? = some l→∃a n c,xs[i]? = some (Value.slice a n c)∧Be w B' a n c l∧Ca w B' a n c
theorem Gq.nil (w:World) (B B':Nat):Gq w B B' (.slice none 0 0) []:=⟨[],World.ownsRow_nil _ _ _ _,fun i l hl=>by simp at hl⟩
theorem Gq.keep (h:Gq w B B' v L) (hb:xp w w'):Gq w' B B' v L:=by
 obtain ⟨xs,h1,h2⟩:=h.ex;refine ⟨xs,Bf h1 hb,fun i l hl=>?_⟩;obtain ⟨a,n,c,e,hp,ho⟩:=h2 i l hl;exact ⟨a,n,c,e,hp.keep hb,ho.keep hb⟩
theorem Gq.next {v':Value} (ah:w.ownsRow B 24 1 v L.length xs) (yd:∀(i:Nat) (l:Δ),L[i]? = some l→∃a n c,xs[i]? = some (Value.slice a n c)∧Be w B' a n c l∧Ca w B' a n c)
  (hp:Be w B' a n c l) (ho:Ca w B' a n c) (ji:w'.ownsRow B 24 1 v' (L.length+1) (xs++[Value.slice a n c])) (hg:w.grownBy w' v.ownBlock):Gq w' B B' v' (L++[l]):=by
 have AK:xs.length=L.length:=by simpa using ah.1
 have hk:∀a n c l,Be w B' a n c l→Ca w B' a n c→Be w' B' a n c l∧Ca w' B' a n c:=by
  intro a n c l hp ho;rcases ah.2 with ⟨rfl,_⟩|⟨g,cap,cur,rfl,_,RC,_⟩
  ·exact ⟨hp.butR hg (fun k e=>by cases e),ho.butR hg (fun k e=>by cases e)⟩
  ·exact Tk hp ho (fun kj e=>by rw [RC] at e;simp at e) (fun kj e=>by rw [RC] at e;simp at e) hg
 refine ⟨xs++[.slice a n c],by simpa using ji,fun i l' hl=>?_⟩;by_cases hi:i<L.length
 ·rw [Ay hi] at hl;obtain ⟨a',n',c',e,BX,DT⟩:=yd i l' hl;exact ⟨a',n',c',by rw [Ay qB];exact e,hk _ _ _ _ BX DT⟩
 ·obtain ⟨bj,-⟩:=List.getElem?_eq_some_iff.1 hl;have:i=L.length:=by simp at bj;omega
  subst this;rw [Az (Ad _)] at hl;simp at hl;subst hl;exact ⟨a,n,c,by rw [Az qB];simp [AK],hk _ _ _ _ hp ho⟩
structure DIn (w:World) (L o:Nat) (ls:List (PT×Δ)):Prop where
 el:∀(i:Nat) (x:PT) (l:Δ),ls[i]? = some (x,l)→∃a n c,Z w L (o+i) (.slice a n c)∧Be w 0 a n c (x::l)∧Sm (x::l)
structure Vd (w:World) (B D:Nat) (t:Tm) (x:PT) (v o:Value):Prop where
 at_:Oh w D t v o
 is:Ey t x
 rd:Dg w t
 lo:B≤D
 f1:Bc B w t.a1 t.c1
 f2:Bc B w t.a2 t.c2
 ty:∃cur,Blk w D cur 248
theorem Vd.keep {t:Tm} {x:PT} {o:Value} (h:Vd w B D t x v o) (hb:xp w w'):Vd w' B D t x v o :=
 ⟨h.at_.keep hb,h.is,h.rd.keep hb,h.lo,h.f1.keep hb,h.f2.keep hb,by obtain ⟨cur,e⟩:=h.ty;exact ⟨cur,e.keep hb⟩⟩
theorem Oh.same {t:Tm} {o:Value} (h:Oh w b t v o) (e:w'.heap[b]? = w.heap[b]?):Oh w' b t v o:=by
 obtain ⟨c0,c1,c2,c3,c4,c5,c6,c7,c8,c9,f9⟩:=h;simp only [World.cell?,World.frozen?] at c0 c1 c2 c3 c4 c5 c6 c7 c8 c9 f9;constructor<;>(simp only [World.cell?,World.frozen?];rw [e];assumption)
theorem Pp {cur:Array Value} (h:RdL w a n c d) (hf:Bc B w a c) (hg:w.heap[gb]? = some (.cells cur ty fz)) (ht:ty≠129):Ap gb n a:=by
 rcases hf with h0|⟨b,cu,rfl,hb,hc,_⟩
 ·exact .inl (by have:=h.cap;omega)
 ·refine .inr fun x hx e=>?_
  cases hx
  simp only at e;subst e;rw [hc] at hg;cases hg;exact ht rfl
theorem Jd {cur:Array Value} (hf:Bc B w a c) (hg:w.grownBy w' (some gb)) (hc:w.heap[gb]? = some (.cells cur ty fz)) (ht:ty≠129):Bc B w' a c:=by
 rcases hf with h0|⟨b,cu,rfl,hb,hcu,hs⟩
 ·exact .inl h0
 ·refine .inr ⟨b,cu,rfl,hb,?_,hs⟩;have di:b≠gb:=fun e=>by
   subst e;rw [hcu] at hc;cases hc;exact ht rfl
  rw [hg.block b (Ar.1 hcu).1 (by intro e;cases e;exact di rfl)];exact hcu
theorem Vd.grown {t:Tm} {x:PT} {o:Value} {row:Option Nat} (h:Vd w B D t x v o) (hg:w.grownBy w' row) (di:∀gb,row=some gb→gb≠D∧∃cur ty fz,w.heap[gb]? = some (.cells cur ty fz)∧ty≠129):Vd w' B D t x v o:=by
 cases row with
 | none=>exact h.keep ⟨hg.os,hg.tape,hg.output,hg.size,fun k hk=>hg.block k hk qH⟩
 | some gb =>
  obtain ⟨h1,cur,ty,fz,h2,h3⟩:=di gb rfl;have e:=hg.block D h.at_.lt (by intro e;cases e;exact h1 rfl);exact ⟨h.at_.same e,h.is,⟨h.rd.top.ap (Pp h.rd.top h.f1 h2 h3) hg,h.rd.low.ap (Pp h.rd.low h.f2 h2 h3) hg,h.rd.s0,h.rd.s1,h.rd.s2,h.rd.s3⟩,h.lo,Jd h.f1 hg h2 h3,Jd h.f2 hg h2 h3,by obtain ⟨cu,e'⟩:=h.ty;exact ⟨cu,Eq.trans e e'⟩⟩
structure DRow (w0 w:World) (L o:Nat) (v:Value) (ls:List (PT×Δ)) (Ds:Nat→Nat):Prop where
 own:∃xs,w.ownsRow w0 244 1 v ls.length xs∧∀i,i<ls.length→xs[i]? = some (.pointer (E (Ds i)))
 el:∀(i:Nat) (x:PT) (l:Δ),ls[i]? = some (x,l)→∃t u,Z w0 L (o+i) u∧Vd w w0 (Ds i) t x u (.slice none 0 0)∧∀j,j<i→Ds j<Ds i
theorem xV {W:World} {x:Value} (hb:b=W.heap.size):∀j u,[x][j]? = some u→(W.alloc (.cells #[x] t)).cell? ((J b 0:Addr).add j)=some u:=by
 subst hb;exact cell_one_new W x t
theorem Zk (w:World) (L o:Nat) (al:Γ) (cl:Nat) (ls:List (PT×Δ)) (m:Nat) (hm:ls.length=m) (hm4:m≤40) (ij:m≤cl) (py:m=0∨al=some ⟨L,o,none⟩) (h:DIn w L o ls) :
  Θ 200 #[.int .u8 0,.slice al m cl] w (fun e w'=>∃v Ds,e=.returned (.tuple #[v,M 0])∧DRow w w' L o v ls Ds∧xp w w'):=by
 obtain ⟨i0,sy,dw,ed,en⟩:=info_parts yE;have HB:=Ac w w;have HH:=Ae h;have HM:=Ae hm;clear h hm;go_enter func200,ntmps200;go_wp2_with fail;go_loopw [4,12] (fun v4 v12 wr=>∃(i:Nat) (Ds:Nat→Nat),i≤m∧v12=M i∧DRow w wr L o v4 (ls.take i) Ds∧xp w wr) (fun _ v12 _=>m-(intOf v12).toNat)
 case atStart=>exact ⟨0,fun _=>0,qB,rfl,⟨⟨[],World.ownsRow_nil _ _ _ _,fun i hi=>by simp at hi⟩,fun i x l h=>by simp at h⟩,HB⟩
 case round =>
  obtain ⟨i,Ds,hi,rfl,je,dm⟩:=hrel;by_cases bj:i<m
  ·obtain rfl:=py.resolve_left qB;obtain ⟨⟨x,l⟩,hx⟩:∃y,ls[i]? = some y:=⟨_,Ai (by rw [HM.out];exact bj)⟩;obtain ⟨a,n,c,hc,hP,hS⟩:=HH.out.el i x l hx;replace hc:=Bb dm hc;have hPr:=hP.keep dm;obtain ⟨⟨xs,ah,yd⟩,xq⟩:=je;have hln:(ls.take i).length=i:=by rw [List.length_take,HM.out];omega
   rw [hln] at ah yd;have OM:=Ae ah;have HX:=Ae (Ax hx (Ax hP (Ax hS (Ax yd xq))));clear ah yd xq hx hP hln;have XR:=dm.size;go_wp2_with (first|(go_at_call 20;refine (Xg hPr hS).mono ?_;rintro e w1 ⟨t,rfl,ht,kz,ln,nk,br⟩;have hzs:=br.size)|(at_builtin;refine wpList_append_own _ rfl _ _ 241 rfl w 244 i0 (.pointer none) 1 8 underlying241 sy dw ed en rfl qI _ i xs rfl (Bf (Bf OM.out br) qD) (J (w1+1+1) 0) 1 1 [.pointer (E (w1+1))] rfl rfl (xV qH) (by simp [Value.oneCell']) qN qB zD ?_;intro v7 w7 ie ak pq));have OC:=Dj OM.out;obtain ⟨W3,TN,CQ⟩:∃W3:World,W3=_∧W3.grownBy w7 u4.ownBlock:=⟨_,rfl,ak⟩;have B13:xp w1 W3:=by rw [TN];go_grown
   have ir:=dm.trans (br.mono XR);have ep:=xo ir B13;have wh:xp w w7:=ep.grown CQ ep.size (fun k hk=>OC k hk);have hDn:Oh W3 (w1+1) t (.slice a n c) (.slice none 0 0):=by rw [TN];constructor<;>simp [go_sem]
   have FO:∃cur,Blk W3 (w1+1) cur 248:=⟨_,by rw [TN];exact (C0 qH _ _).alloc _⟩;clear ak pq TN;have je:∀gb,u4.ownBlock=some gb→∃cur,W3.heap[gb]? = some (.cells cur 244 (0,0)):=fun gb qq=>by
    rcases (Bf (Bf OM.out br) B13).2 with ⟨rfl,_⟩|⟨g,cap,cur,rfl,_,FQ,_⟩
    ·cases qq
    ·cases qq
     exact ⟨cur,FQ⟩
   have di:∀{D:Nat} {t:Tm} {x:PT} {u o:Value},Vd W3 w D t x u o→∀gb,u4.ownBlock=some gb→gb≠D∧∃cur ty fz,W3.heap[gb]? = some (.cells cur ty fz)∧ty≠129:=fun hd gb qq=>by
    obtain ⟨cur,e⟩:=je gb qq;refine ⟨fun e2=>?_,cur,_,_,e,qI⟩;subst e2;obtain ⟨cu,e3⟩:=hd.ty;unfold Blk at e3;rw [e] at e3;cases e3
   have ae6:Vd W3 w (w1+1) t x (.slice a n c) (.slice none 0 0):=⟨hDn,ht,kz.keep B13,qB,(ln.keep B13).mono XR,(nk.keep B13).mono XR,FO⟩;have sx:ls.take (i+1)=ls.take i++[(x,l)]:=by rw [List.take_add_one,HX.out.1];rfl
   have hln:(ls.take i).length=i:=by rw [List.length_take,HM.out];omega
   go_roundw
   case rel =>
    refine ⟨i+1,fun j=>if j=i then w1.heap.size+1 else Ds j,qB,by go_num,⟨⟨_,by rw [sx,A8,hln];exact ie,fun j hj=>?_⟩,fun j y l' hj=>?_⟩,wh⟩
    ·have AI:xs.length=i:=by simpa using OM.out.1
     rw [sx,A8,hln] at hj;simp only [List.length_singleton] at hj;by_cases BK:j=i
     ·subst BK;rw [if_pos rfl,Az qB,AI,Nat.sub_self];rfl
     ·rw [if_neg BK,Ay qB];exact HX.out.2.2.2.1 j qB
    ·rw [sx] at hj;by_cases BK:j<i
     ·rw [Ay qB] at hj;obtain ⟨t',u',e1,e2,e3⟩:=HX.out.2.2.2.2 j y l' hj;have e4:=(e2.keep br).keep B13;refine ⟨t',u',e1,?_,fun k hk=>?_⟩
      ·rw [if_neg qB];exact e4.grown CQ (di e4)
      ·rw [if_neg qB,if_neg qB];exact e3 k hk
     ·rw [Az qB,hln] at hj;have aom:j=i:=by
       rcases Nat.lt_or_ge 0 (j-i) with h9|h9
       ·rw [List.getElem?_eq_none qL] at hj;cases hj
       ·omega
      subst aom;rw [Nat.sub_self] at hj;cases hj;obtain ⟨a',n',c',k1,-,-⟩:=HH.out.el j x l HX.out.1;refine ⟨t,_,k1,?_,fun k hk=>?_⟩
      ·have k2:=(Bb dm k1).symm.trans hc;cases k2;rw [if_pos rfl];exact ae6.grown CQ (di ae6)
      ·rw [if_pos rfl,if_neg qB];obtain ⟨⟨y',l''⟩,hy⟩:∃z,ls[k]? = some z:=⟨_,Ai (by rw [HM.out];omega)⟩;obtain ⟨_,_,_,e2,_⟩:=HX.out.2.2.2.2 k y' l'' (by rw [List.getElem?_take_of_lt hk];exact hy);have:=e2.at_.lt;omega
   case measure=>(first|(simp [intOf];omega)|(simp [intOf];done))
  ·obtain rfl:i=m:=qB;rw [As (by rw [HM.out];exact Ad _)] at je;go_wp2_with fail;go_ret2;exact ⟨_,Ds,rfl,je,dm⟩
theorem eD {p q r:Δ} (h:sZ p q=some r):Cm p q=true∧r=Jk p q∧Sm r:=by
 unfold sZ at h
 split at h
 ·rename_i h0;obtain ⟨h1,h2⟩:=Mv h;exact ⟨h0,h1,h1▸h2⟩
 ·cases h
theorem Oh.set9 {t:Tm} {o:Value} (h:Oh w b t v o) (o':Value):Oh (w.setCell (J b 9) o') b t v o':=by
 obtain ⟨c0,c1,c2,c3,c4,c5,c6,c7,c8,c9,f9⟩:=h;constructor<;>simp [*,go_sem]
theorem lP (T zf:TypeId) (z:Value) (hT:prog.underlying T=some (.slice zf)) (hI:(prog.info? zf).map (fun i=>(i.zero,i.size,i.bytes))=some (some z,1,b)) (hb:b≤100) (hz:Value.cells z=#[z]) (k:Nat) (hk:k≤100000) (W:World) :
  (Instr.makeSlice T (M (k:Int)) (M (k:Int))).run prog W=.ok (.slice (E W) k k) (W.alloc (.cells (List.replicate k z).toArray zf)):=by
 obtain ⟨i0,hi,dw,ed,en⟩:=info_parts hI;have BP:(i0.bytes:Int)*(k:Int)≤281474976710656:=by
  rw [en];have h1:b*k≤100*100000:=Nat.mul_le_mul hb hk;have h2:((b*k:Nat):Int)≤10000000:=qB;rw [Int.natCast_mul] at h2;omega
 have hr:=run_make (P:=prog) W T zf i0 z hT hi dw .i64 .i64 k k qB (Int.le_refl _) BP qB;simp only [Int.toNat_natCast] at hr;have e:madeCells (Value.cells z) (k*i0.size)=(List.replicate k z).toArray:=by
  apply Array.ext';rw [ed,Nat.mul_one,hz,toList_madeCells_one]
 rw [e] at hr;exact hr
theorem Iq:(prog.info? 24).map (fun i=>(i.zero,i.size,i.bytes))=some (some (.slice none 0 0),1,24):=qE
end Go.Proofs.YtfijkfdfbnfmmaaGreatDoor
end
