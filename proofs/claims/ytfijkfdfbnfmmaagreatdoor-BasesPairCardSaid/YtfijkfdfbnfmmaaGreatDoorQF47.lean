/- The laws' SamePoly: two sums that are the same. -/
import Derived.Test.YtfijkfdfbnfmmaaGreatDoorQF46
set_option linter.unusedSimpArgs false
set_option linter.unusedVariables false
set_option maxRecDepth 100000
set_option maxHeartbeats 4000000
section
namespace Go.Proofs.YtfijkfdfbnfmmaaGreatDoor
open Go.RowKit Proofs.Tryz
variable (w:World) (a:Γ) {r:Bool} {n:Nat} {w':World} {l:Δ}
theorem aV (n c:Nat) (d:Ξ) (hd:RdL w a n c d) (a':Γ) (c':Nat) (ik:RdL w a' n c' d) :
  Θ 229 #[.slice a n c,.slice a' n c'] w fun e w'=>e=.returned (.bool true)∧xp w w':=by
 have HB:=Ac w w;have pg:=hd.few;go_enter func229,ntmps229;go_wp2_with fail;go_loopw [5] (fun v wr=>∃k:Nat,k≤n∧v=M k∧xp w wr) (fun v _=>n-(intOf v).toNat)
 case atStart=>exact ⟨0,qB,rfl,HB⟩
 case round =>
  obtain ⟨k,hk,rfl,HB⟩:=hrel;by_cases bj:k<n
  ·obtain ⟨b,o,rfl,hc⟩:=(hd.keep HB).at' bj;obtain ⟨b',o',rfl,jf⟩:=(ik.keep HB).at' bj;generalize lim d k=x at *;go_wp2_with fail;go_quiet (fail);go_wp2_with fail;go_roundw
   case rel=>exact ⟨k+1,qB,by go_num,Bj _ HB⟩
   case measure=>(first|(simp [intOf];omega)|(simp [intOf];done))
  ·exact qFh
theorem Vu (g:Bool) (a:Γ) (n c:Nat) (d:Ξ) (hd:RdL w a n c d) (a':Γ) (c':Nat) (ik:RdL w a' n c' d) :
  Θ 191 #[.agg #[.bool g,.slice a n c],.agg #[.bool g,.slice a' n c']] w fun e w'=>e=.returned (.bool true)∧xp w w':=by
 have HB:=Ac w w;go_enter func191,ntmps191;go_wp2_with (first|(go_at_call 229;refine (aV _ a n c d (hd.keep qD) a' c' (ik.keep qD)).mono ?_;rintro e w1 ⟨rfl,hb⟩;have ir:=zP w hb));go_ret;exact ⟨rfl,qR⟩
theorem eG (g1:Bool) (a1:Γ) (n1 c1:Nat) (d1:Ξ) (h1:RdL w a1 n1 c1 d1) (g2:Bool) (a2:Γ) (n2 c2:Nat) (d2:Ξ) (h2:RdL w a2 n2 c2 d2) (a3:Γ) (c3:Nat) (h3:RdL w a3 n1 c3 d1) (a4:Γ) (c4:Nat) (h4:RdL w a4 n2 c4 d2) :
  Θ 115 #[.agg #[.bool g1,.slice a1 n1 c1,.bool g2,.slice a2 n2 c2],.agg #[.bool g1,.slice a3 n1 c3,.bool g2,.slice a4 n2 c4]] w fun e w'=>e=.returned (.bool true)∧xp w w':=by
 go_enter func115,ntmps115;go_wp2_with fail;refine Bt ?_;intro W0 th;have lz:xp w W0:=by rw [th];go_grown
 have s2:Z W0 w 2 (.bool g2):=by rw [th];simp [go_sem]
 have s3:Z W0 w 3 (.slice a2 n2 c2):=by rw [th];simp [go_sem]
 have s6:Z W0 (w+1) 2 (.bool g2):=by rw [th];simp [go_sem]
 have s7:Z W0 (w+1) 3 (.slice a4 n2 c4):=by rw [th];simp [go_sem]
 clear th;refine (Vu W0 g1 a1 n1 c1 d1 (h1.keep lz) a3 c3 (h3.keep lz)).mono ?_;rintro e w1 ⟨rfl,br⟩;replace ⟨s2,s3,s6,s7⟩:=xj br s2 s3 s6 s7;have NH:=xo lz br;go_wp2_with fail;refine (Vu w1 g2 a2 n2 c2 d2 (h2.keep NH) a4 c4 (h4.keep NH)).mono ?_;rintro e w2 ⟨rfl,bp⟩;go_wp2_with fail;go_ret;exact ⟨rfl,(xo NH bp)⟩
theorem cN (s t:Tm) (hs:Dg w s) (ht:Dg w t) (e1:s.g1=t.g1) (e2:s.d1=t.d1) (e3:s.g2=t.g2) (e4:s.d2=t.d2) (q0:s.m0=t.m0) (q1:s.m1=t.m1) (q2:s.m2=t.m2) (q3:s.m3=t.m3) :
  Θ 34 #[s.val,t.val] w fun e w'=>e=.returned (.bool true)∧xp w w':=by
 obtain ⟨g1,a1,n1,c1,d1,g2,a2,n2,c2,d2,m0,m1,m2,m3⟩:=s;obtain ⟨g1',a1',n1',OX,d1',g2',a2',n2',RP,d2',m0',m1',m2',m3'⟩:=t;simp only at e1 e2 e3 e4 q0 q1 q2 q3;subst e1 e2 e3 e4 q0 q1 q2 q3;have h1:=hs.top;have h2:=hs.low;have h3:=ht.top;have h4:=ht.low;simp only at h1 h2 h3 h4;obtain rfl:n1=n1':=h1.len.symm.trans h3.len;obtain rfl:n2=n2':=h2.len.symm.trans h4.len;show Θ 34 #[.agg #[.bool g1,.slice a1 n1 c1,.bool g2,.slice a2 n2 c2,U m0,U m1,U m2,U m3],.agg #[.bool g1,.slice a1' n1 OX,.bool g2,.slice a2' n2 RP,U m0,U m1,U m2,U m3]] w _;clear hs ht;go_enter func34,ntmps34;go_wp2_with fail;refine Bt ?_;intro W0 th;have lz:xp w W0:=by rw [th];go_grown
 have s0:Z W0 w 4 (U m0):=by rw [th];simp [go_sem]
 have t0:Z W0 (w+1) 4 (U m0):=by rw [th];simp [go_sem]
 have s1:Z W0 w 5 (U m1):=by rw [th];simp [go_sem]
 have t1:Z W0 (w+1) 5 (U m1):=by rw [th];simp [go_sem]
 have s2:Z W0 w 6 (U m2):=by rw [th];simp [go_sem]
 have t2:Z W0 (w+1) 6 (U m2):=by rw [th];simp [go_sem]
 have s3:Z W0 w 7 (U m3):=by rw [th];simp [go_sem]
 have t3:Z W0 (w+1) 7 (U m3):=by rw [th];simp [go_sem]
 clear th;refine (eG W0 g1 a1 n1 c1 d1 (h1.keep lz) g2 a2 n2 c2 d2 (h2.keep lz) a1' OX (h3.keep lz) a2' RP (h4.keep lz)).mono ?_;rintro e w1 ⟨rfl,br⟩;replace ⟨s0,t0,s1,t1,s2,t2,s3,t3⟩:=xl br s0 t0 s1 t1 s2 t2 s3 t3;have NH:=xo lz br;go_wp2_with fail;go_ret;exact ⟨qH,NH⟩
theorem kA {s t:Tm} {x:PT} {w:World} (hs:Ey s x) (ht:Ey t x) (rs:Dg w s) (rt:Dg w t):s.g1=t.g1∧s.d1=t.d1∧s.g2=t.g2∧s.d2=t.d2∧s.m0=t.m0∧s.m1=t.m1∧s.m2=t.m2∧s.m3=t.m3 :=
 ⟨hs.g1.trans ht.g1.symm,hs.d1.trans ht.d1.symm,hs.g2.trans ht.g2.symm,hs.d2.trans ht.d2.symm,Z7 rs.s0 rs.s1 rs.s2 rs.s3 rt.s0 rt.s1 rt.s2 rt.s3 (hs.key.trans ht.key.symm)⟩
theorem dW (B:Nat) (a:Γ) (n c:Nat) (l:Δ) (h:Be w B a n c l) (B':Nat) (a':Γ) (n' c':Nat) (h':Be w B' a' n' c' l) :
  Θ 9 #[.slice a n c,.slice a' n' c'] w fun e w'=>e=.returned (.bool true)∧xp w w':=by
 have HB:=Ac w w;obtain rfl:n=n':=h.len.symm.trans h'.len;obtain ⟨p,hp,jv⟩:=h.ts;obtain ⟨q,hq,xz⟩:=h'.ts;have hl:=h.len;have pg:=hp.few;have HS:Hid (∀k,k<n→(p k).g1=(q k).g1∧(p k).d1=(q k).d1∧(p k).g2=(q k).g2∧(p k).d2=(q k).d2∧(p k).m0=(q k).m0∧(p k).m1=(q k).m1∧(p k).m2=(q k).m2∧(p k).m3=(q k).m3):=Ae fun k hk=>by
  obtain ⟨x,hx⟩:∃x,l[k]? = some x:=⟨_,Ai qB⟩;exact kA (jv k x hx).1 (xz k x hx).1 (hp.tm k hk) (hq.tm k hk)
 clear jv xz h h' hl;go_enter func9,ntmps9;go_wp2_with fail;go_loopw [5] (fun v wr=>∃k:Nat,k≤n∧v=M k∧xp w wr) (fun v _=>n-(intOf v).toNat)
 case atStart=>exact ⟨0,qB,rfl,HB⟩
 case round =>
  obtain ⟨k,hk,rfl,HB⟩:=hrel;by_cases bj:k<n
  ·obtain ⟨b,o,rfl,_⟩:=hp.cell.resolve_left qB;obtain ⟨b',o',rfl,_⟩:=hq.cell.resolve_left qB;obtain ⟨e0,e1,e2,e3,e4,e5,e6,e7⟩:=(hp.keep HB).at bj;obtain ⟨i0,i1,i2,i3,i4,i5,i6,i7⟩:=(hq.keep HB).at bj;have hC:=fun W (hW:xp w W)=>cN W (p k) (q k) ((hp.tm k bj).keep hW) ((hq.tm k bj).keep hW) (HS.out k bj).1 (HS.out k bj).2.1 (HS.out k bj).2.2.1 (HS.out k bj).2.2.2.1 (HS.out k bj).2.2.2.2.1 (HS.out k bj).2.2.2.2.2.1 (HS.out k bj).2.2.2.2.2.2.1 (HS.out k bj).2.2.2.2.2.2.2
   have HC:=Ae hC;clear hC;go_wp2_with fail;replace e0:=Bk e0;replace i0:=Bk i0;replace e1:=Bk e1;replace i1:=Bk i1;replace e2:=Bk e2;replace i2:=Bk i2;replace e3:=Bk e3;replace i3:=Bk i3;replace e4:=Bk e4;replace i4:=Bk i4;replace e5:=Bk e5;replace i5:=Bk i5;replace e6:=Bk e6;replace i6:=Bk i6;replace e7:=Bk e7;replace i7:=Bk i7;(refine Bi qE qE ?_;(repeat (go_big_quiet_step (first|(go_at_call 34;exact Cr (HC.out _ (HB.trans (Below.mono (Subtype.property _) HB.size)))))));refine wpQuiet_nil ?_;intro _ cw;obtain ⟨nq,cw⟩:=cw;subst cw);obtain ⟨w3,ea⟩:=nq;try dsimp only
   go_wp2_with fail;go_roundw
   case rel=>exact ⟨k+1,qB,by go_num,(xo HB ea)⟩
   case measure=>(first|(simp [intOf];omega)|(simp [intOf];done))
  ·exact qFh
theorem Tab.heapK {w:World} (h:Tab w) (hb:∀g,g<w.heap.size→w'.heap[g]? = w.heap[g]?):Tab w':=by
 unfold Tab Lib.TabIs World.var? at *
 cases hg:prog.globalNamed "internal/strconv.uint64pow10" with
 | none=>simp [hg] at h
 | some g =>
  simp only [hg,Option.bind_some] at h ⊢;have bj:g<w.heap.size:=qFf;rw [hb g bj];exact h
theorem I3.heapK {w:World} (h:I3 w) (h7:5<w.heap.size) (hb:∀g,g<w.heap.size→w'.heap[g]? = w.heap[g]?):I3 w':=by
 obtain ⟨ev,h1,h2⟩:=h;exact ⟨ev,(Af (a:=⟨5,0,none⟩) (hb _ h7)).trans h1,h2⟩
theorem Abj (h:n≤500):n*((500-n)+(500-n)+1)≤400000:=by
 rcases Nat.lt_or_ge 250 n with h1|h1
 ·exact Ah (Nat.mul_le_mul h (show (500-n)+(500-n)+1≤501 from qB)) qI
 ·exact Ah (Nat.mul_le_mul h1 (show (500-n)+(500-n)+1≤1001 from qB)) qI
theorem Sj {w:World} {a:Γ} {c:Nat} {p s:Nat→Tm} (hs:RdP w a n c s) (py:∀j,j<n→Uk (s j) (p j)) (yg:a=none→c=0) (hn:n≤500) (hk:∀i,i<n→(p i).n1≤500-n∧(p i).n2≤500-n) (hr:POk p n↔r=true):Zu w a n c r (lst p n) (500-n):=by
 have vn:∀i,i<n→(s i).n1≤500-n∧(s i).n2≤500-n:=fun i hi=>by rw [(py i hi).n1,(py i hi).n2];exact hk i hi
 have kx:r=true→POk s n:=fun h=>(Z9 py).2 (hr.2 h)
 rw [←jJ py];exact ⟨⟨a,n,c,s,rfl,hs,fun k hki=>by have:=vn k hki;omega,(Z9 py).trans hr⟩,fun h=>Aat hs (kx h) yg,fun h=>xM hs (kx h),fun h=>wE hs (kx h) vn,I5 s n,Abj hn,qB⟩
theorem S9 (t:Tm):Uk t t:=⟨rfl,rfl,rfl,rfl,rfl,rfl,rfl,rfl,rfl,rfl⟩
theorem Zu.keep {w:World} {a:Γ} {c:Nat} {K:Nat} (h:Zu w a n c r l K) (hb:xp w w'):Zu w' a n c r l K :=
 ⟨h.el.keep hb,fun hr=>(h.at_ hr).keep hb,h.pw,h.few,h.len,h.sz,h.k⟩
theorem Za (o:Nat) (ho:o<256) (a:Γ) (n c:Nat) (p:Nat→Tm) (hp:RdP w a n c p) (yg:a=none→c=0) (a':Γ) (n' c':Nat) (q:Nat→Tm) (hq:RdP w a' n' c' q) (DY:a'=none→c'=0) (hT:Tab w) (hV:I3 w) (h7:5<w.heap.size) :
  Θ 3 #[.int .u8 o,.slice a n c,.slice a' n' c'] w fun e w'=>e=.returned (.bool true)∧Ec (fun g=>w.heap.size≤g) w w':=by
 have HH:=Ae (Ax hT (Ax hV h7));have HP:=Ae (Ax hp yg);have HQ:=Ae (Ax hq DY);clear hT hV h7 yg DY;go_enter func3,ntmps3;go_wp2_with fail;refine (Sw w a n c p hp (fun k hk=>⟨(hp.tm k hk).top.few,(hp.tm k hk).low.few⟩)).mono ?_;rintro e w1 ⟨zp,rfl,z1,z2,z3,b1⟩;have HZ:=Ae z3;clear z3;go_wp2_with fail;refine (Sw w1 a' n' c' q (hq.keep b1) (fun k hk=>⟨(hq.tm k hk).top.few,(hq.tm k hk).low.few⟩)).mono ?_;rintro e w2 ⟨zq,rfl,y1,y2,y3,k2⟩;have HY:=Ae y3;have b2:=xo b1 k2;clear y3 hp hq b1 k2;by_cases hg:500<zp+zq
 ·go_wp2_with fail;refine (Wp w2 (HH.out.1.keep b2) (HH.out.2.1.keep b2) (Nat.lt_of_lt_of_le HH.out.2.2 b2.size)).mono ?_;rintro e w3 ⟨rfl,k3⟩;have b3:=xo b2 k3;go_wp2_with fail;go_ret;exact ⟨rfl,Fp b3 _⟩
 ·have hn:n≤500:=qB;have rk:n'≤500:=qB;have hkp:∀i,i<n→(p i).n1≤500-n∧(p i).n2≤500-n:=fun i hi=>by have:=HZ.out qB i hi;omega
  have hkq:∀i,i<n'→(q i).n1≤500-n'∧(q i).n2≤500-n':=fun i hi=>by have:=HY.out qB i hi;omega
  have HK:=Ae (Ax hkp hkq);clear HZ HY hkp hkq;go_wp2_with fail;refine (Td w2 a n c p (HP.out.1.keep b2) qB (fun j hj=>by have:=HK.out.1 j hj;omega)).mono ?_;rintro e w3 ⟨a2,c2,s,rfl,IQ,⟨m1,xs1,du⟩,⟨o1,BF⟩,k3⟩;have b3:=xo b2 k3;have ID:=Ae (Ax IQ (Ax du BF));clear IQ du BF;go_wp2_with fail;refine (Td w3 a' n' c' q (HQ.out.1.keep b3) qB (fun j hj=>by have:=HK.out.2 j hj;omega)).mono ?_;rintro e w4 ⟨a3,c3,s',rfl,IQ,⟨m2,xs2,cv⟩,⟨o2,JI⟩,k4⟩;have b4:=xo b3 k4;have DE:=Ae (Ax IQ (Ax cv JI));clear IQ cv JI;have hpm:∀j,j<n→(p j).m0<65536∧(p j).m1<65536∧(p j).m2<65536∧(p j).m3<65536:=fun j hj=>⟨(HP.out.1.tm j hj).s0,(HP.out.1.tm j hj).s1,(HP.out.1.tm j hj).s2,(HP.out.1.tm j hj).s3⟩
  have td:∀j,j<n'→(q j).m0<65536∧(q j).m1<65536∧(q j).m2<65536∧(q j).m3<65536:=fun j hj=>⟨(HQ.out.1.tm j hj).s0,(HQ.out.1.tm j hj).s1,(HQ.out.1.tm j hj).s2,(HQ.out.1.tm j hj).s3⟩
  have ZB:=ID.out.1.rd hpm;have mz:=DE.out.1.rd td;obtain ⟨r,hr⟩:∃r:Bool,POk p n↔r=true:=by
   by_cases h:POk p n
   ·exact ⟨true,fun _=>rfl,fun _=>h⟩
   ·exact ⟨false,fun k=>absurd k h,fun k=>absurd k qI⟩
  obtain ⟨r',BA⟩:∃r:Bool,POk q n'↔r=true:=by
   by_cases h:POk q n'
   ·exact ⟨true,fun _=>rfl,fun _=>h⟩
   ·exact ⟨false,fun k=>absurd k h,fun k=>absurd k qI⟩
  have X4:=(Sj ZB ID.out.1.alike (gR ID.out.1) hn HK.out.1 hr).keep k4;have Y4:=Sj mz DE.out.1.alike (gR DE.out.1) rk HK.out.2 BA;have XP:=Sj HP.out.1 (fun j _=>S9 (p j)) HP.out.2 hn HK.out.1 hr;have YQ:=Sj HQ.out.1 (fun j _=>S9 (q j)) HQ.out.2 rk HK.out.2 BA;have y9:=lE (o:=o) (r:=r&&r') (l:=lst p n) (m:=lst q n') (K:=500-n) (K':=500-n') (fun h=>by rw [Bool.and_eq_true] at h;exact ⟨XP.pw h.1,XP.few h.1⟩) (fun h=>by rw [Bool.and_eq_true] at h;exact ⟨YQ.pw h.2,YQ.few h.2⟩) qB qB (by rw [I5];omega) (by rw [I5];omega);have HRD:=Ae (Ax ZB mz);have NI:=jG w4 o ho a2 n c2 r (lst p n) (500-n) X4 a3 n' c3 r' (lst q n') (500-n') Y4;have ZC:=fun W (hW:xp w W)=>cM W o ho a n c r (lst p n) (500-n) (XP.keep hW) a' n' c' r' (lst q n') (500-n') (YQ.keep hW)
  obtain ⟨⟨zz,L⟩,CD⟩:∃z:Int×Δ,z=E9 o (r&&r') (lst p n) (lst q n'):=⟨_,rfl⟩;rw [←CD] at NI ZC y9;have HM:=Ae (Ax NI (Ax ZC y9));clear X4 Y4 XP YQ y9 NI ZC CD ZB mz hpm td hr BA;go_wp2_with fail;refine HM.out.1.mono ?_;rintro e w5 ⟨a5,n5,c5,rfl,P5,O5,k5⟩;have b5:=xo b4 k5;have H5:=Ae (Ax P5 O5);clear P5 O5;go_wp2_with fail;refine (HM.out.2.1 w5 b5).mono ?_;rintro e w6 ⟨a6,n6,c6,rfl,P6,k6⟩;have b6:=xo b5 k6;have H6:=Ae P6;clear P6;dsimp only;go_wp2_with fail;refine (dW w6 _ a5 n5 c5 L (H5.out.1.keep k6) _ a6 n6 c6 H6.out).mono ?_;rintro e w7 ⟨rfl,k7⟩;have b7:=xo b6 k7;have k37:xp w3 w7:=(((xo k4 k5).trans (k6.mono (xo k4 k5).size))).trans (k7.mono ((xo k4 k5).trans (k6.mono (xo k4 k5).size)).size);go_wp2_with fail;refine (Uv w7 a2 n c2 a c p s ((ID.out.1.mono (Ba _)).keep k37) (HP.out.1.keep b7) qB).mono ?_;rintro e w8 ⟨rfl,k8⟩;have b8:=xo b7 k8;have k47:xp w4 w7:=(xo k5 k6).trans (k7.mono (xo k5 k6).size);have k48:=xo k47 k8;go_wp2_with fail;refine (Uv w8 a3 n' c3 a' c' q s' ((DE.out.1.mono (Ba _)).keep k48) (HQ.out.1.keep b8) qB).mono ?_;rintro e w9 ⟨rfl,k9⟩;have b9:=xo b8 k9;go_wp2_with fail;have z2:=b2.size;have z3:=b3.size;have z34:=k3.size;have z45:=k4.size;have z56:=k5.size;have k39:=(xo k37 k8).trans (k9.mono (xo k37 k8).size);have ZA:=xo k48 k9;have k59:xp w5 w9:=((xo k6 k7).trans (k8.mono (xo k6 k7).size)).trans (k9.mono ((xo k6 k7).trans (k8.mono (xo k6 k7).size)).size);have z39:=k39.size;have z49:=ZA.size;have z59:=k59.size;have FE:n5≤1000000:=by have:=H5.out.1.len;have:=HM.out.2.2.2;omega
  have K1:∀W',Below w9 (w9.alloc (.cells #[M 0,.slice none 0 0,.slice none 0 0,.slice none 0 0,.slice none 0 0,.slice none 0 0,.slice none 0 0,.slice none 0 0,.slice none 0 0,.slice none 0 0,.slice none 0 0,.slice none 0 0,.slice none 0 0] 45)) W'→Mg W' w2 w9 w3 a2 n c2 s:=fun W' RY=>Rv HRD.out.1 ID.out.2.1 ID.out.2.2 (fun i hi=>by have h1:=ID.out.1.alike i hi;have h2:=HK.out.1 i hi;rw [h1.n1,h1.n2];omega) qB (by obtain ⟨b,_,_,_,h,_⟩:=ID.out.1;unfold maxLen;omega) ((k39.alloc k39.size _).trans (RY.mono z39)) z39
  have K2:∀W',Below w9 (w9.alloc (.cells #[M 0,.slice none 0 0,.slice none 0 0,.slice none 0 0,.slice none 0 0,.slice none 0 0,.slice none 0 0,.slice none 0 0,.slice none 0 0,.slice none 0 0,.slice none 0 0,.slice none 0 0,.slice none 0 0] 45)) W'→Mg W' w3 w9 w4 a3 n' c3 s':=fun W' RY=>Rv HRD.out.2 DE.out.2.1 DE.out.2.2 (fun i hi=>by have h1:=DE.out.1.alike i hi;have h2:=HK.out.2 i hi;rw [h1.n1,h1.n2];omega) qB (by obtain ⟨b,_,_,_,h,_⟩:=DE.out.1;unfold maxLen;omega) ((ZA.alloc ZA.size _).trans (RY.mono z49)) z49
  have K3:∀W',Below w9 (w9.alloc (.cells #[M 0,.slice none 0 0,.slice none 0 0,.slice none 0 0,.slice none 0 0,.slice none 0 0,.slice none 0 0,.slice none 0 0,.slice none 0 0,.slice none 0 0,.slice none 0 0,.slice none 0 0,.slice none 0 0] 45)) W'→∃p3,Mg W' w4 w9 w5 a5 n5 c5 p3:=fun W' RY=>kE H5.out.1 H5.out.2 HM.out.2.2.1 qB HM.out.2.2.2 ((k59.alloc k59.size _).trans (RY.mono z59)) z59
  have hX:=Yy _ w2 w3 w4 w5 w9 z34 z45 z56 z59 a2 n c2 a3 n' c3 a5 n5 c5 s s' qB qB FE K1 K2 K3 rG;have BW:=b9.alloc b9.size (.cells #[M 0,.slice none 0 0,.slice none 0 0,.slice none 0 0,.slice none 0 0,.slice none 0 0,.slice none 0 0,.slice none 0 0,.slice none 0 0,.slice none 0 0,.slice none 0 0,.slice none 0 0,.slice none 0 0] 45);have z9:=b9.size;clear K1 K2 K3 k39 ZA k59 k37 k8 k9 k47 k48 b8 b7 b6 b5 b4 b3 H5 H6 HM HRD ID DE HK HP HQ k3 k4 k5 k6 k7;refine hX.mono ?_;rintro e W1 ⟨rfl,jy,DP⟩;go_wp2_with fail;refine DP.mono ?_;rintro e W2 ⟨rfl,l9,hX2⟩;go_wp2_with fail;refine hX2.mono ?_;rintro e W3 ⟨rfl,nw,hX3⟩;go_wp2_with fail;refine hX3.mono ?_;rintro e W4 ⟨rfl,hS⟩;have BW3:xp w W3:=((BW.trans (jy.b.mono z9)).trans (l9.b.mono z9)).trans (nw.b.mono z9);have BD:=BW3.size;have NJ:∀g,g<w.heap.size→W4.heap[g]? = w.heap[g]?:=fun g hg=>(hS.block g qB qB).trans (BW3.block g hg)
  have hz4:=hS.size;go_wp2_with fail;refine (Wp W4 (HH.out.1.heapK NJ) (HH.out.2.1.heapK HH.out.2.2 NJ) (by have:=HH.out.2.2;omega)).mono ?_;rintro e W5 ⟨rfl,k5⟩;go_wp2_with fail;go_ret;exact ⟨rfl,k5.os.trans (hS.os.trans BW3.os),k5.output.trans (hS.output.trans BW3.output),by have:=k5.size;omega,fun g hg _=>(k5.block g qB).trans (NJ g hg)⟩
end Go.Proofs.YtfijkfdfbnfmmaaGreatDoor
end
section
namespace Go.Proofs.YtfijkfdfbnfmmaaGreatDoor
open Proofs.Tryz
open Go.ChangeShapes Go.WideShapes Go.RowKit Go.Deep
variable {cs:List Value} {fuel:Nat} {e t:TypeId} {c0:Value}
variable {H:Type} {enc:TypeId×Value→H} {W:World} {sp:Nat→Bool} {held:Bool}
def Vk (t:TypeId) (d:DataW H):Prop:=∀x∈d.weights prog t,x≤reachBytes
theorem Ui:∀{l:List (DataW H)} {d:DataW H},d∈l→∀n∈d.weights prog e,n∈DataW.weightsAll prog e l:=by
 intro l
 induction l with
 | nil=>intro d hd;cases hd
 | cons x l ih =>
  intro d hd n hn;rw [DataW.weightsAll,List.mem_append];rcases List.mem_cons.1 hd with rfl|hd
  ·exact .inl hn
  ·exact .inr (ih hd n hn)
theorem M9 {fs:Array Field} {parts:List (DataW H)} (ht:prog.underlying t=some (.struct fs)) (h:Vk t (.agg parts)) {j:Nat} {f:Field} {d:DataW H} (hf:fs[j]? = some f) (hd:parts[j]? = some d):Vk f.type d:=by
 intro x hx;refine h x ?_;rw [DataW.weights,ht];refine DataW.weights_mem_each (j:=j) (t:=f.type) ?_ hd x hx;rw [List.getElem?_map,Array.getElem?_toList,hf];rfl
theorem jY {elems spare:List (DataW H)} (ht:prog.underlying t=some (.slice e)) (h:Vk t (.slice elems spare)) {d:DataW H} (hd:d∈elems):Vk e d:=by
 intro x hx;refine h x ?_;rw [DataW.weights,ht];exact List.mem_cons_of_mem _ (List.mem_append_left _ (Ui hd x hx))
theorem Wo {elems spare:List (DataW H)} (ht:prog.underlying t=some (.slice e)) (h:Vk t (.slice elems spare)):(elems.length+spare.length)*prog.bytesOf e≤140737488351232:=by
 refine h _ ?_;rw [DataW.weights,ht];exact List.mem_cons_self ..
theorem Wx {a:Addr} {v:Value} (h:W.cell? a=some v):∃b o,a=⟨b,o,none⟩:=by
 obtain ⟨b,o,s⟩:=a
 cases s with
 | none=>exact ⟨b,o,rfl⟩
 | some i =>
  simp only [World.cell?] at h
  split at h<;>cases h
theorem eV:prog.cellsOf 129=1:=qE
theorem fL:prog.bytesOf 129=4:=qE
theorem Vv:prog.cellsOf 58=8:=qE
theorem jN:prog.bytesOf 58=72:=qE
theorem fJ {x:DataW H×List MemPlace} (h:DataW.trod enc prog W 0 (fun _=>true) held fuel 49 cs=some x) (hw:Vk 49 x.1) :
  ∃a n c d,cs=[.slice a n c]∧RdL W a n c d∧n≤35184372087808:=by
 rcases open_ints (k:=.u32) underlying49 qE eV h with ⟨rfl,_⟩|⟨a,len,cap,zs,rfl,_,hl,hm,hzl,rfl,gz,hwf⟩
 ·exact ⟨none,0,0,[],rfl,⟨rfl,Ad _,qB,qB,fun i=>by simp [lim],.inl rfl⟩,qB⟩
 ·simp only [if_true] at hzl;have fb:=Wo underlying49 hw;rw [fL] at fb;have ij:cap*4≤140737488351232:=by
   simp only [lits,List.length_map,List.length_take,List.length_drop] at fb;omega
  have hr:∀z∈zs,0≤z∧z<4294967296:=fun z hz=>by
   have:=hwf z hz;simp [Lit.wf,IntKind.min,IntKind.max,IntKind.signed,IntKind.bits] at this;omega
  have vx:∀i,0≤zs.getD i 0∧zs.getD i 0<4294967296:=fun i=>by
   by_cases hi:i<zs.length
   ·simp only [List.getD,Ai hi,Option.getD_some];exact hr _ (List.getElem_mem hi)
   ·simp [List.getD,List.getElem?_eq_none (Nat.le_of_not_lt hi)]
  have qw:∀i,i<len→lim ((zs.take len).map Int.toNat) i=zs.getD i 0:=fun i hi=>by
   have h1:=vx i;simp only [lim,List.getD,List.getElem?_map,List.getElem?_take_of_lt hi,Ai (show i<zs.length from qB),Option.map_some,Option.getD_some] at h1 ⊢;omega
  refine ⟨some a,len,cap,(zs.take len).map Int.toNat,rfl,⟨?_,hl,qB,by unfold maxLen at hm;omega,fun i=>?_,?_⟩,qB⟩
  ·rw [List.length_map,List.length_take];omega
  ·by_cases hi:i<len
   ·rw [qw i hi];exact vx i
   ·rw [show lim ((zs.take len).map Int.toNat) i=0 by simp only [lim,List.getD];rw [List.getElem?_eq_none (by rw [List.length_map,List.length_take];omega)];rfl];omega
  ·rcases Aq len with h0|h0
   ·exact .inl h0
   ·right;have h1:=gz 0 qB;rw [show a.add 0=a from rfl] at h1;obtain ⟨b,o,rfl⟩:=Wx h1;refine ⟨b,o,rfl,fun i hi=>?_⟩;have h2:=gz i qB;have vu:(J b o:Addr).add i=⟨b,o+i,none⟩:=by unfold Addr.add;split<;>simp_all
    rw [vu] at h2;rw [h2,qw i hi]
theorem Zt {c1:Value} {x:DataW H×List MemPlace} (h:DataW.trod enc prog W 0 (fun _=>true) held fuel 51 [c0,c1]=some x) (hw:Vk 51 x.1) :
  ∃g a n c d,c0=.bool g∧c1=.slice a n c∧RdL W a n c d∧n≤35184372087808:=by
 obtain ⟨xs,n,_,rfl,_,hlen,hf⟩:=DataW.trod_struct underlying51 h
 match xs,hlen with
 | [y0,y1],_ =>
  have h0:=hf 0 _ rfl;have h1:=hf 1 _ rfl;have f1:=M9 underlying51 hw (j:=1) (d:=y1.1) rfl rfl;obtain ⟨g,hg,_⟩:=DataW.trod_bool (P:=prog) (t:=4) qE (show DataW.trod enc prog W 0 (fun _=>true) held n 4 [c0]=some y0 from h0);obtain ⟨a,m,c,d,hc,hr⟩:=fJ (show DataW.trod enc prog W 0 (fun _=>true) held n 49 [c1]=some y1 from h1) f1;simp only [List.cons.injEq,and_true] at hg hc;exact ⟨g,a,m,c,d,hg,hc,hr⟩
theorem Px {x:DataW H×List MemPlace} (h:DataW.trod enc prog W 0 (fun _=>true) held fuel 54 [c0]=some x):∃m:Nat,c0=U m∧m<65536:=by
 obtain ⟨z,hz,_,hwf⟩:=DataW.trod_int (k:=.u16) u55 h;simp only [List.cons.injEq,and_true] at hz;have hr:0≤z∧z<65536:=by
  simp [Lit.wf,IntKind.min,IntKind.max,IntKind.signed,IntKind.bits] at hwf;omega
 exact ⟨z.toNat,by rw [hz,Int.toNat_of_nonneg hr.1],qB⟩
theorem mG {x:DataW H×List MemPlace} (h:DataW.trod enc prog W 0 (fun _=>true) held fuel 58 cs=some x) (hw:Vk 58 x.1) :
  ∃t:Tm,cs=[.bool t.g1,.slice t.a1 t.n1 t.c1,.bool t.g2,.slice t.a2 t.n2 t.c2,U t.m0,U t.m1,U t.m2,U t.m3]∧Dg W t∧t.n1≤35184372087808∧t.n2≤35184372087808:=by
 obtain ⟨xs,n,_,rfl,ij,hlen,hf⟩:=DataW.trod_struct underlying58 h;rw [Vv] at ij
 match cs,ij,xs,hlen with
 | [c0,c1,c2,c3,c4,c5,c6,c7],_,[y0,y1],_ =>
  have h0:=hf 0 _ rfl;have h1:=hf 1 _ rfl;have f0:=M9 underlying58 hw (j:=0) (d:=y0.1) rfl rfl;replace h0:DataW.trod enc prog W 0 (fun _=>true) held n 53 [c0,c1,c2,c3]=some y0:=h0;replace h1:DataW.trod enc prog W 0 (fun _=>true) held n 56 [c4,c5,c6,c7]=some y1:=h1;obtain ⟨ys,n',_,rfl,_,ag5,hg⟩:=DataW.trod_struct underlying53 h0
  match ys,ag5 with
  | [z0,z1],_ =>
   have g0:=hg 0 _ rfl;have g1:=hg 1 _ rfl;have e0:=M9 underlying53 f0 (j:=0) (d:=z0.1) rfl rfl;have e1:=M9 underlying53 f0 (j:=1) (d:=z1.1) rfl rfl;replace g0:DataW.trod enc prog W 0 (fun _=>true) held n' 51 [c0,c1]=some z0:=g0;replace g1:DataW.trod enc prog W 0 (fun _=>true) held n' 51 [c2,c3]=some z1:=g1;obtain ⟨q1,a1,n1,k1,d1,rfl,rfl,r1,z1⟩:=Zt g0 e0;obtain ⟨q2,a2,n2,k2,d2,rfl,rfl,r2,z2⟩:=Zt g1 e1;obtain ⟨u0,u1,u2,u3,n3,_,t0,t1,t2,t3⟩:=trod_array4 underlying56 c55 h1;obtain ⟨m0,rfl,b0⟩:=Px t0;obtain ⟨m1,rfl,b1⟩:=Px t1;obtain ⟨m2,rfl,b2⟩:=Px t2;obtain ⟨m3,rfl,b3⟩:=Px t3;exact ⟨⟨q1,a1,n1,k1,d1,q2,a2,n2,k2,d2,m0,m1,m2,m3⟩,rfl,⟨r1,r2,b0,b1,b2,b3⟩,z1,z2⟩
instance:Inhabited Tm:=⟨⟨false,none,0,0,[],false,none,0,0,[],0,0,0,0⟩⟩
theorem Wq {x:DataW H×List MemPlace} (h:DataW.trod enc prog W 0 (fun _=>true) held fuel 24 cs=some x) (hw:Vk 24 x.1) :
  ∃a n c p,cs=[.slice a n c]∧RdP W a n c p∧(a=none→c=0)∧∀k,k<n→(p k).n1≤35184372087808∧(p k).n2≤35184372087808:=by
 rcases open_slice underlying24 h with ⟨rfl,_⟩|⟨a,len,cap,m,n,D,Pl,rfl,_,hl,hm,xy,rfl,hx⟩
 ·exact ⟨none,0,0,fun _=>⟨false,none,0,0,[],false,none,0,0,[],0,0,0,0⟩,rfl,⟨Ad _,qB,qB,fun i hi=>absurd hi (Nat.not_lt_zero _),.inl rfl⟩,fun _=>rfl,fun k hk=>absurd hk (Nat.not_lt_zero _)⟩
 ·simp only [if_true] at xy;have fb:=Wo underlying24 hw;rw [jN] at fb;simp only [List.length_map,List.length_range] at fb;rw [Vv] at hx;have key:∀i,i<len→∃t:Tm,(Dg W t∧t.n1≤35184372087808∧t.n2≤35184372087808)∧∀j u,[Value.bool t.g1,.slice t.a1 t.n1 t.c1,.bool t.g2,.slice t.a2 t.n2 t.c2,U t.m0,U t.m1,U t.m2,U t.m3][j]? = some u→W.cell? ((a.add (i*8)).add j)=some u:=fun i hi=>by
   obtain ⟨cs',hc,ht⟩:=hx i qB;have hd:Vk 58 (D i):=jY underlying24 hw (List.mem_map.2 ⟨i,List.mem_range.2 hi,rfl⟩);obtain ⟨t,rfl,hr⟩:=mG ht hd;obtain ⟨_,_,jn⟩:=World.cells?_some hc;refine ⟨t,hr,fun j u hu=>?_⟩;have hj:j<8:=by
    rcases Nat.lt_or_ge j 8 with h1|h1
    ·exact h1
    ·rw [List.getElem?_eq_none (by simpa using h1)] at hu;cases hu
   rw [jn j hj];exact hu
  obtain ⟨p,hp⟩:=choose_lt (α:=Tm) (p:=fun i t=>(Dg W t∧t.n1≤35184372087808∧t.n2≤35184372087808)∧∀j u,[Value.bool t.g1,.slice t.a1 t.n1 t.c1,.bool t.g2,.slice t.a2 t.n2 t.c2,U t.m0,U t.m1,U t.m2,U t.m3][j]? = some u→W.cell? ((a.add (i*8)).add j)=some u) key;refine ⟨some a,len,cap,p,rfl,⟨hl,qB,by unfold maxLen at hm;omega,fun i hi=>(hp i hi).1.1,?_⟩,fun e=>(by cases e),fun k hk=>(hp k hk).1.2⟩;rcases Aq len with h0|h0
  ·exact .inl h0
  ·right;have h1:=(hp 0 h0).2 0 _ rfl;obtain ⟨b,o,rfl⟩:=Wx (a:=a) h1;refine ⟨b,o,rfl,fun i hi=>?_⟩;have h2:=(hp i hi).2;have vu:∀j,((J b o:Addr).add (i*8)).add j=⟨b,o+i*8+j,none⟩:=fun j=>by
    unfold Addr.add;split<;>split<;>simp_all
   simp only [vu] at h2;exact ⟨h2 0 _ rfl,h2 1 _ rfl,h2 2 _ rfl,h2 3 _ rfl,h2 4 _ rfl,h2 5 _ rfl,h2 6 _ rfl,h2 7 _ rfl⟩
end Go.Proofs.YtfijkfdfbnfmmaaGreatDoor
end
section
namespace Go.Proofs.YtfijkfdfbnfmmaaGreatDoor
open Proofs.Tryz
open Go.ChangeShapes Go.WideShapes Go.ChangeAt Go.RowKit Go.Deep
variable {W W':World}
theorem Abd:ownKnob prog.godebug=none:=qE
theorem Ab6:prog.globalNamed "internal/strconv.uint64pow10" = some 1:=qE
theorem kN:(prog.globals[1]?).map (·.type)=some 373:=qE
theorem dI:prog.cellsOf 373=20:=qE
theorem cE:prog.cellsOf 235=1:=qE
theorem zS:(Rows.laid_internal_strconv_uint64pow10:DataW Unit)=Lib.tabData .u64 Lib.pow10Tab:=qE
theorem Xy {P:Program} {x1 x2:String×DataW Unit} {r:List (String×DataW Unit)} {name:String} {k:IntKind} {zs:List Int} {g:Nat} {t e:TypeId} {n:Nat}
  (hg:P.globalNamed name=some g) (FO:(P.globals[g]?).map (·.type)=some t) (ht:P.underlying t=some (.array n e)) (he:P.underlying e=some (.int k)) (hce:P.cellsOf e=1) (hct:P.cellsOf t=n)
  (h:laidMet P (x1::x2::(name,Lib.tabData k zs)::r) W):Lib.TabIs P W name k zs:=by
 obtain ⟨ps,⟨_,_,_,_,_,_,_,_,_,_,⟨_,_,_,_,_,_,_,_,_,_,⟨g',t',cs,fuel,p,q,tq,ht',aqx,hd,_,_⟩,_⟩,_⟩,_⟩:=h;obtain rfl:=Option.some.inj (hg.symm.trans tq);obtain rfl:=Option.some.inj (FO.symm.trans ht');unfold Lib.TabIs;rw [aqx,←Lib.cells_of_tab ht he hce hct hd]
theorem Zj {x1 x2:String×DataW Unit} {r:List (String×DataW Unit)} (h:laidMet prog (x1::x2::("internal/strconv.uint64pow10",(Rows.laid_internal_strconv_uint64pow10:DataW Unit))::r) W):Tab W:=by
 rw [zS] at h;exact Xy Ab6 kN underlying373 underlying235 cE dI h
section
variable {H:Type} {enc:TypeId×Value→H} {P:Program}
end
theorem Qr:laidOutB prog=true:=qE
def Aah:Obj→Obj
 | .cells _ t frozen=>.cells #[.int .u64 1,.int .u64 10,.int .u64 100,.int .u64 1000,.int .u64 10000,.int .u64 100000,.int .u64 1000000,.int .u64 10000000,.int .u64 100000000,.int .u64 1000000000,.int .u64 10000000000,.int .u64 100000000000,.int .u64 1000000000000,.int .u64 10000000000000,.int .u64 100000000000000,.int .u64 1000000000000000,.int .u64 10000000000000000,.int .u64 100000000000000000,.int .u64 1000000000000000000,.int .u64 10000000000000000000] t frozen
 | o=>o
def yY:Obj→Obj
 | .cells _ t frozen=>.cells #[.int .u8 0,.int .u8 1,.int .u8 28,.int .u8 2,.int .u8 29,.int .u8 14,.int .u8 24,.int .u8 3,.int .u8 30,.int .u8 22,.int .u8 20,.int .u8 15,.int .u8 25,.int .u8 17,.int .u8 4,.int .u8 8,.int .u8 31,.int .u8 27,.int .u8 13,.int .u8 23,.int .u8 21,.int .u8 19,.int .u8 16,.int .u8 7,.int .u8 26,.int .u8 12,.int .u8 18,.int .u8 6,.int .u8 11,.int .u8 5,.int .u8 10,.int .u8 9] t frozen
 | o=>o
def Aaj:Obj→Obj
 | .cells _ t frozen=>.cells #[.int .u8 0,.int .u8 1,.int .u8 56,.int .u8 2,.int .u8 57,.int .u8 49,.int .u8 28,.int .u8 3,.int .u8 61,.int .u8 58,.int .u8 42,.int .u8 50,.int .u8 38,.int .u8 29,.int .u8 17,.int .u8 4,.int .u8 62,.int .u8 47,.int .u8 59,.int .u8 36,.int .u8 45,.int .u8 43,.int .u8 51,.int .u8 22,.int .u8 53,.int .u8 39,.int .u8 33,.int .u8 30,.int .u8 24,.int .u8 18,.int .u8 12,.int .u8 5,.int .u8 63,.int .u8 55,.int .u8 48,.int .u8 27,.int .u8 60,.int .u8 41,.int .u8 37,.int .u8 16,.int .u8 46,.int .u8 35,.int .u8 44,.int .u8 21,.int .u8 52,.int .u8 32,.int .u8 23,.int .u8 11,.int .u8 54,.int .u8 26,.int .u8 40,.int .u8 15,.int .u8 34,.int .u8 20,.int .u8 31,.int .u8 10,.int .u8 25,.int .u8 14,.int .u8 19,.int .u8 9,.int .u8 13,.int .u8 8,.int .u8 7,.int .u8 6] t frozen
 | o=>o
def Aa1:Obj→Obj
 | .cells _ t frozen=>.cells (Pinned.utf8FirstZ.map fun (n:Nat)=>Value.int .u8 (n:Int)).toArray t frozen
 | o=>o
def Aae:Obj→Obj
 | .cells _ t frozen=>.cells #[.int .u8 128,.int .u8 191,.int .u8 160,.int .u8 191,.int .u8 128,.int .u8 159,.int .u8 144,.int .u8 191,.int .u8 128,.int .u8 143,.int .u8 0,.int .u8 0,.int .u8 0,.int .u8 0,.int .u8 0,.int .u8 0,.int .u8 0,.int .u8 0,.int .u8 0,.int .u8 0,.int .u8 0,.int .u8 0,.int .u8 0,.int .u8 0,.int .u8 0,.int .u8 0,.int .u8 0,.int .u8 0,.int .u8 0,.int .u8 0,.int .u8 0,.int .u8 0] t frozen
 | o=>o
def oT (b:Nat):Obj→Obj
 | .cells _ t frozen=>.cells #[.iface 387 (.pointer (E b))] t frozen
 | o=>o
noncomputable def X7 (os:Os):World :=
  { World.holding prog os ⟨#[],#[],[]⟩ with heap:=((((((((((World.holding prog os ⟨#[],#[],[]⟩).heap.modify 1 Aah).modify 6 yY).modify 7 Aaj).modify 2 Aa1).modify 3 Aae).modify 4 (oT (World.holding prog os ⟨#[],#[],[]⟩).heap.size)).modify 5 (oT ((World.holding prog os ⟨#[],#[],[]⟩).heap.size+1))).push (.cells #[.string ⟨#[105,110,118,97,108,105,100,32,115,121,110,116,97,120]⟩] 389)).push (.cells #[.string ⟨#[118,97,108,117,101,32,111,117,116,32,111,102,32,114,97,110,103,101]⟩] 389)) }
theorem gER:prog.globalNamed "strconv.ErrRange" = some 5:=qE
theorem tI:(prog.globals[5]?).map (·.type)=some 262:=qE
theorem iY : "*" ++ "errors.errorString" = "*errors.errorString" := qI
theorem Aa3 (u:TypeId) (h:prog.typeName? 3 u=some "*errors.errorString"):u=387 :=
 typeName_ptr_named (nm := "errors.errorString") (by rw [iY];kernel_rfl) qE qI u (by rw [iY];exact h)
theorem c349:prog.cellsOf 389=1:=qE
theorem c9:prog.cellsOf 9=1:=qE
theorem Zm {x1 x2 x3 x4:String×DataW Unit} {r:List (String×DataW Unit)} (h:laidMet prog (x1::x2::x3::x4::("strconv.ErrRange",(Rows.laid_strconv_ErrRange:DataW Unit))::r) W):I3 W∧5<W.heap.size:=by
 obtain ⟨a1,s1,QI,-,-,-⟩:=laid_sentinel h.tail.tail.tail.tail gER tI underlying262 Aa3 underlying387 underlying389 rfl rfl underlying9 c349 c9;have hc:Z W 5 0 (.iface 387 (.pointer (some a1))):=by have h0:=World.var?_cell gER QI 0;simpa using h0
 exact ⟨⟨_,hc,.inr ⟨_,_,rfl⟩⟩,Aa _ _ hc⟩
section
theorem Rk (h:Ec (fun g=>W.heap.size≤g) W W') {p:MemPlace} (hp:p.block<W.heap.size):W.sameAt W' p:=by
 have hb:=h.block p.block hp (fun e=>qB)
 cases p with
 | cell b o=>exact Af (w:=W) hb
 | map b=>exact hb
theorem eE (h:Ec (fun g=>W.heap.size≤g) W W') (may:MemPlace→Prop):W.keptBut W' may:=by
 refine ⟨h.os,h.output,fun i hi=>?_⟩;rw [h.block i hi (fun e=>qB)]
 split<;>simp_all
variable {H:Type} {enc:TypeId×Value→H} {P:Program}
theorem dZ {f:Func} {s:ChangeSpec} {apart fresh handsOn again:Bool} {args:Array Value} {v:Value} {ds gs:List (DataW H)} {before pa pv:List MemPlace}
  (hW:DataW.Whole enc P f.params.toList s.vars apart W args.toList ds gs before)
  (ew:∀(b:Nat) (sp:Nat→Bool) (hd:Bool),DataW.TrodAll enc P W' b sp hd f.resultTypes.toList (v.resultList f.resultTypes.size) (s.fn H (ds++gs)).results [])
  (NK:∀sp:Nat→Bool,(∀p∈before,sp p.block=true)→DataW.TrodAll enc P W' 0 sp true f.params.toList args.toList (s.fn H (ds++gs)).args pa)
  (UF:∀sp:Nat→Bool,(∀p∈before,sp p.block=true)→DataW.TrodVars enc P W' sp s.vars (s.fn H (ds++gs)).vars pv)
  (hps:before=pa++pv) (hb:Ec (fun g=>W.heap.size≤g) W W')
  (kx:∀(j:Nat) (t:TypeId) (r:Value),f.resultTypes[j]? = some t→(v.resultList f.resultTypes.size)[j]? = some r→Value.okWide P W' .any 0 t r) :
  s.post enc P f apart fresh handsOn again W args v W':=by
 have bj:∀p∈before,p.block<W.heap.size:=fun p hp=>hW.lt p hp
 have hold:∀p∈before,(fun b=>decide (b<W.heap.size)) p.block=true:=fun p hp=>by simpa using bj p hp
 refine ⟨ds,gs,before,[],pa,pv,hW,ew _ _ _,NK _ hold,UF _ hold,World.keptBut_mono (fun p hp=>⟨hp,?_⟩) (eE hb (·∈before)),fun _=>?_⟩
 ·rw [hps,List.mem_append] at hp;exact Or.inr hp
 ·obtain ⟨_,_,_,_,_,hz,hn⟩:=hW;refine ⟨kx,_,_,([]++pa)++pv,⟨[]++pa,pv,trodAll_append (NK _ (fun _ _=>rfl)) (ew _ _ _),UF _ (fun _ _=>rfl),rfl,?_,?_⟩,?_⟩
  ·intro b off hp;have j8:MemPlace.cell b off∈before:=by rw [hps];simpa using hp
   rw [World.frozen?_of_block (a:=⟨b,off,none⟩) (hb.block b (bj _ j8) (fun e=>by have h1:b<W.heap.size:=bj _ j8;omega))];exact hz b off j8
  ·intro ha;have:=hn ha;rw [hps] at this;simpa using this
  ·intro p hp _;rw [hps];simpa using hp
end
end Go.Proofs.YtfijkfdfbnfmmaaGreatDoor
end
section
namespace Go.Proofs.YtfijkfdfbnfmmaaGreatDoor
open Proofs.Tryz
open Go.ChangeShapes Go.WideShapes Go.ChangeAt Go.RowKit
theorem dR (H:Type) (enc:TypeId×Value→H) (W:World) (base:Nat) (args:Array Value) (ds gs:List (DataW H)) (before:List MemPlace)
  (hval:∀(j:Nat) t v,Tryz.f3.params[j]? = some t→args[j]? = some v→Value.okWide prog W .any base t v)
  (hW:DataW.Whole enc prog Tryz.f3.params.toList Rows.basesPairSpec.vars false W args.toList ds gs before)
  (ue:(DataW.weightsEach prog (Tryz.f3.params.toList++(OpenSpec.ofChange Rows.basesPairSpec).bare.plain.varTypes prog) (ds++gs)).all (·≤reachBytes)=true)
  (hL:laidMetH prog Rows.basesPairRow.laid W) :
  Θ 3 args W fun e W'=>∃v,e=.returned v∧Rows.basesPairSpec.post enc prog Tryz.f3 false true false false W args v W':=by
 have RY:=hW;obtain ⟨p,q,OY,hV,rfl,hfz,hnd⟩:=hW;have hA:DataW.TrodAll enc prog W 0 (fun _=>true) true Tryz.f3.params.toList args.toList ds p:=OY;rw [params3] at hA hval ue;obtain ⟨v0,vs0,d0,ds0,p0,q0,NK,rfl,rfl,t0,r0⟩:=trodAll_cons hA;obtain ⟨v1,vs1,d1,ds1,p1,q1,rfl,rfl,rfl,t1,r1⟩:=trodAll_cons r0;obtain ⟨v2,vs2,d2,ds2,p2,q2,rfl,rfl,rfl,t2,r2⟩:=trodAll_cons r1;obtain ⟨rfl,rfl,rfl⟩:=trodAll_nil r2;obtain rfl:args=#[v0,v1,v2]:=by cases args;simp_all
 obtain ⟨rfl,rfl⟩:=trodVars_none hV;clear OY;obtain ⟨z0,rfl⟩:=okWide_int underlying22 (hval 0 22 v0 rfl rfl);have s0:=t0;obtain ⟨f0,hf0⟩:=t0;obtain ⟨z',sj,_,hwf⟩:=DataW.trod_int underlying22 hf0;have CT:[Value.int .u8 z0]=[Value.int .u8 z']:=sj;simp only [List.cons.injEq,Value.int.injEq,true_and,and_true] at CT;subst CT;clear sj;have dw:0≤z0∧z0<256:=by
  simp [Lit.wf,IntKind.min,IntKind.max,IntKind.signed,IntKind.bits] at hwf;omega
 obtain ⟨x0,rfl⟩:∃x:Nat,z0=x:=⟨z0.toNat,qB⟩;have h0:x0<256:=qB;have aqy:∀x∈d1.weights prog 24,x≤reachBytes:=fun x hx=>by
  have:=List.all_eq_true.1 ue x (DataW.weights_mem_each (j:=1) (t:=24) rfl rfl x hx);simpa using this
 obtain ⟨a1,n1,c1,rfl⟩:=okWide_slice underlying24 (hval 1 24 v1 rfl rfl);have s1:=t1;obtain ⟨f1,ln⟩:=t1;obtain ⟨a',n',c',x1,sj,h1,aqz,_⟩:=Wq ln aqy;have CT:[Value.slice a1 n1 c1]=[Value.slice a' n' c']:=sj;simp only [List.cons.injEq,Value.slice.injEq,and_true] at CT;obtain ⟨rfl,rfl,rfl⟩:=CT;clear sj;have aq0:∀x∈d2.weights prog 24,x≤reachBytes:=fun x hx=>by
  have:=List.all_eq_true.1 ue x (DataW.weights_mem_each (j:=2) (t:=24) rfl rfl x hx);simpa using this
 obtain ⟨a2,n2,c2,rfl⟩:=okWide_slice underlying24 (hval 2 24 v2 rfl rfl);have s2:=t2;obtain ⟨f2,nk⟩:=t2;obtain ⟨a',n',c',x2,sj,h2,aq1,_⟩:=Wq nk aq0;have CT:[Value.slice a2 n2 c2]=[Value.slice a' n' c']:=sj;simp only [List.cons.injEq,Value.slice.injEq,and_true] at CT;obtain ⟨rfl,rfl,rfl⟩:=CT;clear sj;have hT:=Zj (r:=[("unicode/utf8.acceptRanges",Rows.laid_unicode_utf8_acceptRanges),("strconv.ErrRange",Rows.laid_strconv_ErrRange),("strconv.ErrSyntax",Rows.laid_strconv_ErrSyntax),("unicode/utf8.first",Rows.laid_unicode_utf8_first)]) hL;obtain ⟨hV,h7⟩:=Zm (r:=[("strconv.ErrSyntax",Rows.laid_strconv_ErrSyntax),("unicode/utf8.first",Rows.laid_unicode_utf8_first)]) hL;simp only [List.append_nil] at RY;refine (Za W x0 h0 a1 n1 c1 x1 h1 aqz a2 n2 c2 x2 h2 aq1 hT hV h7).mono fun e W' ⟨he,hb⟩=>?_
 subst he;refine ⟨_,rfl,dZ (pa:=p0++(p1++(p2))) (pv:=[]) RY (fun _ _ _=>trodAll_cons_mk (shut_bool underlying4 _) trodAll_mk0) (fun sp CD=>?_) (fun _ _=>rfl) qH hb (ok_one qE rfl (okWide_bool_mk underlying4 _))⟩;have bj:∀x∈p0++(p1++(p2)),x.block<W.heap.size:=fun x hx=>RY.lt x (by simpa using hx)
 have j0:=WideElems.Trod_stays (P:=prog) Qr qE (of_decide_eq_true qE) s0 (fun x hx=>Rk hb (bj x (by simp [hx]))) (fun x hx=>CD x (by simp [hx]));have j1:=WideElems.Trod_stays (P:=prog) Qr qE (of_decide_eq_true qE) s1 (fun x hx=>Rk hb (bj x (by simp [hx]))) (fun x hx=>CD x (by simp [hx]));have j2:=WideElems.Trod_stays (P:=prog) Qr qE (of_decide_eq_true qE) s2 (fun x hx=>Rk hb (bj x (by simp [hx]))) (fun x hx=>CD x (by simp [hx]));have:=trodAll_cons_mk j0 (trodAll_cons_mk j1 (trodAll_cons_mk j2 (trodAll_mk0)));rw [List.append_nil] at this;exact this
theorem yB (os:Os):laidMet prog Rows.basesPairRow.laid ((X7 os).forCall (fun _ _=>0) ⟨#[],#[.int .u8 0,.slice none 0 0,.slice none 0 0],[]⟩).memory :=
 laidMet_of_run' 8 qE qE
theorem uE (os:Os) {H:Type} (enc:TypeId×Value→H):∃places,DataW.whole enc prog ((X7 os).forCall (fun _ _=>0) ⟨#[],#[.int .u8 0,.slice none 0 0,.slice none 0 0],[]⟩).memory Tryz.f3.params.toList Rows.basesPairSpec.vars false #[Value.int .u8 0,.slice none 0 0,.slice none 0 0].toList 8=some ([.lit (.int .u8 0),.nil,.nil],[],places) :=
 ⟨[],qE⟩
theorem rL (os:Os) (started:os.Started) (H:Type) (enc:TypeId×Value→H) (F:Stop.Interp) :
  ReturnsInHanded {} Tryz.checked os 3 .any ((OpenSpec.ofChange Rows.basesPairSpec).preRow enc prog Tryz.f3 Rows.basesPairRow.domain false Rows.basesPairRow.laid) (((OpenSpec.ofChange Rows.basesPairSpec).at F).post enc prog Tryz.f3 false true false false):=by
 obtain ⟨places,hx⟩:=uE os enc;refine returnsInHanded_of_row (C:=Tryz.checked) (s:=OpenSpec.ofChange Rows.basesPairSpec) Abd started qE func3
  (witness_row_at (enc:=enc) (C:=Tryz.checked) false (X7 os) #[.int .u8 0,.slice none 0 0,.slice none 0 0] rfl qE qE qE
   (OpenSpec.preRow_of_cond 8 hx qE (fun k hk=>by cases hk) qE (yB os))) ?_
 intro W base args ds gs before hval hW _ _ ue hL _ _;exact dR H enc W base args ds gs before hval hW ue hL
end Go.Proofs.YtfijkfdfbnfmmaaGreatDoor
end
