/- Package polys: Sub. -/
import Derived.Test.YtfijkfdfbnfmmaaGreatDoorQF29
set_option linter.unusedSimpArgs false
set_option linter.unusedVariables false
set_option maxRecDepth 100000
set_option maxHeartbeats 4000000
section
namespace Go.Proofs.YtfijkfdfbnfmmaaGreatDoor
open Go.RowKit Proofs.Tryz
theorem xC (w:World) (B:Nat) (a:Γ) (n c:Nat) (l:Δ) (h:Be w B a n c l) (hl:PW l) (K:Nat) (hK:Cj K l) (B':Nat) (a':Γ) (n' c':Nat) (l':Δ) (h':Be w B' a' n' c' l') (hl':PW l') (K':Nat) (hK':Cj K' l')
  (hs:PW (Ti (-1,1) l')) (hsK:Cj K' (Ti (-1,1) l')) (hsn:(Ti (-1,1) l').length≤500000)
  (CZ:K+K'<1000000) (hn:n≤500000) (rk:n'≤400000) (hw:∀k,wtk (Ej (-1,1) l') k≤400000) :
  Θ 24 #[.slice a n c,.slice a' n' c'] w (Fy w (Sd l l')):=by
 have HS:=Ae (Ax hs (Ax hsK hsn));have HW:=Ae hw;clear hs hsK hsn hw;go_enter func24,ntmps24;go_wp2_with fail;refine (Nx w (-1) qB qB).mono ?_;rintro e w1 ⟨g1,a1,n1,c1,g2,a2,n2,c2,rfl,j7,ln,nk,gw,br⟩;have q1:=Fk j7.top qI;have q2:=Fk j7.low qI;go_wp2_with fail;refine (gE w1 B' a' n' c' l' (h'.keep br) hl' K' hK' qB rk g1 a1 n1 c1 g2 a2 n2 c2 (-1,1) (fun _=>j7) qB qB HW.out).mono ?_;rintro e w2 ⟨a3,n3,c3,rfl,P3,_,bp⟩;have B2:=xo br bp;have ll:n3≤500000:=by have h1:=P3.len;have h2:=HS.out.2.2;omega
 go_wp2_with fail;refine (M8 w2 B a n c l (h.keep B2) hl K hK _ a3 n3 c3 _ P3 HS.out.1 K' HS.out.2.1 CZ hn ll).mono ?_;rintro e w3 ⟨a4,n4,c4,rfl,P4,PO,ea⟩;go_wp2_with fail;refine bodyPost_ret (v:=.slice a4 n4 c4) (by simp [results,results24,go_sem]) rfl ?_;have e:Sd l l'=Cf l (Ti (-1,1) l'):=Uu hl HS.out.1;rw [e];exact ⟨a4,n4,c4,rfl,P4.mono B2.size,PO.mono B2.size,(xo B2 ea)⟩
theorem uR (w:World) (b:Nat) (s t:Tm) (h0:Z w b 0 (.int .u8 0)) :
  Θ 93 #[s.val,t.val,.pointer (E b)] w (fun e w'=>e=.returned (M (Dd s.mono t.mono))∧xp w w'):=by
 have bj:b<w.heap.size:=Aa _ _ h0;have HB:=Ac w w;go_enter func93,ntmps93;go_wp2_with fail;refine (Yp _ _ _ _ _ _ _ _ _).mono ?_;exact qDr
def tm0:Tm:=⟨false,none,0,0,[],false,none,0,0,[],0,0,0,0⟩
theorem iS {s t:Tm} {w:World} (hs:Dg w s) (ht:Dg w t):Dd s.mono t.mono=Bz (Bv s.m0 s.m1 s.m2 s.m3:Nat) (Bv t.m0 t.m1 t.m2 t.m3:Nat) :=
 Lu hs.s0 hs.s1 hs.s2 hs.s3 ht.s0 ht.s1 ht.s2 ht.s3
theorem nK {x y:Int} (h:Bz x y<0):x<y:=by
 unfold Bz at h
 split at h
 ·assumption
 ·split at h<;>omega
theorem lX {w:World} {a:Γ} {n c:Nat} {p:Nat→Tm} (hp:RdP w a n c p) (kx:POk p n):∀i,0<i→i<n→Bv (p i).m0 (p i).m1 (p i).m2 (p i).m3<Bv (p 0).m0 (p 0).m1 (p 0).m2 (p 0).m3:=by
 intro i
 induction i with
 | zero=>intro h;omega
 | succ k ih =>
  intro _ hk;have h1:=(kx (k+1) hk).2 qB;rw [iS (hp.tm (k+1) hk) (hp.tm (k+1-1) qB)] at h1;have h2:=nK h1;rw [Nat.add_sub_cancel] at h2;rcases Aq k with h0|h0
  ·subst h0;omega
  ·have:=ih h0 qB;omega
theorem kM (wo:World) (a:Γ) (n c:Nat) (p:Nat→Tm) (hp:RdP wo a n c p) (kx:POk p n) (h0:0<n) (b:Nat) (hbx:Z wo b 0 (.int .u8 0)) :
  Θ 92 #[.slice a n c,.func (.func 93) #[] #[.pointer (E b)]] wo (fun e w'=>e=.returned (p 0).val∧xp wo w'):=by
 have HB:=Ac wo wo;have hnf:=hp.few;have HO:=Ae (lX hp kx);clear kx;obtain ⟨gb,go,rfl,FQ⟩:=hp.cell.resolve_left qB;have qq:gb<wo.heap.size:=Aa _ _ (FQ 0 h0).e0;clear FQ;have jn:=hp.at h0;rw [Nat.zero_mul,Nat.add_zero] at jn;obtain ⟨e0,e1,e2,e3,e4,e5,e6,e7⟩:=jn;go_enter func92,ntmps92;go_wp2_with fail;go_loopw [6] (fun v6 wr=>∃i:Nat,1≤i∧i≤n∧v6=M i∧Dt wr wo tm0∧Dt wr (wo+1) (p 0)∧xp wo wr) (fun v6 _=>n-(intOf v6).toNat)
 case atStart =>
  refine ⟨1,qB,qB,rfl,?_,?_,qD⟩
  ·constructor<;>simp [go_sem,tm0]
  ·constructor<;>simp [go_sem]
 case round =>
  obtain ⟨i,hi1,hi,rfl,TZ,TM,dm⟩:=hrel;clear e0 e1 e2 e3 e4 e5 e6 e7;by_cases bj:i<n
  ·have jn:=(hp.keep dm).at bj;have hx:Dd (p i).mono (p 0).mono=-1:=by
    rw [iS (hp.tm i bj) (hp.tm 0 h0)];exact C6 (by have:=HO.out i qB bj;omega)
   have uj:Z wr b 0 (.int .u8 0):=Bb dm hbx;have mb:=TM.lt;have TM':=TM;generalize p i=t at *;generalize p 0=s at *;obtain ⟨e0,e1,e2,e3,e4,e5,e6,e7⟩:=jn;obtain ⟨m0,m1,m2,m3,m4,m5,m6,m7,-,-,-,-,-,-,-,-⟩:=TM;have HB:=Ac wr wr;have sy:(0:Int)≤(i:Int):=qB;have j8:(i:Int)<(n:Int):=qB;clear hp;go_wp2_with fail;go_region_held3 (fun W=>Z W gb (go+i*8) (.bool t.g1)∧Z W gb (go+i*8+1) (.slice t.a1 t.n1 t.c1)∧Z W gb (go+i*8+2) (.bool t.g2)∧Z W gb (go+i*8+3) (.slice t.a2 t.n2 t.c2)∧Z W gb (go+i*8+4) (U t.m0)∧Z W gb (go+i*8+5) (U t.m1)∧Z W gb (go+i*8+6) (U t.m2)∧Z W gb (go+i*8+7) (U t.m3)∧Z W (wo+1) 0 (.bool s.g1)∧Z W (wo+1) 1 (.slice s.a1 s.n1 s.c1)∧Z W (wo+1) 2 (.bool s.g2)∧Z W (wo+1) 3 (.slice s.a2 s.n2 s.c2)∧Z W (wo+1) 4 (U s.m0)∧Z W (wo+1) 5 (U s.m1)∧Z W (wo+1) 6 (U s.m2)∧Z W (wo+1) 7 (U s.m3)) (exact qK) (first
    | (go_at_call 93;(with_reducible refine (uR _ b t s (Bb qD uj)).mono ?_);rintro e w7 ⟨rfl,hb⟩;have iw:=zP wr hb;rw [hx];(replace ⟨e0,e1,e2,e3,e4,e5,e6,e7⟩:=xl iw e0 e1 e2 e3 e4 e5 e6 e7;replace ⟨m0,m1,m2,m3,m4,m5,m6,m7⟩:=xl iw m0 m1 m2 m3 m4 m5 m6 m7)))
   go_wp2_with fail;go_roundw
   case rel=>exact ⟨i+1,qB,qB,by go_num,TZ.keep iw,TM'.keep iw,(xo dm iw)⟩
   case measure=>(first|(simp [intOf];omega)|(simp [intOf];done))
  ·obtain rfl:i=n:=qB;clear hp;obtain ⟨m0,m1,m2,m3,m4,m5,m6,m7,-,-,-,-,-,-,-,-⟩:=TM;obtain ⟨z0,z1,z2,z3,z4,z5,z6,z7,LP,LQ,LR,LS,WY,WZ,XA,XB⟩:=TZ;go_wp2_with fail;refine bodyPost_ret (v:=(p 0).val) (by simp [*,results,results92,go_sem]) rfl ⟨rfl,qD⟩
def Sk (w:World) (x:PT) (e:Ending) (w':World):Prop :=
 ∃t:Tm,e=.returned (.tuple #[t.val,.bool true])∧Ey t x∧Dg w' t∧Bc w w' t.a1 t.c1∧Bc w w' t.a2 t.c2∧xp w w'
theorem yT (w:World) (B:Nat) (a:Γ) (n c:Nat) (x:PT) (l:Δ) (h:Be w B a n c (x::l)) (hl:PW (x::l)) (K:Nat) (hK:Cj K (x::l)) (QF:K≤1000000) :
  Θ 20 #[.int .u8 0,.slice a n c] w (Sk w x):=by
 obtain ⟨p,hp,jv⟩:=h.ts;have kx:=h.pok hl hp jv;have LJ:=h.few hK hp jv;have hlen:n=l.length+1:=by have:=h.len;simpa using this.symm
 have FR:0<n:=qB;have P1:=Ae kx;have P3:Hid (∀k,k<n→(p k).n1≤1000000∧(p k).n2≤1000000):=Ae fun k hk=>by have:=LJ k hk;omega
 have P5:=Ae (jv 0 x rfl).1;have P7:=Ae (hl.good x qH);have HB:=Ac w w;clear kx LJ jv hlen hl hK;go_enter func20,ntmps20;go_wp2_with fail;refine (aQ _ a n c p (hp.keep qD) P3.out true ⟨fun _=>rfl,fun _=>P1.out⟩).mono ?_;rintro e w1 ⟨rfl,br⟩;rw [if_pos rfl];have O1:B1 w1 w (.int .u8 0):=B1.keep (by constructor<;>simp [go_sem]) br;have T1:Dt w1 (w+1) tm0:=Dt.keep (by constructor<;>simp [go_sem,tm0]) br;have ir:=zP w br;clear br HB;go_wp2_with fail;refine (kM w1 a n c p (hp.keep ir) P1.out FR _ O1.c0).mono ?_;rintro e w2 ⟨rfl,bp⟩;have T2:=T1.keep bp;have fg:=xo ir bp;have EJ:=hp.tm 0 FR;have ad3:=P5.out.frac EJ P7.out.1;have hq:=P3.out 0 FR;clear bp T1 ir hp P1 P3 O1;generalize p 0=s at *;exact qAe
theorem K9 {l:Δ} (hl:PW l):Ej (-1,1) l=l.map fun t=>(t.1,(-t.2.1,t.2.2)):=by
 unfold Ej;refine List.map_congr_left fun t ht=>?_
 rw [Rq (hl.good t ht).1]
theorem Xh {l:Δ} (hl:PW l):PW (Ej (-1,1) l):=by
 rw [K9 hl];refine ⟨?_,fun t ht=>?_,fun t ht=>?_⟩
 ·exact List.pairwise_map.2 hl.falls
 ·obtain ⟨x,hx,rfl⟩:=List.mem_map.1 ht;have h:=hl.good x hx;exact ⟨⟨h.1.pos,by show Int.gcd (-x.2.1) x.2.2=1;rw [Int.neg_gcd];exact h.1.red⟩,by show -x.2.1≠0;have:=h.2;omega⟩
 ·obtain ⟨x,hx,rfl⟩:=List.mem_map.1 ht;exact hl.key x hx
theorem Xw {l:Δ} (hl:PW l) {K:Nat} (hK:Cj K l):Cj K (Ej (-1,1) l):=by
 rw [K9 hl];intro t ht;obtain ⟨x,hx,rfl⟩:=List.mem_map.1 ht;have h:=hK x hx;exact ⟨by show (dg (-x.2.1).natAbs).length≤K;rw [Int.natAbs_neg];exact h.1,h.2⟩
theorem sH:Ch 1 ((-1,1):PC):=⟨by show (dg 1).length≤1;rw [Gf];omega,by show (dg 1).length≤1;rw [Gf];omega⟩
theorem Mv {l r:Δ} (h:ck l=some r):r=l∧Sm l:=by
 unfold ck at h
 split at h
 ·rename_i h1;exact ⟨by cases h;rfl,Sm.of h1⟩
 ·cases h
section
variable {w:World} {B B' n n' c c':Nat} {a a':Γ} {l l':Δ}
theorem xF (h:Be w B a n c l) (hl:Sm l) (h':Be w B' a' n' c' l') (hl':Sm l') :
  Θ 101 #[.slice a n c,.slice a' n' c'] w (Fy w (Va l l')):=by
 have e:Va l l'=Cf l l':=Uu hl.pw hl'.pw;rw [e];have:=h.len;have:=h'.len;have:=hl.len;have:=hl'.len;exact M8 w B a n c l h hl.pw 100 hl.few B' a' n' c' l' h' hl'.pw 100 hl'.few qB qB qB
theorem wZ (h:Be w B a n c l) (hl:Sm l) (h':Be w B' a' n' c' l') (hl':Sm l') :
  Θ 24 #[.slice a n c,.slice a' n' c'] w (Fy w (Sd l l')):=by
 have e:Ti (-1,1) l'=Ej (-1,1) l':=Mu (Xh hl'.pw);have:=h.len;have:=h'.len;have:=hl.len;have:=hl'.len;refine xC w B a n c l h hl.pw 100 hl.few B' a' n' c' l' h' hl'.pw 100 hl'.few (by rw [e];exact Xh hl'.pw) (by rw [e];exact Xw hl'.pw hl'.few) (by rw [e];simp [Ej];omega) qB qB qB (fun k=>jE hl' (Xe (-1)) (Ch.mono sH qB) k)
theorem Abi (h:Be w B a n c l) (hl:Sm l) (h':Be w B' a' n' c' l') (hl':Sm l') (kx:Cm l l'=true) :
  Θ 100 #[.slice a n c,.slice a' n' c'] w (Ty w (Jk l l')):=by
 have h1:=h.len;have h2:=h'.len;have h3:=hl.len;have h4:=hl'.len;exact Aa7 w B a n c l h hl.pw 100 hl.few B' a' n' c' l' h' hl'.pw 100 hl'.few qB qB (by have:=Nat.mul_le_mul (show n≤40 from qB) (show n'≤40 from qB);omega) kx (jT hl hl')
end
theorem Xg {w:World} {B n c:Nat} {a:Γ} {x:PT} {l:Δ} (h:Be w B a n c (x::l)) (hl:Sm (x::l)) :
  Θ 20 #[.int .u8 0,.slice a n c] w (Sk w x):=yT w B a n c x l h hl.pw 100 hl.few qB
theorem wO {x:PT} {l:Δ} (hl:Sm (x::l)):Sm [x] :=
 ⟨⟨by simp [Dh],fun t ht=>hl.pw.good t (by simp only [Ao] at ht;simp [ht]),fun t ht=>hl.pw.key t (by simp only [Ao] at ht;simp [ht])⟩,fun t ht=>hl.few t (by simp only [Ao] at ht;simp [ht]),qH⟩
def Puts (F:Nat) (A B:Nat→Nat) (S:Nat→Int):Prop:=∀W i,i<4→Θ F #[M (A i:Nat),M (B i:Nat)] W (fun e w'=>e=.returned (M (S i))∧W=w')
theorem Ow {s:Int} (h:0≤s):((s.toNat:Nat):Int)=s:=qB
theorem fS (w:World) (F:Nat) (hE:∀args W,(callFunc F args).run prog W=.ok (.enter F args) W) (A B:Nat→Nat) (S:Nat→Int) (hP:Puts F A B S) (hA:∀i,i<4→A i<65536) (hB:∀i,i<4→B i<65536) (hS:∀i,i<4→-65536<S i∧S i<131072) (ok:Bool) (kx:(∀i,i<4→0≤S i∧S i≤65535)↔ok=true) :
  Θ 96 #[Cd (A 0) (A 1) (A 2) (A 3),Cd (B 0) (B 1) (B 2) (B 3),.func (.func F) #[] #[]] w (fun e w'=>e=.returned (.tuple #[if ok then Cd (S 0).toNat (S 1).toNat (S 2).toNat (S 3).toNat else Cd 0 0 0 0,.bool ok])∧xp w w'):=by
 have HP:=Ae hP;have HA:=Ae hA;have HBB:=Ae hB;have HS:=Ae hS;have HO:=Ae kx;clear hP hA hB hS kx;go_enter func96,ntmps96;go_wp2_with fail;go_loopw [10] (fun v wr=>∃k:Nat,k≤4∧v=M k∧(∀i,i<4→Z wr w i (U (A i:Nat)))∧(∀i,i<4→Z wr (w+1) i (U (B i:Nat)))∧(∀i,i<4→Z wr (w+1+1) i (U (if i<k then S i else 0))∧Y wr (w+1+1) i)∧(∀i,i<k→0≤S i∧S i≤65535)∧w.heap.size+1+1<wr∧xp w wr) (fun v _=>4-(intOf v).toNat)
 case atStart =>
  refine ⟨0,qB,rfl,fun i hi=>?_,fun i hi=>?_,fun i hi=>?_,fun i hi=>qB,qH,qD⟩;all_goals (rcases (by omega:i=0∨i=1∨i=2∨i=3) with rfl|rfl|rfl|rfl<;>simp [go_sem,Cd])
 case round =>
  obtain ⟨k,hk,rfl,cA,cB,cO,hs,fb,dm⟩:=hrel;by_cases bj:k<4
  ·have a1:=cA k bj;have b1:=cB k bj;have o1:=(cO k bj).1;have o2:=(cO k bj).2;have hSk:=HS.out k bj;have ha:=HA.out k bj;have hb:=HBB.out k bj;have wa:IntKind.i64.wrap (A k:Int)=A k:=IntWalk.i64_in _ qB;have wb:IntKind.i64.wrap (B k:Int)=B k:=IntWalk.i64_in _ qB;have CA:=Ae cA;have CB:=Ae cB;have CO:=Ae cO;have hq:=fun W=>HP.out W k bj
   clear cA cB cO;have qp:(0:Int)≤(k:Int):=qB;have NS:(k:Int)<4:=qB;go_wp2_with fail;go_quiet ((exact Gi (hq _)));have HD:=Bj nq dm;have wS:0≤S k→S k≤65535→IntKind.u16.wrap (S k)=S k:=fun h1 h2=>by
    show (S k)%65536=S k;omega
   by_cases ad4:0≤S k∧S k≤65535
   ·obtain ⟨br,bp⟩:=ad4;have wS2:=wS br bp;clear wS;go_wp2_with fail;go_roundw
    case rel =>
     refine ⟨k+1,qB,by go_num,fun i hi=>?_,fun i hi=>?_,fun i hi=>?_,fun i hi=>?_,by simpa using fb,qD⟩
     ·have:=CA.out i hi;simp [*,go_sem]
     ·have:=CB.out i hi;simp [*,go_sem]
     ·have h1:=(CO.out i hi).1;have h2:=(CO.out i hi).2;by_cases VD:i=k
      ·subst VD;simp [*,go_sem]
      ·have hki:¬k=i:=fun e=>VD e.symm
       have adh:(i<k+1)=(i<k):=propext ⟨fun _=>qB,fun _=>qB⟩;simp [*,go_sem]
     ·rcases Nat.lt_or_ge i k with h|h
      ·exact hs i h
      ·obtain rfl:i=k:=qB;exact ⟨br,bp⟩
    case measure=>(first|(simp [intOf];omega)|(simp [intOf];done))
   ·have anx:ok=false:=by
     cases ok with
     | false=>rfl
     | true=>exact absurd (HO.out.2 rfl k bj) ad4
    subst anx;clear wS;obtain ⟨v0,p0⟩:∃v,Z wr (w+1+1) 0 v:=⟨_,(CO.out 0 qB).1⟩;obtain ⟨v1,p1⟩:∃v,Z wr (w+1+1) 1 v:=⟨_,(CO.out 1 qB).1⟩;obtain ⟨v2,p2⟩:∃v,Z wr (w+1+1) 2 v:=⟨_,(CO.out 2 qB).1⟩;obtain ⟨v3,p3⟩:∃v,Z wr (w+1+1) 3 v:=⟨_,(CO.out 3 qB).1⟩;have g0:=(CO.out 0 qB).2;have g1:=(CO.out 1 qB).2;have g2:=(CO.out 2 qB).2;have g3:=(CO.out 3 qB).2;clear o1 o2;rcases Int.lt_or_le (S k) 0 with tj|tj
    ·exact qEc
    ·have BM:65535<S k:=qB;exact qEc
  ·obtain rfl:k=4:=qB;have anz:ok=true:=HO.out.1 hs;subst anz;have o0:=cO 0 qB;have o1:=cO 1 qB;have o2:=cO 2 qB;have o3:=cO 3 qB;have s0:=hs 0 qB;have s1:=hs 1 qB;have s2:=hs 2 qB;have s3:=hs 3 qB;simp only [show (0:Nat)<4 from qB,show (1:Nat)<4 from qB,show (2:Nat)<4 from qB,show (3:Nat)<4 from qB,if_true] at o0 o1 o2 o3;clear cA cB cO hs;have e0:=Ow s0.1;have e1:=Ow s1.1;have e2:=Ow s2.1;have e3:=Ow s3.1;go_wp2_with fail;refine bodyPost_ret (v:=.tuple #[Cd (S 0).toNat (S 1).toNat (S 2).toNat (S 3).toNat,.bool true]) (by simp [*,results,results96,go_sem]) rfl ⟨rfl,qD⟩
theorem wI (w:World) (x y:Nat) (hx:x<65536) (hy:y<65536):Θ 98 #[M x,M y] w (fun e w'=>e=.returned (M ((x:Int)-y))∧w=w'):=by
 go_enter func98,ntmps98;go_wp2_with fail;go_ret;exact ⟨rfl,rfl⟩
def Ev (a0 a1 a2 a3:Nat) (i:Nat):Nat:=match i with|0=>a0|1=>a1|2=>a2|_=>a3
theorem Jm (w:World) (a0 a1 a2 a3 b0 b1 b2 b3:Nat) (x0:a0<65536) (x1:a1<65536) (x2:a2<65536) (x3:a3<65536) (y0:b0<65536) (y1:b1<65536) (y2:b2<65536) (y3:b3<65536) (ok:Bool) (kx:ok=(decide (b0≤a0)&&decide (b1≤a1)&&decide (b2≤a2)&&decide (b3≤a3))) :
  Θ 22 #[Cd a0 a1 a2 a3,Cd b0 b1 b2 b3] w (fun e w'=>e=.returned (.tuple #[if ok then Cd (a0-b0:Nat) (a1-b1:Nat) (a2-b2:Nat) (a3-b3:Nat) else Cd 0 0 0 0,.bool ok])∧xp w w'):=by
 have hA:∀i,i<4→Ev a0 a1 a2 a3 i<65536:=fun i hi=>by rcases (by omega:i=0∨i=1∨i=2∨i=3) with rfl|rfl|rfl|rfl<;>assumption
 have hB:∀i,i<4→Ev b0 b1 b2 b3 i<65536:=fun i hi=>by rcases (by omega:i=0∨i=1∨i=2∨i=3) with rfl|rfl|rfl|rfl<;>assumption
 have hE:=fun W=>fS W 98 (Gn func98 qE rfl) (Ev a0 a1 a2 a3) (Ev b0 b1 b2 b3) (fun i=>(Ev a0 a1 a2 a3 i:Int)-Ev b0 b1 b2 b3 i) (fun W i hi=>wI W _ _ (hA i hi) (hB i hi)) hA hB (fun i hi=>by have h1:=hA i hi;have h2:=hB i hi;exact ⟨by show (-65536:Int)<_;omega,by show _<(131072:Int);omega⟩) ok (by
  subst kx;simp only [Bool.and_eq_true,decide_eq_true_eq];constructor
  ·intro h;have h0:=(h 0 qB).1;have h1:=(h 1 qB).1;have h2:=(h 2 qB).1;have h3:=(h 3 qB).1;simp only [Ev] at h0 h1 h2 h3;omega
  ·rintro ⟨⟨⟨h0,h1⟩,h2⟩,h3⟩ i hi;have h4:=hA i hi;rcases (by omega:i=0∨i=1∨i=2∨i=3) with rfl|rfl|rfl|rfl<;>simp only [Ev] at h4 ⊢<;>omega)
 have e:∀x y:Nat,((x:Int)-y).toNat=x-y:=fun x y=>qB
 simp only [Ev,e] at hE;have HE:=Ae hE;clear hE hA hB kx e;go_enter func22,ntmps22;go_wp2_with fail;refine (HE.out _).mono ?_;rintro e w1 ⟨rfl,br⟩;have R1:B4 w1 (w+1+1) (U 0) (U 0) (U 0) (U 0):=B4.keep (by constructor<;>simp [go_sem]) br;have ir:=zP w br;have hk:=R1.lt;clear br;obtain ⟨r0,r1,r2,r3,JJ,JK,JL,JM⟩:=R1
 cases ok with
 | true =>
  rw [if_pos rfl];go_wp2_with fail;exact bodyPost_ret (v:=.tuple #[Cd (a0-b0:Nat) (a1-b1:Nat) (a2-b2:Nat) (a3-b3:Nat),.bool true]) (by simp [*,results,results22,go_sem]) rfl ⟨rfl,qD⟩
 | false =>
  rw [if_neg qH];go_wp2_with fail;exact bodyPost_ret (v:=.tuple #[Cd 0 0 0 0,.bool false]) (by simp [*,results,results22,go_sem]) rfl ⟨rfl,qD⟩
end Go.Proofs.YtfijkfdfbnfmmaaGreatDoor
end
