/- The document's answer, layer 3: Mul of monomials. -/
import Derived.Test.YtfijkfdfbnfmmaaGreatDoorQF27
set_option linter.unusedSimpArgs false
set_option linter.unusedVariables false
set_option maxRecDepth 100000
set_option maxHeartbeats 4000000
section
namespace Go.Proofs.YtfijkfdfbnfmmaaGreatDoor
open Go.RowKit Proofs.Tryz
variable (w:World) {i:Nat} {l:Δ}
def Qq (x0 x1 x2 x3 y0 y1 y2 y3:Int):Prop:=x0+y0≤65535∧x1+y1≤65535∧x2+y2≤65535∧x3+y3≤65535
theorem xR (x0 x1 x2 x3 y0 y1 y2 y3:Int) (h0:Cc x0) (h1:Cc x1) (h2:Cc x2) (h3:Cc x3) (k0:Cc y0) (k1:Cc y1) (k2:Cc y2) (k3:Cc y3) :
  Θ 187 #[.agg #[U x0,U x1,U x2,U x3],.agg #[U y0,U y1,U y2,U y3]] w fun e w' =>
   ((Qq x0 x1 x2 x3 y0 y1 y2 y3∧e=.returned (.tuple #[.agg #[U (x0+y0),U (x1+y1),U (x2+y2),U (x3+y3)],M 0]))∨(¬Qq x0 x1 x2 x3 y0 y1 y2 y3∧e=.returned (.tuple #[.agg #[U 0,U 0,U 0,U 0],M 3])))∧xp w w':=by
 have HU:=Ae (Ax (Ax h0 k0) (Ax (Ax h1 k1) (Ax (Ax h2 k2) (Ax h3 k3))));clear h0 h1 h2 h3 k0 k1 k2 k3;have HB:=Ac w w;go_enter func187,ntmps187;go_wp2_with fail;go_loopw [7] (fun v wr=>∃k:Int,0≤k∧k≤4∧v=M k∧Hid ((0<k→x0+y0≤65535)∧(1<k→x1+y1≤65535)∧(2<k→x2+y2≤65535)∧(3<k→x3+y3≤65535))∧Z wr w 0 (U x0)∧Z wr w 1 (U x1)∧Z wr w 2 (U x2)∧Z wr w 3 (U x3)∧Z wr (w+1) 0 (U y0)∧Z wr (w+1) 1 (U y1)∧Z wr (w+1) 2 (U y2)∧Z wr (w+1) 3 (U y3)∧Z wr (w+1+1) 0 (U 0)∧Z wr (w+1+1) 1 (U 0)∧Z wr (w+1+1) 2 (U 0)∧Z wr (w+1+1) 3 (U 0)∧Z wr (w+1+1+1) 0 (U (if 0<k then x0+y0 else 0))∧Z wr (w+1+1+1) 1 (U (if 1<k then x1+y1 else 0))∧Z wr (w+1+1+1) 2 (U (if 2<k then x2+y2 else 0))∧Z wr (w+1+1+1) 3 (U (if 3<k then x3+y3 else 0))∧Y wr (w+1+1) 0∧Y wr (w+1+1) 1∧Y wr (w+1+1) 2∧Y wr (w+1+1) 3∧Y wr (w+1+1+1) 0∧Y wr (w+1+1+1) 1∧Y wr (w+1+1+1) 2∧Y wr (w+1+1+1) 3∧xp w wr) (fun v _=>4-(intOf v).toNat)
 case atStart=>exact ⟨0,qB,qB,rfl,Ae ⟨qB,qB,qB,qB⟩,qJ,qJ,qJ,qJ,qJ,qJ,qJ,qJ,qJ,qJ,qJ,qJ,qJ,qJ,qJ,qJ,qJ,qJ,qJ,qJ,qJ,qJ,qJ,qJ,qD⟩
 case round =>
  obtain ⟨k,qp,NS,rfl,he,X0,X1,X2,X3,Y0,Y1,Y2,Y3,R0,R1,R2,R3,O0,O1,O2,O3,fp,fq,fv,fw,Of0,Of1,Of2,Of3,dm⟩:=hrel;have hkw:w.heap.size+1+1+1<wr:=Aa _ _ O0;rcases (by omega:k=0∨k=1∨k=2∨k=3∨k=4) with rfl|rfl|rfl|rfl|rfl
  ·simp only [Int.reduceLT,if_true,if_false,reduceIte,Int.lt_irrefl] at O0 O1 O2 O3;have q:=HU.out.1;have q1:=q.1;have q2:=q.2;unfold Cc at q1 q2;clear q;have a1:IntKind.i64.wrap x0=x0:=IntWalk.i64_in _ qB;have a2:IntKind.i64.wrap y0=y0:=IntWalk.i64_in _ qB;have a3:IntKind.i64.wrap (x0+y0)=x0+y0:=IntWalk.i64_in _ qB;by_cases hs:x0+y0≤65535
   ·have a4:IntKind.u16.wrap (x0+y0)=x0+y0:=by first|exact IntWalk.u16_in _ qB|(simp only [IntKind.wrap,IntKind.bits,IntKind.signed];omega)
    go_wp2_with fail;go_quiet (fail);have HBq:xp w (wr.drewN nq):=Bj _ dm;go_wp2_with fail;go_roundw
    case rel=>exact ⟨1,qB,qB,by go_num,Ae (by have:=he.out;omega),qO,qO,qO,qO,qO,qO,qO,qO,qO,qO,qO,qO,qO,qO,qO,qO,qO,qO,qO,qO,qO,qO,qO,qO,qD⟩
    case measure=>first|(first|(simp [intOf];omega)|(simp [intOf];done))|decide|simp [intOf]
   ·exact qAw
  ·simp only [Int.reduceLT,if_true,if_false,reduceIte,Int.lt_irrefl] at O0 O1 O2 O3;have q:=HU.out.2.1;have q1:=q.1;have q2:=q.2;unfold Cc at q1 q2;clear q;have a1:IntKind.i64.wrap x1=x1:=IntWalk.i64_in _ qB;have a2:IntKind.i64.wrap y1=y1:=IntWalk.i64_in _ qB;have a3:IntKind.i64.wrap (x1+y1)=x1+y1:=IntWalk.i64_in _ qB;by_cases hs:x1+y1≤65535
   ·have a4:IntKind.u16.wrap (x1+y1)=x1+y1:=by first|exact IntWalk.u16_in _ qB|(simp only [IntKind.wrap,IntKind.bits,IntKind.signed];omega)
    go_wp2_with fail;go_quiet (fail);have HBq:xp w (wr.drewN nq):=Bj _ dm;go_wp2_with fail;go_roundw
    case rel=>exact ⟨2,qB,qB,by go_num,Ae (by have:=he.out;omega),qO,qO,qO,qO,qO,qO,qO,qO,qO,qO,qO,qO,qO,qO,qO,qO,qO,qO,qO,qO,qO,qO,qO,qO,qD⟩
    case measure=>first|(first|(simp [intOf];omega)|(simp [intOf];done))|decide|simp [intOf]
   ·exact qAw
  ·simp only [Int.reduceLT,if_true,if_false,reduceIte,Int.lt_irrefl] at O0 O1 O2 O3;have q:=HU.out.2.2.1;have q1:=q.1;have q2:=q.2;unfold Cc at q1 q2;clear q;have a1:IntKind.i64.wrap x2=x2:=IntWalk.i64_in _ qB;have a2:IntKind.i64.wrap y2=y2:=IntWalk.i64_in _ qB;have a3:IntKind.i64.wrap (x2+y2)=x2+y2:=IntWalk.i64_in _ qB;by_cases hs:x2+y2≤65535
   ·have a4:IntKind.u16.wrap (x2+y2)=x2+y2:=by first|exact IntWalk.u16_in _ qB|(simp only [IntKind.wrap,IntKind.bits,IntKind.signed];omega)
    go_wp2_with fail;go_quiet (fail);have HBq:xp w (wr.drewN nq):=Bj _ dm;go_wp2_with fail;go_roundw
    case rel=>exact ⟨3,qB,qB,by go_num,Ae (by have:=he.out;omega),qO,qO,qO,qO,qO,qO,qO,qO,qO,qO,qO,qO,qO,qO,qO,qO,qO,qO,qO,qO,qO,qO,qO,qO,qD⟩
    case measure=>first|(first|(simp [intOf];omega)|(simp [intOf];done))|decide|simp [intOf]
   ·exact qAw
  ·simp only [Int.reduceLT,if_true,if_false,reduceIte,Int.lt_irrefl] at O0 O1 O2 O3;have q:=HU.out.2.2.2;have q1:=q.1;have q2:=q.2;unfold Cc at q1 q2;clear q;have a1:IntKind.i64.wrap x3=x3:=IntWalk.i64_in _ qB;have a2:IntKind.i64.wrap y3=y3:=IntWalk.i64_in _ qB;have a3:IntKind.i64.wrap (x3+y3)=x3+y3:=IntWalk.i64_in _ qB;by_cases hs:x3+y3≤65535
   ·have a4:IntKind.u16.wrap (x3+y3)=x3+y3:=by first|exact IntWalk.u16_in _ qB|(simp only [IntKind.wrap,IntKind.bits,IntKind.signed];omega)
    go_wp2_with fail;go_quiet (fail);have HBq:xp w (wr.drewN nq):=Bj _ dm;go_wp2_with fail;go_roundw
    case rel=>exact ⟨4,qB,qB,by go_num,Ae (by have:=he.out;omega),qO,qO,qO,qO,qO,qO,qO,qO,qO,qO,qO,qO,qO,qO,qO,qO,qO,qO,qO,qO,qO,qO,qO,qO,qD⟩
    case measure=>first|(first|(simp [intOf];omega)|(simp [intOf];done))|decide|simp [intOf]
   ·exact qAw
  ·simp only [Int.reduceLT,if_true,if_false,reduceIte,Int.lt_irrefl] at O0 O1 O2 O3;have HN:Hid (Qq x0 x1 x2 x3 y0 y1 y2 y3):=Ae (by have:=he.out;unfold Qq;omega);go_wp2_with fail;refine bodyPost_ret (v:=.tuple #[.agg #[U (x0+y0),U (x1+y1),U (x2+y2),U (x3+y3)],M 0]) (by simp [*,results,results187,go_sem]) rfl ?_;exact ⟨Or.inl ⟨HN.out,rfl⟩,qD⟩
def Nn (w:World) (l:Δ) (y:PT) (e:Ending) (w':World):Prop :=
 (Cm l [y]=true∧∃a n c,e=.returned (.tuple #[.slice a n c,M 0])∧Be w' w a n c (Dk l y)∧xp w w')∨(Cm l [y]=false∧e=.returned (.tuple #[.slice none 0 0,M 3])∧xp w w')
theorem nI {w w':World} {t u:Tm} {x y:PT} (hx:Ey t x) (rt:Dg w t) (hy:Ey u y) (ru:Dg w' u):(Gr x.1 y.1=true↔Qq t.m0 t.m1 t.m2 t.m3 u.m0 u.m1 u.m2 u.m3)∧Fg x.1 y.1=Bv (t.m0+u.m0) (t.m1+u.m1) (t.m2+u.m2) (t.m3+u.m3):=by
 have e1:=Dz rt.s1 rt.s2 rt.s3 rt.s0;have e2:=Dz ru.s1 ru.s2 ru.s3 ru.s0;rw [hx.key] at e1;rw [hy.key] at e2;unfold Gr Fg Qq;rw [e1.1,e1.2.1,e1.2.2.1,e1.2.2.2,e2.1,e2.2.1,e2.2.2.1,e2.2.2.2];refine ⟨?_,rfl⟩;simp only [Bool.and_eq_true,decide_eq_true_eq];omega
theorem iZ (t u:Tm) {w1 w2:World} (rt:Dg w1 t) (ru:Dg w2 u) :
  Θ 187 #[.agg #[U t.m0,U t.m1,U t.m2,U t.m3],.agg #[U u.m0,U u.m1,U u.m2,U u.m3]] w fun e w' =>
   ∃k0 k1 k2 k3:Nat,∃z:Int,e=.returned (.tuple #[.agg #[U k0,U k1,U k2,U k3],M z])∧(z=0∧Qq t.m0 t.m1 t.m2 t.m3 u.m0 u.m1 u.m2 u.m3∧k0=t.m0+u.m0∧k1=t.m1+u.m1∧k2=t.m2+u.m2∧k3=t.m3+u.m3∨z=3∧¬Qq t.m0 t.m1 t.m2 t.m3 u.m0 u.m1 u.m2 u.m3)∧xp w w':=by
 have k0:=rt.s0;have k1:=rt.s1;have k2:=rt.s2;have k3:=rt.s3;have j0:=ru.s0;have j1:=ru.s1;have j2:=ru.s2;have j3:=ru.s3;refine (xR w t.m0 t.m1 t.m2 t.m3 u.m0 u.m1 u.m2 u.m3 ⟨qB,qB⟩ ⟨qB,qB⟩ ⟨qB,qB⟩ ⟨qB,qB⟩ ⟨qB,qB⟩ ⟨qB,qB⟩ ⟨qB,qB⟩ ⟨qB,qB⟩).mono ?_;rintro e w' ⟨h,hb⟩;rcases h with ⟨h1,rfl⟩|⟨h1,rfl⟩
 ·exact ⟨t.m0+u.m0,t.m1+u.m1,t.m2+u.m2,t.m3+u.m3,0,by simp only [Int.natCast_add],.inl ⟨rfl,h1,rfl,rfl,rfl,rfl⟩,hb⟩
 ·exact ⟨0,0,0,0,3,rfl,.inr ⟨rfl,h1⟩,hb⟩
theorem bG {y x:PT} (h:Cm (l.take i) [y]=true) (hx:l[i]? = some x) (hk:Gr x.1 y.1=true):Cm (l.take (i+1)) [y]=true:=by
 rw [List.take_add_one,hx,Ge];intro s hs t ht;rcases List.mem_append.1 hs with hs|hs
 ·exact Ge.1 h s hs t ht
 ·simp only [Option.toList_some,Ao] at hs ht;subst hs;subst ht;exact hk
theorem fZ {y x:PT} (hx:x∈l) (hk:¬Gr x.1 y.1=true):Cm l [y]=false:=by
 cases h:Cm l [y]
 ·rfl
 ·exact absurd (Ge.1 h x hx y (Ao.2 rfl)) hk
theorem Zc {y x:PT} (hx:l[i]? = some x):Dk (l.take (i+1)) y=Dk (l.take i) y++[(Fg x.1 y.1,Ct x.2 y.2)]:=by
 unfold Dk;rw [List.take_add_one,hx,Option.toList_some,List.map_append,List.map_singleton]
def Aay (w wc:World) (t u:Tm) (v8 v9:Value):Prop :=
 ∃b,∃k0 k1 k2 k3:Nat,∃z:Int,v8=.pointer (E b)∧v9=M z∧w.heap.size≤b∧Z wc b 0 (U k0)∧Z wc b 1 (U k1)∧Z wc b 2 (U k2)∧Z wc b 3 (U k3) ∧
  (z=0∧Qq t.m0 t.m1 t.m2 t.m3 u.m0 u.m1 u.m2 u.m3∧k0=t.m0+u.m0∧k1=t.m1+u.m1∧k2=t.m2+u.m2∧k3=t.m3+u.m3∨z=3∧¬Qq t.m0 t.m1 t.m2 t.m3 u.m0 u.m1 u.m2 u.m3)∧xp w wc
theorem pW (wo:World) (B:Nat) (a:Γ) (n c:Nat) (l:Δ) (h:Be wo B a n c l) (hl:PW l) (K:Nat) (hK:Cj K l) (CZ:K≤1000000) (hn:n≤500000) (u:Tm) (y:PT) (hy:Ey u y) (hu:Dg wo u) (hc:CW y.2) (hcf:Ch K y.2) :
  Θ 112 #[.slice a n c,u.val] wo (Nn wo l y):=by
 obtain ⟨i0,sy,dw,ed,en⟩:=info_parts Ls;obtain ⟨p,hp,jv⟩:=h.ts;have yg:=h.len;have HL:=Ae (Ax yg (Ax hl hK));have HP:=Ae jv;have LX:u.n1≤K:=by have h8:=hu.top.len;rw [hy.d1] at h8;have:=hcf.1;omega
 have TE:u.n2≤K:=by have h8:=hu.low.len;rw [hy.d2] at h8;have:=hcf.2;omega
 have HU:=Ae (Ax hy (Ax hu hc));clear h hl hK jv yg hy hu hc hcf;go_enter func112,ntmps112;go_wp2_with fail;go_loopw [6,7] (fun v6 v7 wr=>∃(i:Nat) (s:Nat→Tm),i≤n∧v7=M i∧Hid (Et wr (wo+1) v6 s (Dk (l.take i) y))∧Hid (Cm (l.take i) [y]=true)∧Dt wr wo u∧xp wo wr) (fun _ v7 _=>n-(intOf v7).toNat)
 case atStart=>exact ⟨0,fun _=>xU,qB,rfl,Ae (Et.nil _ _ _),Ae qM,Dt.new wo u,qD⟩
 case round =>
  obtain ⟨i,s,hi,rfl,HO,HK,TB,HB⟩:=hrel;obtain ⟨v6,rfl⟩:∃v6,v6=u6:=⟨_,rfl⟩;by_cases bj:i<n
  ·obtain ⟨g,o,rfl,_⟩:=hp.cell.resolve_left qB;obtain ⟨x,hx⟩:∃x,l[i]? = some x:=⟨_,Ai (by rw [HL.out.1];exact bj)⟩;have jn:=(hp.keep HB).at bj;have AD:g<wo.heap.size:=Aa _ _ (hp.at bj).e0;have jx:=(hp.tm i bj).keep HB;have ph:=(HP.out i x hx).1;have TF:=A7 hx;have IG:=HL.out.2.1.good x TF;have eh:=ph.frac jx IG.1;have WO:=(HU.out.1.frac HU.out.2.1 HU.out.2.2).keep HB;have iq:=HL.out.2.2 x TF;generalize p i=t at *;have b1:t.n1≤1000000000:=by have h8:=jx.top.len;rw [ph.d1] at h8;have:=iq.1;omega
   have b2:t.n2≤1000000000:=by have h8:=jx.low.len;rw [ph.d2] at h8;have:=iq.2;omega
   have b3:u.n1≤1000000000:=qB;have b4:u.n2≤1000000000:=qB;have rm:=nI ph jx HU.out.1 HU.out.2.1;have HX:=Ae (Ax hx (Ax rm (Ax ph TF)));have HR:=Ae jx;have SV:=Aa _ _ jn.e0;clear hx rm ph TF IG iq jx;obtain ⟨e0,e1,e2,e3,e4,e5,e6,e7⟩:=jn;have QP:=TB;have hTl:=TB.lt;obtain ⟨t0,t1,t2,t3,t4,t5,t6,t7,-,-,-,-,-,-,-,-⟩:=TB;obtain ⟨w,rfl⟩:∃w:World,w=wr:=⟨_,rfl⟩;have hlen:(Dk (l.take i) y).length=i:=by unfold Dk;rw [List.length_map,List.length_take];have:=HL.out.1;omega
   obtain ⟨out,AS⟩:∃out,out=Dk (l.take i) y:=⟨_,rfl⟩;rw [←AS] at HO hlen;have HOE:=Ae AS;clear AS;have anf:(0:Int)≤(i:Int):=qB;have j8:(i:Int)<(n:Int):=qB;have nT:¬wo.heap.size=w.heap.size:=qB;have nT':¬w.heap.size=wo.heap.size:=qB;simp only at SV;have nG:¬g=w.heap.size:=qB;have nG':¬w.heap.size=g:=qB;go_upto_region 5 with fail
   go_cut [8,9] (fun v8 v9 wc=>Aay w wc t u v8 v9)
   case first =>
    clear e0 e1 e2 e3 t0 t1 t2 t3;go_region_held3 (fun W=>Z W g (o+i*8+4) (U t.m0)∧Z W g (o+i*8+5) (U t.m1)∧Z W g (o+i*8+6) (U t.m2)∧Z W g (o+i*8+7) (U t.m3)∧Z W wo 4 (U u.m0)∧Z W wo 5 (U u.m1)∧Z W wo 6 (U u.m2)∧Z W wo 7 (U u.m3)) (exact qK) (first
     | (go_at_call 187;(with_reducible refine (iZ (World.drew (World.alloc _ _)) t u HR.out HU.out.2.1).mono ?_);rintro e w3 ⟨k0,k1,k2,k3,z,rfl,kp,ea⟩;have ep:=zP w ea;have II:=Ae kp;clear kp;replace ⟨e4,e5,e6,e7,t4,t5,t6,t7⟩:=xl ep e4 e5 e6 e7 t4 t5 t6 t7;have zc0:Z w3 w 0 (U 0):=Bb ea qJ;have LP:Y w3 w 0:=(Ab ea qJ).trans qJ;have zc1:Z w3 w 1 (U 0):=Bb ea qJ;have LQ:Y w3 w 1:=(Ab ea qJ).trans qJ;have zc2:Z w3 w 2 (U 0):=Bb ea qJ;have LR:Y w3 w 2:=(Ab ea qJ).trans qJ;have zc3:Z w3 w 3 (U 0):=Bb ea qJ;have LS:Y w3 w 3:=(Ab ea qJ).trans qJ)
     | (go_at_call 187;(with_reducible refine (iZ _ t u HR.out HU.out.2.1).mono ?_);rintro e w3 ⟨k0,k1,k2,k3,z,rfl,kp,ea⟩;have ep:=zP w ea;have II:=Ae kp;clear kp;replace ⟨e4,e5,e6,e7,t4,t5,t6,t7⟩:=xl ep e4 e5 e6 e7 t4 t5 t6 t7))
    ·go_wp2_with fail;go_meet
     case rel=>exact ⟨_,k0,k1,k2,k3,z,rfl,rfl,ep.size,qJ,qJ,qJ,qJ,II.out,ep.alloc ep.size _⟩
    ·go_wp2_with fail;go_meet
     case rel=>exact ⟨_,k0,k1,k2,k3,z,rfl,rfl,Ad _,by simp [go_sem,zc0,LP],by simp [go_sem,zc1,LQ],by simp [go_sem,zc2,LR],by simp [go_sem,zc3,LS],II.out,Up ep _ (Ad _) _ _ _ _⟩
   case rest =>
    obtain ⟨b,k0,k1,k2,k3,z,rfl,rfl,hbb,c0,c1,c2,c3,kp,FM⟩:=hcut;have LV:=xo HB FM;have TBc:=QP.keep FM;have DG:=Ae (HO.out.keep FM);replace ⟨e0,e1,e2,e3,t0,t1,t2,t3⟩:=xl FM e0 e1 e2 e3 t0 t1 t2 t3;have eh:=eh.keep FM;have WO:=WO.keep FM;have hV:∀gb,v6.ownBlock=some gb→gb<w.heap.size:=fun gb e=>(HO.out.own.lt gb e).2
    have HV:=Ae hV;clear e4 e5 e6 e7 t4 t5 t6 t7 HO QP hV;rcases kp with ⟨rfl,oo,q0,q1,q2,q3⟩|⟨rfl,oo⟩
    ·have HQ:=Ae (Ax oo (Ax q0 (Ax q1 (Ax q2 q3))));clear oo q0 q1 q2 q3;go_wp2_with fail;go_region_held3 (fun W=>Z W g (o+i*8) (.bool t.g1)∧Z W g (o+i*8+1) (.slice t.a1 t.n1 t.c1)∧Z W g (o+i*8+2) (.bool t.g2)∧Z W g (o+i*8+3) (.slice t.a2 t.n2 t.c2)∧Z W wo 0 (.bool u.g1)∧Z W wo 1 (.slice u.a1 u.n1 u.c1)∧Z W wo 2 (.bool u.g2)∧Z W wo 3 (.slice u.a2 u.n2 u.c2)∧Z W b 0 (U k0)∧Z W b 1 (U k1)∧Z W b 2 (U k2)∧Z W b 3 (U k3)) (exact qK) (first
      | (go_at_call 188;(with_reducible refine (jA _ _ _ _ _ _ _ _ _ _ _ (eh.keep qD) _ _ _ _ _ _ _ _ _ _ (WO.keep qD) b1 b2 b3 b4).mono ?_);rintro e w6 ⟨ge,ae,ne,ce,gf,af,nf,cf,rfl,iq,pk,po,ee⟩;have iu:=zP wc ee;replace ⟨e0,e1,e2,e3,t0,t1,t2,t3⟩:=xl iu e0 e1 e2 e3 t0 t1 t2 t3;replace ⟨c0,c1,c2,c3⟩:=xj iu c0 c1 c2 c3)
      | (refine step_append_lies _ qM _ _ _ qM (wo+1) 58 i0 (.agg #[.bool false,.slice none 0 0,.bool false,.slice none 0 0,U 0,U 0,U 0,U 0]) 8 72 underlying24 sy dw ed en rfl qI _ out.length (Cs s out.length) qM ((Bf DG.out.own iu).alloc _) (J w6 0) 1 1 (Tm.cells ⟨ge,ae,ne,ce,dg (Ct x.2 y.2).1.natAbs,gf,af,nf,cf,dg (Ct x.2 y.2).2.natAbs,k0,k1,k2,k3⟩) qM qM (Dp _ _ _) (by simp [Tm.cells,Value.oneCell']) qI qN qB (by have:=LV.size;have:=iu.size;simp only [Aj];omega) _ rfl ?_;intro gg cap w7 ie ak pq IE;have re:some g≠Value.ownBlock v6:=(fun e=>by have:=Dj DG.out.own _ e.symm;omega);have ud:some wo.heap.size≠Value.ownBlock v6:=(fun e=>by have:=Dj DG.out.own _ e.symm;omega);have DS:some b≠Value.ownBlock v6:=(fun e=>by have:=HV.out _ e.symm;omega);replace e0:=ak.cell (Bb ((Ac w6 w6).alloc (Ad _) _) e0) re;replace e1:=ak.cell (Bb ((Ac w6 w6).alloc (Ad _) _) e1) re;replace e2:=ak.cell (Bb ((Ac w6 w6).alloc (Ad _) _) e2) re;replace e3:=ak.cell (Bb ((Ac w6 w6).alloc (Ad _) _) e3) re;replace t0:=ak.cell (Bb ((Ac w6 w6).alloc (Ad _) _) t0) ud;replace t1:=ak.cell (Bb ((Ac w6 w6).alloc (Ad _) _) t1) ud;replace t2:=ak.cell (Bb ((Ac w6 w6).alloc (Ad _) _) t2) ud;replace t3:=ak.cell (Bb ((Ac w6 w6).alloc (Ad _) _) t3) ud;replace c0:=ak.cell (Bb ((Ac w6 w6).alloc (Ad _) _) c0) DS;replace c1:=ak.cell (Bb ((Ac w6 w6).alloc (Ad _) _) c1) DS;replace c2:=ak.cell (Bb ((Ac w6 w6).alloc (Ad _) _) c2) DS;replace c3:=ak.cell (Bb ((Ac w6 w6).alloc (Ad _) _) c3) DS))
     have QQ:Hid (Ey (⟨ge,ae,ne,ce,dg (Ct x.2 y.2).1.natAbs,gf,af,nf,cf,dg (Ct x.2 y.2).2.natAbs,k0,k1,k2,k3⟩:Tm) (Fg x.1 y.1,Ct x.2 y.2)):=Ae ⟨iq.top.neg,rfl,iq.low.neg,rfl,by rw [HX.out.2.1.2,HQ.out.2.1,HQ.out.2.2.1,HQ.out.2.2.2.1,HQ.out.2.2.2.2]⟩;have oo:=HQ.out.1;unfold Qq at oo;have q0:=HQ.out.2.1;have q1:=HQ.out.2.2.1;have q2:=HQ.out.2.2.2.1;have q3:=HQ.out.2.2.2.2;have DF:=iu.size;have CJ:Et w7 (wo+1) (.slice (E gg) (out.length+1) cap) (fun j=>if j=out.length then (⟨ge,ae,ne,ce,dg (Ct x.2 y.2).1.natAbs,gf,af,nf,cf,dg (Ct x.2 y.2).2.natAbs,k0,k1,k2,k3⟩:Tm) else s j) (out++[(Fg x.1 y.1,Ct x.2 y.2)]):=by
      have m1:Nw wc ne ae:=Nw.mono (pk.newA iq.top.rd) qH;have m2:Nw wc nf af:=Nw.mono (po.newA iq.low.rd) qH;have sj:=FM.size;refine Et.add ((DG.out.keep iu).keep ((Ac _ _).alloc (Ad _) _)) QQ.out ⟨iq.top.rd.alloc _,iq.low.rd.alloc _,by show k0<65536;omega,by show k1<65536;omega,by show k2<65536;omega,by show k3<65536;omega⟩ ⟨m1.mono qB,m2.mono qB⟩ (fun gb qq=>?_) ak ie ?_
      ·have bj:=HV.out gb qq;exact ⟨m1.ap qB,m2.ap qB⟩
      ·exact qBs
     have wh:xp wo w7:=((xo LV iu).alloc (by have:=LV.size;omega) _).grown ak (by simp only [Aj];have:=LV.size;omega) (fun k hk=>by have:=Dj DG.out.own k hk;omega);have QR:Dt w7 wo u:=Dt.row (Dt.keep (TBc.keep iu) ((Ac w6 w6).alloc (Ad _) _)) ak ud;have iv:Dk (l.take (i+1)) y=out++[(Fg x.1 y.1,Ct x.2 y.2)]:=by rw [Zc HX.out.1,←HOE.out]
     have HK2:=bG HK.out HX.out.1 (HX.out.2.1.1.2 HQ.out.1);rw [hlen] at CJ;have HO8:=Ae CJ;have HS:=Ae (Ax iv HK2);clear CJ iv HK2 ie ak pq iq pk po ee iu re ud DS e0 e1 e2 e3 t0 t1 t2 t3 c0 c1 c2 c3 oo q0 q1 q2 q3;go_wp2_with fail;go_roundw
     case rel=>exact ⟨i+1,_,qB,by go_num,Ae (by rw [HS.out.1];exact HO8.out),Ae HS.out.2,QR,wh⟩
     case measure=>(first|(simp [intOf];omega)|(simp [intOf];done))
    ·have HN:=Ae (fZ HX.out.2.2.2 (fun h=>oo (HX.out.2.1.1.1 h)));clear oo;go_wp2_with fail;refine bodyPost_ret (v:=.tuple #[.slice none 0 0,M 3]) (by simp [*,results,results112,go_sem]) rfl ?_;exact .inr ⟨HN.out,rfl,LV⟩
  ·obtain rfl:i=n:=qB;have hT:l.take i=l:=As (by have:=HL.out.1;omega);rw [hT] at HO HK;have hlen:(Dk l y).length=i:=by unfold Dk;rw [List.length_map];exact HL.out.1
   obtain ⟨ao,co,rfl,hP⟩:=HO.out.poly qB;rw [hlen] at hP;have HP9:=Ae hP;clear hP hT;go_wp2_with fail;refine bodyPost_ret (v:=.tuple #[.slice ao (Dk l y).length co,M 0]) (by simp [*,results,results112,go_sem]) rfl ?_;exact .inl ⟨HK.out,ao,i,co,by rw [hlen],HP9.out.mono (Nat.le_succ _),HB⟩
end Go.Proofs.YtfijkfdfbnfmmaaGreatDoor
end
