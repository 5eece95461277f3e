/- The document's answer, layer 4: Scale, Sub. -/
import Derived.Test.YtfijkfdfbnfmmaaGreatDoorQF28
import Derived.Test.YtfijkfdfbnfmmaaGreatDoorQF24
set_option linter.unusedSimpArgs false
set_option linter.unusedVariables false
set_option maxRecDepth 100000
set_option maxHeartbeats 4000000
section
namespace Go.Proofs.YtfijkfdfbnfmmaaGreatDoor
open Go.RowKit Proofs.Tryz
variable (wo:World) (B:Nat) (a:Γ) (n c:Nat) (w:World)
theorem kV {l:Δ} {x:PT} {y:PC} {i:Nat} (hx:l[i]? = some x):Ej y (l.take (i+1))=Ej y (l.take i)++[(x.1,Ct x.2 y)]:=by
 unfold Ej;rw [List.take_add_one,hx,Option.toList_some,List.map_append,List.map_singleton]
theorem oF (l:Δ) (h:Be wo B a n c l) (hl:PW l) (K:Nat) (hK:Cj K l) (CZ:K≤1000000) (hn:n≤500000) (g1:Bool) (a1:Γ) (n1 c1:Nat) (g2:Bool) (a2:Γ) (n2 c2:Nat) (y:PC) (hy:Bo wo g1 a1 n1 c1 y.1 g2 a2 n2 c2 y.2) (ss:y.1≠0) (qv:n1≤1000000) (vh:n2≤1000000) :
  Θ 114 #[.slice a n c,.agg #[.bool g1,.slice a1 n1 c1,.bool g2,.slice a2 n2 c2]] wo (Ya wo (Ej y l)):=by
 obtain ⟨i0,sy,dw,ed,en⟩:=info_parts Ls;obtain ⟨p,hp,jv⟩:=h.ts;have oo:=fun W (hW:xp wo W)=>Pa W B a n c l (h.keep hW) hl K hK CZ
 have HF:=Ae oo;have HL:=Ae (Ax h.len (Ax hl hK));have HP:=Ae jv;have HY:=Ae hy;have ig:(Bz y.1 0 != 0)=true:=by
  rw [bne_iff_ne];intro e;rcases Int.lt_trichotomy y.1 0 with h|h|h
  ·rw [C6 h] at e;omega
  ·exact ss h
  ·rw [C7 h] at e;omega
 have HC:=Ae ig;clear h hl hK jv hy ss oo ig;go_enter func114,ntmps114;go_wp2_with fail;refine (HF.out _ qD).mono ?_;rintro e w1 ⟨rfl,br⟩;have FB1:Blk w1 wo #[.bool g1,.slice a1 n1 c1,.bool g2,.slice a2 n2 c2] 53:=Blk.keep (C0 rfl _ _) br;have ir:=zP wo br;have s0:=FB1.cell 0 _ rfl;have s1:=FB1.cell 1 _ rfl;have s2:=FB1.cell 2 _ rfl;have s3:=FB1.cell 3 _ rfl;clear br HF;go_wp2_with fail;refine (Kt _ _ _ _ _ _ _ _ _ _ _ (HY.out.keep ir) qB qB).mono ?_;rintro e w2 ⟨rfl,bp⟩;have LY:=FB1.keep bp;have fg:=xo ir bp;have q0:=LY.cell 0 _ rfl;have q1:=LY.cell 1 _ rfl;have q2:=LY.cell 2 _ rfl;have q3:=LY.cell 3 _ rfl;have qf0:=LY.frozen 0;have qf1:=LY.frozen 1;have qf2:=LY.frozen 2;have qf3:=LY.frozen 3;have ql:=LY.lt;clear bp s0 s1 s2 s3 FB1 ir;go_wp2_with fail;refine Bx ?_;intro w3 eb;have FB3:Blk w3 wo #[.bool g1,.slice a1 n1 c1,.bool g2,.slice a2 n2 c2] 53:=by
  rw [eb];exact (((LY.set 0 _).set 1 _).set 2 _).set 3 _
 have ep:xp wo w3:=by rw [eb];go_grown
 clear eb q0 q1 q2 q3 qf0 qf1 qf2 qf3 ql LY fg;go_loopw [5,6] (fun v5 v6 wr=>∃(i:Nat) (s:Nat→Tm),i≤n∧v6=M i∧Hid (Et wr (wo+1) v5 s (Ej y (l.take i)))∧Blk wr wo #[.bool g1,.slice a1 n1 c1,.bool g2,.slice a2 n2 c2] 53∧xp wo wr) (fun _ v6 _=>n-(intOf v6).toNat)
 case atStart=>exact ⟨0,fun _=>xU,qB,by go_num,Ae (Et.nil _ _ _),FB3,ep⟩
 case round =>
  obtain ⟨i,s,hi,rfl,HO,TB,HB⟩:=hrel;obtain ⟨v6,rfl⟩:∃v6,v6=u5:=⟨_,rfl⟩;clear FB3 ep;have t0:=TB.cell 0 _ rfl;have t1:=TB.cell 1 _ rfl;have t2:=TB.cell 2 _ rfl;have t3:=TB.cell 3 _ rfl;have hTl:=TB.lt;by_cases bj:i<n
  ·obtain ⟨g,o,rfl,_⟩:=hp.cell.resolve_left qB;obtain ⟨x,hx⟩:∃x,l[i]? = some x:=⟨_,Ai (by rw [HL.out.1];exact bj)⟩;have AD:g<wo.heap.size:=Aa _ _ (hp.at bj).e0;have TF:=A7 hx;have IG:=HL.out.2.1.good x TF;have ph:=(HP.out i x hx).1;have WQ:=HL.out.2.2 x TF;have EH:=Ae (hp.tm i bj);have ani:=Ae (hp.at bj);generalize p i=t at *;have b1:t.n1≤1000000000:=by have h8:=EH.out.top.len;rw [ph.d1] at h8;have:=WQ.1;omega
   have b2:t.n2≤1000000000:=by have h8:=EH.out.low.len;rw [ph.d2] at h8;have:=WQ.2;omega
   have HX:=Ae (Ax hx (Ax ph IG));clear hx ph TF IG WQ;have anf:(0:Int)≤(i:Int):=qB;have j8:(i:Int)<(n:Int):=qB;go_wp2_with fail;refine (Hy wr g1 a1 n1 c1 _ g2 a2 n2 c2 _ (HY.out.keep HB) qB qB).mono ?_;rintro e w ⟨rfl,hbs⟩;have TG:=xo HB hbs;have QP:=TB.keep hbs;have hv:∃z:Int,Bz y.1 0=z∧(z != 0)=true:=⟨_,rfl,HC.out⟩;obtain ⟨z,hz,hzn⟩:=hv;rw [hz];have jx:=EH.out.keep TG;have eh:=HX.out.2.1.frac jx HX.out.2.2.1;have WO:=HY.out.keep TG;obtain ⟨e0,e1,e2,e3,e4,e5,e6,e7⟩:=ani.out.keep TG;replace t0:=QP.cell 0 _ rfl;replace t1:=QP.cell 1 _ rfl;replace t2:=QP.cell 2 _ rfl;replace t3:=QP.cell 3 _ rfl;have hlen:(Ej y (l.take i)).length=i:=by unfold Ej;rw [List.length_map,List.length_take];have:=HL.out.1;omega
   obtain ⟨out,AS⟩:∃out,out=Ej y (l.take i):=⟨_,rfl⟩;rw [←AS] at HO hlen;have HOE:=Ae AS;have DG:=Ae (HO.out.keep hbs);clear AS HO hz jx;have b3:n1≤1000000000:=qB;have b4:n2≤1000000000:=qB;go_wp2_with fail;go_region_held3 (fun W=>Z W g (o+i*8) (.bool t.g1)∧Z W g (o+i*8+1) (.slice t.a1 t.n1 t.c1)∧Z W g (o+i*8+2) (.bool t.g2)∧Z W g (o+i*8+3) (.slice t.a2 t.n2 t.c2)∧Z W g (o+i*8+4) (U t.m0)∧Z W g (o+i*8+5) (U t.m1)∧Z W g (o+i*8+6) (U t.m2)∧Z W g (o+i*8+7) (U t.m3)∧Z W wo 0 (.bool g1)∧Z W wo 1 (.slice a1 n1 c1)∧Z W wo 2 (.bool g2)∧Z W wo 3 (.slice a2 n2 c2)) (exact qK) (first
    | (go_at_call 188;(with_reducible refine (jA _ _ _ _ _ _ _ _ _ _ _ (eh.keep qD) _ _ _ _ _ _ _ _ _ _ (WO.keep qD) b1 b2 b3 b4).mono ?_);rintro e w6 ⟨ge,ae,ne,ce,gf,af,nf,cf,rfl,iq,pk,po,ee⟩;have iu:=zP w ee;replace ⟨e0,e1,e2,e3,e4,e5,e6,e7⟩:=xl iu e0 e1 e2 e3 e4 e5 e6 e7;replace ⟨t0,t1,t2,t3⟩:=xj iu t0 t1 t2 t3)
    | (refine step_append_lies _ qM _ _ _ qM (wo+1) 58 i0 (.agg #[.bool false,.slice none 0 0,.bool false,.slice none 0 0,U 0,U 0,U 0,U 0]) 8 72 underlying24 sy dw ed en rfl qI _ out.length (Cs s out.length) qM ((Bf DG.out.own iu).alloc _) (J w6 0) 1 1 (Tm.cells ⟨ge,ae,ne,ce,dg (Ct x.2 y).1.natAbs,gf,af,nf,cf,dg (Ct x.2 y).2.natAbs,t.m0,t.m1,t.m2,t.m3⟩) qM qM (Dp _ _ _) (by simp [Tm.cells,Value.oneCell']) qI qN qB (by have:=TG.size;have:=iu.size;simp only [Aj];omega) _ rfl ?_;intro gg cap w7 ie ak pq IE;have re:some g≠Value.ownBlock v6:=(fun e=>by have:=Dj DG.out.own _ e.symm;omega);have ud:some wo.heap.size≠Value.ownBlock v6:=(fun e=>by have:=Dj DG.out.own _ e.symm;omega);replace e0:=ak.cell (Bb ((Ac w6 w6).alloc (Ad _) _) e0) re;replace e1:=ak.cell (Bb ((Ac w6 w6).alloc (Ad _) _) e1) re;replace e2:=ak.cell (Bb ((Ac w6 w6).alloc (Ad _) _) e2) re;replace e3:=ak.cell (Bb ((Ac w6 w6).alloc (Ad _) _) e3) re;replace e4:=ak.cell (Bb ((Ac w6 w6).alloc (Ad _) _) e4) re;replace e5:=ak.cell (Bb ((Ac w6 w6).alloc (Ad _) _) e5) re;replace e6:=ak.cell (Bb ((Ac w6 w6).alloc (Ad _) _) e6) re;replace e7:=ak.cell (Bb ((Ac w6 w6).alloc (Ad _) _) e7) re;replace t0:=ak.cell (Bb ((Ac w6 w6).alloc (Ad _) _) t0) ud;replace t1:=ak.cell (Bb ((Ac w6 w6).alloc (Ad _) _) t1) ud;replace t2:=ak.cell (Bb ((Ac w6 w6).alloc (Ad _) _) t2) ud;replace t3:=ak.cell (Bb ((Ac w6 w6).alloc (Ad _) _) t3) ud))
   have QQ:Hid (Ey (⟨ge,ae,ne,ce,dg (Ct x.2 y).1.natAbs,gf,af,nf,cf,dg (Ct x.2 y).2.natAbs,t.m0,t.m1,t.m2,t.m3⟩:Tm) (x.1,Ct x.2 y)):=Ae ⟨iq.top.neg,rfl,iq.low.neg,rfl,HX.out.2.1.key⟩;have DF:=iu.size;have hV:∀gb,v6.ownBlock=some gb→gb<w.heap.size:=fun gb e=>(DG.out.own.lt gb e).2
   have CJ:Et w7 (wo+1) (.slice (E gg) (out.length+1) cap) (fun j=>if j=out.length then (⟨ge,ae,ne,ce,dg (Ct x.2 y).1.natAbs,gf,af,nf,cf,dg (Ct x.2 y).2.natAbs,t.m0,t.m1,t.m2,t.m3⟩:Tm) else s j) (out++[(x.1,Ct x.2 y)]):=by
    have m1:Nw w ne ae:=Nw.mono (pk.newA iq.top.rd) qH;have m2:Nw w nf af:=Nw.mono (po.newA iq.low.rd) qH;have sj:=TG.size;have hws:wo.heap.size+1≤w:=by have:=QP.lt;omega
    refine Et.add ((DG.out.keep iu).keep ((Ac _ _).alloc (Ad _) _)) QQ.out ⟨iq.top.rd.alloc _,iq.low.rd.alloc _,EH.out.s0,EH.out.s1,EH.out.s2,EH.out.s3⟩ ⟨m1.mono hws,m2.mono hws⟩ (fun gb qq=>?_) ak ie ?_
    ·have bj:=hV gb qq;exact ⟨m1.ap qB,m2.ap qB⟩
    ·exact qBs
   have wh:xp wo w7:=((xo TG iu).alloc (by have:=TG.size;omega) _).grown ak (by simp only [Aj];have:=TG.size;omega) (fun k hk=>by have:=Dj DG.out.own k hk;omega);have QR:Blk w7 wo #[.bool g1,.slice a1 n1 c1,.bool g2,.slice a2 n2 c2] 53:=Blk.row (Blk.keep (QP.keep iu) ((Ac w6 w6).alloc (Ad _) _)) ak ud;have iv:Ej y (l.take (i+1))=out++[(x.1,Ct x.2 y)]:=by rw [kV HX.out.1,←HOE.out]
   rw [hlen] at CJ;have HO8:=Ae CJ;have HS:=Ae iv;clear CJ iv ie ak pq iq pk po ee iu re ud e0 e1 e2 e3 e4 e5 e6 e7 t0 t1 t2 t3;go_wp2_with fail;go_roundw
   case rel=>exact ⟨i+1,_,qB,by go_num,Ae (by rw [HS.out];exact HO8.out),QR,wh⟩
   case measure=>(first|(simp [intOf];omega)|(simp [intOf];done))
  ·obtain rfl:i=n:=qB;have hT:l.take i=l:=As (by have:=HL.out.1;omega);rw [hT] at HO;have hlen:(Ej y l).length=i:=by unfold Ej;rw [List.length_map];exact HL.out.1
   obtain ⟨ao,co,rfl,hP⟩:=HO.out.poly qB;rw [hlen] at hP;have HP9:=Ae hP;clear hP hT;go_wp2_with fail;refine bodyPost_ret (v:=.slice ao (Ej y l).length co) (by simp [*,results,results114,go_sem]) rfl ?_;exact ⟨ao,i,co,by rw [hlen],HP9.out.mono (Nat.le_succ _),HB⟩
theorem fI (z:Int) (h0:-9223372036854775808≤z) (h1:z≤9223372036854775807):Θ 30 #[M z] w (Hs w z 1):=by
 have HB:=Ac w w;go_enter func30,ntmps30;go_wp2_with fail;refine (rU _ z h0 h1).mono ?_;rintro e w1 ⟨g1,a1,n1,c1,rfl,qv,ln,hb⟩;obtain ⟨hc,hf⟩:=Bg hb;have hz:=hb.size;(try simp only [Aj,Ak] at hz);replace HB:=zP w hb;obtain ⟨aw,bh,ei,ej⟩:=xf hc w;obtain ⟨dy,dz,mj,ml⟩:=xg hf w;have jy:w.heap.size<w1:=qB;have f1:Bc (w+1) w1 a1 c1:=ln.mono qA;clear hc hf hb hz ln;go_wp2_with fail;refine (rU _ 1 qB qB).mono ?_;rintro e w2 ⟨g2,a2,n2,c2,rfl,vh,nk,hb⟩;obtain ⟨hc,hf⟩:=Bg hb;have hz:=hb.size;(try simp only [Aj,Ak] at hz);replace HB:=zP w hb;obtain ⟨aw,bh,ei,ej⟩:=xf hc w;obtain ⟨dy,dz,mj,ml⟩:=xg hf w;have f1':=f1.keep hb;have qg:=qv.keep hb;have f2:Bc (w+1) w2 a2 c2:=nk.mono qB;have l9:w.heap.size<w2:=qB;have u:w.heap.size<w.heap.size+1:=Ag _;clear hc hf hb hz nk;go_wp2_with fail;refine bodyPost_ret (v:=.agg #[.bool g1,.slice a1 n1 c1,.bool g2,.slice a2 n2 c2]) (by simp [results,results30,go_sem,aw,bh,ei,ej]) rfl ?_;refine ⟨g1,a1,n1,c1,g2,a2,n2,c2,rfl,⟨?_,?_,qB,by simp [Int.gcd]⟩,?_,?_,qD⟩
 ·exact qg.set4 f1' _ _ _ _ _ _ _ _ u u u u
 ·exact vh.set4 f2 _ _ _ _ _ _ _ _ u u u u
 ·exact (f1'.set4 _ _ _ _ _ _ _ _ u u u u).mono qB
 ·exact (f2.set4 _ _ _ _ _ _ _ _ u u u u).mono qB
theorem Zr:Ch 1 ((-1,1):PC):=(hZ (-1,1)).mono (by decide +kernel)
theorem Y5 (c:PC) (l:Δ):(Ej c l).length=l.length:=by unfold Ej;rw [List.length_map]
theorem bA {K K':Nat} {l:Δ} {c:PC} (hl:PW l) (hc:CW c) (h:Cj K l) (hf:Ch K' c):Cj (K+K') (Ej c l):=fun t ht=>by
 obtain ⟨x,hx,rfl⟩:=List.mem_map.1 ht;exact Ch.mul (hl.good x hx).1 hc (h x hx) hf
theorem uS (B:Nat) (a:Γ) (n c:Nat) (l:Δ) (h:Be w B a n c l) (hl:PW l) (K:Nat) (hK:Cj K l) (B':Nat) (a':Γ) (n' c':Nat) (m:Δ) (h':Be w B' a' n' c' m) (hm:PW m) (K':Nat) (hK':Cj K' m) (CZ:K+(K'+1)<1000000) (hn:n≤500000) (rk:n'≤500000) :
  Θ 33 #[.slice a n c,.slice a' n' c'] w (Ya w (Cf l (Ej (-1,1) m))):=by
 have HH:=Ae (Ax h (Ax h' (Ax (Ax hl hK) (Ax hm hK'))));clear h h' hl hK hm hK';have HB:=Ac w w;go_enter func33,ntmps33;go_wp2_with fail;refine (fI w (-1) qB qB).mono ?_;rintro e w1 ⟨g1,a1,n1,c1,g2,a2,n2,c2,rfl,hf,ln,nk,br⟩;have k1:n1≤1:=Fk hf.top qI;have k2:n2≤1:=Fk hf.low qI;have HF:=Ae hf;clear hf ln nk;go_wp2_with fail;refine (oF w1 B' a' n' c' m (HH.out.2.1.keep br) HH.out.2.2.2.1 K' HH.out.2.2.2.2 qB rk g1 a1 n1 c1 g2 a2 n2 c2 (-1,1) HF.out qI qB qB).mono ?_;rintro e w2 ⟨a3,n3,c3,rfl,QS,bp⟩;have b2:=xo br bp;obtain rfl:n3=n':=by have h1:=QS.len;have h2:=HH.out.2.1.len;rw [Y5] at h1;omega
 have HP:=Ae QS;clear QS HF;go_wp2_with fail;refine (nS w2 B a n c l (HH.out.1.keep b2) HH.out.2.2.1.1 K HH.out.2.2.1.2 _ a3 n3 c3 _ HP.out (So HH.out.2.2.2.1) (K'+1) (bA HH.out.2.2.2.1 (Xe (-1)) HH.out.2.2.2.2 Zr) CZ hn qB).mono ?_;rintro e w3 ⟨a4,n4,c4,rfl,hp4,ea⟩;have HP4:=Ae (hp4.mono b2.size);have b3:=xo b2 ea;clear hp4;go_wp2_with fail;go_ret;exact ⟨a4,n4,c4,rfl,HP4.out,b3⟩
theorem Kq (x y s:Nat) (hs:s=x+y) (hx:x<65536) (hy:y<65536):Θ 221 #[M x,M y] w (fun e w'=>e=.returned (M s)∧w=w'):=by
 have HS:=Ae hs;clear hs;go_enter func221,ntmps221;go_wp2_with fail;go_ret;exact ⟨by rw [HS.out];simp,rfl⟩
def Sf (k j s:Nat):Nat:=if j<k then s else 0
theorem Aaf (a0 a1 a2 a3 b0 b1 b2 b3 s0 s1 s2 s3:Nat) (z0:s0=a0+b0) (z1:s1=a1+b1) (z2:s2=a2+b2) (z3:s3=a3+b3) (h0:s0<65536) (h1:s1<65536) (h2:s2<65536) (h3:s3<65536) :
  Θ 96 #[Cd a0 a1 a2 a3,Cd b0 b1 b2 b3,.func (.func 221) #[] #[]] w (fun e w'=>e=.returned (.tuple #[Cd s0 s1 s2 s3,.bool true])∧xp w w'):=by
 have Z0:=Ae z0;have Z1:=Ae z1;have Z2:=Ae z2;have Z3:=Ae z3;have wa0:IntKind.i64.wrap (a0:Int)=a0:=IntWalk.i64_in _ qB;have wb0:IntKind.i64.wrap (b0:Int)=b0:=IntWalk.i64_in _ qB;have wa1:IntKind.i64.wrap (a1:Int)=a1:=IntWalk.i64_in _ qB;have wb1:IntKind.i64.wrap (b1:Int)=b1:=IntWalk.i64_in _ qB;have wa2:IntKind.i64.wrap (a2:Int)=a2:=IntWalk.i64_in _ qB;have wb2:IntKind.i64.wrap (b2:Int)=b2:=IntWalk.i64_in _ qB;have wa3:IntKind.i64.wrap (a3:Int)=a3:=IntWalk.i64_in _ qB;have wb3:IntKind.i64.wrap (b3:Int)=b3:=IntWalk.i64_in _ qB;clear z0 z1 z2 z3;go_enter func96,ntmps96;go_wp2_with fail;go_loopw [10] (fun v wr=>∃k:Nat,k≤4∧v=M k∧Z wr w 0 (U (a0:Nat))∧Z wr w 1 (U (a1:Nat))∧Z wr w 2 (U (a2:Nat))∧Z wr w 3 (U (a3:Nat))∧Z wr (w+1) 0 (U (b0:Nat))∧Z wr (w+1) 1 (U (b1:Nat))∧Z wr (w+1) 2 (U (b2:Nat))∧Z wr (w+1) 3 (U (b3:Nat))∧Z wr (w+1+1) 0 (U (Sf k 0 s0:Nat))∧Z wr (w+1+1) 1 (U (Sf k 1 s1:Nat))∧Z wr (w+1+1) 2 (U (Sf k 2 s2:Nat))∧Z wr (w+1+1) 3 (U (Sf k 3 s3:Nat))∧Y wr (w+1+1) 0∧Y wr (w+1+1) 1∧Y wr (w+1+1) 2∧Y wr (w+1+1) 3∧w.heap.size+1+1<wr∧xp w wr) (fun v _=>4-(intOf v).toNat)
 case atStart=>exact ⟨0,qB,rfl,qJ,qJ,qJ,qJ,qJ,qJ,qJ,qJ,by simp [go_sem,Sf],by simp [go_sem,Sf],by simp [go_sem,Sf],by simp [go_sem,Sf],qJ,qJ,qJ,qJ,qH,qD⟩
 case round =>
  obtain ⟨k,hk,rfl,A0,A1,A2,A3,B0,B1,B2,B3,O0,O1,O2,O3,F0,F1,F2,F3,fb,dm⟩:=hrel;rcases (by omega:k=0∨k=1∨k=2∨k=3∨k=4) with rfl|rfl|rfl|rfl|rfl
  ·
   change wr.cell? ⟨w+1+1,0,none⟩=some (U ((0:Nat):Int)) at O0
   change wr.cell? ⟨w+1+1,1,none⟩=some (U ((0:Nat):Int)) at O1
   change wr.cell? ⟨w+1+1,2,none⟩=some (U ((0:Nat):Int)) at O2
   change wr.cell? ⟨w+1+1,3,none⟩=some (U ((0:Nat):Int)) at O3
   go_wp2_with fail;go_quiet (((first|(go_at_call 221;exact Gi (Kq _ a0 b0 s0 Z0.out (by have:=Z0.out;omega) (by have:=Z0.out;omega)))|(go_at_call 221;exact Fj (Kq _ a0 b0 s0 Z0.out (by have:=Z0.out;omega) (by have:=Z0.out;omega))))));have HD:=Bj nq dm;go_wp2_with fail;go_roundw
   case rel =>
    refine ⟨1,qB,by first|rfl|go_num,?_,?_,?_,?_,?_,?_,?_,?_,?_,?_,?_,?_,?_,?_,?_,?_,by simpa using fb,qD⟩;all_goals first|assumption|(simp [*,go_sem,Sf];done)
   case measure=>simp [intOf]
  ·
   change wr.cell? ⟨w+1+1,0,none⟩=some (U ((s0:Nat):Int)) at O0
   change wr.cell? ⟨w+1+1,1,none⟩=some (U ((0:Nat):Int)) at O1
   change wr.cell? ⟨w+1+1,2,none⟩=some (U ((0:Nat):Int)) at O2
   change wr.cell? ⟨w+1+1,3,none⟩=some (U ((0:Nat):Int)) at O3
   go_wp2_with fail;go_quiet (((first|(go_at_call 221;exact Gi (Kq _ a1 b1 s1 Z1.out (by have:=Z1.out;omega) (by have:=Z1.out;omega)))|(go_at_call 221;exact Fj (Kq _ a1 b1 s1 Z1.out (by have:=Z1.out;omega) (by have:=Z1.out;omega))))));have HD:=Bj nq dm;go_wp2_with fail;go_roundw
   case rel =>
    refine ⟨2,qB,by first|rfl|go_num,?_,?_,?_,?_,?_,?_,?_,?_,?_,?_,?_,?_,?_,?_,?_,?_,by simpa using fb,qD⟩;all_goals first|assumption|(simp [*,go_sem,Sf];done)
   case measure=>simp [intOf]
  ·
   change wr.cell? ⟨w+1+1,0,none⟩=some (U ((s0:Nat):Int)) at O0
   change wr.cell? ⟨w+1+1,1,none⟩=some (U ((s1:Nat):Int)) at O1
   change wr.cell? ⟨w+1+1,2,none⟩=some (U ((0:Nat):Int)) at O2
   change wr.cell? ⟨w+1+1,3,none⟩=some (U ((0:Nat):Int)) at O3
   go_wp2_with fail;go_quiet (((first|(go_at_call 221;exact Gi (Kq _ a2 b2 s2 Z2.out (by have:=Z2.out;omega) (by have:=Z2.out;omega)))|(go_at_call 221;exact Fj (Kq _ a2 b2 s2 Z2.out (by have:=Z2.out;omega) (by have:=Z2.out;omega))))));have HD:=Bj nq dm;go_wp2_with fail;go_roundw
   case rel =>
    refine ⟨3,qB,by first|rfl|go_num,?_,?_,?_,?_,?_,?_,?_,?_,?_,?_,?_,?_,?_,?_,?_,?_,by simpa using fb,qD⟩;all_goals first|assumption|(simp [*,go_sem,Sf];done)
   case measure=>simp [intOf]
  ·
   change wr.cell? ⟨w+1+1,0,none⟩=some (U ((s0:Nat):Int)) at O0
   change wr.cell? ⟨w+1+1,1,none⟩=some (U ((s1:Nat):Int)) at O1
   change wr.cell? ⟨w+1+1,2,none⟩=some (U ((s2:Nat):Int)) at O2
   change wr.cell? ⟨w+1+1,3,none⟩=some (U ((0:Nat):Int)) at O3
   go_wp2_with fail;go_quiet (((first|(go_at_call 221;exact Gi (Kq _ a3 b3 s3 Z3.out (by have:=Z3.out;omega) (by have:=Z3.out;omega)))|(go_at_call 221;exact Fj (Kq _ a3 b3 s3 Z3.out (by have:=Z3.out;omega) (by have:=Z3.out;omega))))));have HD:=Bj nq dm;go_wp2_with fail;go_roundw
   case rel =>
    refine ⟨4,qB,by first|rfl|go_num,?_,?_,?_,?_,?_,?_,?_,?_,?_,?_,?_,?_,?_,?_,?_,?_,by simpa using fb,qD⟩;all_goals first|assumption|(simp [*,go_sem,Sf];done)
   case measure=>simp [intOf]
  ·
   change wr.cell? ⟨w+1+1,0,none⟩=some (U ((s0:Nat):Int)) at O0
   change wr.cell? ⟨w+1+1,1,none⟩=some (U ((s1:Nat):Int)) at O1
   change wr.cell? ⟨w+1+1,2,none⟩=some (U ((s2:Nat):Int)) at O2
   change wr.cell? ⟨w+1+1,3,none⟩=some (U ((s3:Nat):Int)) at O3
   go_wp2_with fail;refine bodyPost_ret (v:=.tuple #[Cd s0 s1 s2 s3,.bool true]) (by simp [*,results,results96,go_sem]) rfl ⟨rfl,qD⟩
theorem Wt (a0 a1 a2 a3 b0 b1 b2 b3 s0 s1 s2 s3:Nat) (z0:s0=a0+b0) (z1:s1=a1+b1) (z2:s2=a2+b2) (z3:s3=a3+b3) (h0:s0<65536) (h1:s1<65536) (h2:s2<65536) (h3:s3<65536) :
  Θ 169 #[Cd a0 a1 a2 a3,Cd b0 b1 b2 b3] w (fun e w'=>e=.returned (.tuple #[Cd s0 s1 s2 s3,M 0])∧xp w w'):=by
 have hE:=fun W=>Aaf W a0 a1 a2 a3 b0 b1 b2 b3 s0 s1 s2 s3 z0 z1 z2 z3 h0 h1 h2 h3
 have HE:=Ae hE;clear hE z0 z1 z2 z3;go_enter func169,ntmps169;go_wp2_with fail;refine (HE.out _).mono ?_;rintro e w1 ⟨rfl,br⟩;obtain ⟨hc,hf⟩:=Bg br;have hz:=br.size;(try simp only [Aj,Ak] at hz);have s0_:Z w1 (w+1+1) 0 (U 0):=(hc _ _ qA).trans qJ;have f0_:Y w1 (w+1+1) 0:=(hf _ _ qA).trans qJ;have s1_:Z w1 (w+1+1) 1 (U 0):=(hc _ _ qA).trans qJ;have f1_:Y w1 (w+1+1) 1:=(hf _ _ qA).trans qJ;have s2_:Z w1 (w+1+1) 2 (U 0):=(hc _ _ qA).trans qJ;have f2_:Y w1 (w+1+1) 2:=(hf _ _ qA).trans qJ;have s3_:Z w1 (w+1+1) 3 (U 0):=(hc _ _ qA).trans qJ;have f3_:Y w1 (w+1+1) 3:=(hf _ _ qA).trans qJ;have B1:=zP w br;have hk:w.heap.size+1+1<w1:=qB;clear hc hf br;go_wp2_with fail;refine bodyPost_ret (v:=.tuple #[Cd s0 s1 s2 s3,M 0]) (by simp [*,results,results169,go_sem]) rfl ⟨rfl,qD⟩
def Ty (w:World) (l:Δ) (e:Ending) (w':World):Prop:=∃a n c,e=.returned (.tuple #[.slice a n c,M 0])∧Be w' w a n c l∧Ca w' w a n c∧xp w w'
theorem Aa7 (l:Δ) (h:Be wo B a n c l) (hl:PW l) (K:Nat) (hK:Cj K l) (B':Nat) (a':Γ) (n' c':Nat) (l':Δ) (h':Be wo B' a' n' c' l') (hl':PW l') (K':Nat) (hK':Cj K' l')
  (CZ:K+K'≤100000) (hn:n≤400000) (KK:n*n'≤400000) (kx:Cm l l'=true) (hw:∀k,wtk (C4 l l') k≤400000) :
  Θ 100 #[.slice a n c,.slice a' n' c'] wo (Ty wo (Jk l l')):=by
 obtain ⟨p,hp,jv⟩:=h.ts;obtain ⟨q,hq,xz⟩:=h'.ts;have P1:=Ae (h.pok hl hp jv);have Q1:=Ae (h'.pok hl' hq xz);have P3:Hid (∀k,k<n→(p k).n1≤1000000∧(p k).n2≤1000000):=Ae fun k hk=>by have:=h.few hK hp jv k hk;omega
 have Q3:Hid (∀k,k<n'→(q k).n1≤1000000∧(q k).n2≤1000000):=Ae fun k hk=>by have:=h'.few hK' hq xz k hk;omega
 have P5:=Ae jv;have Q5:=Ae xz;have P6:=Ae h.len;have Q6:=Ae h'.len;have P7:=Ae hl;have Q7:=Ae hl';have P8:=Ae hK;have Q8:=Ae hK';have HO:=Ae kx;have HW:=Ae hw;have HNN:=Ae KK;have HB:=Ac wo wo;have hnf:=hp.few;have ank:=hq.few;have xy:=@run_makeMap prog;clear jv xz hl hl' hK hK' kx hw KK;go_enter func100,ntmps100;go_wp2_with fail;refine (Fz _ a n c p (hp.keep qD) P3.out true ⟨fun _=>rfl,fun _=>P1.out⟩).mono ?_;rintro e w1 ⟨rfl,br⟩;go_wp2_with fail;refine (Fz _ a' n' c' q ((hq.keep br).keep qD) Q3.out true ⟨fun _=>rfl,fun _=>Q1.out⟩).mono ?_;rintro e w2 ⟨rfl,bp⟩;have fg:Below wo wo w2:=xo br bp;clear br bp HB;go_wp2_with fail;have LK:Ew (w2.alloc (.map #[] 0)) w2 0 (w2+1) (fun _=>none):=⟨.map [],id,World.ownsMap_made w2 prog 56 RH,Gj.empty _ _ _⟩;have ep:Below wo wo (w2.alloc (.map #[] 0)):=fg.trans ((by go_grown:Below w2 w2 _).mono fg.size);have hMo:wo.heap.size≤w2:=fg.size;generalize w2.heap.size=MB at *;clear fg;go_loopw [24] (fun v24 wr=>∃k:Nat,k≤n∧v24=M k∧Ew wr MB (k*n') (MB+1) (D2 (C4 (l.take k) l'))∧Below wo wo wr) (fun v24 _=>n-(intOf v24).toNat)
 case atStart=>exact ⟨0,qB,rfl,by rw [Nat.zero_mul];simpa [D2,C4] using LK,qD⟩
 case round =>
  obtain ⟨k,hk,rfl,hM,dm⟩:=hrel;clear LK ep;by_cases bj:k<n
  ·obtain ⟨gb,go,rfl,_⟩:=hp.cell.resolve_left qB;have ky:k<l.length:=by rw [P6.out];exact bj
   obtain ⟨x,hx⟩:∃x,l[k]? = some x:=⟨_,Ai ky⟩;have hmx:=A7 hx;have jn:=(hp.keep dm).at bj;have WR:=hp.tm k bj;have WS:=(P5.out k x hx).1;have xz:=P3.out k bj;have IG:=P7.out.good x hmx;have hkx:=P8.out x hmx;have hox:=Ae (show ∀y∈l',Gr x.1 y.1=true from fun y hy=>by have h9:=HO.out;unfold Cm at h9;rw [List.all_eq_true] at h9;have h8:=h9 x hmx;rw [List.all_eq_true] at h8;exact h8 y hy);have TH:=Ae (show ∀j,C4 l l'=(C4 (l.take k) l'++(l'.take j).map fun t=>(Fg x.1 t.1,Ct x.2 t.2))++((l'.drop j).map (fun t=>(Fg x.1 t.1,Ct x.2 t.2))++C4 (l.drop (k+1)) l') from fun j=>by
    have e1:l=l.take k++x::l.drop (k+1):=qFa;rw [List.append_assoc,←List.append_assoc (List.map _ _),←List.map_append,List.take_append_drop,←Ke,←Kd,←e1])
   have HT:=Ae (show l.take (k+1)=l.take k++[x] by rw [List.take_add_one,hx];rfl);generalize hs:p k=s at *;obtain ⟨e0,e1,e2,e3,e4,e5,e6,e7⟩:=jn;obtain ⟨w,rfl⟩:∃w:World,w=wr:=⟨_,rfl⟩;have vv:k*n'+n'≤400000:=qEu;have iq:=WS.frac WR IG.1;have TJ:=Ae IG;have QQ:=Ae (Ax WS WR);have hMw:MB<w.heap.size:=by obtain ⟨D,_,hD,_⟩:=hM.ex;exact hD.lt
   have T0:=Dt.new w s;have hMA:Ew (w.alloc (.cells #[.bool s.g1,.slice s.a1 s.n1 s.c1,.bool s.g2,.slice s.a2 s.n2 s.c2,U s.m0,U s.m1,U s.m2,U s.m3] 58)) MB (k*n') (MB+1) (D2 (C4 (l.take k) l')):=hM.keep qD;have QT:=dm.trans ((by go_grown:Below w w (w.alloc (.cells #[.bool s.g1,.slice s.a1 s.n1 s.c1,.bool s.g2,.slice s.a2 s.n2 s.c2,U s.m0,U s.m1,U s.m2,U s.m3] 58))).mono dm.size);clear hx ky IG WS WR hs;go_wp2_with fail;go_loopw [30] (fun v30 wi=>∃j:Nat,j≤n'∧v30=M j∧Dt wi w s∧Ew wi MB (k*n'+j) (MB+1) (D2 (C4 (l.take k) l'++(l'.take j).map fun t=>(Fg x.1 t.1,Ct x.2 t.2)))∧Below wo wo wi) (fun v30 _=>n'-(intOf v30).toNat)
   case atStart=>exact ⟨0,qB,rfl,T0,by simpa using hMA,QT⟩
   case round =>
    obtain ⟨j,hj,rfl,TS,WU,FN⟩:=hrel;clear hM hMA QT T0 dm e0 e1 e2 e3 e4 e5 e6 e7;by_cases QU:j<n'
    ·obtain ⟨gc,go',rfl,_⟩:=hq.cell.resolve_left qB;have yi:j<l'.length:=by rw [Q6.out];exact QU
     obtain ⟨y,hy⟩:∃y,l'[j]? = some y:=⟨_,Ai yi⟩;have IJ:=A7 hy;obtain ⟨e0,e1,e2,e3,e4,e5,e6,e7⟩:=(hq.keep FN).at QU;have EI:=hq.tm j QU;have FO:=(Q5.out j y hy).1;have hqy:=Q3.out j QU;have CK:=Q7.out.good y IJ;have hky:=Q8.out y IJ;have rm:=hox.out y IJ;have HT':=Ae (show l'.take (j+1)=l'.take j++[y] by rw [List.take_add_one,hy];rfl);have yq:=Ae (show ∀z∈C4 (l.take k) l'++(l'.take j).map (fun t=>(Fg x.1 t.1,Ct x.2 t.2))++[(Fg x.1 y.1,Ct x.2 y.2)],CW z.2 from fun z hz=>by
      rcases List.mem_append.1 hz with hz|hz
      ·exact qCj
      ·rw [Ao] at hz;subst hz;exact TJ.out.1.mul CK.1)
     generalize xw:q j=t at *;obtain ⟨wi,rfl⟩:∃w':World,w'=wr:=⟨_,rfl⟩;have sk:=FO.frac EI CK.1;have OK:=QQ.out.2;have ex:=Dz OK.s1 OK.s2 OK.s3 OK.s0;have ey:=Dz EI.s1 EI.s2 EI.s3 EI.s0;rw [QQ.out.1.key] at ex;rw [FO.key] at ey;have CY:=rm;unfold Gr at CY;rw [ex.1,ex.2.1,ex.2.2.1,ex.2.2.2,ey.1,ey.2.1,ey.2.2.1,ey.2.2.2] at CY;simp only [Bool.and_eq_true,decide_eq_true_eq] at CY;obtain ⟨⟨⟨u0,u1⟩,u2⟩,u3⟩:=CY;have HKY:=Ae (show Bv (s.m0+t.m0) (s.m1+t.m1) (s.m2+t.m2) (s.m3+t.m3)=Fg x.1 y.1 by unfold Fg;rw [ex.1,ex.2.1,ex.2.2.1,ex.2.2.2,ey.1,ey.2.1,ey.2.2.1,ey.2.2.2]);clear ex ey rm yi hy xw EI FO;have QV:=TS;have vp:=TS.lt;obtain ⟨t0,t1,t2,t3,t4,t5,t6,t7,-,-,-,-,-,-,-,-⟩:=TS;have TT0:=Dt.new wi t;go_wp2_with fail;refine Bt ?_;intro w3 eb;have b3:Below wi wi w3:=by rw [eb];go_grown
     have TT3:Dt w3 wi t:=by rw [eb];exact TT0
     have TS3:=QV.keep b3;clear eb TT0 QV t0 t1 t2 t3 t4 t5 t6 t7;generalize NQ:s.m0+t.m0=v0 at *;generalize QI:s.m1+t.m1=v1 at *;generalize WD:s.m2+t.m2=v2 at *;generalize JV:s.m3+t.m3=v3 at *;refine (Wt w3 s.m0 s.m1 s.m2 s.m3 t.m0 t.m1 t.m2 t.m3 v0 v1 v2 v3 NQ.symm QI.symm WD.symm JV.symm u0 u1 u2 u3).mono ?_;clear NQ QI WD JV;rintro e w4 ⟨rfl,ec⟩;have TS4:=TS3.keep ec;have TT4:=TT3.keep ec;have b4:=xo b3 ec;clear TS3 TT3 ec b3;go_wp2_with fail;refine Bx ?_;intro w5 iy;have QW:Below w4 w4 w5:=by rw [iy];go_grown
     have MBx:B4 w5 w4 (U v0) (U v1) (U v2) (U v3):=by rw [iy];constructor<;>simp [go_sem]
     have TS5:=TS4.keep QW;have QX:=TT4.keep QW;have b5:=xo b4 QW;have QV:=TS5;clear iy TS4 TT4 QW;have z4:=b4.size;generalize w4.heap.size=MM at *;obtain ⟨k0,k1,k2,k3,-,-,-,-⟩:=MBx;obtain ⟨t0,t1,t2,t3,-,-,-,-,-,-,-,-,-,-,-,-⟩:=TS5;obtain ⟨r0,r1,r2,r3,-,-,-,-,-,-,-,-,-,-,-,-⟩:=QX;have oq:=xo FN b5;have WV:=iq.keep oq;have WW:=sk.keep oq;have z5:=b5.size;have anq:MB<wi.heap.size:=by obtain ⟨D,_,hD,_⟩:=WU.ex;exact hD.lt
     have HFM:=Ae (Ax (TJ.out.1.mul CK.1) (Ch.mono (Ch.mul TJ.out.1 CK.1 hkx hky) (show K+K'≤1000000000 from qB)));have HYK:=Ae (show ∀z,D2 (C4 (l.take k) l'++(l'.take j).map fun t=>(Fg x.1 t.1,Ct x.2 t.2)) (Fg x.1 y.1)=some z→Ch 1000000000 z from fun z hz=>by
      have h1:=(Lz (fun u hu=>yq.out u (List.mem_append.2 (.inl hu))) hz).2;refine Ch.mono h1 ?_;have h3:=congrArg (fun L=>wtk L (Fg x.1 y.1)) (TH.out j);simp only [Iu] at h3;rw [Iu];have h4:=HW.out (Fg x.1 y.1)
      omega)
     go_region_held3 (fun W=>Z W w 0 (.bool s.g1)∧Z W w 1 (.slice s.a1 s.n1 s.c1)∧Z W w 2 (.bool s.g2)∧Z W w 3 (.slice s.a2 s.n2 s.c2)∧Z W wi 0 (.bool t.g1)∧Z W wi 1 (.slice t.a1 t.n1 t.c1)∧Z W wi 2 (.bool t.g2)∧Z W wi 3 (.slice t.a2 t.n2 t.c2)∧Z W MM 0 (U v0)∧Z W MM 1 (U v1)∧Z W MM 2 (U v2)∧Z W MM 3 (U v3)) (exact qK) (first
      | (go_at_call 94;(with_reducible refine (Qx _ _ _ _ _ _ _ _ _ _ _ (WV.keep qD) _ _ _ _ _ _ _ _ _ _ (WW.keep qD) qB qB qB qB).mono ?_);rintro e w8 ⟨DA,zu,DZ,zw,DB,AA,EA,AB,rfl,LZ,EB,EC,gw,hb⟩;have hmul:Bo w8 DA zu DZ zw (Ct x.2 y.2).1 DB AA EA AB (Ct x.2 y.2).2:=LZ;have jt:=zP w5 hb;have z8:=jt.size;have OD:Bc wi w8 zu zw:=EB.mono zB;have OE:Bc wi w8 AA AB:=EC.mono zB;(replace ⟨k0,k1,k2,k3,t0,t1,t2,t3⟩:=xl jt k0 k1 k2 k3 t0 t1 t2 t3;replace ⟨r0,r1,r2,r3⟩:=xj jt r0 r1 r2 r3))
      | (go_at_call 170;(with_reducible refine (gU wi w8 MB (k*n'+j) (MB+1) _ WU (xo b5 jt) (Ag _) qB qB DA zu DZ zw DB AA EA AB (Ct x.2 y.2) hmul OD OE gw v0 v1 v2 v3 u0 u1 u2 u3 HFM.out.2 (by rw [HKY.out];exact HYK.out)).mono ?_);rintro e w9 ⟨rfl,hM9,mg⟩;have rr:∀i v,i≠MB→w8.cell? ⟨i,v,none⟩=w8.cell? (J i v):=(fun _ _ _=>rfl);clear rr;replace k0:=mg.cell k0 qL;replace k1:=mg.cell k1 qL;replace k2:=mg.cell k2 qL;replace k3:=mg.cell k3 qL;replace t0:=mg.cell t0 qL;replace t1:=mg.cell t1 qL;replace t2:=mg.cell t2 qL;replace t3:=mg.cell t3 qL;replace r0:=mg.cell r0 qL;replace r1:=mg.cell r1 qL;replace r2:=mg.cell r2 qL;replace r3:=mg.cell r3 qL))
     have WX:Below wo wo w9:=Below.grown (xo oq jt) mg (by have:=oq.size;omega) (fun j hj=>by cases hj;exact hMo);have TS9:=(QV.keep jt).row mg qL;rw [HKY.out] at hM9;go_wp2_with fail;go_roundw
     case rel =>
      refine ⟨j+1,qB,by go_num,TS9,?_,WX⟩;exact qDh
     case measure=>(first|(simp [intOf];omega)|(simp [intOf];done))
    ·obtain rfl:j=n':=qB;go_wp2_with fail;go_roundw
     case rel =>
      refine ⟨k+1,qB,by go_num,?_,FN⟩;exact qCz
     case measure=>(first|(simp [intOf];omega)|(simp [intOf];done))
  ·obtain rfl:k=n:=qB;rw [As (by rw [P6.out];exact Ad _)] at hM;have hMw:MB<wr.heap.size:=by obtain ⟨D,_,hD,_⟩:=hM.ex;exact hD.lt
   have yq:∀z∈C4 l l',CW z.2:=fun z hz=>qFk
   have rm:∀j x,D2 (C4 l l') j=some x→j<18446744073709551616∧Ch 1000000 x:=fun j x hx=>qBr
   have vv:=HNN.out;have HS:=Ae yq;clear yq;go_wp2_with fail;refine (iR _ MB _ (MB+1) _ hM qB qB rm).mono ?_;rintro e w6 ⟨a6,n6,c6,r,rfl,hr,JO,eh,JE,ee⟩;obtain rfl:=Ml HS.out eh JE;go_wp2_with fail;refine bodyPost_ret (v:=.tuple #[.slice a6 n6 c6,M 0]) (by simp [results,results100,go_sem]) rfl ?_;exact qEd
end Go.Proofs.YtfijkfdfbnfmmaaGreatDoor
end
