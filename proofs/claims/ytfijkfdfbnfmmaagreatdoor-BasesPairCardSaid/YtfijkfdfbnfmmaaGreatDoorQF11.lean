/- Package fracs: Add, Mul. -/
import Derived.Test.YtfijkfdfbnfmmaaGreatDoorQF10
set_option linter.unusedSimpArgs false
set_option linter.unusedVariables false
set_option maxRecDepth 100000
set_option maxHeartbeats 4000000
section
namespace Go.Proofs.YtfijkfdfbnfmmaaGreatDoor
open Go.RowKit Proofs.Tryz
variable (w:World) (g:Bool) (a:Γ) (n c:Nat) (z x y:Int) (g1:Bool) (a1:Γ) (n1 c1:Nat) (p:Int) (g2:Bool) (a2:Γ) (n2 c2:Nat) (q:Int) {K:Act→World→Prop} {d:Ξ}
theorem cY (x y:Nat):(dg (x+y)).length≤(dg x).length+(dg y).length+1:=by
 have h1:=Ep (dg x) (D0 x);have h2:=Ep (dg y) (D0 y);rw [Bq] at h1 h2;obtain ⟨m,hm⟩:∃m,m=(dg x).length+(dg y).length:=⟨_,rfl⟩;have h3:1000000000 ^ (dg x).length≤1000000000 ^ m:=Nat.pow_le_pow_right qB qB;have h4:1000000000 ^ (dg y).length≤1000000000 ^ m:=Nat.pow_le_pow_right qB qB;have h5:x+y<1000000000 ^ (m+1):=by rw [Nat.pow_succ];omega
 rw [←hm];rcases Nat.lt_or_ge (m+1) (dg (x+y)).length with h6|h6
 ·exfalso;have h7:=dO (Cb (x+y)) rfl qB;rw [Bq] at h7;have h8:1000000000 ^ (m+1)≤1000000000 ^ ((dg (x+y)).length-1):=Nat.pow_le_pow_right qB qB;omega
 ·exact h6
theorem C9:(dg (x*y).natAbs).length≤(dg x.natAbs).length+(dg y.natAbs).length:=by rw [Int.natAbs_mul];exact Hp _ _
theorem Ro:(dg (x+y).natAbs).length≤(dg x.natAbs).length+(dg y.natAbs).length+1 :=
 Ah (Bu (Int.natAbs_add_le x y)) (cY _ _)
def Fh (a b:Int):Int:=a/(Int.gcd a b:Int)
def E5 (a b:Int):Int:=b/(Int.gcd a b:Int)
theorem vU (h:Bh w g a n c z) (g':Bool) (a':Γ) (n' c':Nat) (z':Int) (h':Bh w g' a' n' c' z') (br:n<35184372088829) (bp:n'<35184372088829) :
  Θ 255 #[.agg #[.bool g,.slice a n c],.agg #[.bool g',.slice a' n' c']] w (Di w (z+z')):=by
 have HB:=Ac w w;go_enter func255,ntmps255;go_wp2_with fail;refine (aG _ _ _ _ _ z (h.keep qD) _ _ _ _ z' (h'.keep qD) qB qB).mono ?_;rintro e w1 ⟨g3,a3,n3,c3,rfl,ll,mi,hb⟩;obtain ⟨hc,hf⟩:=Bg hb;have hz:=hb.size;(try simp only [Aj,Ak] at hz);replace HB:=zP w hb;obtain ⟨aw,bh⟩:=xd hc w g a n c;obtain ⟨bn,bo⟩:=xd hc (w+1) g' a' n' c';obtain ⟨bw,bx⟩:=zJ hc (w+1+1);obtain ⟨bz,cc⟩:=zK hf (w+1+1);have jy:w.heap.size+1+1<w1:=qB;have sq:Bc (w+1+1+1) w1 a3 c3:=mi.mono qA;clear hc hf hb hz mi;go_wp2_with fail;refine bodyPost_ret (v:=.agg #[.bool g3,.slice a3 n3 c3]) (by simp [results,results255,go_sem,bw,bx]) rfl ?_;refine ⟨g3,a3,n3,c3,rfl,?_,?_,qD⟩
 ·exact qDn
 ·exact qBp
theorem xJ (h:Bo w g1 a1 n1 c1 p g2 a2 n2 c2 q)
  (g3:Bool) (a3:Γ) (n3 c3:Nat) (p':Int) (g4:Bool) (a4:Γ) (n4 c4:Nat) (q':Int) (h':Bo w g3 a3 n3 c3 p' g4 a4 n4 c4 q') (br:n1≤1000000000) (bp:n2≤1000000000) (ea:n3≤1000000000) (ec:n4≤1000000000) :
  Θ 222 #[.agg #[.bool g1,.slice a1 n1 c1,.bool g2,.slice a2 n2 c2],.agg #[.bool g3,.slice a3 n3 c3,.bool g4,.slice a4 n4 c4]] w (G5 w (Fh (p*q'+p'*q) (q*q')) (E5 (p*q'+p'*q) (q*q'))):=by
 have HB:=Ac w w;have e1:=h.top.rd.len;have e2:=h.low.rd.len;have e3:=h'.top.rd.len;have e4:=h'.low.rd.len;have i1:=C9 p q';have i2:=C9 p' q;have i3:=Ro (p*q') (p'*q);have HD:Hid ((dg (p*q'+p'*q).natAbs).length<35184372088829∧(dg (p*q').natAbs).length<35184372088829∧(dg (p'*q).natAbs).length<35184372088829):=Ae qB;clear e1 e2 e3 e4 i1 i2 i3;go_enter func222,ntmps222;go_wp2_with fail;refine Bt ?_;intro w0 cw;have vg:xp w w0:=by rw [cw];go_grown
 have R0:Z w0 (w+1+1) 0 (.bool false):=by rw [cw];simp [go_sem]
 have R1:Z w0 (w+1+1) 1 (.slice none 0 0):=by rw [cw];simp [go_sem]
 have R2:Z w0 (w+1+1) 2 (.bool false):=by rw [cw];simp [go_sem]
 have R3:Z w0 (w+1+1) 3 (.slice none 0 0):=by rw [cw];simp [go_sem]
 have fp:Y w0 (w+1+1) 0:=by rw [cw];simp [go_sem]
 have fq:Y w0 (w+1+1) 1:=by rw [cw];simp [go_sem]
 have fv:Y w0 (w+1+1) 2:=by rw [cw];simp [go_sem]
 have fw:Y w0 (w+1+1) 3:=by rw [cw];simp [go_sem]
 have qp:w.heap.size+1+1+1≤w0:=Aa _ _ R0;clear cw;refine (mF _ _ _ _ _ _ _ _ _ _ _ (h.keep vg) _ _ _ _ _ _ _ _ _ _ (h'.keep vg) br bp ea ec (p*q'+p'*q) HD.out.1 (fun W gx ax nx cx gy ay ny cy hW hx hy=>vU W gx ax nx cx _ hx gy ay ny cy _ hy (by have:=hx.rd.len;have:=HD.out.2.1;omega) (by have:=hy.rd.len;have:=HD.out.2.2;omega))).mono ?_;rintro e w1 ⟨ge,ae,ne,ce,gf,af,nf,cf,rfl,hr,ry,vw,gw,hb⟩;have ir:=xo vg hb
 (replace ⟨R0,fp,R1,fq,R2,fv,R3,fw⟩:=xi hb R0 fp R1 fq R2 fv R3 fw)
 have fe:Bc (w+1+1+1) w1 ae ce:=ry.mono qp;have ff:Bc (w+1+1+1) w1 af cf:=vw.mono qp;have u2:w.heap.size+1+1<w.heap.size+1+1+1:=Ag _;clear hb vg ry vw;go_wp2_with fail;refine bodyPost_ret (v:=.agg #[.bool ge,.slice ae ne ce,.bool gf,.slice af nf cf]) (by simp [results,results222,go_sem,R0,R1,R2,R3]) rfl ?_;exact qBd
theorem sX (A B:Nat) (gi:Bool) (ai:Γ) (ni ci:Nat) (gj:Bool) (aj:Γ) (nj cj:Nat) (g:Bool) (a:Γ) (n c:Nat) (z:Int) (h:Bh w g a n c z) (g':Bool) (a':Γ) (n' c':Nat) (z':Int) (h':Bh w g' a' n' c' z') (br:n<17592186044416) (bp:n'<17592186044416)
  (h1:Z w A 0 (.bool g)) (h2:Z w A 1 (.slice a n c)) (h3:Z w B 0 (.bool g')) (h4:Z w B 1 (.slice a' n' c')) :
  Θ 164 #[.agg #[.bool gi,.slice ai ni ci],.agg #[.bool gj,.slice aj nj cj],.pointer (E A),.pointer (E B)] w (Di w (z*z')):=by
 have HB:=Ac w w;have hA:=Aa _ _ h1;have hB:=Aa _ _ h3;have W3:xp w (((w.alloc (.cells #[.bool gi,.slice ai ni ci] 51)).alloc (.cells #[.bool gj,.slice aj nj cj] 51)).alloc (.cells #[.bool false,.slice none 0 0] 51)):=qD;have k1:=Bb W3 h1;have k2:=Bb W3 h2;have k3:=Bb W3 h3;have k4:=Bb W3 h4;go_enter func164,ntmps164;go_wp2_with fail;refine (iN _ _ _ _ _ z (h.keep qD) _ _ _ _ z' (h'.keep qD) qB qB).mono ?_;rintro e w1 ⟨g3,a3,n3,c3,rfl,ll,mi,hb⟩;obtain ⟨hc,hf⟩:=Bg hb;have hz:=hb.size;(try simp only [Aj,Ak] at hz);replace HB:=zP w hb;obtain ⟨aw,bh⟩:=xd hc w gi ai ni ci;obtain ⟨bn,bo⟩:=xd hc (w+1) gj aj nj cj;obtain ⟨bw,bx⟩:=zJ hc (w+1+1);obtain ⟨bz,cc⟩:=zK hf (w+1+1);have jy:w.heap.size+1+1<w1:=qB;have sq:Bc (w+1+1+1) w1 a3 c3:=mi.mono qA;clear hc hf hb hz mi;go_wp2_with fail;refine bodyPost_ret (v:=.agg #[.bool g3,.slice a3 n3 c3]) (by simp [results,results164,go_sem,bw,bx]) rfl ?_;refine ⟨g3,a3,n3,c3,rfl,?_,?_,qD⟩
 ·exact qDn
 ·exact qBp
def xA (w0 w:World) (p q:Int) (m:Nat) (e:Ending) (w':World):Prop :=
 ∃g1 a1 n1 c1 g2 a2 n2 c2,e=.returned (.agg #[.bool g1,.slice a1 n1 c1,.bool g2,.slice a2 n2 c2])∧Bo w' g1 a1 n1 c1 p g2 a2 n2 c2 q∧n1≤m∧n2≤m∧(Bo w0 g1 a1 n1 c1 p g2 a2 n2 c2 q∨(Bc w w' a1 c1∧Bc w w' a2 c2))∧xp w w'
theorem sD (h:Bo w g1 a1 n1 c1 p g2 a2 n2 c2 q)
  (g3:Bool) (a3:Γ) (n3 c3:Nat) (p':Int) (g4:Bool) (a4:Γ) (n4 c4:Nat) (q':Int) (m:Nat) (NP:∀W,xp w W→Θ 162 #[.agg #[.bool g3,.slice a3 n3 c3,.bool g4,.slice a4 n4 c4]] W (xA w W p' q' m)) (br:n1≤1000000000) (bp:n2≤1000000000) (hm:m≤1000000000) :
  Θ 94 #[.agg #[.bool g1,.slice a1 n1 c1,.bool g2,.slice a2 n2 c2],.agg #[.bool g3,.slice a3 n3 c3,.bool g4,.slice a4 n4 c4]] w (G5 w (Fh (p*p') (q*q')) (E5 (p*p') (q*q'))):=by
 have HB:=Ac w w;have HOF:=Ae NP;clear NP;go_enter func94,ntmps94;go_wp2_with fail;refine Bw (fun W=>Z W w 0 (.bool g1)∧Z W w 1 (.slice a1 n1 c1)∧Z W w 2 (.bool g2)∧Z W w 3 (.slice a2 n2 c2)∧Z W (w+1) 0 (.bool g3)∧Z W (w+1) 1 (.slice a3 n3 c3)∧Z W (w+1) 2 (.bool g4)∧Z W (w+1) 3 (.slice a4 n4 c4)) 4 qE qK (fun ib=>?_);(refine xc 1 0 ?_;(try simp only [xb]));(refine xc 3 2 ?_;(try simp only [xb]));(refine Bd.one (i:=1) rfl qE (fun K hK=>?_);go_simp;(go_at_call 162;(with_reducible refine (Wl _ _ _ _ _ _ _ _ _ _ _ (h.keep qD) qB qB).mono ?_);rintro e w1 ⟨rfl,hb⟩;obtain ⟨hc,hf⟩:=Bg hb;have hz:=hb.size;(try simp only [Aj,Ak] at hz);replace HB:=zP w hb;obtain ⟨aw,bh,ei,ej⟩:=xe hc w g1 a1 n1 c1 g2 a2 n2 c2;obtain ⟨bn,bo,im,s1_3⟩:=xe hc (w+1) g3 a3 n3 c3 g4 a4 n4 c4;obtain ⟨bw,bx,fi,fj⟩:=xf hc (w+1+1);obtain ⟨bz,cc,gh,gp⟩:=xg hf (w+1+1);obtain ⟨dy,dz,mj,ml⟩:=xg hf w;obtain ⟨dp,dt,jz,kh⟩:=xg hf (w+1));(try go_wp2_with fail);refine hK.out _ _ (fun _=>qK) ?_;clear hK K;(try simp only [xb]));(refine Bd.one (i:=3) rfl qE (fun K hK=>?_);go_simp;(go_at_call 162;(with_reducible refine (HOF.out _ qD).mono ?_);rintro e w2 ⟨g5,a5,n5,c5,g6,a6,n6,c6,rfl,hF,hm5,hm6,hold,bp⟩;have ia:xp w1 w2:=Al (qR) (bp.mono qA);have UQ:=ia.size;(replace ⟨aw,dy,bh,dz,ei,mj,ej,ml⟩:=xi ia aw dy bh dz ei mj ej ml;replace ⟨bn,dp,bo,dt,im,jz,s1_3,kh⟩:=xi ia bn dp bo dt im jz s1_3 kh;replace ⟨bw,bz,bx,cc,fi,gh,fj,gp⟩:=xi ia bw bz bx cc fi gh fj gp);replace HB:=xo HB ia);(try go_wp2_with fail);refine hK.out _ _ (fun _=>qK) ?_;clear hK K;(try simp only [xb]));(refine Bd.one (i:=4) rfl qE (fun K hK=>?_);go_simp;refine hK.out _ _ (fun h=>absurd h qI) ?_;clear hK K;(try simp only [xb]));(refine Bd.one (i:=5) rfl qE (fun K hK=>?_);go_simp;refine hK.out _ _ (fun h=>absurd h qI) ?_;clear hK K;(try simp only [xb]));refine Bd.done qE ?_ _;have l9:w.heap.size+1+1<w2:=Aa _ _ bw;have jy:=HB.size;go_upto_region 2 with fail
 refine Bx ?_;intro w3 eb;have ep:xp w w3:=by rw [eb];go_grown
 have A0:Z w3 w 0 (.bool g1):=by rw [eb];simp [*,go_sem]
 have A1:Z w3 w 1 (.slice a1 n1 c1):=by rw [eb];simp [*,go_sem]
 have A2:Z w3 w 2 (.bool g2):=by rw [eb];simp [*,go_sem]
 have A3:Z w3 w 3 (.slice a2 n2 c2):=by rw [eb];simp [*,go_sem]
 have B0:Z w3 (w+1) 0 (.bool g5):=by rw [eb];simp [*,go_sem]
 have B1:Z w3 (w+1) 1 (.slice a5 n5 c5):=by rw [eb];simp [*,go_sem]
 have B2:Z w3 (w+1) 2 (.bool g6):=by rw [eb];simp [*,go_sem]
 have B3:Z w3 (w+1) 3 (.slice a6 n6 c6):=by rw [eb];simp [*,go_sem]
 have R0:Z w3 (w+1+1) 0 (.bool false):=by rw [eb];simp [*,go_sem]
 have R1:Z w3 (w+1+1) 1 (.slice none 0 0):=by rw [eb];simp [*,go_sem]
 have R2:Z w3 (w+1+1) 2 (.bool false):=by rw [eb];simp [*,go_sem]
 have R3:Z w3 (w+1+1) 3 (.slice none 0 0):=by rw [eb];simp [*,go_sem]
 have fp:Y w3 (w+1+1) 0:=by rw [eb];simp [*,go_sem]
 have fq:Y w3 (w+1+1) 1:=by rw [eb];simp [*,go_sem]
 have fv:Y w3 (w+1+1) 2:=by rw [eb];simp [*,go_sem]
 have fw:Y w3 (w+1+1) 3:=by rw [eb];simp [*,go_sem]
 have hF3:Bo w3 g5 a5 n5 c5 p' g6 a6 n6 c6 q':=by
  rcases hold with ho|⟨f5,f6⟩
  ·exact ho.keep ep
  ·have l0:w.heap.size<w1:=qB;have l1:w.heap.size+1<w1:=qB;rw [eb];exact ⟨(hF.top.set4 f5 _ _ _ _ _ _ _ _ l0 l0 l0 l0).set4 (f5.set4 _ _ _ _ _ _ _ _ l0 l0 l0 l0) _ _ _ _ _ _ _ _ l1 l1 l1 l1,(hF.low.set4 f6 _ _ _ _ _ _ _ _ l0 l0 l0 l0).set4 (f6.set4 _ _ _ _ _ _ _ _ l0 l0 l0 l0) _ _ _ _ _ _ _ _ l1 l1 l1 l1,hF.pos,hF.red⟩
 have e1:=h.top.rd.len;have e3:=hF3.top.rd.len;have i1:=C9 p p';have HD:Hid ((dg (p*p').natAbs).length<35184372088829):=Ae qB;have nw:w.heap.size+1+1+1≤w3:=Aa _ _ R0;clear eb e1 e3 i1 HB hc hf hb hz hF hold bp ia UQ l9 jy aw bh ei ej bn bo im s1_3 bw bx fi fj dy dz mj ml dp dt jz kh bz cc gh gp;go_wp2_with fail;refine (mB _ _ _ _ _ _ _ _ _ _ _ (h.keep ep) _ _ _ _ _ _ _ _ _ _ hF3 br bp qB qB _ _ (p*p') HD.out (fun W gx ax nx cx gy ay ny cy hW hx hy=>sX W w (w+1) gx ax nx cx gy ay ny cy _ _ _ _ p ((h.keep ep).top.keep hW) _ _ _ _ p' (hF3.top.keep hW) qB qB (Bb hW A0) (Bb hW A1) (Bb hW B0) (Bb hW B1))).mono ?_;rintro e w4 ⟨ge,ae,ne,ce,gf,af,nf,cf,rfl,hr,ry,vw,gw,hb⟩;have o8:=xo ep hb
 (replace ⟨R0,fp,R1,fq,R2,fv,R3,fw⟩:=xi hb R0 fp R1 fq R2 fv R3 fw)
 have fe:Bc (w+1+1+1) w4 ae ce:=ry.mono nw;have ff:Bc (w+1+1+1) w4 af cf:=vw.mono nw;have u2:w.heap.size+1+1<w.heap.size+1+1+1:=Ag _;clear hb ep ry vw;go_wp2_with fail;refine bodyPost_ret (v:=.agg #[.bool ge,.slice ae ne ce,.bool gf,.slice af nf cf]) (by simp [results,results94,go_sem,R0,R1,R2,R3]) rfl ?_;exact qBd
theorem Qx (h:Bo w g1 a1 n1 c1 p g2 a2 n2 c2 q)
  (g3:Bool) (a3:Γ) (n3 c3:Nat) (p':Int) (g4:Bool) (a4:Γ) (n4 c4:Nat) (q':Int) (h':Bo w g3 a3 n3 c3 p' g4 a4 n4 c4 q') (br:n1≤1000000000) (bp:n2≤1000000000) (ea:n3≤1000000000) (ec:n4≤1000000000) :
  Θ 94 #[.agg #[.bool g1,.slice a1 n1 c1,.bool g2,.slice a2 n2 c2],.agg #[.bool g3,.slice a3 n3 c3,.bool g4,.slice a4 n4 c4]] w (G5 w (Fh (p*p') (q*q')) (E5 (p*p') (q*q'))) :=
 sD w g1 a1 n1 c1 p g2 a2 n2 c2 q h g3 a3 n3 c3 p' g4 a4 n4 c4 q' 1000000000 (fun W hW=>(Wl W _ _ _ _ _ _ _ _ _ _ (h'.keep hW) qB qB).mono (fun e w' ⟨he,hb⟩=>⟨_,_,_,_,_,_,_,_,he,(h'.keep hW).keep hb,ea,ec,.inl h',hb⟩)) br bp (Ad _)
theorem Nx (h0:-9223372036854775808≤z) (h1:z≤9223372036854775807):Θ 95 #[M z] w (G5 w z 1):=by
 have HB:=Ac w w;go_enter func95,ntmps95;go_wp2_with fail;refine (Yx _ z h0 h1).mono ?_;rintro e w1 ⟨g1,a1,n1,c1,rfl,qv,ln,hb⟩;obtain ⟨hc,hf⟩:=Bg hb;have hz:=hb.size;(try simp only [Aj,Ak] at hz);replace HB:=zP w hb;obtain ⟨aw,bh,ei,ej⟩:=xf hc w;obtain ⟨dy,dz,mj,ml⟩:=xg hf w;have jy:w.heap.size<w1:=qB;have f1:Bc (w+1) w1 a1 c1:=ln.mono qA;clear hc hf hb hz ln;go_wp2_with fail;refine (Yx _ 1 qB qB).mono ?_;rintro e w2 ⟨g2,a2,n2,c2,rfl,vh,nk,hb⟩;obtain ⟨hc,hf⟩:=Bg hb;have hz:=hb.size;(try simp only [Aj,Ak] at hz);replace HB:=zP w hb;obtain ⟨aw,bh,ei,ej⟩:=xf hc w;obtain ⟨dy,dz,mj,ml⟩:=xg hf w;have f1':=f1.keep hb;have qg:=qv.keep hb;have f2:Bc (w+1) w2 a2 c2:=nk.mono qB;have gw:Ap2 a1 c1 a2 c2:=Xp f1 (nk.mono qA);have l9:w.heap.size<w2:=qB;have u:w.heap.size<w.heap.size+1:=Ag _;clear hc hf hb hz nk;go_wp2_with fail;refine bodyPost_ret (v:=.agg #[.bool g1,.slice a1 n1 c1,.bool g2,.slice a2 n2 c2]) (by simp [results,results95,go_sem,aw,bh,ei,ej]) rfl ?_;refine ⟨g1,a1,n1,c1,g2,a2,n2,c2,rfl,⟨?_,?_,qB,by simp [Int.gcd]⟩,?_,?_,gw,qD⟩
 ·exact qg.set4 f1' _ _ _ _ _ _ _ _ u u u u
 ·exact vh.set4 f2 _ _ _ _ _ _ _ _ u u u u
 ·exact (f1'.set4 _ _ _ _ _ _ _ _ u u u u).mono qB
 ·exact (f2.set4 _ _ _ _ _ _ _ _ u u u u).mono qB
theorem Fk {w:World} {g:Bool} {a:Γ} {n c:Nat} {z:Int} (h:Bh w g a n c z) (hz:z.natAbs<1000000000):n≤1:=by
 have h1:=h.rd.len;rcases Aq z.natAbs with h2|h2
 ·rw [h2,Dv] at h1;simp at h1;omega
 ·rw [Hq h2,show z.natAbs/1000000000=0 from qB,Dv] at h1;simp at h1;omega
theorem Yv:RdL w none 0 0 []:=⟨rfl,Ad _,qB,qB,fun i=>by simp [lim],.inl rfl⟩
theorem Aax (w0 w:World) (g1:Bool) (a1:Γ) (n1 c1:Nat) (d1:Ξ) (h1:RdL w a1 n1 c1 d1) (g2:Bool) (a2:Γ) (n2 c2:Nat) (d2:Ξ) (h2:RdL w a2 n2 c2 d2) (hs:n2<35184372088829) (br:n1<35184372088829) (hr:¬FOk g1 d1 g2 d2) :
  Θ 162 #[.agg #[.bool g1,.slice a1 n1 c1,.bool g2,.slice a2 n2 c2]] w (xA w0 w 0 1 1):=by
 have HB:=Ac w w;have HR:=Ae hr;clear hr;go_enter func162,ntmps162;go_wp2_with fail;refine (F4 _ _ _ _ _ _ (h1.keep qD) _ _ _ _ _ (h2.keep qD) hs br false ⟨fun h=>absurd h HR.out,fun e=>(by cases e)⟩).mono ?_;rintro e w1 ⟨rfl,hb⟩;obtain ⟨hc,hf⟩:=Bg hb;have hz:=hb.size;(try simp only [Aj,Ak] at hz);replace HB:=zP w hb;obtain ⟨aw,bh,ei,ej⟩:=xe hc w g1 a1 n1 c1 g2 a2 n2 c2;obtain ⟨bn,bo,im,s1_3⟩:=xf hc (w+1);obtain ⟨dp,dt,jz,kh⟩:=xg hf (w+1);have jy:w.heap.size+1<w1:=qB;clear hc hf hb hz;go_wp2_with fail;refine (Nx _ 0 qB qB).mono ?_;rintro e w2 ⟨g3,a3,n3,c3,g4,a4,n4,c4,rfl,hF,sq,GJ,gw,hb⟩;obtain ⟨hc,hf⟩:=Bg hb;have hz:=hb.size;(try simp only [Aj,Ak] at hz);replace HB:=zP w hb;obtain ⟨bn,bo,im,s1_3⟩:=xf hc (w+1);obtain ⟨dp,dt,jz,kh⟩:=xg hf (w+1);have f3:Bc (w+1+1) w2 a3 c3:=sq.mono qB;have f4:Bc (w+1+1) w2 a4 c4:=GJ.mono qB;have l9:w.heap.size+1<w2:=qB;have u:w.heap.size+1<w.heap.size+1+1:=Ag _;clear hc hf hb hz sq GJ;go_wp2_with fail;refine bodyPost_ret (v:=.agg #[.bool g3,.slice a3 n3 c3,.bool g4,.slice a4 n4 c4]) (by simp [results,results162,go_sem,bn,bo,im,s1_3]) rfl ?_;refine ⟨g3,a3,n3,c3,g4,a4,n4,c4,rfl,⟨?_,?_,hF.pos,hF.red⟩,Fk hF.top qH,Fk hF.low qH,.inr ⟨?_,?_⟩,qD⟩
 ·exact hF.top.set4 f3 _ _ _ _ _ _ _ _ u u u u
 ·exact hF.low.set4 f4 _ _ _ _ _ _ _ _ u u u u
 ·exact (f3.set4 _ _ _ _ _ _ _ _ u u u u).mono qB
 ·exact (f4.set4 _ _ _ _ _ _ _ _ u u u u).mono qB
theorem kH (h:∀i,i<d.length→lim d i<1000000000):∀x∈d,x<1000000000:=by
 intro x hx;obtain ⟨i,hi,rfl⟩:=List.getElem_of_mem hx;have:=h i hi;simp only [lim,List.getD,Ai hi,Option.getD_some] at this;omega
theorem E8 (d:Ξ) (hd:RdL w a n c d) (r:Bool) (hr:Lf g d↔r=true) :
  Θ 178 #[.agg #[.bool g,.slice a n c]] w fun e w'=>e=.returned (.bool r)∧xp w w':=by
 have HB:=Ac w w;have hl:=hd.len;have hn:=hd.few;have HR:=Ae hr;clear hr;go_enter func178,ntmps178;go_wp2_with fail;go_loop [3] (fun v3=>∃k:Nat,k≤n∧v3=M k∧Hid (∀j,j<k→lim d j<1000000000)) (fun v3=>n-(intOf v3).toNat)
 case atStart=>exact ⟨0,Ba _,rfl,Ae (fun j hj=>absurd hj (Nat.not_lt_zero _))⟩
 case round =>
  obtain ⟨k,hk,rfl,fh⟩:=hrel;by_cases bj:k<n
  ·obtain ⟨b,o,rfl,c1⟩:=hd.at' bj;have OX:=Bb (show xp w (w.alloc (.cells #[.bool g,.slice (some ⟨b,o,none⟩) n c] 51)) from qD) c1;clear c1;by_cases hb:1000000000≤lim d k
   ·have hrf:r=false:=by
     cases r
     ·rfl
     ·have:=Hi (HR.out.2 rfl).1.1 k;omega
    subst hrf;go_wp2_with fail;go_ret;exact ⟨rfl,qD⟩
   ·have BP:decide (1000000000≤lim d k)=false:=by rw [decide_eq_false_iff_not];exact hb
    clear hb;go_wp2_with fail;go_round
    case rel =>
     refine ⟨k+1,qB,by go_num,Ae (fun j hj=>?_)⟩;rcases Nat.lt_succ_iff_lt_or_eq.1 hj with h|rfl
     ·exact fh.out j h
     ·have:=of_decide_eq_false BP;omega
    case measure=>(first|(simp [intOf];omega)|(simp [intOf];done))
  ·obtain rfl:k=n:=qB;have HL:=Ae (kH (d:=d) (fun i hi=>fh.out i qB));rcases Aq k with rfl|hp
   ·have DQ:d=[]:=List.eq_nil_of_length_eq_zero hl;have OV:r=!g:=by
     have h1:Lf g d↔g=false:=by
      unfold Lf Dy;rw [DQ];simp
     have h2:=HR.out;rw [h1] at h2
     cases r<;>cases g<;>simp_all
    subst OV;clear DQ;cases g;all_goals
     go_wp2_with fail;go_ret;exact ⟨rfl,qD⟩
   ·have hc:=Tt HL.out qB;rw [hl] at hc;have lf:(lim d (k-1) != 0)=r:=by
     have h1:Lf g d↔Dy d:=⟨fun h=>h.1,fun h=>⟨h,fun e=>by rw [e] at hl;simp at hl;omega⟩⟩;have h2:=HR.out;rw [h1,hc] at h2
     cases r<;>simp_all
    have nc:=Ae lf;obtain ⟨b,o,rfl,c1⟩:=(hd.at' (i:=k-1) qB);have OX:=Bb (show xp w (w.alloc (.cells #[.bool g,.slice (some ⟨b,o,none⟩) k c] 51)) from qD) c1;have qv:((k:Int)-1).toNat=k-1:=qB;clear c1 hc lf;go_wp2_with fail;go_ret;exact ⟨by rw [nc.out];rfl,qD⟩
theorem Gw (h:Bh w g a n c z) :
  Θ 181 #[.agg #[.bool g,.slice a n c]] w (gS w g a n c):=by
 have HB:=Ac w w;have ho:=Ae h.okay;go_enter func181,ntmps181;go_wp2_with fail;refine (E8 _ _ _ _ _ (dg z.natAbs) (h.rd.keep qD) true ⟨fun _=>rfl,fun _=>ho.out⟩).mono ?_;rintro e w1 ⟨rfl,hb⟩;obtain ⟨hc,hf⟩:=Bg hb;have hz:=hb.size;(try simp only [Aj,Ak] at hz);replace HB:=zP w hb;obtain ⟨aw,bh⟩:=xd hc w g a n c;obtain ⟨bn,bo⟩:=zJ hc (w+1);obtain ⟨dp,dt⟩:=zK hf (w+1);go_wp2_with fail;refine bodyPost_ret (v:=.agg #[.bool g,.slice a n c]) (by simp [results,results181,go_sem,bn,bo]) rfl ?_;exact ⟨rfl,qD⟩
theorem Xr {z:Int} {n:Nat} (h:(dg z.natAbs).length=n) (hz:¬z<0):Bz z 0=if 0<n then 1 else 0:=by
 by_cases h0:z=0
 ·subst h0;rw [show (0:Int).natAbs=0 from rfl,Dv] at h;simp at h;rw [←h];rfl
 ·rw [C7 qB,if_pos];rw [Hq qB] at h;simp at h;omega
theorem K5 (h:Bh w g a n c z) :
  Θ 108 #[.agg #[.bool g,.slice a n c]] w fun e w'=>e=.returned (M (Bz z 0))∧xp w w':=by
 have HB:=Ac w w;have hg:=h.neg;have hl:=h.rd.len;cases g
 ·have hz:¬z<0:=by simpa using hg.symm
  have hr:=Xr hl hz;clear hg hl hz;by_cases hn:0<n
  ·rw [if_pos hn] at hr;have HR:=Ae hr;clear hr;go_enter func108,ntmps108;go_wp2_with fail;refine (Gw _ _ _ _ _ _ (h.keep qD)).mono ?_;rintro e w1 ⟨rfl,hb⟩;obtain ⟨hc,hf⟩:=Bg hb;have hz:=hb.size;(try simp only [Aj,Ak] at hz);replace HB:=zP w hb;obtain ⟨aw,bh⟩:=xd hc w false a n c;exact qBm
  ·obtain rfl:n=0:=qB;rw [if_neg hn] at hr;have HR:=Ae hr;clear hr hn;go_enter func108,ntmps108;go_wp2_with fail;refine (Gw _ _ _ _ _ _ (h.keep qD)).mono ?_;rintro e w1 ⟨rfl,hb⟩;obtain ⟨hc,hf⟩:=Bg hb;have hz:=hb.size;(try simp only [Aj,Ak] at hz);replace HB:=zP w hb;obtain ⟨aw,bh⟩:=xd hc w false a 0 c;exact qBm
 ·have hz:z<0:=by simpa using hg.symm
  have HR:=Ae (show Bz z 0=-1 from C6 hz);clear hg hl hz;go_enter func108,ntmps108;go_wp2_with fail;refine (Gw _ _ _ _ _ _ (h.keep qD)).mono ?_;rintro e w1 ⟨rfl,hb⟩;obtain ⟨hc,hf⟩:=Bg hb;have hz:=hb.size;(try simp only [Aj,Ak] at hz);replace HB:=zP w hb;obtain ⟨aw,bh⟩:=xd hc w true a n c;exact qBm
theorem RdL.recap {w:World} {a:Γ} {n c c':Nat} (h:RdL w a n c d) (h1:n≤c') (h2:c'≤9223372036854775807):RdL w a n c' d :=
 ⟨h.len,h1,h.few,h2,h.small,h.cell⟩
def vN (w:World) (g:Bool) (a:Γ) (c:Nat) (d:Ξ) (e:Ending) (w':World):Prop :=
 ∃g' n',e=.returned (.agg #[.bool g',.slice a n' c])∧n'≤d.length∧Bh w' g' a n' c (sgn g (val d))∧xp w w'
theorem Yd {w w':World} {g g':Bool} {a:Γ} {n c k:Nat} (hd:RdL w a n c d) (bj:∀x∈d,x<1000000000) (hk:k≤n) (hz:∀i,k≤i→lim d i=0) (hl:k=0∨lim d (k-1)≠0) (hb:xp w w') (hg:g'=(g&&decide (0<k))) :
  Bh w' g' a k c (sgn g (val d)):=by
 have h:=Sr hd bj hk hz hl hb hg;exact ⟨h.neg,h.rd.recap (Ah hk hd.cap) hd.top⟩
theorem Hb (d:Ξ) (hd:RdL w a n c d) (bj:∀x∈d,x<1000000000) :
  Θ 185 #[.bool g,.slice a n c] w (vN w g a c d):=by
 have hlen:=hd.len;have oz:=hd.cap;have hn:=hd.few;have KI:=hd.top;have HB:=Ac w w;have HL:=Ae bj;clear bj;go_enter func185,ntmps185;go_wp2_with fail;go_loop [1] (fun v3=>∃k:Nat,k≤n∧v3=.slice a k c∧Hid (∀i,k≤i→lim d i=0)) (fun v3=>xD v3)
 case atStart=>exact ⟨n,Ad _,rfl,Ae (fun i hi=>by simp [lim,List.getElem?_eq_none (show d.length≤i from qB)])⟩
 case round =>
  obtain ⟨k,hk,rfl,HZ⟩:=hrel
  match k with
  | 0 =>
   cases g
   all_goals
    go_wp2_with fail;refine bodyPost_ret (v:=.agg #[.bool false,.slice a 0 c]) (by simp [results,results185,go_sem]) rfl ?_;exact ⟨_,0,rfl,qB,Yd hd HL.out hk HZ.out (.inl rfl) qD qH,qD⟩
  | j+1 =>
   obtain ⟨b,o,rfl,c1⟩:=hd.at' (i:=j) qB;have rq:b<w.heap.size:=Aa w _ c1;have hj1:(((j+1:Nat):Int)-1).toNat=j:=qB;by_cases h0:lim d j=0
   ·have h0':(lim d j==0)=true:=by simp [h0]
    have H0:=Ae h0;clear h0;go_wp2_with fail;go_round
    case rel =>
     refine ⟨j,qB,rfl,Ae (fun i hi=>?_)⟩;exact qFj
    case measure=>simp [xD]
   ·have h0':(lim d j==0)=false:=by simp [h0]
    have H0:=Ae h0;clear h0;cases g
    ·go_wp2_with fail;refine bodyPost_ret (v:=.agg #[.bool false,.slice (some ⟨b,o,none⟩) (j+1) c]) (by simp [results,results185,go_sem]) rfl ?_;exact ⟨_,j+1,rfl,qB,Yd hd HL.out hk HZ.out (.inr H0.out) qD qH,qD⟩
    ·go_wp2_with fail;refine bodyPost_ret (v:=.agg #[.bool true,.slice (some ⟨b,o,none⟩) (j+1) c]) (by simp [results,results185,go_sem]) rfl ?_;exact ⟨_,j+1,rfl,qB,Yd hd HL.out hk HZ.out (.inr H0.out) qD qH,qD⟩
theorem Io {P:Program} {w:World} (base:Nat) (t ty e:TypeId) (i:TypeInfo) (size:Nat) (ht:P.underlying t=some (.slice e)) (hi:P.info? e=some i)
  (v:Value) (n:Nat) (xs:List Value) (ah:w.ownsRow base e size v n xs) (a:Γ) (c:Nat) :
  (Builtin.append_ #[t,t] ty #[v,.slice a 0 c]).run P w=.ok v w:=by
 rcases ah.2 with ⟨rfl,rfl⟩|⟨g,cap,cur,rfl,_,_,ri,_⟩
 ·cases a<;>simp [Builtin.append_,run_underlying ht,sizeOf,typeInfo,hi,Builtin.lenOf,Builtin.firstCells,loadCells,loadCellsFrom]
 ·cases a<;>simp [Builtin.append_,run_underlying ht,sizeOf,typeInfo,hi,Builtin.lenOf,Builtin.firstCells,ri,storeCells,loadCells,loadCellsFrom]
theorem Np {P:Program} {w:World} {ops:Array Oper} {o:Oper} {a:Act} {Q:Exit→Act→World→Prop} {zf:Prop} (vx:o.guard=none) (s x:Operand) (t:TypeId)
  (ho:o.op=.call { callee:=.builtin .append,args:=#[s,x],argTypes:=#[t,t] })
  (base:Nat) (e:TypeId) (i:TypeInfo) (size:Nat) (ht:P.underlying t=some (.slice e)) (hi:P.info? e=some i)
  (v:Value) (n:Nat) (xs:List Value) (hs:a.eval s=v) (ah:w.ownsRow base e size v n xs) (ad:Γ) (c:Nat) (hx:a.eval x=.slice ad 0 c)
  (h:K (a.put o.dst v) w):if Region.wanted o (yielded ops a.tmps)=true then Oper.wp P o a w K Q else zf:=by
 have hw:Region.wanted o (yielded ops a.tmps)=true:=by simp [Region.wanted,vx]
 rw [if_pos hw];have AJ:=Io (P:=P) (w:=w) base t o.type e i size ht hi v n xs ah ad c;unfold Oper.wp;simp [execOp,ho,resolve,invoke,builtin,hs,hx,AJ,Result.andThen];exact h
end Go.Proofs.YtfijkfdfbnfmmaaGreatDoor
end
