/- Package fracs: Div, by a fraction that is not 0. No further condition. -/
import Derived.Test.YtfijkfdfbnfmmaaGreatDoorQF20
import Derived.Test.YtfijkfdfbnfmmaaGreatDoorQF19
set_option linter.unusedSimpArgs false
set_option linter.unusedVariables false
set_option maxRecDepth 100000
set_option maxHeartbeats 4000000
section
namespace Go.Proofs.YtfijkfdfbnfmmaaGreatDoor
open Go.RowKit Proofs.Tryz
variable (d:Nat) (w0:World) {g:Bool} {z t l:Int} {n c B k c1 c2 b':Nat} {o:Nat→Nat} {u zv:Value} {a a1 a2:Γ} {p:Δ}
theorem pJ (w:World) (g:Bool) (a:Γ) (n c:Nat) (z:Int) (h:Bh w g a n c z) (g':Bool) (a':Γ) (n' c':Nat) (z':Int) (h':Bh w g' a' n' c' z')
  (j5:z'<0) (br:n<35184372088829) (bp:n'<35184372088829) :
  Θ 168 #[.agg #[.bool g,.slice a n c],.agg #[.bool g',.slice a' n' c']] w (Ss w (z/(-(Int.gcd z z':Int))) (z'/(-(Int.gcd z z':Int)))):=by
 have HB:=Ac w w;have KN:=Ae h.okay;have GL:=Ae h'.okay;have xx:Bz z' 0=-1:=C6 j5;go_enter func168,ntmps168;go_wp2_with fail;refine (De _ _ _ _ _ _ (h.rd.keep qD) true ⟨fun _=>rfl,fun _=>KN.out⟩).mono ?_;rintro e w1 ⟨rfl,hb⟩;obtain ⟨hc,hf⟩:=Bg hb;have hz:=hb.size;(try simp only [Aj,Ak] at hz);replace HB:=zP w hb;obtain ⟨aw,bh⟩:=xd hc w g a n c;obtain ⟨bn,bo⟩:=xd hc (w+1) g' a' n' c';obtain ⟨bw,bx,fi,fj⟩:=xf hc (w+1+1);obtain ⟨bz,cc,gh,gp⟩:=xg hf (w+1+1);have jy:w.heap.size+1+1<w1:=qB;clear hc hf hb hz;go_wp2_with fail;refine (De _ _ _ _ _ _ (h'.rd.keep qD) true ⟨fun _=>rfl,fun _=>GL.out⟩).mono ?_;rintro e w2 ⟨rfl,hb⟩;obtain ⟨hc,hf⟩:=Bg hb;have hz:=hb.size;(try simp only [Aj,Ak] at hz);replace HB:=zP w hb;obtain ⟨aw,bh⟩:=xd hc w g a n c;obtain ⟨bn,bo⟩:=xd hc (w+1) g' a' n' c';obtain ⟨bw,bx,fi,fj⟩:=xf hc (w+1+1);obtain ⟨bz,cc,gh,gp⟩:=xg hf (w+1+1);have l9:w.heap.size+1+1<w2:=qB;clear hc hf hb hz;go_wp2_with fail;refine (Lv _ _ _ _ _ z' (h'.keep qD)).mono ?_;rintro e w3 ⟨rfl,hb⟩;obtain ⟨hc,hf⟩:=Bg hb;have hz:=hb.size;(try simp only [Aj,Ak] at hz);replace HB:=zP w hb;obtain ⟨aw,bh⟩:=xd hc w g a n c;obtain ⟨bn,bo⟩:=xd hc (w+1) g' a' n' c';obtain ⟨bw,bx,fi,fj⟩:=xf hc (w+1+1);obtain ⟨bz,cc,gh,gp⟩:=xg hf (w+1+1);have nw:w.heap.size+1+1<w3:=qB;clear hc hf hb hz;rw [xx];go_wp2_with fail;refine (pQ _ _ _ _ _ z (h.keep qD) _ _ _ _ z' (h'.keep qD) j5 br bp).mono ?_;exact qAt
def J4 (t l:Int):PC:=if l<0 then (-(t/(Int.gcd t l:Int)),-(l/(Int.gcd t l:Int))) else (t/(Int.gcd t l:Int),l/(Int.gcd t l:Int))
theorem Pj (x y:PC):Kc x y=J4 (x.1*y.2) (y.1*x.2):=rfl
theorem xO (w:World) (g:Bool) (a:Γ) (n c:Nat) (z:Int) (h:Bh w g a n c z) (g':Bool) (a':Γ) (n' c':Nat) (z':Int) (h':Bh w g' a' n' c' z')
  (j5:z'≠0) (br:n<35184372088829) (bp:n'<35184372088829) :
  Θ 168 #[.agg #[.bool g,.slice a n c],.agg #[.bool g',.slice a' n' c']] w (Ss w (J4 z z').1 (J4 z z').2):=by
 unfold J4;by_cases h0:z'<0
 ·rw [if_pos h0];have:=pJ w g a n c z h g' a' n' c' z' h' h0 br bp;rwa [Int.ediv_neg,Int.ediv_neg] at this
 ·rw [if_neg h0];exact bO w g a n c z h g' a' n' c' z' h' qB br bp
theorem dP (w:World) (g1:Bool) (a1:Γ) (n1 c1:Nat) (x:PC) (g2:Bool) (a2:Γ) (n2 c2:Nat) (hx:Bo w g1 a1 n1 c1 x.1 g2 a2 n2 c2 x.2)
  (g3:Bool) (a3:Γ) (n3 c3:Nat) (y:PC) (g4:Bool) (a4:Γ) (n4 c4:Nat) (hy:Bo w g3 a3 n3 c3 y.1 g4 a4 n4 c4 y.2) (h0:y.1≠0) (q1:n1≤1000000000) (q2:n2≤1000000000) (q3:n3≤1000000000) (q4:n4≤1000000000) :
  Θ 99 #[.agg #[.bool g1,.slice a1 n1 c1,.bool g2,.slice a2 n2 c2],.agg #[.bool g3,.slice a3 n3 c3,.bool g4,.slice a4 n4 c4]] w (Ss w (Kc x y).1 (Kc x y).2):=by
 have HB:=Ac w w;have KN:=Ae hx.ok;have GL:=Ae hy.ok;have e1:=Ae (Ax hx.top.rd.len hy.low.rd.len);have e2:=Ae (Ax hy.top.rd.len hx.low.rd.len);have di:y.1*x.2≠0:=Int.mul_ne_zero h0 (Int.ne_of_gt hx.pos);have HD:=Ae (Pj x y);go_enter func99,ntmps99;go_wp2_with fail;refine (F4 _ _ _ _ _ _ (hx.top.rd.keep qD) _ _ _ _ _ (hx.low.rd.keep qD) qB qB true ⟨fun _=>rfl,fun _=>KN.out⟩).mono ?_;rintro e w1 ⟨rfl,hb⟩;obtain ⟨hc,hf⟩:=Bg hb;have hz:=hb.size;(try simp only [Aj,Ak] at hz);replace HB:=zP w hb;obtain ⟨aw,bh,ei,ej⟩:=xe hc w g1 a1 n1 c1 g2 a2 n2 c2;obtain ⟨bn,bo,im,s1_3⟩:=xe hc (w+1) g3 a3 n3 c3 g4 a4 n4 c4;obtain ⟨bw,bx,fi,fj⟩:=xf hc (w+1+1);obtain ⟨bz,cc,gh,gp⟩:=xg hf (w+1+1);have jy:w.heap.size+1+1<w1:=qB;clear hc hf hb hz;go_wp2_with fail;refine (F4 _ _ _ _ _ _ (hy.top.rd.keep qD) _ _ _ _ _ (hy.low.rd.keep qD) qB qB true ⟨fun _=>rfl,fun _=>GL.out⟩).mono ?_;rintro e w2 ⟨rfl,hb⟩;obtain ⟨hc,hf⟩:=Bg hb;have hz:=hb.size;(try simp only [Aj,Ak] at hz);replace HB:=zP w hb;obtain ⟨aw,bh,ei,ej⟩:=xe hc w g1 a1 n1 c1 g2 a2 n2 c2;obtain ⟨bn,bo,im,s1_3⟩:=xe hc (w+1) g3 a3 n3 c3 g4 a4 n4 c4;obtain ⟨bw,bx,fi,fj⟩:=xf hc (w+1+1);obtain ⟨bz,cc,gh,gp⟩:=xg hf (w+1+1);have l9:w.heap.size+1+1<w2:=qB;clear hc hf hb hz;go_wp2_with fail;refine (Rd _ _ _ _ _ _ _ _ _ _ _ (hx.keep HB) _ _ _ _ _ _ _ _ _ _ (hy.keep HB) q1 q2 q3 q4).mono ?_;rintro e w3 ⟨gx,ax,nx,cx,gy,ay,ny,cy,gq,aq,nq,cq,rfl,hX,hY,hQ,iq,sk,rj,hb⟩;obtain ⟨hc,hf⟩:=Bg hb;have hz:=hb.size;(try simp only [Aj,Ak] at hz);replace HB:=zP w hb;obtain ⟨aw,bh,ei,ej⟩:=xe hc w g1 a1 n1 c1 g2 a2 n2 c2;obtain ⟨bn,bo,im,s1_3⟩:=xe hc (w+1) g3 a3 n3 c3 g4 a4 n4 c4;obtain ⟨bw,bx,fi,fj⟩:=xf hc (w+1+1);obtain ⟨bz,cc,gh,gp⟩:=xg hf (w+1+1);have nw:w.heap.size+1+1<w3:=qB;clear hc hf hb hz;have lx:nx<35184372088829:=by
  have h1:=hX.rd.len;have h2:=Hp x.1.natAbs y.2.natAbs;rw [←Int.natAbs_mul] at h2;have:=e1.out;omega
 have ly:ny<35184372088829:=by
  have h1:=hY.rd.len;have h2:=Hp y.1.natAbs x.2.natAbs;rw [←Int.natAbs_mul] at h2;have:=e2.out;omega
 go_wp2_with fail;refine (xO _ _ _ _ _ (x.1*y.2) (hX.keep qD) _ _ _ _ (y.1*x.2) (hY.keep qD) di lx ly).mono ?_;rintro e w4 ⟨ge,ae,ne,ce,gf,af,nf,cf,rfl,hr,ry,vw,hb⟩;have il:=zP w3 hb;have o8:=xo HB il
 (replace ⟨bw,bx,fi,fj⟩:=xj il bw bx fi fj)
 have g0:=(Ab il (p:=⟨w+1+1,0,none⟩) (by show w.heap.size+1+1<_;omega)).trans bz;have g1':=(Ab il (p:=⟨w+1+1,1,none⟩) (by show w.heap.size+1+1<_;omega)).trans cc;have g2':=(Ab il (p:=⟨w+1+1,2,none⟩) (by show w.heap.size+1+1<_;omega)).trans gh;have g3':=(Ab il (p:=⟨w+1+1,3,none⟩) (by show w.heap.size+1+1<_;omega)).trans gp;have fb:=hb.size;simp only [Aj] at fb;have fe:Bc (w+1+1+1) w4 ae ce:=ry.mono qL;have ff:Bc (w+1+1+1) w4 af cf:=vw.mono qL;have u2:w.heap.size+1+1<w.heap.size+1+1+1:=Ag _;clear ry vw bz cc gh gp;go_wp2_with fail;refine bodyPost_ret (v:=.tuple #[.agg #[.bool ge,.slice ae ne ce,.bool gf,.slice af nf cf],M 0]) (by simp [results,results99,go_sem,bw,bx,fi,fj]) rfl ?_;rw [HD.out];exact qAy
theorem gJ {W:World} {K:Nat} (h:Bh W g a n c z) (hk:(dg z.natAbs).length≤K):n≤K:=h.rd.len▸hk
theorem Kz (q:Int) (m:Nat):(dg (q/(m:Int)).natAbs).length≤(dg q.natAbs).length:=by
 refine Bu ?_;rcases Aq m with h|h
 ·subst h;simp
 ·have:=Int.natAbs_ediv_le_natAbs q m;omega
theorem Bh.setB {w:World} {p:Addr} (hn:Nw B n a) (hp:p.block<B) (h:Bh w g a n c z):Bh (w.setCell p u) g a n c z:=⟨h.neg,by
 rcases hn with h0|hn
 ·exact ⟨h.rd.len,h.rd.cap,h.rd.few,h.rd.top,h.rd.small,.inl h0⟩
 ·exact h.rd.setNew p u (hn.mono hp)⟩
theorem Bh.allocB {w:World} {o:Obj} (h:Bh w g a n c z):Bh (w.alloc o) g a n c z:=⟨h.neg,h.rd.alloc o⟩
theorem tY (h:l≠0):CW (J4 t l):=by
 unfold J4
 split
 ·rename_i h0;have h1:=Pg (p:=t) h0;rw [Int.ediv_neg,Int.ediv_neg] at h1;exact ⟨h1.1,h1.2⟩
 ·have h1:=Lg (p:=t) (q:=l) qB;exact ⟨h1.1,h1.2⟩
theorem Kw {y:PC} (h:y.1≠0):CW (Kc (1,1) y):=by
 rw [Pj];exact tY (by rw [Int.mul_one];exact h)
theorem tZ (ht:t≠0) (h:l≠0):(J4 t l).1≠0:=by
 have hd:((Int.gcd t l:Nat):Int)∣t:=Int.gcd_dvd_left ..;have h1:=Int.mul_ediv_cancel' hd;unfold J4
 split
 ·show -(t/(Int.gcd t l:Int))≠0;intro h2;have h3:t/(Int.gcd t l:Int)=0:=qB;rw [h3,Int.mul_zero] at h1;exact ht h1.symm
 ·show t/(Int.gcd t l:Int)≠0;intro h3;rw [h3,Int.mul_zero] at h1;exact ht h1.symm
theorem Qk {y:PC} (h:y.1≠0) (hp:0<y.2):(Kc (1,1) y).1≠0:=by
 rw [Pj];exact tZ (by rw [Int.one_mul];omega) (by rw [Int.mul_one];exact h)
theorem nZ {q:Δ} (hp:PW p) (hq:PW q):Sd p q=Cf p (Ej (-1,1) q):=by
 unfold Sd Va Ti;rw [Mu (So hq),Uu hp (So hq)]
theorem Nk (a b:PT):(upT a b).1<18446744073709551616:=by
 have h:=fun i=>Fv a.1 i
 have h':=fun i=>Fv b.1 i
 have a0:=h 0;have a1:=h 1;have a2:=h 2;have a3:=h 3;have b0:=h' 0;have b1:=h' 1;have b2:=h' 2;have b3:=h' 3;unfold upT Gg Bv;simp only;omega
theorem Gt (o:Nat) (x:PT) (l:Δ):B8 o x l∈x::l:=by
 rcases J5 o l x with h|h
 ·rw [h];exact List.mem_cons_self ..
 ·exact List.mem_cons_of_mem _ h
theorem Jn {a b:PT} (hp:PW p) (ha:a∈p) (ho:Cm p [upT a b]=true):PW (Dk p (upT a b)) :=
 Qn hp (Kw (y:=a.2) (hp.good a ha).2) (Qk (y:=a.2) (hp.good a ha).2 (hp.good a ha).1.pos) (Nk a b) ho
theorem Wb {o:Nat} {x y:PT} {l m:Δ} (hl:PW (x::l)) (hm:PW (y::m)) (ho:El o x l y m=true):I8 o x l y m=Cf (Dk (x::l) (upT (B8 o x l) (B8 o y m))) (Ej (-1,1) (Dk (y::m) (upT (B8 o y m) (B8 o x l)))):=by
 unfold El at ho;rw [Bool.and_eq_true] at ho;have i1:=Gt o x l;have i2:=Gt o y m;have g1:=hl.good _ i1;have g2:=hm.good _ i2;unfold I8;rw [Ln hl (Kw (y:=(B8 o x l).2) g1.2) (Qk (y:=(B8 o x l).2) g1.2 g1.1.pos) (Nk _ _) ho.1,Ln hm (Kw (y:=(B8 o y m).2) g2.2) (Qk (y:=(B8 o y m).2) g2.2 g2.1.pos) (Nk _ _) ho.2];exact nZ (Jn hl i1 ho.1) (Jn hm i2 ho.2)
structure Dt (w:World) (b:Nat) (t:Tm):Prop where
 c0:Z w b 0 (.bool t.g1)
 c1:Z w b 1 (.slice t.a1 t.n1 t.c1)
 c2:Z w b 2 (.bool t.g2)
 c3:Z w b 3 (.slice t.a2 t.n2 t.c2)
 c4:Z w b 4 (U t.m0)
 c5:Z w b 5 (U t.m1)
 c6:Z w b 6 (U t.m2)
 c7:Z w b 7 (U t.m3)
 f0:Y w b 0
 f1:Y w b 1
 f2:Y w b 2
 f3:Y w b 3
 f4:Y w b 4
 f5:Y w b 5
 f6:Y w b 6
 f7:Y w b 7
theorem Dt.new (w:World) (t:Tm):Dt (w.alloc (.cells #[.bool t.g1,.slice t.a1 t.n1 t.c1,.bool t.g2,.slice t.a2 t.n2 t.c2,U t.m0,U t.m1,U t.m2,U t.m3] 58)) w t:=by
 constructor<;>simp [go_sem]
theorem Dt.lt {w:World} {b:Nat} {t:Tm} (h:Dt w b t):b<w.heap.size:=Aa _ _ h.c0
theorem Dt.keep {w w':World} {b:Nat} {t:Tm} (h:Dt w b t) (hb:xp w w'):Dt w' b t:=by
 have f:∀i,Y w b i→Y w' b i:=fun i e=>(hb.frozen h.lt).trans e
 exact ⟨Bb hb h.c0,Bb hb h.c1,Bb hb h.c2,Bb hb h.c3,Bb hb h.c4,Bb hb h.c5,Bb hb h.c6,Bb hb h.c7,f _ h.f0,f _ h.f1,f _ h.f2,f _ h.f3,f _ h.f4,f _ h.f5,f _ h.f6,f _ h.f7⟩
structure B4 (w:World) (b:Nat) (v0 v1 v2 v3:Value):Prop where
 c0:Z w b 0 v0
 c1:Z w b 1 v1
 c2:Z w b 2 v2
 c3:Z w b 3 v3
 f0:Y w b 0
 f1:Y w b 1
 f2:Y w b 2
 f3:Y w b 3
structure B1 (w:World) (b:Nat) (v:Value):Prop where
 c0:Z w b 0 v
 f0:Y w b 0
section
variable {w w':World} {b:Nat} {v v0 v1 v2 v3:Value}
theorem B4.lt (h:B4 w b v0 v1 v2 v3):b<w.heap.size:=Aa _ _ h.c0
theorem B1.lt (h:B1 w b v):b<w.heap.size:=Aa _ _ h.c0
theorem B4.keep (h:B4 w b v0 v1 v2 v3) (hb:xp w w'):B4 w' b v0 v1 v2 v3:=by
 have f:∀i,Y w b i→Y w' b i:=fun i e=>(hb.frozen h.lt).trans e
 exact ⟨Bb hb h.c0,Bb hb h.c1,Bb hb h.c2,Bb hb h.c3,f _ h.f0,f _ h.f1,f _ h.f2,f _ h.f3⟩
theorem B1.keep (h:B1 w b v) (hb:xp w w'):B1 w' b v:=⟨Bb hb h.c0,(hb.frozen h.lt).trans h.f0⟩
theorem B1.row {row:Option Nat} (h:B1 w b v) (hg:w.grownBy w' row) (hr:some b≠row):B1 w' b v:=⟨hg.cell h.c0 hr,(hg.frozen_far _ h.lt hr).trans h.f0⟩
theorem Dt.row {t:Tm} {row:Option Nat} (h:Dt w b t) (hg:w.grownBy w' row) (hr:some b≠row):Dt w' b t :=
 ⟨hg.cell h.c0 hr,hg.cell h.c1 hr,hg.cell h.c2 hr,hg.cell h.c3 hr,hg.cell h.c4 hr,hg.cell h.c5 hr,hg.cell h.c6 hr,hg.cell h.c7 hr,(hg.frozen_far _ h.lt hr).trans h.f0,(hg.frozen_far _ h.lt hr).trans h.f1,(hg.frozen_far _ h.lt hr).trans h.f2,(hg.frozen_far _ h.lt hr).trans h.f3,(hg.frozen_far _ h.lt hr).trans h.f4,(hg.frozen_far _ h.lt hr).trans h.f5,(hg.frozen_far _ h.lt hr).trans h.f6,(hg.frozen_far _ h.lt hr).trans h.f7⟩
theorem B1.set (h:B1 w b v) (u:Value):B1 (w.setCell (J b 0) u) b u:=by
 obtain ⟨c0,f0⟩:=h;constructor<;>simp [*,go_sem]
end
theorem yG:laidOutB prog=true:=qE
theorem wV:(56:TypeId)<prog.types.size:=of_decide_eq_true qE
theorem If:Maps.Keyed prog 56:=Maps.Keyed.of_law (deep_law_laid yG (m:=2) qB wV qE (by rw [u66]))
theorem Wz:prog.keyType 56=true:=qE
theorem Xb:prog.cellsOf 56=4:=qE
abbrev Cd (a b c d:Nat):Value:=.agg #[U a,U b,U c,U d]
theorem rN {x0 x1 x2 x3:Value}:(Value.agg #[x0,x1,x2,x3]).formed prog 56=true:=by simp [Value.formed,u66,Xb]
theorem Wh (v:Value):prog.keyLits (d+1) 54 [v]=(match v with|.int q' n=>if q'=.u16∧(Lit.int .u16 n).wf=true then some [.int .u16 n] else none|_=>none):=by
 unfold Program.keyLits;rw [u55]
 cases v<;>rfl
theorem Vp (x0 x1 x2 x3:Value):prog.keyLits (d+2) 56 [x0,x1,x2,x3]=(((prog.keyLits (d+1) 54 [x0]).bind fun l0=>(prog.keyLits (d+1) 54 [x1]).bind fun l1=>(prog.keyLits (d+1) 54 [x2]).bind fun l2=>(prog.keyLits (d+1) 54 [x3]).bind fun l3=>some [l0,l1,l2,l3]).map List.flatten):=by
 have hr:List.range 4=[0,1,2,3]:=qI
 conv=>lhs;unfold Program.keyLits
 rw [u66];simp only [List.length_cons,List.length_nil,Xb,c55,hr,if_true,List.mapM_cons,List.mapM_nil,List.drop,List.take,Nat.zero_mul,Nat.one_mul,Nat.reduceMul]
 cases prog.keyLits (d+1) 54 [x0]<;>cases prog.keyLits (d+1) 54 [x1]<;>cases prog.keyLits (d+1) 54 [x2]<;>cases prog.keyLits (d+1) 54 [x3]<;>rfl
theorem Tf:∃d,prog.types.size+1=d+2:=⟨prog.types.size-1,by have h:56<(prog.types.size:Nat):=wV;omega⟩
theorem uC (h:n<65536):(Lit.int .u16 (n:Int)).wf=true:=by simp [Lit.wf,IntKind.min,IntKind.max,IntKind.bits,IntKind.signed];omega
theorem Yc {a b d:Nat} (ha:a<65536) (hb:b<65536) (hc:c<65536) (hd:d<65536):∃kl,keyOf prog 56 (Cd a b c d)=some kl:=by
 obtain ⟨e,he⟩:=Tf;unfold keyOf;rw [u66];simp only [Wz,rN,Bool.and_self,if_true,he];have:(Cd a b c d).cells.toList=[U a,U b,U c,U d]:=by simp [Value.cells]
 rw [this,Vp];simp [Wh,uC ha,uC hb,uC hc,uC hd]
theorem wM {cs:Array Value} (h:cs.size=4):∃x0 x1 x2 x3,Value.agg cs=.agg #[x0,x1,x2,x3]:=by
 obtain ⟨l⟩:=cs;simp at h
 match l,h with
 | [x0,x1,x2,x3],_=>exact ⟨x0,x1,x2,x3,rfl⟩
theorem cX (x0 x1 x2 x3:Value):(Value.agg #[x0,x1,x2,x3]).cells.toList=[x0,x1,x2,x3]:=by simp [Value.cells]
theorem sP:∃e,∀v,keyOf prog 56 v=if v.formed prog 56 then (prog.keyLits (e+2) 56 v.cells.toList).map fun ls=>.string (keyBytes ls) else none:=by
 obtain ⟨e,he⟩:=Tf;refine ⟨e,fun v=>?_⟩;unfold keyOf;rw [u66];simp only [Wz,Bool.true_and,he]
theorem tR {v:Value} {kl:Lit} (h:keyOf prog 56 v=some kl):∃a b c d:Nat,a<65536∧b<65536∧c<65536∧d<65536∧v=Cd a b c d:=by
 obtain ⟨e,he⟩:=sP;rw [he] at h
 split at h
 ·next hf =>
  have hx:∃x0 x1 x2 x3,v=.agg #[x0,x1,x2,x3]:=by
   cases v<;>simp [Value.formed,u66,Xb] at hf
   next cs =>
    exact wM hf
  obtain ⟨x0,x1,x2,x3,rfl⟩:=hx;have j7:∀(x:Value) l,prog.keyLits (e+1) 54 [x]=some l→∃a:Nat,a<65536∧x=.int .u16 a:=by
   intro x l hl;rw [Wh] at hl
   cases x<;>simp at hl
   next q n =>
    obtain ⟨⟨rfl,hw⟩,_⟩:=hl;have hw':0≤n∧n<65536:=by simp [Lit.wf,IntKind.min,IntKind.max,IntKind.bits,IntKind.signed] at hw;omega
    refine ⟨n.toNat,qB,?_⟩;rw [Int.toNat_of_nonneg hw'.1]
  rw [cX] at h;rw [Vp] at h
  cases h0:prog.keyLits (e+1) 54 [x0] with
  | none=>simp [h0] at h
  | some l0 =>
  cases h1:prog.keyLits (e+1) 54 [x1] with
  | none=>simp [h0,h1] at h
  | some l1 =>
  cases h2:prog.keyLits (e+1) 54 [x2] with
  | none=>simp [h0,h1,h2] at h
  | some l2 =>
  cases h3:prog.keyLits (e+1) 54 [x3] with
  | none=>simp [h0,h1,h2,h3] at h
  | some l3 =>
  obtain ⟨a,ha,rfl⟩:=j7 _ _ h0;obtain ⟨b,hb,rfl⟩:=j7 _ _ h1;obtain ⟨c,hc,rfl⟩:=j7 _ _ h2;obtain ⟨d,hd,rfl⟩:=j7 _ _ h3;exact ⟨a,b,c,d,ha,hb,hc,hd,rfl⟩
 ·cases h
abbrev RH:Value→Option (DataW Value×List MemPlace):=fun v=>some (.held v,[])
abbrev frV (g1:Bool) (a1:Γ) (n1 c1:Nat) (g2:Bool) (a2:Γ) (n2 c2:Nat):Value:=.agg #[.bool g1,.slice a1 n1 c1,.bool g2,.slice a2 n2 c2]
def Zf (w:World) (B:Nat) (v:Value) (c:PC):Prop :=
 ∃g1 a1 n1 c1 g2 a2 n2 c2,v=frV g1 a1 n1 c1 g2 a2 n2 c2∧Bo w g1 a1 n1 c1 c.1 g2 a2 n2 c2 c.2∧Nw B n1 a1∧Nw B n2 a2
theorem Zf.grown {w w':World} {v:Value} {c:PC} {row:Option Nat} (h:Zf w B v c) (hg:w.grownBy w' row) (hr:∀k,row=some k→k<B):Zf w' B v c:=by
 obtain ⟨g1,a1,n1,c1,g2,a2,n2,c2,rfl,hf,h1,h2⟩:=h;exact ⟨g1,a1,n1,c1,g2,a2,n2,c2,rfl,hf.butR h1 h2 hg hr,h1,h2⟩
def Mk (o:Nat→Nat) (a:Γ) (c k:Nat):Prop:=c=0∨∀x,a=some x→o x.block=k
structure Je (w:World) (B:Nat) (o:Nat→Nat) (k:Nat) (a1:Γ) (c1:Nat) (a2:Γ) (c2:Nat):Prop where
 top:Bc B w a1 c1
 low:Bc B w a2 c2
 ap:Ap2 a1 c1 a2 c2
 m1:Mk o a1 c1 k
 m2:Mk o a2 c2 k
theorem Bc.butR {w w':World} {row:Option Nat} (h:Bc B w a c) (hg:w.grownBy w' row) (hr:∀k,row=some k→k<B):Bc B w' a c :=
 h.imp id fun⟨b,cur,h1,h2,h3,h4⟩=>⟨b,cur,h1,h2,by rw [hg.block b (Ar.1 h3).1 (fun e=>by have:=hr _ e.symm;omega)];exact h3,h4⟩
theorem Je.butR {w w':World} {row:Option Nat} (h:Je w B o k a1 c1 a2 c2) (hg:w.grownBy w' row) (hr:∀k,row=some k→k<B):Je w' B o k a1 c1 a2 c2 :=
 ⟨h.top.butR hg hr,h.low.butR hg hr,h.ap,h.m1,h.m2⟩
theorem Mk.old {w:World} {H j:Nat} (h:Mk o a c k) (hf:Bc B w a c) (hH:w.heap.size≤H):Mk (fun g=>if g<H then o g else j) a c k:=by
 rcases hf with h0|⟨b,cur,h1,h2,h3,h4⟩
 ·exact .inl h0
 ·refine h.imp id fun h x hx=>?_
  have:=(Ar.1 h3).1;have e:=h x hx;rw [h1] at hx;cases hx;show (if b<H then o b else j)=k;rw [if_pos qB];exact e
theorem Mk.new {w:World} {H j:Nat} (hf:Bc H w a c):Mk (fun g=>if g<H then o g else j) a c j:=by
 rcases hf with h0|⟨b,cur,h1,h2,h3,h4⟩
 ·exact .inl h0
 ·refine .inr fun x hx=>?_
  rw [h1] at hx;cases hx;show (if b<H then o b else j)=j;rw [if_neg qB]
def Z5 (w:World) (B:Nat) (o:Nat→Nat) (k:Nat) (v:Value) (c:PC):Prop :=
 ∃g1 a1 n1 c1 g2 a2 n2 c2,v=frV g1 a1 n1 c1 g2 a2 n2 c2∧Bo w g1 a1 n1 c1 c.1 g2 a2 n2 c2 c.2∧Je w B o k a1 c1 a2 c2
theorem Z5.grown {w w':World} {v:Value} {c:PC} {row:Option Nat} (h:Z5 w B o k v c) (hg:w.grownBy w' row) (hr:∀k,row=some k→k<B):Z5 w' B o k v c:=by
 obtain ⟨g1,a1,n1,c1,g2,a2,n2,c2,rfl,hf,hl⟩:=h;exact ⟨g1,a1,n1,c1,g2,a2,n2,c2,rfl,hf.butR (hl.top.newA hf.top.rd) (hl.low.newA hf.low.rd) hg hr,hl.butR hg hr⟩
def Gj (w:World) (B:Nat) (o:Nat→Nat) (D:DataW Value) (f:Nat→Option PC):Prop :=
 ∀a b c d kl,a<65536→b<65536→c<65536→d<65536→keyOf prog 56 (Cd a b c d)=some kl →
  (f (Bv a b c d)=none→Maps.has D kl=false) ∧
  (∀x,f (Bv a b c d)=some x→Maps.has D kl=true∧∃v,(∀zd,D.atKey kl zd=.held v)∧Z5 w B o (Bv a b c d) v x)
theorem Gj.grown {w w':World} {D:DataW Value} {f:Nat→Option PC} {row:Option Nat} (h:Gj w B o D f) (hg:w.grownBy w' row) (hr:∀k,row=some k→k<B):Gj w' B o D f:=by
 intro a b c d kl ha hb hc hd hk;obtain ⟨h1,h2⟩:=h a b c d kl ha hb hc hd hk;refine ⟨h1,fun x hx=>?_⟩;obtain ⟨h3,v,hv,hf⟩:=h2 x hx;exact ⟨h3,v,hv,hf.grown hg hr⟩
theorem Xc {a b d a' c' d':Nat} {kl vo:Lit} (ha:a<65536) (hb:b<65536) (hc:c<65536) (hd:d<65536) (GZ:a'<65536) (BP:b'<65536) (jf:c'<65536) (ik:d'<65536)
  (h:keyOf prog 56 (Cd a b c d)=some kl) (h':keyOf prog 56 (Cd a' b' c' d')=some vo):kl=vo↔Bv a b c d=Bv a' b' c' d':=by
 constructor
 ·rintro rfl;have:=If.inj h h';simp only [Value.agg.injEq,Array.mk.injEq,List.cons.injEq,Value.int.injEq,true_and,and_true,Int.natCast_inj] at this;obtain ⟨rfl,rfl,rfl,rfl⟩:=this;rfl
 ·intro e;obtain ⟨rfl,rfl,rfl,rfl⟩:=Z7 ha hb hc hd GZ BP jf ik e;rw [h] at h'
  cases h'
  rfl
theorem Gj.put {w w':World} {D:DataW Value} {f:Nat→Option PC} (h:Gj w B o D f) (hD:Maps.IsMap D) (hg:w.grownBy w' (some b')) (BI:b'<B) (pd:B≤w.heap.size) {a b d:Nat} {kl:Lit} (ha:a<65536) (hb:b<65536) (hc:c<65536) (hd:d<65536)
  (hk:keyOf prog 56 (Cd a b c d)=some kl) {x:PC} {g1:Bool} {n1:Nat} {g2:Bool} {n2:Nat} (hx:Bo w' g1 a1 n1 c1 x.1 g2 a2 n2 c2 x.2) (f1:Bc w w' a1 c1) (f2:Bc w w' a2 c2) (gw:Ap2 a1 c1 a2 c2)
  {f':Nat→Option PC} (wk:∀k,f' k=if k=Bv a b c d then some x else f k):Gj w' B (fun g=>if g<w.heap.size then o g else Bv a b c d) (D.put kl (.held (frV g1 a1 n1 c1 g2 a2 n2 c2))) f':=by
 intro a' b'' c' d' vo GZ BP jf ik vn;have hi:=Xc GZ BP jf ik ha hb hc hd vn hk;have ky:=If.key hk;have hr:∀k,some b'=some k→k<B:=fun k hk=>by cases hk;exact BI
 by_cases e:Bv a' b'' c' d'=Bv a b c d
 ·have ek:=hi.2 e;subst ek;rw [wk,if_pos e,e];refine ⟨fun h=>by simp at h,fun y hy=>?_⟩;simp only [Option.some.injEq] at hy;subst hy;exact ⟨Maps.has_put_same hD ky _,_,fun zd=>Maps.atKey_put_same hD ky _ _,_,_,_,_,_,_,_,_,rfl,hx,⟨f1.mono pd,f2.mono pd,gw,Mk.new f1,Mk.new f2⟩⟩
 ·have di:vo≠kl:=fun ek=>e (hi.1 ek)
  rw [wk,if_neg e];obtain ⟨h1,h2⟩:=h a' b'' c' d' vo GZ BP jf ik vn;rw [Maps.has_put_other di];refine ⟨h1,fun y hy=>?_⟩;obtain ⟨h3,u,hu,hf⟩:=h2 y hy;refine ⟨h3,u,fun zd=>by rw [Maps.atKey_put_other di];exact hu zd,?_⟩;obtain ⟨q1,e1,m1,d1,q2,e2,m2,d2,rfl,eh,hl⟩:=hf;have hl':=hl.butR hg hr;exact ⟨q1,e1,m1,d1,q2,e2,m2,d2,rfl,eh.butR (hl.top.newA eh.top.rd) (hl.low.newA eh.low.rd) hg hr,hl'.top,hl'.low,hl.ap,hl.m1.old hl.top (Ad _),hl.m2.old hl.low (Ad _)⟩
theorem Gj.empty (w:World) (B:Nat) (o:Nat→Nat):Gj w B o (.map []) (fun _=>none):=fun a b c d kl _ _ _ _ _=>⟨fun _=>rfl,fun x hx=>by cases hx⟩
structure Ew (w:World) (b n B:Nat) (f:Nat→Option PC):Prop where
 ex:∃D o,w.ownsMap prog 56 RH b n D∧Gj w B o D f
theorem Ew.grown {w w':World} {b:Nat} {f:Nat→Option PC} {row:Option Nat} (h:Ew w b n B f) (hg:w.grownBy w' row) (hr:∀k,row=some k→k<B) (hb:some b≠row):Ew w' b n B f:=by
 obtain ⟨D,o,h1,h2⟩:=h.ex;exact ⟨D,o,h1.kept hg hb,h2.grown hg hr⟩
theorem Cy {w w':World} (h:xp w w'):w.grownBy w' none:=⟨h.os,h.tape,h.output,h.size,fun k hk _=>h.block k hk⟩
theorem Ew.keep {w w':World} {b:Nat} {f:Nat→Option PC} (h:Ew w b n B f) (hb:xp w w'):Ew w' b n B f:=h.grown (Cy hb) qH qH
theorem Zf.keep {w w':World} {v:Value} {c:PC} (h:Zf w B v c) (hb:xp w w'):Zf w' B v c:=h.grown (Cy hb) qH
theorem lK {D:DataW Value} {kl:Lit} {v:Value} {ps:List MemPlace} (h:RH v=some (D.atKey kl (.held zv),ps)) (hh:Maps.has D kl=false):v=zv:=by
 rw [Maps.atKey_of_not_has hh] at h;simp only [RH,Option.some.injEq,Prod.mk.injEq,DataW.held.injEq] at h;exact h.1
theorem kI {D:DataW Value} {kl:Lit} {v:Value} {ps:List MemPlace} (h:RH v=some (D.atKey kl (.held zv),ps)) (hu:∀zd,D.atKey kl zd=.held u):v=u:=by
 rw [hu] at h;simp only [RH,Option.some.injEq,Prod.mk.injEq,DataW.held.injEq] at h;exact h.1
theorem E4 {w w':World} {b:Nat} {D:DataW Value} (h:w.ownsMap prog 56 RH b n D) (hb:xp w w'):w'.ownsMap prog 56 RH b n D :=
 h.kept (row:=none) (Cy hb) qH
theorem Jc {w w1 w':World} {b:Nat} (hb:xp w w1) (hg:w1.grownBy w' (some b)):w.grownBy w' (some b) :=
 ⟨hg.os.trans hb.os,hg.tape.trans hb.tape,hg.output.trans hb.output,Ah hb.size hg.size,fun k hk di=>(hg.block k (Nat.lt_of_lt_of_le hk hb.size) di).trans (hb.block k hk)⟩
theorem kU {f:Nat→Option PC} {x:PC} (h:f k=none) (j:Nat):I4 f (k,x) j=if j=k then some x else f j:=by
 unfold I4;simp only [h]
theorem jQ {f:Nat→Option PC} {x y:PC} (h:f k=some y) (j:Nat):I4 f (k,x) j=if j=k then some (He y x) else f j:=by
 unfold I4;simp only [h]
theorem tD (w:World) (b n B:Nat) (f:Nat→Option PC) (h:Ew w0 b n B f) (FK:xp w0 w) (BI:b<B) (pd:B≤w0.heap.size) (hn:n<1000000000)
  (g1:Bool) (a1:Γ) (n1 c1:Nat) (g2:Bool) (a2:Γ) (n2 c2:Nat) (x:PC) (hx:Bo w g1 a1 n1 c1 x.1 g2 a2 n2 c2 x.2) (k1:Bc w0 w a1 c1) (k2:Bc w0 w a2 c2) (gw:Ap2 a1 c1 a2 c2)
  (m0 m1 m2 m3:Nat) (h0:m0<65536) (h1:m1<65536) (h2:m2<65536) (h3:m3<65536) (hf:f (Bv m0 m1 m2 m3)=none) :
  Θ 170 #[.map (some b),frV g1 a1 n1 c1 g2 a2 n2 c2,Cd m0 m1 m2 m3] w fun e w'=>e=.returned (.tuple #[])∧Ew w' b (n+1) B (I4 f (Bv m0 m1 m2 m3,x))∧w.grownBy w' (some b):=by
 obtain ⟨kl,ky⟩:=Yc h0 h1 h2 h3;obtain ⟨D,o,LG,hH⟩:=h.ex;have ah:=E4 LG FK;have DV:=(hH _ _ _ _ _ h0 h1 h2 h3 ky).1 hf;go_enter func170,ntmps170;go_wp2_with (first|(at_lookup;refine wpList_lookup_own_ok _ rfl _ _ 223 rfl 56 53 If underlying223 RH (Tryz.zeroValue53 _) (.held (frV false none 0 0 false none 0 0)) [] rfl b n D rfl (E4 ah qD) _ kl rfl ky ?_;intro v ps hv;obtain rfl:=lK hv DV;rw [DV])|(at_mapUpdate;refine wpList_mapUpdate_own _ rfl _ _ _ 223 rfl 56 53 If underlying223 RH b n D rfl (E4 ah qD) qN _ _ kl rfl rfl ky (.held (frV g1 a1 n1 c1 g2 a2 n2 c2)) [] rfl ?_;intro w1 du dn));have hg:w.grownBy w1 (some b):=Jc qD dn;have hr:∀k,some b=some k→k<w0.heap.size:=fun k hk=>by cases hk;omega
 exact bodyPost_end (v:=.tuple #[]) (by simp [results,results170,go_sem]) rfl ⟨rfl,⟨_,_,du,hH.put (ah.isMap) (Jc FK hg) BI pd h0 h1 h2 h3 ky (hx.butR (k1.newA hx.top.rd) (k2.newA hx.low.rd) hg hr) (k1.butR hg hr) (k2.butR hg hr) gw (kU hf)⟩,hg⟩
theorem tH (w:World) (b n B:Nat) (f:Nat→Option PC) (h:Ew w0 b n B f) (FK:xp w0 w) (BI:b<B) (pd:B≤w0.heap.size) (hn:n<1000000000)
  (g1:Bool) (a1:Γ) (n1 c1:Nat) (g2:Bool) (a2:Γ) (n2 c2:Nat) (x:PC) (hx:Bo w g1 a1 n1 c1 x.1 g2 a2 n2 c2 x.2) (k1:Bc w0 w a1 c1) (k2:Bc w0 w a2 c2) (gw:Ap2 a1 c1 a2 c2)
  (m0 m1 m2 m3:Nat) (h0:m0<65536) (h1:m1<65536) (h2:m2<65536) (h3:m3<65536) (y:PC) (sk:f (Bv m0 m1 m2 m3)=some y) (hxK:Ch 1000000000 x) (hyK:Ch 1000000000 y) :
  Θ 170 #[.map (some b),frV g1 a1 n1 c1 g2 a2 n2 c2,Cd m0 m1 m2 m3] w fun e w'=>e=.returned (.tuple #[])∧Ew w' b (n+1) B (I4 f (Bv m0 m1 m2 m3,x))∧w.grownBy w' (some b):=by
 obtain ⟨kl,ky⟩:=Yc h0 h1 h2 h3;obtain ⟨D,o,LG,hH⟩:=h.ex;have ah:=E4 LG FK;obtain ⟨DV,u,hu,g3,a3,n3,c3,g4,a4,n4,c4,rfl,ss,k3⟩:=(hH _ _ _ _ _ h0 h1 h2 h3 ky).2 y sk;have hy:=ss.keep FK;have a0r:=FK.size;have HB:=Ac w w;have e1:=hx.top.rd.len;have e2:=hx.low.rd.len;have e3:=hy.top.rd.len;have e4:=hy.low.rd.len;obtain ⟨i1,i2⟩:=hxK;obtain ⟨i3,i4⟩:=hyK;have q1:n1≤1000000000:=qB;have q2:n2≤1000000000:=qB;have q3:n3≤1000000000:=qB;have q4:n4≤1000000000:=qB;clear e1 e2 e3 e4 i1 i2 i3 i4;go_enter func170,ntmps170;go_wp2_with (first|(at_lookup;refine wpList_lookup_own_ok _ rfl _ _ 223 rfl 56 53 If underlying223 RH (Tryz.zeroValue53 _) (.held (frV false none 0 0 false none 0 0)) [] rfl b n D rfl (E4 ah qD) _ kl rfl ky ?_;intro v ps hv;obtain rfl:=kI hv hu;rw [DV]));refine (xJ _ _ _ _ _ _ _ _ _ _ _ (hy.keep qD) _ _ _ _ _ _ _ _ _ _ (hx.keep qD) q3 q4 q1 q2).mono ?_;rintro e w1 ⟨ge,ae,ne,ce,gf,af,nf,cf,rfl,hr,ry,vw,IA,hb⟩;obtain ⟨hc,hf⟩:=Bg hb;have hz:=hb.size;(try simp only [Aj,Ak] at hz);replace HB:=zP w hb;obtain ⟨aw,bh,ei,ej⟩:=xe hc w g1 a1 n1 c1 g2 a2 n2 c2;obtain ⟨bn,bo⟩:=zH hc (w+1) (U m0) (U m1);obtain ⟨im,s1_3⟩:=zI hc (w+1) (U m2) (U m3);obtain ⟨bw,bx,fi,fj⟩:=xe hc (w+1+1) g3 a3 n3 c3 g4 a4 n4 c4;obtain ⟨dy,dz,mj,ml⟩:=xg hf w;have JN:=Ae IA;have jy:w.heap.size+1+1<w1:=qB;have fe:Bc (w+1+1+1) w1 ae ce:=ry.mono qA;have ff:Bc (w+1+1+1) w1 af cf:=vw.mono qA;clear hc hf hb hz ry vw IA;go_wp2_with (first|(at_mapUpdate;refine wpList_mapUpdate_own _ rfl _ _ _ 223 rfl 56 53 If underlying223 RH b n D rfl (E4 ah qD) qN _ _ kl rfl rfl ky (.held (frV ge ae ne ce gf af nf cf)) [] rfl ?_;intro w2 cv gu));have u:w.heap.size<w.heap.size+1+1+1:=qB;have hg:w.grownBy w2 (some b):=Jc qD gu;have BA:∀k,some b=some k→k<w.heap.size+1+1+1:=fun k hk=>by cases hk;omega
 have amj:=fe.set4 (J w 0) (J w 1) (J w 2) (J w 3) (.bool ge) (.slice ae ne ce) (.bool gf) (.slice af nf cf) u u u u;have amk:=ff.set4 (J w 0) (J w 1) (J w 2) (J w 3) (.bool ge) (.slice ae ne ce) (.bool gf) (.slice af nf cf) u u u u;have QC:=(fe.set4 (J w 0) (J w 1) (J w 2) (J w 3) (.bool ge) (.slice ae ne ce) (.bool gf) (.slice af nf cf) u u u u).butR gu BA;have ff2:=(ff.set4 (J w 0) (J w 1) (J w 2) (J w 3) (.bool ge) (.slice ae ne ce) (.bool gf) (.slice af nf cf) u u u u).butR gu BA;refine bodyPost_end (v:=.tuple #[]) (by simp [results,results170,go_sem]) rfl ⟨rfl,⟨_,_,cv,hH.put (ah.isMap) (Jc FK hg) BI pd h0 h1 h2 h3 ky (x:=He y x) (Bo.butR ⟨hr.top.set4 fe _ _ _ _ _ _ _ _ u u u u,hr.low.set4 ff _ _ _ _ _ _ _ _ u u u u,hr.pos,hr.red⟩ (amj.newA (hr.top.set4 fe _ _ _ _ _ _ _ _ u u u u).rd) (amk.newA (hr.low.set4 ff _ _ _ _ _ _ _ _ u u u u).rd) gu BA) (QC.mono qB) (ff2.mono qB) JN.out (jQ sk)⟩,hg⟩
theorem gU (w:World) (b n B:Nat) (f:Nat→Option PC) (h:Ew w0 b n B f) (FK:xp w0 w) (BI:b<B) (pd:B≤w0.heap.size) (hn:n<1000000000)
  (g1:Bool) (a1:Γ) (n1 c1:Nat) (g2:Bool) (a2:Γ) (n2 c2:Nat) (x:PC) (hx:Bo w g1 a1 n1 c1 x.1 g2 a2 n2 c2 x.2) (k1:Bc w0 w a1 c1) (k2:Bc w0 w a2 c2) (gw:Ap2 a1 c1 a2 c2)
  (m0 m1 m2 m3:Nat) (h0:m0<65536) (h1:m1<65536) (h2:m2<65536) (h3:m3<65536) (hxK:Ch 1000000000 x) (hyK:∀y,f (Bv m0 m1 m2 m3)=some y→Ch 1000000000 y) :
  Θ 170 #[.map (some b),frV g1 a1 n1 c1 g2 a2 n2 c2,Cd m0 m1 m2 m3] w fun e w'=>e=.returned (.tuple #[])∧Ew w' b (n+1) B (I4 f (Bv m0 m1 m2 m3,x))∧w.grownBy w' (some b):=by
 cases hf:f (Bv m0 m1 m2 m3) with
 | none=>exact tD w0 w b n B f h FK BI pd hn g1 a1 n1 c1 g2 a2 n2 c2 x hx k1 k2 gw m0 m1 m2 m3 h0 h1 h2 h3 hf
 | some y=>exact tH w0 w b n B f h FK BI pd hn g1 a1 n1 c1 g2 a2 n2 c2 x hx k1 k2 gw m0 m1 m2 m3 h0 h1 h2 h3 y hf hxK (hyK y hf)
theorem oW (w:World) :
  Θ 143 #[] w fun e w'=>(∃B es clock,e=.returned (.map (some B))∧w'.heap[B]? = some (.map es clock)∧Instr.findNow (.int .u8) (.int .u8 0) es.toList 0=some none)∧xp w w'∧w.drawn≤w'.drawn:=by
 have xy:=@run_makeMap prog;have br:((w.alloc (.map #[] 0)).alloc (.cells #[.func (.func 196) #[] #[],.func (.func 144) #[] #[]] 198)).heap[w.heap.size]? = some (.map #[] 0):=qFb;have q1:=kO _ _ _ _ 1 (.slice (E (w+1)) 2 2) br rfl;have ir:xp w ((w.alloc (.map #[] 0)).alloc (.cells #[.func (.func 196) #[] #[],.func (.func 144) #[] #[]] 198)):=qD;have ed:((w.alloc (.map #[] 0)).alloc (.cells #[.func (.func 196) #[] #[],.func (.func 144) #[] #[]] 198)).heap.size=w.heap.size+2:=qH;have bp:((((w.alloc (.map #[] 0)).alloc (.cells #[.func (.func 196) #[] #[],.func (.func 144) #[] #[]] 198)).putObj w (.map #[{ key:=.int .u8 1,val:=.slice (E (w+1)) 2 2,born:=0 }] 1)).alloc (.cells #[.func (.func 196) #[] #[],.func (.func 197) #[] #[]] 198)).heap[w.heap.size]? = some (.map #[{ key:=.int .u8 1,val:=.slice (E (w+1)) 2 2,born:=0 }] 1):=qEb;have q2:=kO _ _ _ _ 2 (.slice (E (w+2)) 2 2) bp rfl;have fg:xp w ((((w.alloc (.map #[] 0)).alloc (.cells #[.func (.func 196) #[] #[],.func (.func 144) #[] #[]] 198)).putObj w (.map #[{ key:=.int .u8 1,val:=.slice (E (w+1)) 2 2,born:=0 }] 1)).alloc (.cells #[.func (.func 196) #[] #[],.func (.func 197) #[] #[]] 198)):=Below.alloc (Ij _ ir (Ad _)) (by rw [Dw];omega) _;have en:w.heap.size<((((w.alloc (.map #[] 0)).alloc (.cells #[.func (.func 196) #[] #[],.func (.func 144) #[] #[]] 198)).putObj w (.map #[{ key:=.int .u8 1,val:=.slice (E (w+1)) 2 2,born:=0 }] 1)).alloc (.cells #[.func (.func 196) #[] #[],.func (.func 197) #[] #[]] 198)).heap.size:=by rw [Aj,Dw];omega
 go_enter func143,ntmps143;go_wp2_with fail;go_ret;exact ⟨⟨w.heap.size,_,_,rfl,World.putObj_heap_same en,rfl⟩,Ij _ fg (Ad _),Ad _⟩
theorem jV (w:World) (x0 x1 x2 x3 y0 y1 y2 y3:Int) (f g:Nat→Int) (f0:f 0=x0) (f1:f 1=x1) (f2:f 2=x2) (f3:f 3=x3) (g0:g 0=y0) (g1:g 1=y1) (g2:g 2=y2) (g3:g 3=y3) :
  Θ 144 #[.agg #[U x0,U x1,U x2,U x3],.agg #[U y0,U y1,U y2,U y3]] w fun e w'=>e=.returned (M (Dd f g))∧xp w w'∧w.drawn≤w'.drawn:=by
 have HB:=Ac w w;go_enter func144,ntmps144;go_wp2_with fail;have HF:Hid (∀i,i<4→Z ((w.alloc (.cells #[U x0,U x1,U x2,U x3] 56)).alloc (.cells #[U y0,U y1,U y2,U y3] 56)) w i (U (f i))):=Ae (fun i hi=>by
  match i,hi with
  | 0,_=>rw [f0];simp [go_sem]
  | 1,_=>rw [f1];simp [go_sem]
  | 2,_=>rw [f2];simp [go_sem]
  | 3,_=>rw [f3];simp [go_sem])
 have HG:Hid (∀i,i<4→Z ((w.alloc (.cells #[U x0,U x1,U x2,U x3] 56)).alloc (.cells #[U y0,U y1,U y2,U y3] 56)) (w+1) i (U (g i))):=Ae (fun i hi=>by
  match i,hi with
  | 0,_=>rw [g0];simp [go_sem]
  | 1,_=>rw [g1];simp [go_sem]
  | 2,_=>rw [g2];simp [go_sem]
  | 3,_=>rw [g3];simp [go_sem])
 have fg:xp w ((w.alloc (.cells #[U x0,U x1,U x2,U x3] 56)).alloc (.cells #[U y0,U y1,U y2,U y3] 56)):=qD;clear f0 f1 f2 f3 g0 g1 g2 g3;have HDr:w.drawn=((w.alloc (.cells #[U x0,U x1,U x2,U x3] 56)).alloc (.cells #[U y0,U y1,U y2,U y3] 56)).drawn:=rfl;generalize ((w.alloc (.cells #[U x0,U x1,U x2,U x3] 56)).alloc (.cells #[U y0,U y1,U y2,U y3] 56))=w1 at *;go_quiet (((first|(go_at_call 198;exact Gi (Hr _ _ _ f g HF.out HG.out))|(go_at_call 198;exact Fj (Hr _ _ _ f g HF.out HG.out)))));go_wp2_with fail;go_ret;exact ⟨rfl,Bj _ fg,by rw [HDr];exact Nat.le_add_right _ _⟩
theorem yO (w:World) (x0 x1 x2 x3 y0 y1 y2 y3:Int) :
  Θ 76 #[.int .u8 0,.agg #[U x0,U x1,U x2,U x3],.agg #[U y0,U y1,U y2,U y3]] w fun e w'=>e=.returned (M (Dd (Bn x0 x1 x2 x3) (Bn y0 y1 y2 y3)))∧xp w w'∧w.drawn≤w'.drawn:=by
 have HB:=Ac w w;go_enter func76,ntmps76;go_wp2_with fail;refine (oW _).mono ?_;rintro e w1 ⟨⟨B,es,clock,rfl,KY,VS⟩,hb,hdr⟩;replace hdr:w.drawn≤w1.drawn:=hdr;obtain ⟨hc,hf⟩:=Bg hb;have hz:=hb.size;(try simp only [Aj,Ak] at hz);replace HB:=zP w hb;have s0:∀i,i<4→Z w1 w i (U (Bn x0 x1 x2 x3 i)):=fun i hi=>(hc _ _ qA).trans (by
  match i,hi with
  | 0,_=>simp [go_sem,Bn]
  | 1,_=>simp [go_sem,Bn]
  | 2,_=>simp [go_sem,Bn]
  | 3,_=>simp [go_sem,Bn])
 have s1:∀i,i<4→Z w1 (w+1) i (U (Bn y0 y1 y2 y3 i)):=fun i hi=>(hc _ _ qA).trans (by
  match i,hi with
  | 0,_=>simp [go_sem,Bn]
  | 1,_=>simp [go_sem,Bn]
  | 2,_=>simp [go_sem,Bn]
  | 3,_=>simp [go_sem,Bn])
 have GP:=s0 0 qB;have GQ:=s0 1 qB;have GR:=s0 2 qB;have GS:=s0 3 qB;have GU:=s1 0 qB;have GV:=s1 1 qB;have GW:=s1 2 qB;have GX:=s1 3 qB;simp only [Bn] at GP GQ GR GS GU GV GW GX;have q1:=wU w1 B clock es 0 KY VS;clear s0 s1 hc hf KY VS;go_wp2_with fail;go_loop [14] (fun v=>v=M 0) (fun _=>0)
 case atStart=>rfl
 case round =>
  subst hrel;go_wp2_with fail;refine (jV _ _ _ _ _ _ _ _ _ (Bn x0 x1 x2 x3) (Bn y0 y1 y2 y3) rfl rfl rfl rfl rfl rfl rfl rfl).mono ?_;rintro e w2 ⟨rfl,bp,VW⟩;replace VW:=Ah hdr VW;go_wp2_with fail;go_ret;exact ⟨rfl,(xo HB bp),VW⟩
theorem tU (w:World) (x0 x1 x2 x3 y0 y1 y2 y3:Int) :
  Θ 161 #[.agg #[U x0,U x1,U x2,U x3],.agg #[U y0,U y1,U y2,U y3]] w fun e w'=>e=.returned (M (Dd (Bn y0 y1 y2 y3) (Bn x0 x1 x2 x3)))∧xp w w'∧w.drawn≤w'.drawn:=by
 have HB:=Ac w w;go_enter func161,ntmps161;go_wp2_with fail;refine (yO _ _ _ _ _ _ _ _ _).mono ?_;rintro e w1 ⟨rfl,hb,hdr⟩;replace hdr:w.drawn≤w1.drawn:=hdr;have fg:=zP w hb;go_wp2_with fail;go_ret;exact ⟨rfl,fg,hdr⟩
end Go.Proofs.YtfijkfdfbnfmmaaGreatDoor
end
