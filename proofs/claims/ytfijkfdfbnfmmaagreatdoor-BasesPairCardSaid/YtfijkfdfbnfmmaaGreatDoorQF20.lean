/- Package fracs: Make, of a number from 0 on below. -/
import Derived.Test.YtfijkfdfbnfmmaaGreatDoorQF11
set_option linter.unusedSimpArgs false
set_option linter.unusedVariables false
set_option maxRecDepth 100000
set_option maxHeartbeats 4000000
section
namespace Go.Proofs.YtfijkfdfbnfmmaaGreatDoor
open Go.RowKit Proofs.Tryz
variable (w:World) {p q:Int}
def Ss (w:World) (p q:Int) (e:Ending) (w':World):Prop :=
 ∃g1 a1 n1 c1 g2 a2 n2 c2,e=.returned (.tuple #[.agg #[.bool g1,.slice a1 n1 c1,.bool g2,.slice a2 n2 c2],M 0])∧Bo w' g1 a1 n1 c1 p g2 a2 n2 c2 q∧Bc w w' a1 c1∧Bc w w' a2 c2∧xp w w'
theorem bO (g:Bool) (a:Γ) (n c:Nat) (z:Int) (h:Bh w g a n c z) (g':Bool) (a':Γ) (n' c':Nat) (z':Int) (h':Bh w g' a' n' c' z')
  (j5:0<z') (br:n<35184372088829) (bp:n'<35184372088829) :
  Θ 168 #[.agg #[.bool g,.slice a n c],.agg #[.bool g',.slice a' n' c']] w (Ss w (Fh z z') (E5 z z')):=by
 have HB:=Ac w w;have KN:=Ae h.okay;have GL:=Ae h'.okay;have xx:Bz z' 0=1:=C7 j5;go_enter func168,ntmps168;go_wp2_with fail;refine (De _ _ _ _ _ _ (h.rd.keep qD) true ⟨fun _=>rfl,fun _=>KN.out⟩).mono ?_;rintro e w1 ⟨rfl,hb⟩;obtain ⟨hc,hf⟩:=Bg hb;have hz:=hb.size;(try simp only [Aj,Ak] at hz);replace HB:=zP w hb;obtain ⟨aw,bh⟩:=xd hc w g a n c;obtain ⟨bn,bo⟩:=xd hc (w+1) g' a' n' c';obtain ⟨bw,bx,fi,fj⟩:=xf hc (w+1+1);obtain ⟨bz,cc,gh,gp⟩:=xg hf (w+1+1);have jy:w.heap.size+1+1<w1:=qB;clear hc hf hb hz;go_wp2_with fail;refine (De _ _ _ _ _ _ (h'.rd.keep qD) true ⟨fun _=>rfl,fun _=>GL.out⟩).mono ?_;rintro e w2 ⟨rfl,hb⟩;obtain ⟨hc,hf⟩:=Bg hb;have hz:=hb.size;(try simp only [Aj,Ak] at hz);replace HB:=zP w hb;obtain ⟨aw,bh⟩:=xd hc w g a n c;obtain ⟨bn,bo⟩:=xd hc (w+1) g' a' n' c';obtain ⟨bw,bx,fi,fj⟩:=xf hc (w+1+1);obtain ⟨bz,cc,gh,gp⟩:=xg hf (w+1+1);have l9:w.heap.size+1+1<w2:=qB;clear hc hf hb hz;go_wp2_with fail;refine (Lv _ _ _ _ _ z' (h'.keep qD)).mono ?_;rintro e w3 ⟨rfl,hb⟩;obtain ⟨hc,hf⟩:=Bg hb;have hz:=hb.size;(try simp only [Aj,Ak] at hz);replace HB:=zP w hb;obtain ⟨aw,bh⟩:=xd hc w g a n c;obtain ⟨bn,bo⟩:=xd hc (w+1) g' a' n' c';obtain ⟨bw,bx,fi,fj⟩:=xf hc (w+1+1);obtain ⟨bz,cc,gh,gp⟩:=xg hf (w+1+1);have nw:w.heap.size+1+1<w3:=qB;clear hc hf hb hz;rw [xx];go_wp2_with fail;refine (Ua _ _ _ _ _ z (h.keep qD) _ _ _ _ z' (h'.keep qD) j5 br bp).mono ?_;exact qAt
theorem jO (g:Bool) (a:Γ) (n c:Nat) (z:Int) (h:Bh w g a n c z) (g':Bool) (a':Γ) (n' c':Nat) (h':Bh w g' a' n' c' 0) :
  Θ 168 #[.agg #[.bool g,.slice a n c],.agg #[.bool g',.slice a' n' c']] w fun e w'=>e=.returned (.tuple #[.agg #[.bool false,.slice none 0 0,.bool false,.slice none 0 0],M 6])∧xp w w':=by
 have HB:=Ac w w;have KN:=Ae h.okay;have GL:=Ae h'.okay;have xx:Bz 0 0=0:=Du 0;go_enter func168,ntmps168;go_wp2_with fail;refine (De _ _ _ _ _ _ (h.rd.keep qD) true ⟨fun _=>rfl,fun _=>KN.out⟩).mono ?_;rintro e w1 ⟨rfl,hb⟩;obtain ⟨hc,hf⟩:=Bg hb;have hz:=hb.size;(try simp only [Aj,Ak] at hz);replace HB:=zP w hb;obtain ⟨aw,bh⟩:=xd hc w g a n c;obtain ⟨bn,bo⟩:=xd hc (w+1) g' a' n' c';obtain ⟨bw,bx,fi,fj⟩:=xf hc (w+1+1);obtain ⟨bz,cc,gh,gp⟩:=xg hf (w+1+1);have jy:w.heap.size+1+1<w1:=qB;clear hc hf hb hz;go_wp2_with fail;refine (De _ _ _ _ _ _ (h'.rd.keep qD) true ⟨fun _=>rfl,fun _=>GL.out⟩).mono ?_;rintro e w2 ⟨rfl,hb⟩;obtain ⟨hc,hf⟩:=Bg hb;have hz:=hb.size;(try simp only [Aj,Ak] at hz);replace HB:=zP w hb;obtain ⟨aw,bh⟩:=xd hc w g a n c;obtain ⟨bn,bo⟩:=xd hc (w+1) g' a' n' c';obtain ⟨bw,bx,fi,fj⟩:=xf hc (w+1+1);obtain ⟨bz,cc,gh,gp⟩:=xg hf (w+1+1);have l9:w.heap.size+1+1<w2:=qB;clear hc hf hb hz;go_wp2_with fail;refine (Lv _ _ _ _ _ 0 (h'.keep qD)).mono ?_;rintro e w3 ⟨rfl,hb⟩;obtain ⟨hc,hf⟩:=Bg hb;have hz:=hb.size;(try simp only [Aj,Ak] at hz);replace HB:=zP w hb;obtain ⟨aw,bh⟩:=xd hc w g a n c;obtain ⟨bn,bo⟩:=xd hc (w+1) g' a' n' c';obtain ⟨bw,bx,fi,fj⟩:=xf hc (w+1+1);obtain ⟨bz,cc,gh,gp⟩:=xg hf (w+1+1);have nw:w.heap.size+1+1<w3:=qB;clear hc hf hb hz;rw [xx];go_wp2_with fail;refine bodyPost_ret (v:=.tuple #[.agg #[.bool false,.slice none 0 0,.bool false,.slice none 0 0],M 6]) (by simp [results,results168,go_sem,bw,bx,fi,fj]) rfl ?_;exact ⟨rfl,qD⟩
theorem tB {g:Bool} {z:Int} (hg:g=decide (z<0)):sgn (!g) z.natAbs=-z:=by
 subst hg;by_cases h:z<0<;>simp [sgn,h]<;>omega
theorem Abv (g:Bool) (a:Γ) (n c:Nat) (z:Int) (h:Bh w g a n c z) :
  Θ 253 #[.agg #[.bool g,.slice a n c]] w (Di w (-z)):=by
 have HB:=Ac w w;have tj:=Ae h.neg;go_enter func253,ntmps253;go_wp2_with fail;refine (I1 _ _ _ _ _ z (h.keep qD)).mono ?_;rintro e w1 ⟨rfl,hb⟩;obtain ⟨hc,hf⟩:=Bg hb;have hz:=hb.size;(try simp only [Aj,Ak] at hz);replace HB:=zP w hb;obtain ⟨aw,bh⟩:=xd hc w g a n c;obtain ⟨bn,bo⟩:=zJ hc (w+1);obtain ⟨dp,dt⟩:=zK hf (w+1);obtain ⟨dy,dz⟩:=zK hf w;have jy:w.heap.size+1<w1:=qB;clear hc hf hb hz;go_wp2_with fail;refine Bx ?_;intro w2 df;have B2:xp w w2:=by rw [df];go_grown
 have A0:Z w2 w 0 (.bool g):=by rw [df];simp [*,go_sem]
 have A1:Z w2 w 1 (.slice a n c):=by rw [df];simp [*,go_sem]
 have R0:Z w2 (w+1) 0 (.bool false):=by rw [df];simp [*,go_sem]
 have R1:Z w2 (w+1) 1 (.slice none 0 0):=by rw [df];simp [*,go_sem]
 have fp:Y w2 (w+1) 0:=by rw [df];simp [*,go_sem]
 have fq:Y w2 (w+1) 1:=by rw [df];simp [*,go_sem]
 clear df HB aw bh bn bo dy dz dp dt;have HB:=Ac w2 w2;have l9:w.heap.size+1<w2:=Aa _ _ R0;go_region_held3 (fun W=>Z W w 0 (.bool g)∧Z W w 1 (.slice a n c)) (exact qK) (first
  | (go_at_call 251;(with_reducible refine (Nm _ _ _ _ (dg z.natAbs) ((h.keep B2).rd.keep qR)).mono ?_);rintro e w3 ⟨a2,c2,rfl,lf,nk,hb⟩;replace HB:xp w2 w3:=Al qR (hb.mono qA);have fb:=HB.size;(replace ⟨R0,fp,R1,fq⟩:=xm HB R0 fp R1 fq;replace ⟨A0,A1⟩:=xk HB A0 A1))
  | (go_at_call 220;(with_reducible refine (Ft _ (!g) a2 n c2 _ (lf.keep qQ) (D0 _)).mono ?_);rintro e w4 ⟨g3,n3,rfl,ll,ic,hb⟩;have ec:xp w3 w4:=Al qQ (hb.mono qA);replace HB:xp w2 w4:=HB.trans (ec.mono qA);have OW:=HB.size;(replace ⟨R0,fp,R1,fq⟩:=xm ec R0 fp R1 fq;replace ⟨A0,A1⟩:=xk ec A0 A1)))
 have sq:=((nk.keep ec).less ll).mono (show w.heap.size+1+1≤_ from qA);have hv:sgn (!g) (val (dg z.natAbs))=-z:=by rw [Bq];exact tB tj.out
 rw [hv] at ic;have B4:=xo B2 HB;go_wp2_with fail;have u:w.heap.size+1<w.heap.size+1+1:=Ag _;refine bodyPost_ret (v:=.agg #[.bool g3,.slice a2 n3 n3]) (by simp [results,results253,go_sem,R0,R1]) rfl ?_;exact ⟨g3,a2,n3,n3,rfl,(ic.setFresh sq _ _ u).setFresh (sq.setNew _ _ u) _ _ u,((sq.setNew _ _ u).setNew _ _ u).mono qB,qD⟩
theorem Pg (hq:q<0):0<q/(-(Int.gcd p q:Int))∧Int.gcd (p/(-(Int.gcd p q:Int))) (q/(-(Int.gcd p q:Int)))=1:=by
 have h:=Lg (p:=p) (q:=-q) qB;have e:Int.gcd p (-q)=Int.gcd p q:=Int.gcd_neg;rw [e] at h;have d1:((Int.gcd p q:Nat):Int)∣q:=Int.gcd_dvd_right ..;rw [Int.ediv_neg,Int.ediv_neg,Int.neg_gcd,Int.gcd_neg];rw [Int.neg_ediv_of_dvd d1,Int.gcd_neg] at h;exact h
theorem Ly (hq:q<0):(dg (Int.gcd p q)).length≤(dg q.natAbs).length:=by
 have h:=Kk (p:=p) (q:=-q) qB;rwa [Int.gcd_neg,Int.natAbs_neg] at h
theorem pQ (g:Bool) (a:Γ) (n c:Nat) (z:Int) (h:Bh w g a n c z) (g':Bool) (a':Γ) (n' c':Nat) (z':Int) (h':Bh w g' a' n' c' z')
  (j5:z'<0) (br:n<35184372088829) (bp:n'<35184372088829) :
  Θ 218 #[.agg #[.bool g,.slice a n c],.agg #[.bool g',.slice a' n' c']] w (G5 w (z/(-(Int.gcd z z':Int))) (z'/(-(Int.gcd z z':Int)))):=by
 have HB:=Ac w w;have xx:Bz z' 0=-1:=C6 j5;have hgp:0<Int.gcd z z':=Int.gcd_pos_of_ne_zero_right _ qB;go_enter func218,ntmps218;go_wp2_with fail;refine Bt ?_;intro w0 cw;have vg:xp w w0:=by rw [cw];go_grown
 have A0:Z w0 w 0 (.bool g):=by rw [cw];simp [go_sem]
 have A1:Z w0 w 1 (.slice a n c):=by rw [cw];simp [go_sem]
 have B0:Z w0 (w+1) 0 (.bool g'):=by rw [cw];simp [go_sem]
 have B1:Z w0 (w+1) 1 (.slice a' n' c'):=by rw [cw];simp [go_sem]
 have R0:Z w0 (w+1+1) 0 (.bool false):=by rw [cw];simp [go_sem]
 have R1:Z w0 (w+1+1) 1 (.slice none 0 0):=by rw [cw];simp [go_sem]
 have R2:Z w0 (w+1+1) 2 (.bool false):=by rw [cw];simp [go_sem]
 have R3:Z w0 (w+1+1) 3 (.slice none 0 0):=by rw [cw];simp [go_sem]
 have fp:Y w0 (w+1+1) 0:=by rw [cw];simp [go_sem]
 have fq:Y w0 (w+1+1) 1:=by rw [cw];simp [go_sem]
 have fv:Y w0 (w+1+1) 2:=by rw [cw];simp [go_sem]
 have fw:Y w0 (w+1+1) 3:=by rw [cw];simp [go_sem]
 have qp:w.heap.size+1+1+1≤w0:=Aa _ _ R0;clear cw;refine (wT _ _ _ _ _ z (h.keep vg) _ _ _ _ z' (h'.keep vg) bp br).mono ?_;rintro e w1 ⟨gg,ag,ng,cg,rfl,qj,r9,hb⟩;have ir:=xo vg hb
 (replace ⟨R0,fp,R1,fq,R2,fv,R3,fw⟩:=xi hb R0 fp R1 fq R2 fv R3 fw;replace ⟨A0,A1,B0,B1⟩:=xj hb A0 A1 B0 B1)
 have jh:=ir.size;have VI:ng≤n':=by have h1:=qj.rd.len;have h2:=h'.rd.len;rw [Int.natAbs_natCast] at h1;have h3:=Ly (p:=z) j5;omega
 have hkr:w.heap.size+1+1<w1:=Aa _ _ R0;replace r9:=r9.mono qp;clear hb vg;go_upto_region 2 with fail
 (refine Bx ?_;intro w2 df;have BR:Z w2 w1 0 (.bool gg):=(by rw [df];first|assumption|(simp [go_sem];done)|(simp [*,go_sem];done));have ac7:Y w2 w1 0:=(by rw [df];first|assumption|(simp [go_sem];done)|(simp [*,go_sem];done));have BS:Z w2 w1 1 (.slice ag ng cg):=(by rw [df];first|assumption|(simp [go_sem];done)|(simp [*,go_sem];done));have ac8:Y w2 w1 1:=(by rw [df];first|assumption|(simp [go_sem];done)|(simp [*,go_sem];done));have G0:=BR;clear BR;have Gf0:=ac7;clear ac7;have G1:=BS;clear BS;have Gf1:=ac8;clear ac8);have ia:xp w1 w2:=by rw [df];go_grown
 (replace ⟨R0,fp,R1,fq,R2,fv,R3,fw⟩:=xi ia R0 fp R1 fq R2 fv R3 fw;replace ⟨A0,A1,B0,B1⟩:=xj ia A0 A1 B0 B1)
 have ki:w1.heap.size<w2:=by rw [df];simp
 have fg:=ir.trans (ia.mono jh);replace qj:=qj.keep ia;replace r9:=r9.keep ia;obtain ⟨G,hG⟩:∃G,G=w1.heap.size:=⟨_,rfl⟩;rw [←hG] at G0 G1 Gf0 Gf1 ⊢;have OA:w.heap.size+1+1<G:=qB;clear df ia ir hG;go_wp2_with fail;refine (Lv _ _ _ _ _ z' (h'.keep fg)).mono ?_;rintro e w3 ⟨rfl,hb⟩;have ep:=xo fg hb
 (replace ⟨R0,fp,R1,fq,R2,fv,R3,fw⟩:=xi hb R0 fp R1 fq R2 fv R3 fw;replace ⟨G0,Gf0,G1,Gf1⟩:=xm hb G0 Gf0 G1 Gf1;replace ⟨A0,A1,B0,B1⟩:=xj hb A0 A1 B0 B1)
 replace qj:=qj.keep hb;replace r9:=r9.keep hb;have nw:w.heap.size+1+1<w3:=Nat.lt_trans OA (Aa _ _ G0);have HGL:G<w3.heap.size:=Aa _ _ G0;clear hb fg;rw [xx];go_wp2_with fail;refine (Abv _ _ _ _ _ _ qj).mono ?_;rintro e w3n ⟨gm,am,nm,cm,rfl,KR,hfm,hb⟩;have amf:=xo ep hb
 (replace ⟨R0,fp,R1,fq,R2,fv,R3,fw⟩:=xi hb R0 fp R1 fq R2 fv R3 fw;replace ⟨G0,Gf0,G1,Gf1⟩:=xm hb G0 Gf0 G1 Gf1;replace ⟨A0,A1,B0,B1⟩:=xj hb A0 A1 B0 B1)
 have a0m:w.heap.size+1+1<w3n:=Aa _ _ R0;have hGn:¬G=w.heap.size+1+1:=qB;have amg:¬w.heap.size+1+1=G:=qB;have SI:G<w3.heap.size:=HGL;have hGa:¬w.heap.size=G:=qB;have hGb:¬w.heap.size+1=G:=qB;have QB:Bc w3 w3n am cm:=hfm;have hlm:nm≤n':=by have h1:=KR.rd.len;rw [Int.natAbs_neg,Int.natAbs_natCast] at h1;have h2:=h'.rd.len;have h3:=Ly (p:=z) j5;omega
 have DU:-((Int.gcd z z':Nat):Int)≠0:=qB;obtain ⟨D,hD⟩:∃D:Int,D=-((Int.gcd z z':Nat):Int):=⟨_,rfl⟩;rw [←hD] at KR DU;have HD:=Ae hD;clear hD hb ep qj r9 VI hfm;go_wp2_with fail;refine Bt ?_;intro BH og;have ada:xp w BH:=by rw [og];go_grown
 have FH:Z BH w 0 (.bool g):=by rw [og];simp [*,go_sem]
 have FI:Z BH w 1 (.slice a n c):=by rw [og];simp [*,go_sem]
 have CX:Z BH (w+1) 0 (.bool g'):=by rw [og];simp [*,go_sem]
 have FJ:Z BH (w+1) 1 (.slice a' n' c'):=by rw [og];simp [*,go_sem]
 have yh:Z BH (w+1+1) 0 (.bool false):=by rw [og];simp [*,go_sem]
 have yx:Z BH (w+1+1) 1 (.slice none 0 0):=by rw [og];simp [*,go_sem]
 have yy:Z BH (w+1+1) 2 (.bool false):=by rw [og];simp [*,go_sem]
 have yz:Z BH (w+1+1) 3 (.slice none 0 0):=by rw [og];simp [*,go_sem]
 have mm:Y BH (w+1+1) 0:=by rw [og];simp [*,go_sem]
 have mo:Y BH (w+1+1) 1:=by rw [og];simp [*,go_sem]
 have mv:Y BH (w+1+1) 2:=by rw [og];simp [*,go_sem]
 have my:Y BH (w+1+1) 3:=by rw [og];simp [*,go_sem]
 have BR:Z BH G 0 (.bool gm):=by rw [og];simp [*,go_sem]
 have BS:Z BH G 1 (.slice am nm cm):=by rw [og];simp [*,go_sem]
 have qj:Bh BH gm am nm cm D:=by rw [og];exact (KR.setFresh QB _ _ SI).setFresh (QB.setNew _ _ SI) _ _ SI
 have r9:Bc (w+1+1+1) BH am cm:=by rw [og];exact ((QB.setNew _ _ SI).setNew _ _ SI).mono qB
 have nw:w.heap.size+1+1<BH:=Aa _ _ yh;clear og A0 A1 B0 B1 R0 R1 R2 R3 G0 G1 fp fq fv fw Gf0 Gf1 KR QB amf;have A0:=FH;have A1:=FI;have B0:=CX;have B1:=FJ;have R0:=yh;have R1:=yx;have R2:=yy;have R3:=yz;have fp:=mm;have fq:=mo;have fv:=mv;have fw:=my;have G0:=BR;have G1:=BS;have ep:=ada;clear FH FI CX FJ yh yx yy yz mm mo mv my BR BS ada;have VI:=hlm;refine (aY _ _ _ _ _ z (h.keep ep) _ _ _ _ D qj DU qB qB).mono ?_;rintro e w4 ⟨gq,aq,nq,cq,gr,ar,nr,cr,rfl,hq,hr,rj,eh,hb⟩;have o8:=xo ep hb
 (replace ⟨R0,fp,R1,fq,R2,fv,R3,fw⟩:=xi hb R0 fp R1 fq R2 fv R3 fw;replace ⟨A0,A1,B0,B1⟩:=xj hb A0 A1 B0 B1;replace ⟨G0,G1⟩:=xk hb G0 G1)
 replace qj:=qj.keep hb;replace r9:=r9.keep hb;have hs4:=ep.size;have u9:Bc (w+1+1+1) w4 aq cq:=rj.mono nw;have j4:w.heap.size+1+1<w.heap.size+1+1+1:=Ag _;have NS:=o8.size;clear hb ep hr eh rj;go_upto_region 5 with fail
 (refine Bx ?_;intro w5 iy;have FH:Z w5 w 0 (.bool g):=(by rw [iy];first|assumption|(simp [go_sem];done)|(simp [*,go_sem];done));have FI:Z w5 w 1 (.slice a n c):=(by rw [iy];first|assumption|(simp [go_sem];done)|(simp [*,go_sem];done));have CX:Z w5 (w+1) 0 (.bool g'):=(by rw [iy];first|assumption|(simp [go_sem];done)|(simp [*,go_sem];done));have FJ:Z w5 (w+1) 1 (.slice a' n' c'):=(by rw [iy];first|assumption|(simp [go_sem];done)|(simp [*,go_sem];done));have yh:Z w5 (w+1+1) 0 (.bool gq):=(by rw [iy];first|assumption|(simp [go_sem];done)|(simp [*,go_sem];done));have mm:Y w5 (w+1+1) 0:=(by rw [iy];first|assumption|(simp [go_sem];done)|(simp [*,go_sem];done));have yx:Z w5 (w+1+1) 1 (.slice aq nq cq):=(by rw [iy];first|assumption|(simp [go_sem];done)|(simp [*,go_sem];done));have mo:Y w5 (w+1+1) 1:=(by rw [iy];first|assumption|(simp [go_sem];done)|(simp [*,go_sem];done));have yy:Z w5 (w+1+1) 2 (.bool false):=(by rw [iy];first|assumption|(simp [go_sem];done)|(simp [*,go_sem];done));have mv:Y w5 (w+1+1) 2:=(by rw [iy];first|assumption|(simp [go_sem];done)|(simp [*,go_sem];done));have yz:Z w5 (w+1+1) 3 (.slice none 0 0):=(by rw [iy];first|assumption|(simp [go_sem];done)|(simp [*,go_sem];done));have my:Y w5 (w+1+1) 3:=(by rw [iy];first|assumption|(simp [go_sem];done)|(simp [*,go_sem];done));have BR:Z w5 G 0 (.bool gm):=(by rw [iy];first|assumption|(simp [go_sem];done)|(simp [*,go_sem];done));have BS:Z w5 G 1 (.slice am nm cm):=(by rw [iy];first|assumption|(simp [go_sem];done)|(simp [*,go_sem];done));clear A0 A1 B0 B1 R0 R1 R2 R3 fp fq fv fw G0 G1;have A0:=FH;clear FH;have A1:=FI;clear FI;have B0:=CX;clear CX;have B1:=FJ;clear FJ;have R0:=yh;clear yh;have fp:=mm;clear mm;have R1:=yx;clear yx;have fq:=mo;clear mo;have R2:=yy;clear yy;have fv:=mv;clear mv;have R3:=yz;clear yz;have fw:=my;clear my;have G0:=BR;clear BR;have G1:=BS;clear BS);have oq:xp w w5:=by rw [iy];go_grown
 have BT:Bh w5 gm am nm cm D:=by rw [iy];exact (qj.setFresh r9 _ _ j4).setFresh (r9.setNew _ _ j4) _ _ j4
 have VU:Bc (w+1+1+1) w5 am cm:=by rw [iy];exact (r9.setNew _ _ j4).setNew _ _ j4
 have hq5:Bh w5 gq aq nq cq (z/D):=by rw [iy];exact (hq.setFresh u9 _ _ j4).setFresh (u9.setNew _ _ j4) _ _ j4
 have qh:Bc (w+1+1+1) w5 aq cq:=by rw [iy];exact (u9.setNew _ _ j4).setNew _ _ j4
 have VA:w.heap.size+1+1<w5:=Aa _ _ R0;clear iy qj r9 hq u9 o8;go_wp2_with fail;refine (aY _ _ _ _ _ z' (h'.keep oq) _ _ _ _ D BT DU qB qB).mono ?_;rintro e w6 ⟨gs,a5,n5,c5,gr,ar,nr,cr,rfl,hs,hr,LF,eh,hb⟩;have iu:=xo oq hb
 (replace ⟨R0,fp,R1,fq,R2,fv,R3,fw⟩:=xi hb R0 fp R1 fq R2 fv R3 fw)
 have SJ:=hq5.keep hb;have ux:=qh.keep hb;have AQ:Bc (w+1+1+1) w6 a5 c5:=LF.mono VA;have gw:Ap2 aq cq a5 c5:=Xp qh LF;clear hb oq hr eh LF hq5 qh BT VU A0 A1 B0 B1 G0 G1;go_upto_region 6 with fail
 (refine Bx ?_;intro w7 mb;have yh:Z w7 (w+1+1) 0 (.bool gq):=(by rw [mb];first|assumption|(simp [go_sem];done)|(simp [*,go_sem];done));have mm:Y w7 (w+1+1) 0:=(by rw [mb];first|assumption|(simp [go_sem];done)|(simp [*,go_sem];done));have yx:Z w7 (w+1+1) 1 (.slice aq nq cq):=(by rw [mb];first|assumption|(simp [go_sem];done)|(simp [*,go_sem];done));have mo:Y w7 (w+1+1) 1:=(by rw [mb];first|assumption|(simp [go_sem];done)|(simp [*,go_sem];done));have yy:Z w7 (w+1+1) 2 (.bool gs):=(by rw [mb];first|assumption|(simp [go_sem];done)|(simp [*,go_sem];done));have mv:Y w7 (w+1+1) 2:=(by rw [mb];first|assumption|(simp [go_sem];done)|(simp [*,go_sem];done));have yz:Z w7 (w+1+1) 3 (.slice a5 n5 c5):=(by rw [mb];first|assumption|(simp [go_sem];done)|(simp [*,go_sem];done));have my:Y w7 (w+1+1) 3:=(by rw [mb];first|assumption|(simp [go_sem];done)|(simp [*,go_sem];done));clear R0 R1 R2 R3 fp fq fv fw;have R0:=yh;clear yh;have fp:=mm;clear mm;have R1:=yx;clear yx;have fq:=mo;clear mo;have R2:=yy;clear yy;have fv:=mv;clear mv;have R3:=yz;clear yz;have fw:=my;clear my);have wh:xp w w7:=by rw [mb];go_grown
 have hq7:Bh w7 gq aq nq cq (z/D):=by rw [mb];exact (SJ.setFresh ux _ _ j4).setFresh (ux.setNew _ _ j4) _ _ j4
 have GO:Bc (w+1+1+1) w7 aq cq:=by rw [mb];exact (ux.setNew _ _ j4).setNew _ _ j4
 have hs7:Bh w7 gs a5 n5 c5 (z'/D):=by rw [mb];exact (hs.setFresh AQ _ _ j4).setFresh (AQ.setNew _ _ j4) _ _ j4
 have VV:Bc (w+1+1+1) w7 a5 c5:=by rw [mb];exact (AQ.setNew _ _ j4).setNew _ _ j4
 clear mb SJ ux hs AQ iu;go_wp2_with fail;refine bodyPost_ret (v:=.agg #[.bool gq,.slice aq nq cq,.bool gs,.slice a5 n5 c5]) (by simp [results,results218,go_sem,R0,R1,R2,R3]) rfl ?_;have vk:=Pg (p:=z) j5;exact qBw
end Go.Proofs.YtfijkfdfbnfmmaaGreatDoor
end
