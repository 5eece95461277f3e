/- The document's answer, layer 2: Add. -/
import Derived.Test.YtfijkfdfbnfmmaaGreatDoorQF17
import Derived.Test.YtfijkfdfbnfmmaaGreatDoorQF26
set_option linter.unusedSimpArgs false
set_option linter.unusedVariables false
set_option maxRecDepth 100000
set_option maxHeartbeats 4000000
section
namespace Go.Proofs.YtfijkfdfbnfmmaaGreatDoor
open Go.RowKit Proofs.Tryz
variable (w:World) (g1:Bool) (a1:Γ) (n1 c1:Nat) (p:Int) (g2:Bool) (a2:Γ) (n2 c2:Nat) (q:Int) (b a:Δ) (B:Nat) {l:Δ}
theorem iV (h:Bo w g1 a1 n1 c1 p g2 a2 n2 c2 q)
    (g3:Bool) (a3:Γ) (n3 c3:Nat) (p':Int) (g4:Bool) (a4:Γ) (n4 c4:Nat) (q':Int) (h':Bo w g3 a3 n3 c3 p' g4 a4 n4 c4 q') (br:n1≤1000000000) (bp:n2≤1000000000) (ea:n3≤1000000000) (ec:n4≤1000000000) :
    Θ 189 #[.agg #[.bool g1,.slice a1 n1 c1,.bool g2,.slice a2 n2 c2],.agg #[.bool g3,.slice a3 n3 c3,.bool g4,.slice a4 n4 c4]] w (Hs w (Fh (p*q'+p'*q) (q*q')) (E5 (p*q'+p'*q) (q*q'))):=by
  have e1:=h.top.rd.len;have e2:=h.low.rd.len;have e3:=h'.top.rd.len;have e4:=h'.low.rd.len;have i1:=C9 p q';have i2:=C9 p' q;have i3:=Ro (p*q') (p'*q);have i4:=C9 q q';have HD:Hid ((dg (p*q').natAbs).length<35184372088829∧(dg (p'*q).natAbs).length<35184372088829∧(dg (p*q'+p'*q).natAbs).length<35184372088829∧(dg (q*q').natAbs).length<35184372088829):=Ae qB;have HQ:Hid (0<q*q'):=Ae (Int.mul_pos h.pos h'.pos);clear e1 e2 e3 e4 i1 i2 i3 i4;have HB:=Ac w w;go_enter func189,ntmps189;go_wp2_with fail;refine (Kt _ _ _ _ _ _ _ _ _ _ _ (h.keep qD) qB qB).mono ?_;rintro e w1 ⟨rfl,hb⟩;obtain ⟨hc,hf⟩:=Bg hb;have hz:=hb.size;(try simp only [Aj,Ak] at hz);replace HB:=zP w hb;obtain ⟨aw,bh,ei,ej⟩:=xe hc w g1 a1 n1 c1 g2 a2 n2 c2;obtain ⟨bn,bo,im,s1_3⟩:=xe hc (w+1) g3 a3 n3 c3 g4 a4 n4 c4;obtain ⟨bw,bx,fi,fj⟩:=xf hc (w+1+1);obtain ⟨bz,cc,gh,gp⟩:=xg hf (w+1+1);obtain ⟨dy,dz,mj,ml⟩:=xg hf w;obtain ⟨dp,dt,jz,kh⟩:=xg hf (w+1);have jy:w.heap.size+1+1<w1:=qB;have VL:w.heap.size<w1:=qB;have VM:w.heap.size+1<w1:=qB;clear hc hf hb hz;go_upto_region 2 with fail
  refine Bx ?_;intro w2 df;have fg:xp w w2:=by rw [df];go_grown
  have A0:Z w2 w 0 (.bool g1):=by rw [df];simp [*,go_sem]
  have A1:Z w2 w 1 (.slice a1 n1 c1):=by rw [df];simp [*,go_sem]
  have A2:Z w2 w 2 (.bool g2):=by rw [df];simp [*,go_sem]
  have A3:Z w2 w 3 (.slice a2 n2 c2):=by rw [df];simp [*,go_sem]
  have B0:Z w2 (w+1) 0 (.bool g3):=by rw [df];simp [*,go_sem]
  have VN:Y w2 (w+1) 0:=by rw [df];simp [*,go_sem]
  have B1:Z w2 (w+1) 1 (.slice a3 n3 c3):=by rw [df];simp [*,go_sem]
  have VO:Y w2 (w+1) 1:=by rw [df];simp [*,go_sem]
  have B2:Z w2 (w+1) 2 (.bool g4):=by rw [df];simp [*,go_sem]
  have VP:Y w2 (w+1) 2:=by rw [df];simp [*,go_sem]
  have B3:Z w2 (w+1) 3 (.slice a4 n4 c4):=by rw [df];simp [*,go_sem]
  have VQ:Y w2 (w+1) 3:=by rw [df];simp [*,go_sem]
  have R0:Z w2 (w+1+1) 0 (.bool false):=by rw [df];simp [*,go_sem]
  have fp:Y w2 (w+1+1) 0:=by rw [df];simp [*,go_sem]
  have R1:Z w2 (w+1+1) 1 (.slice none 0 0):=by rw [df];simp [*,go_sem]
  have fq:Y w2 (w+1+1) 1:=by rw [df];simp [*,go_sem]
  have R2:Z w2 (w+1+1) 2 (.bool false):=by rw [df];simp [*,go_sem]
  have fv:Y w2 (w+1+1) 2:=by rw [df];simp [*,go_sem]
  have R3:Z w2 (w+1+1) 3 (.slice none 0 0):=by rw [df];simp [*,go_sem]
  have fw:Y w2 (w+1+1) 3:=by rw [df];simp [*,go_sem]
  clear df HB aw bh ei ej bn bo im s1_3 bw bx fi fj dy dz mj ml dp dt jz kh bz cc gh gp jy VL VM;go_wp2_with fail;refine (Kt _ _ _ _ _ _ _ _ _ _ _ (h'.keep fg) qB qB).mono ?_;rintro e w3 ⟨rfl,hb⟩;have ep:=xo fg hb
  (replace ⟨B0,VN,B1,VO,B2,VP,B3,VQ⟩:=xi hb B0 VN B1 VO B2 VP B3 VQ;replace ⟨R0,fp,R1,fq,R2,fv,R3,fw⟩:=xi hb R0 fp R1 fq R2 fv R3 fw;replace ⟨A0,A1,A2,A3⟩:=xj hb A0 A1 A2 A3)
  have nw:w.heap.size+1+1<w3:=Aa _ _ R0;clear hb fg;go_upto_region 3 with fail
  refine Bx ?_;intro w4 jg;have o8:xp w w4:=by rw [jg];go_grown
  have FH:Z w4 w 0 (.bool g1):=by rw [jg];simp [*,go_sem]
  have FI:Z w4 w 1 (.slice a1 n1 c1):=by rw [jg];simp [*,go_sem]
  have A2':Z w4 w 2 (.bool g2):=by rw [jg];simp [*,go_sem]
  have A3':Z w4 w 3 (.slice a2 n2 c2):=by rw [jg];simp [*,go_sem]
  have CX:Z w4 (w+1) 0 (.bool g3):=by rw [jg];simp [*,go_sem]
  have FJ:Z w4 (w+1) 1 (.slice a3 n3 c3):=by rw [jg];simp [*,go_sem]
  have B2':Z w4 (w+1) 2 (.bool g4):=by rw [jg];simp [*,go_sem]
  have B3':Z w4 (w+1) 3 (.slice a4 n4 c4):=by rw [jg];simp [*,go_sem]
  have yh:Z w4 (w+1+1) 0 (.bool false):=by rw [jg];simp [*,go_sem]
  have mm:Y w4 (w+1+1) 0:=by rw [jg];simp [*,go_sem]
  have yx:Z w4 (w+1+1) 1 (.slice none 0 0):=by rw [jg];simp [*,go_sem]
  have mo:Y w4 (w+1+1) 1:=by rw [jg];simp [*,go_sem]
  have yy:Z w4 (w+1+1) 2 (.bool false):=by rw [jg];simp [*,go_sem]
  have mv:Y w4 (w+1+1) 2:=by rw [jg];simp [*,go_sem]
  have yz:Z w4 (w+1+1) 3 (.slice none 0 0):=by rw [jg];simp [*,go_sem]
  have my:Y w4 (w+1+1) 3:=by rw [jg];simp [*,go_sem]
  clear jg ep nw A0 A1 A2 A3 B0 B1 B2 B3 R0 R1 R2 R3 VN VO VP VQ fp fq fv fw;have A0:=FH;have A1:=FI;have A2:=A2';have A3:=A3';have B0:=CX;have B1:=FJ;have B2:=B2';have B3:=B3';have R0:=yh;have fp:=mm;have R1:=yx;have fq:=mo;have R2:=yy;have fv:=mv;have R3:=yz;have fw:=my;clear FH FI A2' A3' CX FJ B2' B3' yh yx yy yz mm mo mv my;have h4:=h.keep o8;have SL:=h'.keep o8;have NS:w.heap.size+1+1<w4:=Aa _ _ R0;have HB:=Ac w4 w4;go_cut [5] (fun v5 wx=>∃T gs QJ ns cs,v5=.pointer (E T)∧w.heap.size+1+1<T∧Z wx T 0 (.bool gs)∧Z wx T 1 (.slice QJ ns cs)∧Bh wx gs QJ ns cs (p*q'+p'*q)∧xp w4 wx)
  case first =>
    go_region_held3 (fun W=>Z W w 0 (.bool g1)∧Z W w 1 (.slice a1 n1 c1)∧Z W w 2 (.bool g2)∧Z W w 3 (.slice a2 n2 c2)∧Z W (w+1) 0 (.bool g3)∧Z W (w+1) 1 (.slice a3 n3 c3)∧Z W (w+1) 2 (.bool g4)∧Z W (w+1) 3 (.slice a4 n4 c4)) (exact qK) (first
      | (go_at_call 110;(with_reducible refine (Ob _ _ _ _ _ _ (h4.top.keep qQ) _ _ _ _ _ (SL.low.keep qQ) qB qB).mono ?_);rintro e w5 ⟨gx,ax,nx,cx,rfl,hx,iq,hb⟩;have hz:=hb.size;(try simp only [Aj,Ak] at hz);obtain ⟨SS,a09⟩:=Bg hb;replace HB:xp w4 w5:=Al qQ (hb.mono qA);have fb:=HB.size;(try have r45:w4.heap.size<w5:=qB);(replace ⟨R0,fp,R1,fq,R2,fv,R3,fw⟩:=xi HB R0 fp R1 fq R2 fv R3 fw;replace ⟨A0,A1,A2,A3,B0,B1,B2,B3⟩:=xl HB A0 A1 A2 A3 B0 B1 B2 B3);have AO:nx<35184372088829:=(by have h1:=hx.rd.len;have:=HD.out.1;omega))
      | (go_at_call 110;(with_reducible refine (Ob _ _ _ _ _ _ (SL.top.keep qQ) _ _ _ _ _ (h4.low.keep qQ) qB qB).mono ?_);rintro e w6 ⟨gy,ay,ny,cy,rfl,hy,sk,ee⟩;have hz:=ee.size;(try simp only [Aj,Ak] at hz);obtain ⟨hcy,a1a⟩:=Bg ee;have oe:xp w5 w6:=Al qQ (ee.mono qA);replace HB:xp w4 w6:=Al HB (oe.mono qA);have ac4:=HB.size;(try have r46:w4.heap.size<w6:=qB);(try have r56:w5.heap.size<w6:=qB);(replace ⟨R0,fp,R1,fq,R2,fv,R3,fw⟩:=xi oe R0 fp R1 fq R2 fv R3 fw;replace ⟨A0,A1,A2,A3,B0,B1,B2,B3⟩:=xl oe A0 A1 A2 A3 B0 B1 B2 B3);have hx6:=hx.keep oe;have VR:ny<35184372088829:=(by have h1:=hy.rd.len;have:=HD.out.2.1;omega))
      | (go_at_call 227;(with_reducible refine (fG _ _ _ _ _ (p*q') (hx6.keep qQ) _ _ _ _ (p'*q) (hy.keep qQ) qB qB).mono ?_);rintro e w7 ⟨gs,QJ,ns,cs,rfl,hs,LF,iw⟩;have hz:=iw.size;(try simp only [Aj,Ak] at hz);obtain ⟨sj,a1b⟩:=Bg iw;have s9:xp w6 w7:=Al qQ (iw.mono qA);replace HB:xp w4 w7:=Al HB (s9.mono qA);have ac5:=HB.size;(try have r47:w4.heap.size<w7:=qB);(try have r57:w5.heap.size<w7:=qB);(try have r67:w6.heap.size<w7:=qB);(replace ⟨R0,fp,R1,fq,R2,fv,R3,fw⟩:=xi s9 R0 fp R1 fq R2 fv R3 fw;replace ⟨A0,A1,A2,A3,B0,B1,B2,B3⟩:=xl s9 A0 A1 A2 A3 B0 B1 B2 B3)))
    all_goals
      go_wp2_with fail;go_meet
      case rel =>
        first
          | exact ⟨w7.heap.size,gs,QJ,ns,cs,rfl,qB,qJ,qJ,hs.keep qD,qD⟩
          | (refine ⟨w6.heap.size,gs,QJ,ns,cs,rfl,qB,?_,?_,?_,qD⟩
             · simp [*,go_sem]
             · simp [*,go_sem]
             · have f:=LF.mono (B':=w6.heap.size+1) zC;exact (hs.setFresh f _ _ (Ag _)).setFresh (f.setNew _ _ (Ag _)) _ _ (Ag _))
          | (refine ⟨w5.heap.size,gs,QJ,ns,cs,rfl,qB,?_,?_,?_,qD⟩
             · simp [*,go_sem]
             · simp [*,go_sem]
             · have f:=LF.mono (B':=w5.heap.size+1) zC;exact (hs.setFresh f _ _ (Ag _)).setFresh (f.setNew _ _ (Ag _)) _ _ (Ag _))
          | (refine ⟨w4.heap.size,gs,QJ,ns,cs,rfl,qB,?_,?_,?_,qD⟩
             · simp [*,go_sem]
             · simp [*,go_sem]
             · have f:=LF.mono (B':=w4.heap.size+1) zC;exact (hs.setFresh f _ _ (Ag _)).setFresh (f.setNew _ _ (Ag _)) _ _ (Ag _))
  case rest =>
    clear HB;obtain ⟨T,gs,QJ,ns,cs,rfl,hT,T0,T1,hs,HB⟩:=hcut;obtain ⟨wt,rfl⟩:∃x:World,x=wc:=⟨_,rfl⟩
    (replace ⟨R0,fp,R1,fq,R2,fv,R3,fw⟩:=xi HB R0 fp R1 fq R2 fv R3 fw;replace ⟨A0,A1,A2,A3,B0,B1,B2,B3⟩:=xl HB A0 A1 A2 A3 B0 B1 B2 B3)
    have hns:ns<35184372088829:=by have h1:=hs.rd.len;have:=HD.out.2.2.1;omega
    have HBT:=xo o8 HB;have h5:=h.keep HBT;have h5':=h'.keep HBT;have PR:w.heap.size+1+1<wt:=Aa _ _ R0;clear HB o8 h4 SL NS;have HB:=Ac wt wt;first|go_upto_region 4 with fail|go_wp2_with fail
    go_region_held3 (fun W=>Z W w 2 (.bool g2)∧Z W w 3 (.slice a2 n2 c2)∧Z W (w+1) 2 (.bool g4)∧Z W (w+1) 3 (.slice a4 n4 c4)∧Z W T 0 (.bool gs)∧Z W T 1 (.slice QJ ns cs)) (exact qK) (first
      | (go_at_call 110;(with_reducible refine (Ob _ _ _ _ _ _ (h5.low.keep qQ) _ _ _ _ _ (h5'.low.keep qQ) qB qB).mono ?_);rintro e w6 ⟨gy,ay,ny,cy,rfl,hy,sk,ee⟩;replace HB:xp wt w6:=Al qQ (ee.mono qA);have ac4:=HB.size;(replace ⟨R0,fp,R1,fq,R2,fv,R3,fw⟩:=xi HB R0 fp R1 fq R2 fv R3 fw;replace ⟨A0,A1,A2,A3,B0,B1,B2,B3⟩:=xl HB A0 A1 A2 A3 B0 B1 B2 B3;replace ⟨T0,T1⟩:=xk HB T0 T1);have hs6:=hs.keep HB;have VR:ny<35184372088829:=(by have h1:=hy.rd.len;have:=HD.out.2.2.2;omega))
      | (go_at_call 109;(with_reducible refine (dV _ _ _ _ _ (p*q'+p'*q) (hs6.keep qQ) _ _ _ _ (q*q') (hy.keep qQ) HQ.out hns VR).mono ?_);rintro e w7 ⟨ge,ae,ne,ce,gf,af,nf,cf,rfl,hr,ry,vw,iw⟩;have s9:xp w6 w7:=Al qQ (iw.mono qA);replace HB:xp wt w7:=Al HB (s9.mono qA);have ac5:=HB.size;(replace ⟨R0,fp,R1,fq,R2,fv,R3,fw⟩:=xi s9 R0 fp R1 fq R2 fv R3 fw;replace ⟨A0,A1,A2,A3,B0,B1,B2,B3⟩:=xl s9 A0 A1 A2 A3 B0 B1 B2 B3;replace ⟨T0,T1⟩:=xk s9 T0 T1)))
    all_goals
      have fe:Bc (w+1+1+1) w7 ae ce:=ry.mono qA;have ff:Bc (w+1+1+1) w7 af cf:=vw.mono qA;have u2:w.heap.size+1+1<w.heap.size+1+1+1:=Ag _;have HW:=xo HBT HB;go_wp2_with fail;refine bodyPost_ret (v:=.agg #[.bool ge,.slice ae ne ce,.bool gf,.slice af nf cf]) (by simp [results,results189,go_sem,R0,R1,R2,R3]) rfl ?_;exact qAy
theorem Lw (h:Bo w g1 a1 n1 c1 p g2 a2 n2 c2 q) (hs:n2≤1000000) (br:n1≤1000000) :
  Θ 106 #[.agg #[.bool g1,.slice a1 n1 c1,.bool g2,.slice a2 n2 c2]] w (Hs w p q):=by
 have HB:=Ac w w;go_enter func106,ntmps106;go_wp2_with fail;refine (iB _ _ _ _ _ _ _ _ _ _ _ (h.keep qD) qB qB).mono ?_;rintro e w1 ⟨g3,a3,n3,c3,g4,a4,n4,c4,rfl,h3,mi,uu,hb⟩;obtain ⟨hc,hf⟩:=Bg hb;have hz:=hb.size;(try simp only [Aj,Ak] at hz);replace HB:=zP w hb;obtain ⟨aw,bh,ei,ej⟩:=xe hc w g1 a1 n1 c1 g2 a2 n2 c2;obtain ⟨bn,bo,im,s1_3⟩:=xf hc (w+1);obtain ⟨dp,dt,jz,kh⟩:=xg hf (w+1);obtain ⟨dy,dz,mj,ml⟩:=xg hf w;have jy:w.heap.size+1<w1:=qB;have qp:w.heap.size<w1:=qB;have e1:=h3.top.rd.len;have e2:=h3.low.rd.len;have e3:=h.top.rd.len;have e4:=h.low.rd.len;have e5:(-p).natAbs=p.natAbs:=Int.natAbs_neg p;rw [e5] at e1;clear hc hf hb hz e5;go_wp2_with fail;refine (iB _ _ _ _ _ _ _ _ _ _ _ h3 qB qB).mono ?_;rintro e w2 ⟨g5,a5,n5,c5,g6,a6,n6,c6,rfl,h5,np,ab0,hb⟩;have fg:=xo HB hb
 (replace ⟨bn,dp,bo,dt,im,jz,s1_3,kh⟩:=xi hb bn dp bo dt im jz s1_3 kh)
 have l9:w.heap.size+1<w2:=by have:=hb.size;omega
 have fe:Bc (w+1+1) w2 a5 c5:=np.mono qB;have ff:Bc (w+1+1) w2 a6 c6:=ab0.mono qB;rw [Int.neg_neg] at h5;clear hb HB;go_wp2_with fail;refine bodyPost_ret (v:=.agg #[.bool g5,.slice a5 n5 c5,.bool g6,.slice a6 n6 c6]) (by simp [results,results106,go_sem,bn,bo,im,s1_3]) rfl ?_;have u:w.heap.size+1<w.heap.size+1+1:=Ag _;refine ⟨g5,a5,n5,c5,g6,a6,n6,c6,rfl,⟨?_,?_,h.pos,h.red⟩,?_,?_,qD⟩
 ·exact h5.top.set4 fe (J (w+1) 0) (J (w+1) 1) (J (w+1) 2) (J (w+1) 3) _ _ _ _ u u u u
 ·exact h5.low.set4 ff (J (w+1) 0) (J (w+1) 1) (J (w+1) 2) (J (w+1) 3) _ _ _ _ u u u u
 ·exact (fe.set4 (J (w+1) 0) (J (w+1) 1) (J (w+1) 2) (J (w+1) 3) _ _ _ _ u u u u).mono qB
 ·exact (ff.set4 (J (w+1) 0) (J (w+1) 1) (J (w+1) 2) (J (w+1) 3) _ _ _ _ u u u u).mono qB
theorem Jj:Cf [] b=b:=by rw [Cf]
theorem Me:Cf a []=a:=by cases a<;>rw [Cf]
theorem Pa (a:Γ) (n c:Nat) (l:Δ) (h:Be w B a n c l) (hl:PW l) (K:Nat) (hK:Cj K l) (CZ:K≤1000000) :
  Θ 104 #[.slice a n c] w fun e w'=>e=.returned (.slice a n c)∧xp w w':=by
 obtain ⟨p,hp,jv⟩:=h.ts;exact lU w a n c p hp (fun k hk=>by have:=h.few hK hp jv k hk;omega) (h.pok hl hp jv)
theorem PW.tl {x:PT} (h:PW (x::l)):PW l :=
 ⟨(List.pairwise_cons.1 h.falls).2,fun t ht=>h.good t (List.mem_cons_of_mem _ ht),fun t ht=>h.key t (List.mem_cons_of_mem _ ht)⟩
theorem Cj.tl {K:Nat} {x:PT} (h:Cj K (x::l)):Cj K l:=fun t ht=>h t (List.mem_cons_of_mem _ ht)
def Rr:Value→Nat
 | .slice _ n _=>n
 | _=>0
def Aad (w wc:World) (f:PC) (v:Value):Prop :=
 ∃b g1 a1 n1 c1 g2 a2 n2 c2,v=.pointer (E b)∧w.heap.size≤b∧Z wc b 0 (.bool g1)∧Z wc b 1 (.slice a1 n1 c1)∧Z wc b 2 (.bool g2)∧Z wc b 3 (.slice a2 n2 c2) ∧
  Bo wc g1 a1 n1 c1 f.1 g2 a2 n2 c2 f.2∧Nw w n1 a1∧Nw w n2 a2∧xp w wc
theorem Up {w w':World} (h:xp w w') (T:Nat) (hT:w.heap.size≤T) (v0 v1 v2 v3:Value):xp w ((((w'.setCell (J T 0) v0).setCell (J T 1) v1).setCell (J T 2) v2).setCell (J T 3) v3) :=
 (((h.setCell (p:=⟨T,0,none⟩) hT v0).setCell (p:=⟨T,1,none⟩) hT v1).setCell (p:=⟨T,2,none⟩) hT v2).setCell (p:=⟨T,3,none⟩) hT v3
def xU:Tm:=⟨false,none,0,0,[],false,none,0,0,[],0,0,0,0⟩
theorem nS (wo:World) (B:Nat) (a0:Γ) (n0 c0:Nat) (l0:Δ) (h:Be wo B a0 n0 c0 l0) (hl:PW l0) (K:Nat) (hK:Cj K l0) (B':Nat) (a0':Γ) (n0' WJ:Nat) (EG:Δ) (h':Be wo B' a0' n0' WJ EG) (hl':PW EG) (K':Nat) (hK':Cj K' EG)
  (CZ:K+K'<1000000) (hn:n0≤500000) (rk:n0'≤500000) :
  Θ 113 #[.slice a0 n0 c0,.slice a0' n0' WJ] wo (Ya wo (Cf l0 EG)):=by
 obtain ⟨i0,hi,dw,ed,en⟩:=info_parts Ls;go_enter func113,ntmps113;go_wp2_with fail;refine (Pa _ B a0 n0 c0 l0 h hl K hK qB).mono ?_;rintro e w1 ⟨rfl,br⟩;go_wp2_with fail;refine (Pa _ B' a0' n0' WJ EG (h'.keep br) hl' K' hK' qB).mono ?_;rintro e w2 ⟨rfl,bp⟩;have fg:xp wo w2:=xo br bp;have HS:Hid (n0=l0.length∧n0'=EG.length):=Ae ⟨h.len.symm,h'.len.symm⟩;clear br bp;go_wp2_with fail;go_loopw [0,1,5] (fun v0 v1 v5 wr=>∃(a:Γ) (n c:Nat) (l:Δ) (a':Γ) (n' c':Nat) (l':Δ) (s:Nat→Tm) (out:Δ),v0=.slice a n c∧v1=.slice a' n' c'∧Be wo B a n c l∧Be wo B' a' n' c' l'∧Hid (PW l∧PW l'∧Cj K l∧Cj K' l')∧Hid (Cf l0 EG=out++Cf l l')∧Et wr wo v5 s out∧out.length+l.length+l'.length≤1000000∧xp wo wr) (fun v0 v1 _ _=>Rr v0+Rr v1)
 case atStart=>exact ⟨a0,n0,c0,l0,a0',n0',WJ,EG,fun _=>xU,[],rfl,rfl,h,h',Ae ⟨hl,hl',hK,hK'⟩,Ae rfl,Et.nil _ _ _,by have:=HS.out;simp;omega,fg⟩
 case round =>
  clear h h' hl hl' hK hK' fg HS;obtain ⟨a,n,c,l,a',n',c',l',s,out,rfl,rfl,hp,BX,HW,HE,HO,hlen,HB⟩:=hrel;obtain ⟨v5,rfl⟩:∃v5,v5=u5:=⟨_,rfl⟩
  cases l with
  | nil =>
   obtain rfl:n=0:=hp.len.symm
   cases l' with
   | nil =>
    obtain rfl:n'=0:=BX.len.symm;obtain ⟨ao,co,rfl,hP⟩:=HO.poly (by simp at hlen;omega);have hz:=Ae (show Cf l0 EG=out by rw [HE.out,Jj,List.append_nil]);clear HE;go_wp2_with fail;go_ret;exact ⟨ao,_,co,rfl,by rw [hz.out];exact hP,HB⟩
   | cons y l' =>
    obtain ⟨g',o',t',rfl,rfl,jf,CI,se,yp⟩:=BX.head;have eh:=(yp.frac se (HW.out.2.1.good y (List.mem_cons_self ..)).1).keep HB;have mz:=se.keep HB;obtain ⟨e0,e1,e2,e3,e4,e5,e6,e7⟩:=CI.keep HB;have QK:=Ae yp;have SV:=Aa _ _ CI.e0;have sb:=Ae HO;have sf:=hlen;simp only [List.length_cons,List.length_nil] at sf;have f1:=(HW.out.2.2.2 y (List.mem_cons_self ..)).1;have f2:=(HW.out.2.2.2 y (List.mem_cons_self ..)).2;have jh:=eh.top.rd.len;have ki:=eh.low.rd.len;have g1:_≤1000000:=Ah (Nat.le_of_eq jh.symm) (Ah f1 qB);have g2:_≤1000000:=Ah (Nat.le_of_eq ki.symm) (Ah f2 qB);clear f1 f2 jh ki;go_wp2_with fail;go_region_held3 (fun W=>Z W g' o' (.bool (t').g1)∧Z W g' (o'+1) (.slice (t').a1 (t').n1 (t').c1)∧Z W g' (o'+2) (.bool (t').g2)∧Z W g' (o'+3) (.slice (t').a2 (t').n2 (t').c2)∧Z W g' (o'+4) (U (t').m0)∧Z W g' (o'+5) (U (t').m1)∧Z W g' (o'+6) (U (t').m2)∧Z W g' (o'+7) (U (t').m3)) (exact qK) (first
     | (go_at_call 106;(with_reducible refine (Lw _ _ _ _ _ _ _ _ _ _ _ (eh.keep qD) g2 g1).mono ?_);rintro e w6 ⟨ge,ae,ne,ce,gf,af,nf,cf,rfl,iq,pk,po,ee⟩;have iu:=zP wr ee;replace ⟨e0,e1,e2,e3,e4,e5,e6,e7⟩:=xl iu e0 e1 e2 e3 e4 e5 e6 e7)
     | (refine step_append_lies _ qM _ _ _ qM wo 58 i0 (.agg #[.bool false,.slice none 0 0,.bool false,.slice none 0 0,U 0,U 0,U 0,U 0]) 8 72 underlying24 hi dw ed en rfl qI _ out.length (Cs s out.length) qM ((Bf sb.out.own iu).alloc _) (J w6 0) 1 1 (Tm.cells ⟨ge,ae,ne,ce,dg (y).2.1.natAbs,gf,af,nf,cf,dg (y).2.2.natAbs,(t').m0,(t').m1,(t').m2,(t').m3⟩) qM qM (Dp _ _ _) (by simp [Tm.cells,Value.oneCell']) qI qN qB (by have:=HB.size;have:=iu.size;simp only [Aj];omega) _ rfl ?_;intro gg cap w7 ie ak pq IE;have ez:some g'≠Value.ownBlock v5:=(fun e=>by have:=Dj sb.out.own _ e.symm;omega);replace e0:=ak.cell (Bb ((Ac w6 w6).alloc (Ad _) _) e0) ez;replace e1:=ak.cell (Bb ((Ac w6 w6).alloc (Ad _) _) e1) ez;replace e2:=ak.cell (Bb ((Ac w6 w6).alloc (Ad _) _) e2) ez;replace e3:=ak.cell (Bb ((Ac w6 w6).alloc (Ad _) _) e3) ez;replace e4:=ak.cell (Bb ((Ac w6 w6).alloc (Ad _) _) e4) ez;replace e5:=ak.cell (Bb ((Ac w6 w6).alloc (Ad _) _) e5) ez;replace e6:=ak.cell (Bb ((Ac w6 w6).alloc (Ad _) _) e6) ez;replace e7:=ak.cell (Bb ((Ac w6 w6).alloc (Ad _) _) e7) ez))
    have DF:=iu.size;have hzo:=HB.size;have CJ:Et w7 wo (.slice (E gg) (out.length+1) cap) (fun j=>if j=out.length then (⟨ge,ae,ne,ce,dg (y).2.1.natAbs,gf,af,nf,cf,dg (y).2.2.natAbs,(t').m0,(t').m1,(t').m2,(t').m3⟩:Tm) else s j) (out++[y]):=qGa;have wh:xp wo w7:=((xo HB iu).alloc qB _).grown ak (by simp only [Aj];omega) (fun k hk=>Dj sb.out.own k hk);clear ie ak pq iq pk po ee iu e0 e1 e2 e3 e4 e5 e6 e7 sb eh mz ez DF HO HB;have hq:=fun W=>J3 W g' o' l'.length c' jf
    have JQ:Hid (PW []∧PW l'∧Cj K []∧Cj K' l'):=Ae ⟨HW.out.1,HW.out.2.1.tl,HW.out.2.2.1,HW.out.2.2.2.tl⟩;have LO:Hid (Cf l0 EG=(out++[y])++Cf [] l'):=Ae (by rw [HE.out,Jj,Jj];simp);clear HW HE;go_wp2_with fail;go_roundw
    case rel=>exact ⟨a,0,c,[],some (tlA g' o' c'),l'.length,c'-1,l',_,out++[y],rfl,rfl,hp,BX.tail,JQ,LO,CJ,by simp only [A8,List.length_singleton,List.length_cons,List.length_nil] at hlen ⊢;omega,wh⟩
    case measure=>(simp only [Rr];omega)
  | cons x l =>
   obtain ⟨g,o,t,rfl,rfl,hc,jn,jx,ph⟩:=hp.head
   cases l' with
   | nil =>
    obtain rfl:n'=0:=BX.len.symm;have eh:=(ph.frac jx (HW.out.1.good x (List.mem_cons_self ..)).1).keep HB;have mz:=jx.keep HB;obtain ⟨e0,e1,e2,e3,e4,e5,e6,e7⟩:=jn.keep HB;have QK:=Ae ph;have SV:=Aa _ _ jn.e0;have sb:=Ae HO;have sf:=hlen;simp only [List.length_cons,List.length_nil] at sf;have f1:=(HW.out.2.2.1 x (List.mem_cons_self ..)).1;have f2:=(HW.out.2.2.1 x (List.mem_cons_self ..)).2;have jh:=eh.top.rd.len;have ki:=eh.low.rd.len;have g1:_≤1000000:=Ah (Nat.le_of_eq jh.symm) (Ah f1 qB);have g2:_≤1000000:=Ah (Nat.le_of_eq ki.symm) (Ah f2 qB);clear f1 f2 jh ki;go_wp2_with fail;go_region_held3 (fun W=>Z W g o (.bool (t).g1)∧Z W g (o+1) (.slice (t).a1 (t).n1 (t).c1)∧Z W g (o+2) (.bool (t).g2)∧Z W g (o+3) (.slice (t).a2 (t).n2 (t).c2)∧Z W g (o+4) (U (t).m0)∧Z W g (o+5) (U (t).m1)∧Z W g (o+6) (U (t).m2)∧Z W g (o+7) (U (t).m3)) (exact qK) (first
     | (go_at_call 106;(with_reducible refine (Lw _ _ _ _ _ _ _ _ _ _ _ (eh.keep qD) g2 g1).mono ?_);rintro e w6 ⟨ge,ae,ne,ce,gf,af,nf,cf,rfl,iq,pk,po,ee⟩;have iu:=zP wr ee;replace ⟨e0,e1,e2,e3,e4,e5,e6,e7⟩:=xl iu e0 e1 e2 e3 e4 e5 e6 e7)
     | (refine step_append_lies _ qM _ _ _ qM wo 58 i0 (.agg #[.bool false,.slice none 0 0,.bool false,.slice none 0 0,U 0,U 0,U 0,U 0]) 8 72 underlying24 hi dw ed en rfl qI _ out.length (Cs s out.length) qM ((Bf sb.out.own iu).alloc _) (J w6 0) 1 1 (Tm.cells ⟨ge,ae,ne,ce,dg (x).2.1.natAbs,gf,af,nf,cf,dg (x).2.2.natAbs,(t).m0,(t).m1,(t).m2,(t).m3⟩) qM qM (Dp _ _ _) (by simp [Tm.cells,Value.oneCell']) qI qN qB (by have:=HB.size;have:=iu.size;simp only [Aj];omega) _ rfl ?_;intro gg cap w7 ie ak pq IE;have ez:some g≠Value.ownBlock v5:=(fun e=>by have:=Dj sb.out.own _ e.symm;omega);replace e0:=ak.cell (Bb ((Ac w6 w6).alloc (Ad _) _) e0) ez;replace e1:=ak.cell (Bb ((Ac w6 w6).alloc (Ad _) _) e1) ez;replace e2:=ak.cell (Bb ((Ac w6 w6).alloc (Ad _) _) e2) ez;replace e3:=ak.cell (Bb ((Ac w6 w6).alloc (Ad _) _) e3) ez;replace e4:=ak.cell (Bb ((Ac w6 w6).alloc (Ad _) _) e4) ez;replace e5:=ak.cell (Bb ((Ac w6 w6).alloc (Ad _) _) e5) ez;replace e6:=ak.cell (Bb ((Ac w6 w6).alloc (Ad _) _) e6) ez;replace e7:=ak.cell (Bb ((Ac w6 w6).alloc (Ad _) _) e7) ez))
    have DF:=iu.size;have hzo:=HB.size;have CJ:Et w7 wo (.slice (E gg) (out.length+1) cap) (fun j=>if j=out.length then (⟨ge,ae,ne,ce,dg (x).2.1.natAbs,gf,af,nf,cf,dg (x).2.2.natAbs,(t).m0,(t).m1,(t).m2,(t).m3⟩:Tm) else s j) (out++[x]):=qGa;have wh:xp wo w7:=((xo HB iu).alloc qB _).grown ak (by simp only [Aj];omega) (fun k hk=>Dj sb.out.own k hk);clear ie ak pq iq pk po ee iu e0 e1 e2 e3 e4 e5 e6 e7 sb eh mz ez DF HO HB;have hq:=fun W=>J3 W g o l.length c hc
    have JQ:Hid (PW l∧PW []∧Cj K l∧Cj K' []):=Ae ⟨HW.out.1.tl,HW.out.2.1,HW.out.2.2.1.tl,HW.out.2.2.2⟩;have LO:Hid (Cf l0 EG=(out++[x])++Cf l []):=Ae (by rw [HE.out,Me,Me];simp);clear HW HE;go_wp2_with fail;go_roundw
    case rel=>exact ⟨some (tlA g o c),l.length,c-1,l,a',0,c',[],_,out++[x],rfl,rfl,hp.tail,BX,JQ,LO,CJ,by simp only [A8,List.length_singleton,List.length_cons,List.length_nil] at hlen ⊢;omega,wh⟩
    case measure=>(simp only [Rr];omega)
   | cons y l' =>
    obtain ⟨g',o',t',rfl,rfl,jf,CI,se,yp⟩:=BX.head;have jy:Bv t.m0 t.m1 t.m2 t.m3=x.1:=ph.key;have l9:Bv t'.m0 t'.m1 t'.m2 t'.m3=y.1:=yp.key;have WK:=Lu jx.s0 jx.s1 jx.s2 jx.s3 se.s0 se.s1 se.s2 se.s3;rw [jy,l9] at WK;have NW:=Ae WK;have IF:Hid (∀W,Θ 105 #[.int .u8 0,.agg #[U t.m0,U t.m1,U t.m2,U t.m3],.agg #[U t'.m0,U t'.m1,U t'.m2,U t'.m3]] W fun e w'=>e=.returned (M (Dd (Bn t.m0 t.m1 t.m2 t.m3) (Bn t'.m0 t'.m1 t'.m2 t'.m3)))∧xp W w'):=Ae fun W=>Uj W _ _ _ _ _ _ _ _ ⟨qB,by have:=jx.s0;omega⟩ ⟨qB,by have:=jx.s1;omega⟩ ⟨qB,by have:=jx.s2;omega⟩ ⟨qB,by have:=jx.s3;omega⟩ ⟨qB,by have:=se.s0;omega⟩ ⟨qB,by have:=se.s1;omega⟩ ⟨qB,by have:=se.s2;omega⟩ ⟨qB,by have:=se.s3;omega⟩
    clear jy l9 WK;obtain ⟨e0,e1,e2,e3,e4,e5,e6,e7⟩:=jn.keep HB;obtain ⟨QL,QM,QN,QO,JR,JS,JT,JU⟩:=CI.keep HB;rcases (by omega:x.1<y.1∨y.1<x.1∨x.1=y.1) with bj|bj|heq
    ·have hv:Dd (Bn t.m0 t.m1 t.m2 t.m3) (Bn t'.m0 t'.m1 t'.m2 t'.m3)=-1:=by rw [NW.out];exact C6 qB
     have HC:=IF.out;simp only [hv] at HC;clear hv NW IF;replace e4:=Bk e4;replace e5:=Bk e5;replace e6:=Bk e6;replace e7:=Bk e7;replace JR:=Bk JR;replace JS:=Bk JS;replace JT:=Bk JT;replace JU:=Bk JU;clear e0 e1 e2 e3 QL QM QN QO;go_wp2_with fail;(refine Bi qE qE ?_;(repeat (go_big_quiet_step (first|(go_at_call 105;exact Cr (HC _)))));refine wpQuiet_nil ?_;intro _ cw;obtain ⟨nq,cw⟩:=cw;subst cw);obtain ⟨w3,ea⟩:=nq;try dsimp only
     clear e4 e5 e6 e7 JR JS JT JU HC;replace HO:=HO.keep ea;replace HB:=xo HB ea;have eh:=(yp.frac se (HW.out.2.1.good y (List.mem_cons_self ..)).1).keep HB;have mz:=se.keep HB;obtain ⟨e0,e1,e2,e3,e4,e5,e6,e7⟩:=CI.keep HB;have QK:=Ae yp;have SV:=Aa _ _ CI.e0;have sb:=Ae HO;have sf:=hlen;simp only [List.length_cons,List.length_nil] at sf;have f1:=(HW.out.2.2.2 y (List.mem_cons_self ..)).1;have f2:=(HW.out.2.2.2 y (List.mem_cons_self ..)).2;have jh:=eh.top.rd.len;have ki:=eh.low.rd.len;have g1:_≤1000000:=Ah (Nat.le_of_eq jh.symm) (Ah f1 qB);have g2:_≤1000000:=Ah (Nat.le_of_eq ki.symm) (Ah f2 qB);clear f1 f2 jh ki;go_wp2_with fail;go_region_held3 (fun W=>Z W g' o' (.bool (t').g1)∧Z W g' (o'+1) (.slice (t').a1 (t').n1 (t').c1)∧Z W g' (o'+2) (.bool (t').g2)∧Z W g' (o'+3) (.slice (t').a2 (t').n2 (t').c2)∧Z W g' (o'+4) (U (t').m0)∧Z W g' (o'+5) (U (t').m1)∧Z W g' (o'+6) (U (t').m2)∧Z W g' (o'+7) (U (t').m3)) (exact qK) (first
      | (go_at_call 106;(with_reducible refine (Lw _ _ _ _ _ _ _ _ _ _ _ (eh.keep qD) g2 g1).mono ?_);rintro e w6 ⟨ge,ae,ne,ce,gf,af,nf,cf,rfl,iq,pk,po,ee⟩;have iu:=zP w3 ee;replace ⟨e0,e1,e2,e3,e4,e5,e6,e7⟩:=xl iu e0 e1 e2 e3 e4 e5 e6 e7)
      | (refine step_append_lies _ qM _ _ _ qM wo 58 i0 (.agg #[.bool false,.slice none 0 0,.bool false,.slice none 0 0,U 0,U 0,U 0,U 0]) 8 72 underlying24 hi dw ed en rfl qI _ out.length (Cs s out.length) qM ((Bf sb.out.own iu).alloc _) (J w6 0) 1 1 (Tm.cells ⟨ge,ae,ne,ce,dg (y).2.1.natAbs,gf,af,nf,cf,dg (y).2.2.natAbs,(t').m0,(t').m1,(t').m2,(t').m3⟩) qM qM (Dp _ _ _) (by simp [Tm.cells,Value.oneCell']) qI qN qB (by have:=HB.size;have:=iu.size;simp only [Aj];omega) _ rfl ?_;intro gg cap w7 ie ak pq IE;have ez:some g'≠Value.ownBlock v5:=(fun e=>by have:=Dj sb.out.own _ e.symm;omega);replace e0:=ak.cell (Bb ((Ac w6 w6).alloc (Ad _) _) e0) ez;replace e1:=ak.cell (Bb ((Ac w6 w6).alloc (Ad _) _) e1) ez;replace e2:=ak.cell (Bb ((Ac w6 w6).alloc (Ad _) _) e2) ez;replace e3:=ak.cell (Bb ((Ac w6 w6).alloc (Ad _) _) e3) ez;replace e4:=ak.cell (Bb ((Ac w6 w6).alloc (Ad _) _) e4) ez;replace e5:=ak.cell (Bb ((Ac w6 w6).alloc (Ad _) _) e5) ez;replace e6:=ak.cell (Bb ((Ac w6 w6).alloc (Ad _) _) e6) ez;replace e7:=ak.cell (Bb ((Ac w6 w6).alloc (Ad _) _) e7) ez))
     have DF:=iu.size;have hzo:=HB.size;have CJ:Et w7 wo (.slice (E gg) (out.length+1) cap) (fun j=>if j=out.length then (⟨ge,ae,ne,ce,dg (y).2.1.natAbs,gf,af,nf,cf,dg (y).2.2.natAbs,(t').m0,(t').m1,(t').m2,(t').m3⟩:Tm) else s j) (out++[y]):=qGb;have wh:xp wo w7:=((xo HB iu).alloc qB _).grown ak (by simp only [Aj];omega) (fun k hk=>Dj sb.out.own k hk);clear ie ak pq iq pk po ee iu e0 e1 e2 e3 e4 e5 e6 e7 sb eh mz ez DF HO HB;have hq:=fun W=>J3 W g' o' l'.length c' jf
     have JQ:Hid (PW (x::l)∧PW l'∧Cj K (x::l)∧Cj K' l'):=Ae ⟨HW.out.1,HW.out.2.1.tl,HW.out.2.2.1,HW.out.2.2.2.tl⟩;have LO:Hid (Cf l0 EG=(out++[y])++Cf (x::l) l'):=Ae (by rw [HE.out,Cf,if_neg qB,if_pos bj];simp);clear HW HE bj;go_wp2_with fail;go_roundw
     case rel=>exact ⟨some ⟨g,o,none⟩,l.length+1,c,x::l,some (tlA g' o' c'),l'.length,c'-1,l',_,out++[y],rfl,rfl,hp,BX.tail,JQ,LO,CJ,by simp only [A8,List.length_singleton,List.length_cons,List.length_nil] at hlen ⊢;omega,wh⟩
     case measure=>(simp only [Rr];omega)
    ·have hv:Dd (Bn t.m0 t.m1 t.m2 t.m3) (Bn t'.m0 t'.m1 t'.m2 t'.m3)=1:=by rw [NW.out];exact C7 qB
     have HC:=IF.out;simp only [hv] at HC;clear hv NW IF;replace e4:=Bk e4;replace e5:=Bk e5;replace e6:=Bk e6;replace e7:=Bk e7;replace JR:=Bk JR;replace JS:=Bk JS;replace JT:=Bk JT;replace JU:=Bk JU;clear e0 e1 e2 e3 QL QM QN QO;go_wp2_with fail;(refine Bi qE qE ?_;(repeat (go_big_quiet_step (first|(go_at_call 105;exact Cr (HC _)))));refine wpQuiet_nil ?_;intro _ cw;obtain ⟨nq,cw⟩:=cw;subst cw);obtain ⟨w3,ea⟩:=nq;try dsimp only
     clear e4 e5 e6 e7 JR JS JT JU HC;replace HO:=HO.keep ea;replace HB:=xo HB ea;have eh:=(ph.frac jx (HW.out.1.good x (List.mem_cons_self ..)).1).keep HB;have mz:=jx.keep HB;obtain ⟨e0,e1,e2,e3,e4,e5,e6,e7⟩:=jn.keep HB;have QK:=Ae ph;have SV:=Aa _ _ jn.e0;have sb:=Ae HO;have sf:=hlen;simp only [List.length_cons,List.length_nil] at sf;have f1:=(HW.out.2.2.1 x (List.mem_cons_self ..)).1;have f2:=(HW.out.2.2.1 x (List.mem_cons_self ..)).2;have jh:=eh.top.rd.len;have ki:=eh.low.rd.len;have g1:_≤1000000:=Ah (Nat.le_of_eq jh.symm) (Ah f1 qB);have g2:_≤1000000:=Ah (Nat.le_of_eq ki.symm) (Ah f2 qB);clear f1 f2 jh ki;go_wp2_with fail;go_region_held3 (fun W=>Z W g o (.bool (t).g1)∧Z W g (o+1) (.slice (t).a1 (t).n1 (t).c1)∧Z W g (o+2) (.bool (t).g2)∧Z W g (o+3) (.slice (t).a2 (t).n2 (t).c2)∧Z W g (o+4) (U (t).m0)∧Z W g (o+5) (U (t).m1)∧Z W g (o+6) (U (t).m2)∧Z W g (o+7) (U (t).m3)) (exact qK) (first
      | (go_at_call 106;(with_reducible refine (Lw _ _ _ _ _ _ _ _ _ _ _ (eh.keep qD) g2 g1).mono ?_);rintro e w6 ⟨ge,ae,ne,ce,gf,af,nf,cf,rfl,iq,pk,po,ee⟩;have iu:=zP w3 ee;replace ⟨e0,e1,e2,e3,e4,e5,e6,e7⟩:=xl iu e0 e1 e2 e3 e4 e5 e6 e7)
      | (refine step_append_lies _ qM _ _ _ qM wo 58 i0 (.agg #[.bool false,.slice none 0 0,.bool false,.slice none 0 0,U 0,U 0,U 0,U 0]) 8 72 underlying24 hi dw ed en rfl qI _ out.length (Cs s out.length) qM ((Bf sb.out.own iu).alloc _) (J w6 0) 1 1 (Tm.cells ⟨ge,ae,ne,ce,dg (x).2.1.natAbs,gf,af,nf,cf,dg (x).2.2.natAbs,(t).m0,(t).m1,(t).m2,(t).m3⟩) qM qM (Dp _ _ _) (by simp [Tm.cells,Value.oneCell']) qI qN qB (by have:=HB.size;have:=iu.size;simp only [Aj];omega) _ rfl ?_;intro gg cap w7 ie ak pq IE;have ez:some g≠Value.ownBlock v5:=(fun e=>by have:=Dj sb.out.own _ e.symm;omega);replace e0:=ak.cell (Bb ((Ac w6 w6).alloc (Ad _) _) e0) ez;replace e1:=ak.cell (Bb ((Ac w6 w6).alloc (Ad _) _) e1) ez;replace e2:=ak.cell (Bb ((Ac w6 w6).alloc (Ad _) _) e2) ez;replace e3:=ak.cell (Bb ((Ac w6 w6).alloc (Ad _) _) e3) ez;replace e4:=ak.cell (Bb ((Ac w6 w6).alloc (Ad _) _) e4) ez;replace e5:=ak.cell (Bb ((Ac w6 w6).alloc (Ad _) _) e5) ez;replace e6:=ak.cell (Bb ((Ac w6 w6).alloc (Ad _) _) e6) ez;replace e7:=ak.cell (Bb ((Ac w6 w6).alloc (Ad _) _) e7) ez))
     have DF:=iu.size;have hzo:=HB.size;have CJ:Et w7 wo (.slice (E gg) (out.length+1) cap) (fun j=>if j=out.length then (⟨ge,ae,ne,ce,dg (x).2.1.natAbs,gf,af,nf,cf,dg (x).2.2.natAbs,(t).m0,(t).m1,(t).m2,(t).m3⟩:Tm) else s j) (out++[x]):=qGb;have wh:xp wo w7:=((xo HB iu).alloc qB _).grown ak (by simp only [Aj];omega) (fun k hk=>Dj sb.out.own k hk);clear ie ak pq iq pk po ee iu e0 e1 e2 e3 e4 e5 e6 e7 sb eh mz ez DF HO HB;have hq:=fun W=>J3 W g o l.length c hc
     have JQ:Hid (PW l∧PW (y::l')∧Cj K l∧Cj K' (y::l')):=Ae ⟨HW.out.1.tl,HW.out.2.1,HW.out.2.2.1.tl,HW.out.2.2.2⟩;have LO:Hid (Cf l0 EG=(out++[x])++Cf l (y::l')):=Ae (by rw [HE.out,Cf,if_pos bj];simp);clear HW HE bj;go_wp2_with fail;go_roundw
     case rel=>exact ⟨some (tlA g o c),l.length,c-1,l,some ⟨g',o',none⟩,l'.length+1,c',y::l',_,out++[x],rfl,rfl,hp.tail,BX,JQ,LO,CJ,by simp only [A8,List.length_singleton,List.length_cons,List.length_nil] at hlen ⊢;omega,wh⟩
     case measure=>(simp only [Rr];omega)
    ·have hv:Dd (Bn t.m0 t.m1 t.m2 t.m3) (Bn t'.m0 t'.m1 t'.m2 t'.m3)=0:=by rw [NW.out,heq];exact Du _
     have HC:=IF.out;simp only [hv] at HC;clear hv NW IF;replace e4:=Bk e4;replace e5:=Bk e5;replace e6:=Bk e6;replace e7:=Bk e7;replace JR:=Bk JR;replace JS:=Bk JS;replace JT:=Bk JT;replace JU:=Bk JU;clear e0 e1 e2 e3 QL QM QN QO;go_wp2_with fail;(refine Bi qE qE ?_;(repeat (go_big_quiet_step (first|(go_at_call 105;exact Cr (HC _)))));refine wpQuiet_nil ?_;intro _ cw;obtain ⟨nq,cw⟩:=cw;subst cw);obtain ⟨w3,ea⟩:=nq;try dsimp only
     clear e4 e5 e6 e7 JR JS JT JU HC;replace HO:=HO.keep ea;replace HB:=xo HB ea;have iq:=(ph.frac jx (HW.out.1.good x (List.mem_cons_self ..)).1).keep HB;have sk:=(yp.frac se (HW.out.2.1.good y (List.mem_cons_self ..)).1).keep HB;have fx:=HW.out.2.2.1 x (List.mem_cons_self ..);have fy:=HW.out.2.2.2 y (List.mem_cons_self ..);have b1:t.n1≤1000000000:=by have h1:=fx.1;have h2:=iq.top.rd.len;omega
     have b2:t.n2≤1000000000:=by have h1:=fx.2;have h2:=iq.low.rd.len;omega
     have b3:t'.n1≤1000000000:=by have h1:=fy.1;have h2:=sk.top.rd.len;omega
     have b4:t'.n2≤1000000000:=by have h1:=fy.2;have h2:=sk.low.rd.len;omega
     have adq:=Ae (Ch.add (HW.out.1.good x (List.mem_cons_self ..)).1 (HW.out.2.1.good y (List.mem_cons_self ..)).1 fx fy);clear fx fy;obtain ⟨e0,e1,e2,e3,e4,e5,e6,e7⟩:=jn.keep HB;obtain ⟨QL,QM,QN,QO,JR,JS,JT,JU⟩:=CI.keep HB;have zt:=Nat.lt_of_lt_of_le (Aa _ _ jn.e0) HB.size;have adr:=Nat.lt_of_lt_of_le (Aa _ _ CI.e0) HB.size;simp only at zt adr;have VE:¬g=w3.heap.size:=qB;have ads:¬g'=w3.heap.size:=qB;have am6:¬w3.heap.size=g:=qB;have am7:¬w3.heap.size=g':=qB;go_upto_region 12 with fail
     go_cut [7] (fun v7 wc=>Aad w3 wc (He x.2 y.2) v7)
     case first =>
      clear e4 e5 e6 e7 JR JS JT JU;go_region_held3 (fun W=>Z W g o (.bool t.g1)∧Z W g (o+1) (.slice t.a1 t.n1 t.c1)∧Z W g (o+2) (.bool t.g2)∧Z W g (o+3) (.slice t.a2 t.n2 t.c2)∧Z W g' o' (.bool t'.g1)∧Z W g' (o'+1) (.slice t'.a1 t'.n1 t'.c1)∧Z W g' (o'+2) (.bool t'.g2)∧Z W g' (o'+3) (.slice t'.a2 t'.n2 t'.c2)) (exact qK) (first
       | (go_at_call 189;(with_reducible refine (iV (World.drew (World.alloc _ _)) _ _ _ _ _ _ _ _ _ _ (iq.keep qD) _ _ _ _ _ _ _ _ _ _ (sk.keep qD) b1 b2 b3 b4).mono ?_);rintro e w6 ⟨ge,ae,ne,ce,gf,af,nf,cf,rfl,ED,WM,WN,ee⟩;have iu:=zP w3 ee;replace ⟨e0,e1,e2,e3,QL,QM,QN,QO⟩:=xl iu e0 e1 e2 e3 QL QM QN QO;have zc0:Z w6 w3 0 (.bool false):=Bb ee qJ;have LP:Y w6 w3 0:=(Ab ee qJ).trans qJ;have zc1:Z w6 w3 1 (.slice none 0 0):=Bb ee qJ;have LQ:Y w6 w3 1:=(Ab ee qJ).trans qJ;have zc2:Z w6 w3 2 (.bool false):=Bb ee qJ;have LR:Y w6 w3 2:=(Ab ee qJ).trans qJ;have zc3:Z w6 w3 3 (.slice none 0 0):=Bb ee qJ;have LS:Y w6 w3 3:=(Ab ee qJ).trans qJ)
       | (go_at_call 189;(with_reducible refine (iV _ _ _ _ _ _ _ _ _ _ _ (iq.keep qD) _ _ _ _ _ _ _ _ _ _ (sk.keep qD) b1 b2 b3 b4).mono ?_);rintro e w6 ⟨ge,ae,ne,ce,gf,af,nf,cf,rfl,ED,WM,WN,ee⟩;have iu:=zP w3 ee;replace ⟨e0,e1,e2,e3,QL,QM,QN,QO⟩:=xl iu e0 e1 e2 e3 QL QM QN QO))
      ·go_wp2_with fail;go_meet
       case rel =>
        exact ⟨_,_,_,_,_,_,_,_,_,rfl,iu.size,qJ,qJ,qJ,qJ,ED.keep ((Ac _ _).alloc (Ad _) _),Nw.mono (WM.newA ED.top.rd) qH,Nw.mono (WN.newA ED.low.rd) qH,iu.alloc iu.size _⟩
      ·go_wp2_with fail;go_meet
       case rel =>
        have hT1:w3.heap.size<(World.drew (World.alloc w3 (Obj.cells #[Value.bool false,Value.slice none 0 0,Value.bool false,Value.slice none 0 0] 53))).heap.size:=qH;have m1:Nw (w3+1) ne ae:=Nw.mono (WM.newA ED.top.rd) qH;have m2:Nw (w3+1) nf af:=Nw.mono (WN.newA ED.low.rd) qH;exact ⟨_,_,_,_,_,_,_,_,_,rfl,Ad _,by simp [go_sem,zc0,LP],by simp [go_sem,zc1,LQ],by simp [go_sem,zc2,LR],by simp [go_sem,zc3,LS],ED.butR m1 m2 (Bm _ (Bm _ (Bm _ (Bm _ (Cn _ _))))) (fun k hk=>by cases hk;exact Ag _),m1.mono (Nat.le_succ _),m2.mono (Nat.le_succ _),Up iu _ (Ad _) _ _ _ _⟩
     case rest =>
      obtain ⟨b,ge,ae,ne,ce,gf,af,nf,cf,rfl,hbb,k0,k1,k2,k3,hfc,m1,m2,FM⟩:=hcut;have HV:=Ae (fun gb e=>(HO.own.lt gb e).2);have DG:=HO.keep FM;have LV:=xo HB FM;have BD:=HB.size;clear e0 e1 e2 e3 e4 e5 e6 e7 QL QM QN QO JR JS JT JU b1 b2 b3 b4 iq sk HO HB VE ads am6 am7 zt adr;have l1:ne<35184372088829:=by have h1:=adq.out.1;have h2:=hfc.top.rd.len;omega
      have l2:nf<35184372088829:=by have h1:=adq.out.2;have h2:=hfc.low.rd.len;omega
      have hq:=fun W=>J3 W g o l.length c hc
      have SZ:=fun W=>J3 W g' o' l'.length c' jf
      have JQ:Hid (PW l∧PW l'∧Cj K l∧Cj K' l'):=Ae ⟨HW.out.1.tl,HW.out.2.1.tl,HW.out.2.2.1.tl,HW.out.2.2.2.tl⟩;by_cases hz:(He x.2 y.2).1=0
      ·have ig:Bz (He x.2 y.2).1 0=0:=by rw [hz,Du]
       have LO:Hid (Cf l0 EG=out++Cf l l'):=Ae (by rw [HE.out,Cf,if_neg qB,if_neg qB,if_pos hz]);clear HW HE hz heq;go_wp2_with (first|(go_at_call 175;refine (Hy wc ge ae ne ce _ gf af nf cf _ hfc l2 l1).mono ?_;rintro e w8 ⟨rfl,jt⟩;rw [ig]));go_roundw
       case rel=>exact ⟨some (tlA g o c),l.length,c-1,l,some (tlA g' o' c'),l'.length,c'-1,l',s,out,rfl,rfl,hp.tail,BX.tail,JQ,LO,DG.keep jt,by simp only [List.length_cons] at hlen ⊢;omega,(xo LV jt)⟩
       case measure=>(simp only [Rr];omega)
      ·have ig:(Bz (He x.2 y.2).1 0==0)=false:=by rw [beq_eq_false_iff_ne];exact fun e=>hz (Do.1 e)
       have LO:Hid (Cf l0 EG=(out++[(x.1,He x.2 y.2)])++Cf l l'):=Ae (by rw [HE.out,Cf,if_neg qB,if_neg qB,if_neg hz];simp);clear HW HE hz;go_wp2_with (first|(go_at_call 175;refine (Hy wc ge ae ne ce _ gf af nf cf _ hfc l2 l1).mono ?_;rintro e w8 ⟨rfl,jt⟩));have VJ:=xo LV jt;obtain ⟨e0,e1,e2,e3,e4,e5,e6,e7⟩:=jn.keep VJ;clear e0 e1 e2 e3;replace ⟨k0,k1,k2,k3⟩:=xj jt k0 k1 k2 k3;have iq:=hfc.keep jt;have sb:=Ae (DG.keep jt);have SV:=Aa _ _ jn.e0;have mz:=Ae (Ax jx.s0 (Ax jx.s1 (Ax jx.s2 jx.s3)));have QK:=Ae ph;have hz8:=VJ.size;have sf:=hlen;simp only [List.length_cons] at sf;have ez:∀q,some (J g q:Addr).block≠Value.ownBlock v5:=fun q e=>by have:=Dj sb.out.own _ e.symm;simp only at this SV;omega
       have LW:∀q,some (J b q:Addr).block≠Value.ownBlock v5:=fun q e=>by have:=HV.out _ e.symm;simp only at this;omega
       clear DG hfc jt LV FM;go_region_held3 (fun W=>Z W g (o+4) (U t.m0)∧Z W g (o+5) (U t.m1)∧Z W g (o+6) (U t.m2)∧Z W g (o+7) (U t.m3)∧Z W b 0 (.bool ge)∧Z W b 1 (.slice ae ne ce)∧Z W b 2 (.bool gf)∧Z W b 3 (.slice af nf cf)) (exact qK) (first
        | (refine step_append_lies _ qM _ _ _ qM wo 58 i0 (.agg #[.bool false,.slice none 0 0,.bool false,.slice none 0 0,U 0,U 0,U 0,U 0]) 8 72 underlying24 hi dw ed en rfl qI _ out.length (Cs s out.length) qM (Bf (sb.out.own.alloc _) ((Ac _ _).drew)) (J w8 0) 1 1 (Tm.cells ⟨ge,ae,ne,ce,dg (He x.2 y.2).1.natAbs,gf,af,nf,cf,dg (He x.2 y.2).2.natAbs,t.m0,t.m1,t.m2,t.m3⟩) qM qM (fun j u h=>Dp w8 _ _ j u h) (by simp [Tm.cells,Value.oneCell']) qI qN qB qL _ rfl ?_;intro gg cap w7 ie ak pq IE;replace e4:=ak.cell (Bb (((Ac w8 w8).alloc (Ad _) _).drew) e4) (ez _);replace e5:=ak.cell (Bb (((Ac w8 w8).alloc (Ad _) _).drew) e5) (ez _);replace e6:=ak.cell (Bb (((Ac w8 w8).alloc (Ad _) _).drew) e6) (ez _);replace e7:=ak.cell (Bb (((Ac w8 w8).alloc (Ad _) _).drew) e7) (ez _);replace k0:=ak.cell (Bb (((Ac w8 w8).alloc (Ad _) _).drew) k0) (LW _);replace k1:=ak.cell (Bb (((Ac w8 w8).alloc (Ad _) _).drew) k1) (LW _);replace k2:=ak.cell (Bb (((Ac w8 w8).alloc (Ad _) _).drew) k2) (LW _);replace k3:=ak.cell (Bb (((Ac w8 w8).alloc (Ad _) _).drew) k3) (LW _)))
       have CJ:Et w7 wo (.slice (E gg) (out.length+1) cap) (fun j=>if j=out.length then (⟨ge,ae,ne,ce,dg (He x.2 y.2).1.natAbs,gf,af,nf,cf,dg (He x.2 y.2).2.natAbs,t.m0,t.m1,t.m2,t.m3⟩:Tm) else s j) (out++[(x.1,He x.2 y.2)]):=by
        refine Et.add ((sb.out.keep ((Ac _ _).alloc (Ad _) _)).keep ((Ac _ _).drew)) ⟨iq.top.neg,rfl,iq.low.neg,rfl,QK.out.key⟩ ⟨(iq.top.rd.alloc _).drew,(iq.low.rd.alloc _).drew,mz.out.1,mz.out.2.1,mz.out.2.2.1,mz.out.2.2.2⟩ ⟨m1.mono BD,m2.mono BD⟩ (fun gb qq=>⟨m1.ap (HV.out gb qq),m2.ap (HV.out gb qq)⟩) ak ie ?_;exact qBs
       have wh:xp wo w7:=(((VJ.alloc qB _).drew)).grown ak qL (fun k hk=>Dj sb.out.own k hk);clear ie ak pq e4 e5 e6 e7 k0 k1 k2 k3 iq sb ez LW HV;go_wp2_with fail;go_roundw
       case rel=>exact ⟨some (tlA g o c),l.length,c-1,l,some (tlA g' o' c'),l'.length,c'-1,l',_,out++[(x.1,He x.2 y.2)],rfl,rfl,hp.tail,BX.tail,JQ,LO,CJ,by simp only [A8,List.length_cons,List.length_nil] at hlen ⊢;omega,wh⟩
       case measure=>(simp only [Rr];omega)
end Go.Proofs.YtfijkfdfbnfmmaaGreatDoor
end
