/- Plain words for the document's long division. -/
import Derived.Test.YtfijkfdfbnfmmaaGreatDoorQF9
set_option linter.unusedSimpArgs false
set_option linter.unusedVariables false
set_option maxRecDepth 100000
set_option maxHeartbeats 4000000
section
namespace Go.Proofs.YtfijkfdfbnfmmaaGreatDoor
open Proofs.Tryz
variable {p A len n V k m:Nat} {b l q d:Ξ}
structure N4 (A:Nat) (b:Ξ) (p often len i j9:Nat) (l:Ξ):Prop where
 len:l.length=len
 lt:∀x∈l,x<1000000000
 small:j9≤often+1
 eq:val l+often*(1000000000 ^ p*val (b.take i))=A+1000000000 ^ (p+i)*j9
theorem N4.start {often:Nat} (hl:∀x∈l,x<1000000000):N4 (val l) b p often l.length 0 0 l :=
 ⟨rfl,hl,qB,by simp [val]⟩
theorem N4.step {often i j9:Nat} (h:N4 A b p often len i j9 l) (hb:∀x∈b,x<1000000000) (hi:p+i<len) {x:Nat} (hn:n=j9+often*b.getD i 0) (hx:x=l.getD (p+i) 0) :
  (x<n%1000000000→N4 A b p often len (i+1) (n/1000000000+1) (l.set (p+i) (x+1000000000-n%1000000000))) ∧
  (¬x<n%1000000000→N4 A b p often len (i+1) (n/1000000000) (l.set (p+i) (x-n%1000000000))):=by
 have hj:p+i<l.length:=by rw [h.len];exact hi
 have BN:=Cx hb i;have AI:=Cx h.lt (p+i);rw [←hx] at AI;have hs:=h.small;have uh:n/1000000000≤often:=by
  have h1:often*b.getD i 0≤often*999999999:=At _ qB;have:n≤often*1000000000+1:=qB;omega
 have hpw:1000000000 ^ (p+(i+1))=1000000000 ^ (p+i)*1000000000:=by rw [←Nat.add_assoc,Nat.pow_succ]
 have hval:1000000000 ^ p*val (b.take (i+1))=1000000000 ^ (p+i)*b.getD i 0+1000000000 ^ p*val (b.take i):=by
  rw [En,Nat.mul_add,←Nat.mul_assoc,←Nat.pow_add,Nat.add_comm]
 have heq:=h.eq;have hdm:=Nat.div_add_mod n 1000000000;constructor
 ·intro bj;have KH:=Nd l (p+i) (x+1000000000-n%1000000000) hj;rw [←hx] at KH;refine ⟨by rw [List.length_set];exact h.len,Ho h.lt qB,qB,?_⟩;rw [hval,hpw];generalize val (l.set (p+i) (x+1000000000-n%1000000000))=vl' at *;generalize 1000000000 ^ p*val (b.take i)=T at *;have e1:1000000000 ^ (p+i)*(x+1000000000-n%1000000000)+1000000000 ^ (p+i)*(n%1000000000)=1000000000 ^ (p+i)*x+1000000000 ^ (p+i)*1000000000:=by
   rw [←Nat.mul_add,←Nat.mul_add];congr 1;omega
  have e2:1000000000 ^ (p+i)*(1000000000*(n/1000000000))+1000000000 ^ (p+i)*(n%1000000000)=1000000000 ^ (p+i)*j9+1000000000 ^ (p+i)*(often*b.getD i 0):=by
   rw [←Nat.mul_add,←Nat.mul_add];congr 1;omega
  rw [Nat.mul_add often,Nat.mul_left_comm often,Nat.mul_assoc _ 1000000000,Nat.mul_add 1000000000,Nat.mul_one,Nat.mul_add (1000000000 ^ (p+i))];omega
 ·intro bj;have KH:=Nd l (p+i) (x-n%1000000000) hj;rw [←hx] at KH;refine ⟨by rw [List.length_set];exact h.len,Ho h.lt qB,qB,?_⟩;rw [hval,hpw];generalize val (l.set (p+i) (x-n%1000000000))=vl' at *;generalize 1000000000 ^ p*val (b.take i)=T at *;have e1:1000000000 ^ (p+i)*(x-n%1000000000)+1000000000 ^ (p+i)*(n%1000000000)=1000000000 ^ (p+i)*x:=by
   rw [←Nat.mul_add];congr 1;omega
  have e2:1000000000 ^ (p+i)*(1000000000*(n/1000000000))+1000000000 ^ (p+i)*(n%1000000000)=1000000000 ^ (p+i)*j9+1000000000 ^ (p+i)*(often*b.getD i 0):=by
   rw [←Nat.mul_add,←Nat.mul_add];congr 1;omega
  rw [Nat.mul_add often,Nat.mul_left_comm often,Nat.mul_assoc _ 1000000000];omega
theorem N4.done {often i j9:Nat} (h:N4 A b p often len i j9 l) (hi:p+i=len) (hb:b.length≤i) (hle:often*(1000000000 ^ p*val b)≤A) :
  val l=A-often*(1000000000 ^ p*val b):=by
 have h1:=h.eq;rw [As hb,hi] at h1;have h2:=Ep l h.lt;rw [h.len] at h2;rcases Aq j9 with h3|h3
 ·rw [h3,Nat.mul_zero] at h1;omega
 ·have:1000000000 ^ len*1≤1000000000 ^ len*j9:=At _ h3;omega
theorem xS (l:Ξ) (j:Nat):1000000000 ^ j*(l.getD j 0+1000000000*l.getD (j+1) 0)≤val l:=by
 rcases Nat.lt_or_ge j l.length with h1|h1
 ·have h2:=Ei l j qB;have h3:=F5 l j h1;have h4:l.getD (j+1) 0≤val (l.drop (j+1)):=by
   rcases Nat.lt_or_ge (j+1) l.length with h5|h5
   ·rw [F5 l (j+1) h5];omega
   ·simp [List.getD,List.getElem?_eq_none h5]
  have h5:1000000000 ^ j*(l.getD j 0+1000000000*l.getD (j+1) 0)≤1000000000 ^ j*val (l.drop j):=At _ (by rw [h3];omega);omega
 ·simp [List.getD,List.getElem?_eq_none h1,List.getElem?_eq_none (show l.length≤j+1 from qB)]
structure Lc (A V n k:Nat) (l q:Ξ):Prop where
 llen:l.length=n
 lt:∀x∈l,x<1000000000
 qlen:q.length=n+1
 qlt:∀x∈q,x<1000000000
 kn:k<n+1
 qz:∀j,j<k→q.getD j 0=0
 below:val l+q.getD k 0*(1000000000 ^ k*V)<1000000000 ^ (k+1)*V
 eq:val l+V*val q=A
theorem Lc.start (hl:l.length=n) (bj:∀x∈l,x<1000000000) (hk:k<n+1) (hb:val l<1000000000 ^ (k+1)*V):Lc (val l) V n k l (List.replicate (n+1) 0) where
 llen:=hl
 lt:=bj
 qlen:=qH
 qlt _ hx:=by rw [(List.mem_replicate.1 hx).2];omega
 kn:=hk
 qz j hj:=by simp only [List.getD,List.getElem?_replicate];split<;>rfl
 below:=by
  have:(List.replicate (n+1) 0).getD k 0=0:=by simp only [List.getD,List.getElem?_replicate];split<;>rfl
  rw [this,Nat.zero_mul,Nat.add_zero];exact hb
 eq:=by rw [Hv,Nat.mul_zero,Nat.add_zero]
theorem Lc.often {t:Nat} (h:Lc A V n k l q) (hm:2≤m) (hV:V<1000000000 ^ (m-1)*(t+1)) (BO:0<V) :
  (1000000000*l.getD (k+m) 0+l.getD (k+m-1) 0)/(t+1)*(1000000000 ^ k*V)≤val l∧(1000000000*l.getD (k+m) 0+l.getD (k+m-1) 0)/(t+1)<1000000000:=by
 have h1:=xS l (k+m-1);rw [show k+m-1+1=k+m from qB,Nat.add_comm (l.getD (k+m-1) 0)] at h1;generalize 1000000000*l.getD (k+m) 0+l.getD (k+m-1) 0=top at *;have h2:top/(t+1)*(t+1)≤top:=Nat.div_mul_le_self _ _;generalize top/(t+1)=o at *;obtain ⟨X,hX⟩:∃X,X=1000000000 ^ (m-1):=⟨_,rfl⟩;obtain ⟨K,hK⟩:∃K,K=1000000000 ^ k:=⟨_,rfl⟩;have e1:1000000000 ^ (k+m-1)=K*X:=by rw [hX,hK,←Nat.pow_add];congr 1;omega
 rw [←hX] at hV;rw [e1] at h1;rw [←hK];have h3:o*V≤X*top:=by
  have h4:o*V≤o*(X*(t+1)):=At _ qB;have h5:o*(X*(t+1))=X*(o*(t+1)):=Nat.mul_left_comm _ _ _;have h6:X*(o*(t+1))≤X*top:=At _ h2;omega
 refine ⟨?_,?_⟩
 ·have h4:K*(o*V)≤K*(X*top):=At _ h3;have e2:o*(K*V)=K*(o*V):=Nat.mul_left_comm _ _ _;have e3:K*X*top=K*(X*top):=Nat.mul_assoc _ _ _;omega
 ·have h7:=h.below;rw [Nat.pow_succ,←hK] at h7;have h8:K*(X*top)<K*(1000000000*(X*(t+1))):=by
   have h9:K*1000000000*V≤K*1000000000*(X*(t+1)):=At _ qB;rw [Nat.mul_assoc K 1000000000 (X*_)] at h9;rw [Nat.mul_assoc] at h1;omega
  have h9:=Nat.lt_of_mul_lt_mul_left h8;rw [Nat.mul_left_comm] at h9;have h10:=Nat.lt_of_mul_lt_mul_left h9;rcases Nat.lt_or_ge o 1000000000 with h11|h11
  ·exact h11
  ·exfalso;have:1000000000*(t+1)≤o*(t+1):=Nat.mul_le_mul_right _ h11;omega
theorem Lc.step {o:Nat} {l':Ξ} (h:Lc A V n k l q) (BO:0<V) (ho:o*(1000000000 ^ k*V)≤val l) (hl:l'.length=n) (bj:∀x∈l',x<1000000000) (hv:val l'=val l-o*(1000000000 ^ k*V)) :
  q.getD k 0+o<1000000000∧Lc A V n k l' (q.set k (q.getD k 0+o)):=by
 have hb:=h.below;have vv:=h.kn;have uo:=h.qlen;have KH:=Nd q k (q.getD k 0+o) qB;have mh:q.getD k 0+o<1000000000:=by
  have h1:(q.getD k 0+o)*(1000000000 ^ k*V)<1000000000*(1000000000 ^ k*V):=by
   have e1:1000000000 ^ (k+1)*V=1000000000*(1000000000 ^ k*V):=by rw [Nat.pow_succ,Nat.mul_comm (1000000000 ^ k),Nat.mul_assoc]
   rw [Nat.add_mul];omega
  exact Nat.lt_of_mul_lt_mul_right h1
 refine ⟨mh,hl,bj,by rw [List.length_set];exact uo,Ho h.qlt mh,vv,?_,?_,?_⟩
 ·intro j hj;rw [Gu qB];exact h.qz j hj
 ·have:(q.set k (q.getD k 0+o)).getD k 0=q.getD k 0+o:=by simp [List.getD,show k<q.length from qB]
  rw [this,hv,Nat.add_mul];omega
 ·have heq:=h.eq;rw [Nat.mul_add] at KH;have e:val (q.set k (q.getD k 0+o))=val q+1000000000 ^ k*o:=qB;have e2:V*(1000000000 ^ k*o)=o*(1000000000 ^ k*V):=by rw [Nat.mul_left_comm V,Nat.mul_left_comm o,Nat.mul_comm o V]
  rw [e,hv,←heq,Nat.mul_add,e2];omega
theorem Lc.next (h:Lc A V n (k+1) l q) (hb:val l<1000000000 ^ (k+1)*V):Lc A V n k l q where
 llen:=h.llen
 lt:=h.lt
 qlen:=h.qlen
 qlt:=h.qlt
 kn:=by have:=h.kn;omega
 qz j hj:=h.qz j qB
 below:=by rw [h.qz k qB,Nat.zero_mul,Nat.add_zero];exact hb
 eq:=h.eq
theorem Lc.done (h:Lc A V n 0 l q) (BO:0<V) (hb:val l<V):val q=A/V∧val l=A%V:=by
 have h3:=(Nat.div_mod_unique BO).2 ⟨h.eq,hb⟩;exact ⟨h3.1.symm,h3.2.symm⟩
theorem yR (h:∀x∈d,x<1000000000) (hl:d.length=m) (hm:1≤m):val d<1000000000 ^ (m-1)*(d.getD (m-1) 0+1):=by
 have h1:=Ll (l:=d) (k:=m-1) qB;have h2:=Gz h (m-1) qB;rw [Nat.mul_add];omega
theorem dO (h:Dy d) (hl:d.length=m) (hm:1≤m):1000000000 ^ (m-1)≤val d:=by
 have h1:=Ll (l:=d) (k:=m-1) qB;have h2:=Yk h hl hm;have:1000000000 ^ (m-1)*1≤1000000000 ^ (m-1)*d.getD (m-1) 0:=At _ h2;omega
end Go.Proofs.YtfijkfdfbnfmmaaGreatDoor
end
section
namespace Go.Proofs.YtfijkfdfbnfmmaaGreatDoor
open Go.RowKit Proofs.Tryz
variable (w:World) (g1:Bool) (a1:Γ) (n1 c1:Nat) (p:Int) (g2:Bool) (a2:Γ) (n2 c2:Nat) (q:Int)
theorem Hp (x y:Nat):(dg (x*y)).length≤(dg x).length+(dg y).length:=by
 have h1:=Ep (dg x) (D0 x);have h2:=Ep (dg y) (D0 y);rw [Bq] at h1 h2;have h3:x*y<1000000000 ^ ((dg x).length+(dg y).length):=by rw [Nat.pow_add];exact Nat.mul_lt_mul'' h1 h2
 rcases Nat.lt_or_ge ((dg x).length+(dg y).length) (dg (x*y)).length with h4|h4
 ·exfalso;have h5:=dO (Cb (x*y)) rfl qB;rw [Bq] at h5;have h6:1000000000 ^ ((dg x).length+(dg y).length)≤1000000000 ^ ((dg (x*y)).length-1):=Nat.pow_le_pow_right qB qB;omega
 ·exact h4
theorem mB (h:Bo w g1 a1 n1 c1 p g2 a2 n2 c2 q)
  (g3:Bool) (a3:Γ) (n3 c3:Nat) (p':Int) (g4:Bool) (a4:Γ) (n4 c4:Nat) (q':Int) (h':Bo w g3 a3 n3 c3 p' g4 a4 n4 c4 q') (br:n1≤1000000000) (bp:n2≤1000000000) (ea:n3≤1000000000) (ec:n4≤1000000000) (k1 k2:Value) (D:Int) (hD:(dg D.natAbs).length<35184372088829)
  (ko:∀(W:World) (gx:Bool) (ax:Γ) (nx cx:Nat) (gy:Bool) (ay:Γ) (ny cy:Nat),xp w W→Bh W gx ax nx cx (p*q')→Bh W gy ay ny cy (p'*q)→Θ 164 #[.agg #[.bool gx,.slice ax nx cx],.agg #[.bool gy,.slice ay ny cy],k1,k2] W (Di W D)) :
  Θ 163 #[.agg #[.bool g1,.slice a1 n1 c1,.bool g2,.slice a2 n2 c2],.agg #[.bool g3,.slice a3 n3 c3,.bool g4,.slice a4 n4 c4],.func (.func 164) #[] #[k1,k2]] w (G5 w (D/(Int.gcd D (q*q'):Int)) ((q*q')/(Int.gcd D (q*q'):Int))):=by
 have ZS:=Ae ko;have HDL:=Ae hD;have hqq:0<q*q':=Int.mul_pos h.pos h'.pos;have HQQ:=Ae hqq;have uo:(dg (q*q').natAbs).length≤n2+n4:=qEy;have yu:=Ae uo;clear ko hD hqq uo;go_enter func163,ntmps163;go_wp2_with fail;refine Bt ?_;intro w0 cw;have vg:xp w w0:=by rw [cw];go_grown
 have R0:Z w0 (w+1+1) 0 (.bool false):=by rw [cw];simp [go_sem]
 have R1:Z w0 (w+1+1) 1 (.slice none 0 0):=by rw [cw];simp [go_sem]
 have R2:Z w0 (w+1+1) 2 (.bool false):=by rw [cw];simp [go_sem]
 have R3:Z w0 (w+1+1) 3 (.slice none 0 0):=by rw [cw];simp [go_sem]
 have fp:Y w0 (w+1+1) 0:=by rw [cw];simp [go_sem]
 have fq:Y w0 (w+1+1) 1:=by rw [cw];simp [go_sem]
 have fv:Y w0 (w+1+1) 2:=by rw [cw];simp [go_sem]
 have fw:Y w0 (w+1+1) 3:=by rw [cw];simp [go_sem]
 clear cw;refine (Rd _ _ _ _ _ _ _ _ _ _ _ (h.keep vg) _ _ _ _ _ _ _ _ _ _ (h'.keep vg) br bp ea ec).mono ?_;rintro e w1 ⟨gx,ax,nx,cx,gy,ay,ny,cy,gq,aq,nq,cq,rfl,hx,hy,hq,iq,sk,rj,hb⟩;have ir:=xo vg hb
 (replace ⟨R0,fp,R1,fq,R2,fv,R3,fw⟩:=xi hb R0 fp R1 fq R2 fv R3 fw)
 have jh:=ir.size;have jy:w.heap.size+1+1<w1:=Aa _ _ R0;clear hb vg iq sk rj;go_upto_region 2 with fail
 (refine Bx ?_;intro w2 df;have M0':Z w2 w1 0 (.bool gx):=(by rw [df];first|assumption|(simp [go_sem];done)|(simp [*,go_sem];done));have M1':Z w2 w1 1 (.slice ax nx cx):=(by rw [df];first|assumption|(simp [go_sem];done)|(simp [*,go_sem];done));have M2':Z w2 w1 2 (.bool gy):=(by rw [df];first|assumption|(simp [go_sem];done)|(simp [*,go_sem];done));have M3':Z w2 w1 3 (.slice ay ny cy):=(by rw [df];first|assumption|(simp [go_sem];done)|(simp [*,go_sem];done));have L0':Z w2 (w1+1) 0 (.bool gq):=(by rw [df];first|assumption|(simp [go_sem];done)|(simp [*,go_sem];done));have L1':Z w2 (w1+1) 1 (.slice aq nq cq):=(by rw [df];first|assumption|(simp [go_sem];done)|(simp [*,go_sem];done));have M0:=M0';clear M0';have M1:=M1';clear M1';have M2:=M2';clear M2';have M3:=M3';clear M3';have L0:=L0';clear L0';have L1:=L1';clear L1');have ia:xp w1 w2:=by rw [df];go_grown
 have UP:w1.heap.size<w2:=by rw [df];simp;omega
 (replace ⟨R0,fp,R1,fq,R2,fv,R3,fw⟩:=xi ia R0 fp R1 fq R2 fv R3 fw)
 have fg:=ir.trans (ia.mono jh);have NO:=hx.keep ia;have JC:=hy.keep ia;have uq:=hq.keep ia;obtain ⟨zh,hM⟩:∃zh,zh=w1.heap.size:=⟨_,rfl⟩;rw [←hM] at M0 M1 M2 M3 L0 L1 ⊢;have hMr:w.heap.size+1+1<zh:=qB;have SC:nq≤n2+n4:=by have h1:=uq.rd.len;have:=yu.out;omega
 clear df ia ir hM hx hy hq UP;have l9:w.heap.size+1+1+1≤w2:=Aa _ _ R0;have HB:=Ac w2 w2;go_region_held3 (fun W=>Z W zh 0 (.bool gx)∧Z W zh 1 (.slice ax nx cx)∧Z W zh 2 (.bool gy)∧Z W zh 3 (.slice ay ny cy)∧Z W (zh+1) 0 (.bool gq)∧Z W (zh+1) 1 (.slice aq nq cq)) (exact qK) (first
  | (go_at_call 164;(with_reducible refine (ZS.out _ _ _ _ _ _ _ _ _ (fg.trans ((by first|assumption|go_grown:xp w2 _).mono fg.size)) (NO.keep qR) (JC.keep qR)).mono ?_);rintro e w3 ⟨gd,ad,nd,cd,rfl,hd,hfd,hb⟩;replace HB:xp w2 w3:=Al qR (hb.mono qA);have fb:=HB.size;(replace ⟨R0,fp,R1,fq,R2,fv,R3,fw⟩:=xi HB R0 fp R1 fq R2 fv R3 fw;replace ⟨M0,M1,M2,M3⟩:=xj HB M0 M1 M2 M3;replace ⟨L0,L1⟩:=xk HB L0 L1);have CV:nd<35184372088829:=(by have h1:=hd.rd.len;have:=HDL.out;omega))
  | (go_at_call 218;(with_reducible refine (Ua _ _ _ _ _ D (hd.keep qQ) _ _ _ _ (q*q') (uq.keep qR) HQQ.out qB qB).mono ?_);rintro e w4 ⟨ge,ae,ne,ce,gf,af,nf,cf,rfl,hr,ry,vw,gw,ec⟩;have il:xp w3 w4:=Al qR (ec.mono qA);replace HB:xp w2 w4:=Al HB (il.mono qA);have OW:=HB.size;(replace ⟨R0,fp,R1,fq,R2,fv,R3,fw⟩:=xi il R0 fp R1 fq R2 fv R3 fw;replace ⟨M0,M1,M2,M3⟩:=xj il M0 M1 M2 M3;replace ⟨L0,L1⟩:=xk il L0 L1)))
 all_goals
  exact qFp
theorem mF (h:Bo w g1 a1 n1 c1 p g2 a2 n2 c2 q)
  (g3:Bool) (a3:Γ) (n3 c3:Nat) (p':Int) (g4:Bool) (a4:Γ) (n4 c4:Nat) (q':Int) (h':Bo w g3 a3 n3 c3 p' g4 a4 n4 c4 q') (br:n1≤1000000000) (bp:n2≤1000000000) (ea:n3≤1000000000) (ec:n4≤1000000000) (D:Int) (hD:(dg D.natAbs).length<35184372088829)
  (ko:∀(W:World) (gx:Bool) (ax:Γ) (nx cx:Nat) (gy:Bool) (ay:Γ) (ny cy:Nat),xp w W→Bh W gx ax nx cx (p*q')→Bh W gy ay ny cy (p'*q)→Θ 255 #[.agg #[.bool gx,.slice ax nx cx],.agg #[.bool gy,.slice ay ny cy]] W (Di W D)) :
  Θ 163 #[.agg #[.bool g1,.slice a1 n1 c1,.bool g2,.slice a2 n2 c2],.agg #[.bool g3,.slice a3 n3 c3,.bool g4,.slice a4 n4 c4],.func (.func 255) #[] #[]] w (G5 w (D/(Int.gcd D (q*q'):Int)) ((q*q')/(Int.gcd D (q*q'):Int))):=by
 have ZS:=Ae ko;have HDL:=Ae hD;have hqq:0<q*q':=Int.mul_pos h.pos h'.pos;have HQQ:=Ae hqq;have uo:(dg (q*q').natAbs).length≤n2+n4:=qEy;have yu:=Ae uo;clear ko hD hqq uo;go_enter func163,ntmps163;go_wp2_with fail;refine Bt ?_;intro w0 cw;have vg:xp w w0:=by rw [cw];go_grown
 have R0:Z w0 (w+1+1) 0 (.bool false):=by rw [cw];simp [go_sem]
 have R1:Z w0 (w+1+1) 1 (.slice none 0 0):=by rw [cw];simp [go_sem]
 have R2:Z w0 (w+1+1) 2 (.bool false):=by rw [cw];simp [go_sem]
 have R3:Z w0 (w+1+1) 3 (.slice none 0 0):=by rw [cw];simp [go_sem]
 have fp:Y w0 (w+1+1) 0:=by rw [cw];simp [go_sem]
 have fq:Y w0 (w+1+1) 1:=by rw [cw];simp [go_sem]
 have fv:Y w0 (w+1+1) 2:=by rw [cw];simp [go_sem]
 have fw:Y w0 (w+1+1) 3:=by rw [cw];simp [go_sem]
 clear cw;refine (Rd _ _ _ _ _ _ _ _ _ _ _ (h.keep vg) _ _ _ _ _ _ _ _ _ _ (h'.keep vg) br bp ea ec).mono ?_;rintro e w1 ⟨gx,ax,nx,cx,gy,ay,ny,cy,gq,aq,nq,cq,rfl,hx,hy,hq,iq,sk,rj,hb⟩;have ir:=xo vg hb
 (replace ⟨R0,fp,R1,fq,R2,fv,R3,fw⟩:=xi hb R0 fp R1 fq R2 fv R3 fw)
 have jh:=ir.size;have jy:w.heap.size+1+1<w1:=Aa _ _ R0;clear hb vg iq sk rj;go_upto_region 2 with fail
 (refine Bx ?_;intro w2 df;have M0':Z w2 w1 0 (.bool gx):=(by rw [df];first|assumption|(simp [go_sem];done)|(simp [*,go_sem];done));have M1':Z w2 w1 1 (.slice ax nx cx):=(by rw [df];first|assumption|(simp [go_sem];done)|(simp [*,go_sem];done));have M2':Z w2 w1 2 (.bool gy):=(by rw [df];first|assumption|(simp [go_sem];done)|(simp [*,go_sem];done));have M3':Z w2 w1 3 (.slice ay ny cy):=(by rw [df];first|assumption|(simp [go_sem];done)|(simp [*,go_sem];done));have L0':Z w2 (w1+1) 0 (.bool gq):=(by rw [df];first|assumption|(simp [go_sem];done)|(simp [*,go_sem];done));have L1':Z w2 (w1+1) 1 (.slice aq nq cq):=(by rw [df];first|assumption|(simp [go_sem];done)|(simp [*,go_sem];done));have M0:=M0';clear M0';have M1:=M1';clear M1';have M2:=M2';clear M2';have M3:=M3';clear M3';have L0:=L0';clear L0';have L1:=L1';clear L1');have ia:xp w1 w2:=by rw [df];go_grown
 have UP:w1.heap.size<w2:=by rw [df];simp;omega
 (replace ⟨R0,fp,R1,fq,R2,fv,R3,fw⟩:=xi ia R0 fp R1 fq R2 fv R3 fw)
 have fg:=ir.trans (ia.mono jh);have NO:=hx.keep ia;have JC:=hy.keep ia;have uq:=hq.keep ia;obtain ⟨zh,hM⟩:∃zh,zh=w1.heap.size:=⟨_,rfl⟩;rw [←hM] at M0 M1 M2 M3 L0 L1 ⊢;have hMr:w.heap.size+1+1<zh:=qB;have SC:nq≤n2+n4:=by have h1:=uq.rd.len;have:=yu.out;omega
 clear df ia ir hM hx hy hq UP;have l9:w.heap.size+1+1+1≤w2:=Aa _ _ R0;have HB:=Ac w2 w2;go_region_held3 (fun W=>Z W zh 0 (.bool gx)∧Z W zh 1 (.slice ax nx cx)∧Z W zh 2 (.bool gy)∧Z W zh 3 (.slice ay ny cy)∧Z W (zh+1) 0 (.bool gq)∧Z W (zh+1) 1 (.slice aq nq cq)) (exact qK) (first
  | (go_at_call 255;(with_reducible refine (ZS.out _ _ _ _ _ _ _ _ _ (fg.trans ((by first|assumption|go_grown:xp w2 _).mono fg.size)) (NO.keep qR) (JC.keep qR)).mono ?_);rintro e w3 ⟨gd,ad,nd,cd,rfl,hd,hfd,hb⟩;replace HB:xp w2 w3:=Al qR (hb.mono qA);have fb:=HB.size;(replace ⟨R0,fp,R1,fq,R2,fv,R3,fw⟩:=xi HB R0 fp R1 fq R2 fv R3 fw;replace ⟨M0,M1,M2,M3⟩:=xj HB M0 M1 M2 M3;replace ⟨L0,L1⟩:=xk HB L0 L1);have CV:nd<35184372088829:=(by have h1:=hd.rd.len;have:=HDL.out;omega))
  | (go_at_call 218;(with_reducible refine (Ua _ _ _ _ _ D (hd.keep qQ) _ _ _ _ (q*q') (uq.keep qR) HQQ.out qB qB).mono ?_);rintro e w4 ⟨ge,ae,ne,ce,gf,af,nf,cf,rfl,hr,ry,vw,gw,ec⟩;have il:xp w3 w4:=Al qR (ec.mono qA);replace HB:xp w2 w4:=Al HB (il.mono qA);have OW:=HB.size;(replace ⟨R0,fp,R1,fq,R2,fv,R3,fw⟩:=xi il R0 fp R1 fq R2 fv R3 fw;replace ⟨M0,M1,M2,M3⟩:=xj il M0 M1 M2 M3;replace ⟨L0,L1⟩:=xk il L0 L1)))
 all_goals
  exact qFp
end Go.Proofs.YtfijkfdfbnfmmaaGreatDoor
end
