/- Plain: sums as a ring, as far as exact division wants it: a + b - b is a, a b divided by b is a. -/
import Derived.Test.YtnnhcbeiogaknaaGreatDoorQV36
set_option linter.unusedSimpArgs false
set_option linter.unusedVariables false
set_option maxRecDepth 100000
set_option maxHeartbeats 4000000
section
namespace Go.Proofs.YtnnhcbeiogaknaaGreatDoor
open Go.RowKit
theorem cE {c:PC} (h:CW c):CW (-c.1,c.2):=by rw [←Iu h];exact h.mul (H6 (-1))
theorem Yf {c:PC} (hc:CW c):Ea c (-c.1,c.2)=(0,1):=by
 refine CW.zero (hc.add (cE hc)) ?_;show E6 (c.1*c.2+-c.1*c.2) (c.2*c.2)=0;rw [Int.neg_mul,Int.add_right_neg];simp [E6]
def tot:Δ→Nat→PC
 | [],_=>(0,1)
 | t::L,k=>if t.1=k then Ea t.2 (tot L k) else tot L k
theorem Nn {L:Δ} (hL:∀t∈L,CW t.2) (k:Nat):CW (tot L k):=by
 induction L with
 | nil=>exact Wm
 | cons t L ih =>
  have h1:=ih fun x hx=>hL x (by simp [hx])
  rw [tot]
  split
  ·exact (hL t qG).add h1
  ·exact h1
theorem eS {L M:Δ} (hL:∀t∈L,CW t.2) (hM:∀t∈M,CW t.2) (k:Nat):tot (L++M) k=Ea (tot L k) (tot M k):=by
 induction L with
 | nil=>rw [List.nil_append,tot,Iz (Nn hM k)]
 | cons t L ih =>
  have hL':∀x∈L,CW x.2:=fun x hx=>hL x (by simp [hx])
  rw [List.cons_append,tot,tot,ih hL']
  split
  ·rw [Js (hL t qG) (Nn hL' k) (Nn hM k)]
  ·rfl
theorem iO {L:Δ} (hL:∀t∈L,CW t.2) (k:Nat):∀f:Nat→Option PC,(∀j,CW ((f j).getD (0,1)))→(L.foldl Gx f k).getD (0,1)=Ea ((f k).getD (0,1)) (tot L k):=by
 induction L with
 | nil=>intro f hf;rw [List.foldl_nil,tot,Rd (hf k)]
 | cons t L ih =>
  intro f hf;have ht:=hL t qG;have hL':∀x∈L,CW x.2:=fun x hx=>hL x (by simp [hx])
  have hi:∀j,(Gx f t j).getD (0,1)=if j=t.1 then Ea ((f j).getD (0,1)) t.2 else (f j).getD (0,1):=fun j=>by
   unfold Gx
   split
   ·rename_i e;subst e
    cases h:f t.1 with
    | none=>simp [Iz ht]
    | some c=>simp
   ·rfl
  rw [List.foldl_cons,ih hL' _ fun j=>by rw [hi];split;exact (hf j).add ht;exact hf j];rw [hi,tot];by_cases e:k=t.1
  ·rw [if_pos e,if_pos e.symm,Js (hf k) ht (Nn hL' k)]
  ·rw [if_neg e,if_neg (fun h=>e h.symm)]
theorem eB {L:Δ} (hL:∀t∈L,CW t.2) (k:Nat):cf (Hp L) k=tot L k:=by
 rw [←(Gp hL).2.2 k];unfold Dj;rw [iO hL k (fun _=>none) (fun _=>Wm)];exact Iz (Nn hL k)
theorem PW.cw {l:Δ} (h:PW l):∀t∈l,CW t.2:=fun t ht=>(h.good t ht).1
theorem mG {l:Δ} (h:PW l) (k:Nat):cf l k=tot l k:=by rw [←eB h.cw,Fx h]
theorem mO {a b:Δ} (ha:PW a) (hb:PW b) (h:∀k,cf a k=cf b k):a=b:=mA ha.falls ha.good hb.falls hb.good h
theorem mW {a b:Δ} (ha:∀t∈a,CW t.2) (hb:∀t∈b,CW t.2):∀t∈a++b,CW t.2:=fun t ht=>(List.mem_append.1 ht).elim (ha t) (hb t)
theorem Ra {a b:Δ} (ha:PW a) (hb:PW b):PW (Hx a b):=fN (mW ha.cw hb.cw) fun t ht=>(List.mem_append.1 ht).elim (ha.key t) (hb.key t)
theorem gO {a b:Δ} (ha:PW a) (hb:PW b) (k:Nat):cf (Hx a b) k=Ea (cf a k) (cf b k):=by
 unfold Hx;rw [eB (mW ha.cw hb.cw),eS ha.cw hb.cw,mG ha,mG hb]
theorem yY (q:Δ) (k:Nat) (c:PC):lk (Gh c q) k=(lk q k).map fun x=>Ca x c:=by
 induction q with
 | nil=>rfl
 | cons t q ih =>
  show lk ((t.1,Ca t.2 c)::Gh c q) k=_;rw [Hn,Hn,ih]
  split<;>rfl
theorem Wx {q:Δ} (hq:PW q):PW (Gh (-1,1) q):=by
 refine ⟨?_,fun t ht=>?_,fun t ht=>?_⟩
 ·show Ct (q.map _);rw [Ct,List.pairwise_map];exact hq.falls
 ·obtain ⟨x,hx,rfl⟩:=List.mem_map.1 ht;have h1:=hq.good x hx;refine ⟨h1.1.mul (H6 (-1)),?_⟩;show (Ca x.2 (-1,1)).1≠0;rw [Iu h1.1];have:=h1.2;show -x.2.1≠0;omega
 ·obtain ⟨x,hx,rfl⟩:=List.mem_map.1 ht;exact hq.key x hx
theorem Aaa {q:Δ} (hq:PW q) (k:Nat):cf (Nz (-1,1) q) k=(-(cf q k).1,(cf q k).2):=by
 unfold Nz;rw [Fx (Wx hq),cf,yY];unfold cf
 cases h:lk q k with
 | none=>rfl
 | some c =>
  show Ca c (-1,1)=(-c.1,c.2);exact Iu (hq.good _ (Hb h)).1
theorem gE {q:Δ} (hq:PW q):PW (Nz (-1,1) q):=by unfold Nz;rw [Fx (Wx hq)];exact Wx hq
theorem eO {a b:Δ} (ha:PW a) (hb:PW b):PW (Lj a b):=Ra ha (gE hb)
theorem fU {a b:Δ} (ha:PW a) (hb:PW b) (k:Nat):cf (Lj a b) k=Ea (cf a k) (-(cf b k).1,(cf b k).2):=by
 unfold Lj;rw [gO ha (gE hb),Aaa hb]
theorem tV {a b:Δ} (ha:PW a) (hb:PW b):Lj (Hx a b) b=a:=by
 have h1:=fun k=>yB ha.good k
 have h2:=fun k=>yB hb.good k
 refine mO (eO (Ra ha hb) hb) ha fun k=>?_
 rw [fU (Ra ha hb) hb,gO ha hb,Js (h1 k) (h2 k) (cE (h2 k)),Yf (h2 k),Rd (h1 k)]
theorem jZ {x y a b:Δ} (ha:PW a) (hb:PW b) (hx:∀t∈x,CW t.2) (hy:∀t∈y,CW t.2) (e:∀k,cf a k=tot (x++y) k) (f:∀k,cf b k=tot x k) {r:Δ} (hr:PW r) (g:∀k,cf r k=tot y k):Lj a b=r:=by
 refine mO (eO ha hb) hr fun k=>?_
 have h1:=Nn hx k;have h2:=Nn hy k;rw [fU ha hb,e,f,g,eS hx hy,iH (tot x k),Js h2 h1 (cE h1),Yf h1,Rd h2]
/-! ### Products -/
theorem gF {a:Nat} (ha:a<18446744073709551616):Cg (exN a 0) (exN a 1) (exN a 2) (exN a 3)=a:=by
 have e0:exN a 0=a/281474976710656%65536:=by unfold exN;rw [show (65536:Nat) ^ (3-0)=281474976710656 by decide]
 have e1:exN a 1=a/4294967296%65536:=by unfold exN;rw [show (65536:Nat) ^ (3-1)=4294967296 by decide]
 have e2:exN a 2=a/65536%65536:=by unfold exN;rw [show (65536:Nat) ^ (3-2)=65536 by decide]
 have e3:exN a 3=a%65536:=by show a/65536 ^ 0%65536=_;rw [Nat.pow_zero,Nat.div_one]
 rw [e0,e1,e2,e3];have h1:=Nat.div_add_mod a 65536;have h2:=Nat.div_add_mod (a/65536) 65536;have h3:=Nat.div_add_mod (a/4294967296) 65536;have d2:a/65536/65536=a/4294967296:=by omega
 have d3:a/4294967296/65536=a/281474976710656:=by omega
 have h4:a/281474976710656<65536:=Nat.div_lt_of_lt_mul ha;have h5:a/281474976710656%65536=a/281474976710656:=Nat.mod_eq_of_lt h4;rw [d2] at h2;rw [d3] at h3;unfold Cg;rw [h5];generalize a/281474976710656=x at *;generalize a/4294967296=y at *;generalize a/65536=z at *;generalize y%65536=y' at *;generalize z%65536=z' at *;generalize a%65536=a' at *;omega
theorem Jn {a b:Nat} (h:Gj a b=true) (ha:a<18446744073709551616) (hb:b<18446744073709551616):Eb a b=a+b:=by
 have h1:=gF ha;have h2:=gF hb;unfold Eb;generalize exN a 0=a0 at *;generalize exN a 1=a1 at *;generalize exN a 2=a2 at *;generalize exN a 3=a3 at *;generalize exN b 0=b0 at *;generalize exN b 1=b1 at *;generalize exN b 2=b2 at *;generalize exN b 3=b3 at *;clear h ha hb;rw [←h1,←h2];clear h1 h2;unfold Cg;omega
theorem eG {a b:Nat} (h:Gj a b=true) (ha:a<18446744073709551616) (hb:b<18446744073709551616):exN (a+b) 0=exN a 0+exN b 0∧exN (a+b) 1=exN a 1+exN b 1∧exN (a+b) 2=exN a 2+exN b 2∧exN (a+b) 3=exN a 3+exN b 3:=by
 have h1:=Jn h ha hb;unfold Gj at h;simp only [Bool.and_eq_true,decide_eq_true_eq] at h;have h2:=Ec (a:=exN a 0+exN b 0) (b:=exN a 1+exN b 1) (c:=exN a 2+exN b 2) (d:=exN a 3+exN b 3) qA qA qA qA;rw [←h1];exact h2
theorem uV {a b:Nat} (h:Gj a b=true) (ha:a<18446744073709551616) (hb:b<18446744073709551616):inM (a+b) b=true:=by
 obtain ⟨h0,h1,h2,h3⟩:=eG h ha hb;unfold inM;rw [h0,h1,h2,h3];simp
theorem lK (a b:Nat):Eb a b=Eb b a:=by unfold Eb;rw [Nat.add_comm (exN a 0),Nat.add_comm (exN a 1),Nat.add_comm (exN a 2),Nat.add_comm (exN a 3)]
theorem Us (c d:PC):Ca c d=Ca d c:=by unfold Ca;rw [Int.mul_comm c.1,Int.mul_comm c.2]
theorem uF (a b:Nat) (h:Gj a b=true):Eb a b<18446744073709551616:=by
 unfold Gj at h;simp only [Bool.and_eq_true,decide_eq_true_eq] at h;exact Re qA qA qA qA
theorem Cx {p q:Δ}:C8 p q=true↔∀s∈p,∀t∈q,Gj s.1 t.1=true:=by
 unfold C8;simp only [List.all_eq_true]
theorem K0 {p q:Δ} (hp:∀t∈p,CW t.2) (hq:∀t∈q,CW t.2):∀t∈C5 p q,CW t.2:=fun t ht=>by
 obtain ⟨x,hx,y,hy,rfl⟩:=Fy ht;exact (hp x hx).mul (hq y hy)
theorem Kk {p q:Δ} (hp:PW p) (hq:PW q) (ho:C8 p q=true):PW (En p q):=fN (K0 hp.cw hq.cw) fun t ht=>by
 obtain ⟨x,hx,y,hy,rfl⟩:=Fy ht;exact uF _ _ (Cx.1 ho x hx y hy)
theorem Oi {p q:Δ} (hp:PW p) (hq:PW q) (k:Nat):cf (En p q) k=tot (C5 p q) k:=eB (K0 hp.cw hq.cw) k
theorem jI (d:Δ) (t:PT):C5 d [t]=d.map fun y=>(Eb t.1 y.1,Ca t.2 y.2):=by
 induction d with
 | nil=>rfl
 | cons y d ih =>
  rw [Fp,ih];show (Eb y.1 t.1,Ca y.2 t.2)::_=(Eb t.1 y.1,Ca t.2 y.2)::_;rw [lK,Us];rfl
theorem dG {t:PT} (h1:CW t.2) (h2:t.2.1≠0) (h3:t.1<18446744073709551616):PW [t]:=⟨by simp [Ct],fun x hx=>by rw [Ao.1 hx];exact ⟨h1,h2⟩,fun x hx=>by rw [Ao.1 hx];exact h3⟩
theorem Ux {L:Δ} {k:Nat} (h:∀t∈L,t.1<k):tot L k=(0,1):=by
 induction L with
 | nil=>rfl
 | cons t L ih =>
  rw [tot,if_neg (by have:=h t qG;omega)];exact ih fun x hx=>h x (by simp [hx])
theorem wR {m:Δ} (hf:Ct m) (hg:I6 m) {k:Nat} {c:PC} (e:cf m k=c) (hc:c.1≠0) (h:∀j,k<j→cf m j=(0,1)):∃m',m=(k,c)::m':=by
 cases m with
 | nil=>rw [bI] at e;subst e;exact absurd rfl hc
 | cons x m =>
  have hfx:=List.pairwise_cons.1 hf;rcases Nat.lt_trichotomy x.1 k with h1|h1|h1
  ·have:cf (x::m) k=(0,1):=Oq fun t ht=>by
    rcases List.mem_cons.1 ht with rfl|ht
    ·exact h1
    ·have:=hfx.1 t ht;omega
   rw [this] at e;subst e;exact absurd rfl hc
  ·rw [Hm,if_pos h1] at e;exact ⟨m,by rw [←h1,←e]⟩
  ·have h2:=h x.1 h1;rw [Hm,if_pos rfl] at h2;exact absurd (by rw [h2]) (hg x qG).2
theorem wO {c d:PC} (hc:CW c) (hd:CW d) (h1:c.1≠0) (h2:d.1≠0):(Ca c d).1≠0:=fun h=>by
 have h3:Eqv (Ca c d) (mU c d):=gM hc.pos hd.pos;unfold Eqv mU at h3;simp only [h,Int.zero_mul] at h3;have h4:c.1*d.1≠0:=Int.mul_ne_zero h1 h2;have h5:=(hc.mul hd).pos;exact Int.mul_ne_zero h4 qA h3.symm
theorem pQ {t h:PT} {s d:Δ} (hs:PW (t::s)) (hd:PW (h::d)) (ho:C8 (t::s) (h::d)=true):∃m,En (t::s) (h::d)=(t.1+h.1,Ca t.2 h.2)::m:=by
 have hpw:=Kk hs hd ho;have hok:=Cx.1 ho;have hk:∀x∈t::s,∀y∈h::d,Eb x.1 y.1=x.1+y.1:=fun x hx y hy=>Jn (hok x hx y hy) (hs.key x hx) (hd.key y hy)
 have hft:=(List.pairwise_cons.1 hs.falls).1;have hfh:=(List.pairwise_cons.1 hd.falls).1;have hts:t∈t::s:=by simp
 have hhd:h∈h::d:=by simp
 have hrest:∀z∈(d.map fun y=>(Eb t.1 y.1,Ca t.2 y.2))++C5 s (h::d),z.1<t.1+h.1:=fun z hz=>by
  rcases List.mem_append.1 hz with hz|hz
  ·obtain ⟨y,hy,rfl⟩:=List.mem_map.1 hz;have h1:=hk t hts y (by simp [hy]);have h2:=hfh y hy;show Eb t.1 y.1<_;omega
  ·obtain ⟨x,hx,y,hy,rfl⟩:=Fy hz;have h1:=hk x (by simp [hx]) y hy;have h2:=hft x hx;have h3:y.1≤h.1:=by
    rcases List.mem_cons.1 hy with rfl|hy
    ·exact Ad _
    ·exact Nat.le_of_lt (hfh y hy)
   show Eb x.1 y.1<_;omega
 have hp:C5 (t::s) (h::d)=(Eb t.1 h.1,Ca t.2 h.2)::((d.map fun y=>(Eb t.1 y.1,Ca t.2 y.2))++C5 s (h::d)):=by rw [Fp];rfl
 have ht:=hs.good t hts;have hh:=hd.good h hhd;refine wR hpw.falls hpw.good ?_ (wO ht.1 hh.1 ht.2 hh.2) fun j hj=>?_
 ·rw [Oi hs hd,hp,tot,if_pos (hk t hts h hhd),Ux hrest,Rd (ht.1.mul hh.1)]
 ·rw [Oi hs hd,hp];refine Ux fun z hz=>?_
  rcases List.mem_cons.1 hz with rfl|hz
  ·show Eb t.1 h.1<j;rw [hk t hts h hhd];exact hj
  ·exact Nat.lt_trans (hrest z hz) hj
theorem pW {t:PT} {s d:Δ} (hs:PW (t::s)) (hd:PW d) (ho:C8 (t::s) d=true):Lj (En (t::s) d) (En d [t])=En s d:=by
 have ht:=hs.good t qG;have hp1:=dG ht.1 ht.2 (hs.key t qG);have hs':PW s:=⟨(List.pairwise_cons.1 hs.falls).2,fun x hx=>hs.good x (by simp [hx]),fun x hx=>hs.key x (by simp [hx])⟩;have ho':C8 s d=true:=Cx.2 fun x hx y hy=>Cx.1 ho x (by simp [hx]) y hy
 have ho1:C8 d [t]=true:=Cx.2 fun x hx y hy=>by
  rw [Ao.1 hy];have:=Cx.1 ho t qG x hx;unfold Gj at this ⊢;simp only [Bool.and_eq_true,decide_eq_true_eq] at this ⊢;omega
 refine jZ (x:=d.map fun y=>(Eb t.1 y.1,Ca t.2 y.2)) (y:=C5 s d) (Kk hs hd ho) (Kk hd hp1 ho1) (fun z hz=>?_) (K0 hs'.cw hd.cw) (fun k=>?_) (fun k=>?_) (Kk hs' hd ho') (fun k=>Oi hs' hd k)
 ·obtain ⟨y,hy,rfl⟩:=List.mem_map.1 hz;exact ht.1.mul (hd.cw y hy)
 ·rw [Oi hs hd,Fp]
 ·rw [Oi hd hp1,jI]
theorem uQ {c d:PC} (hc:CW c) (hd:CW d) (h:d.1≠0):Hi (Ca c d) d=c:=by
  have hm:=hc.mul hd;have e1:Eqv (Ca c d) (mU c d):=gM hc.pos hd.pos;unfold Eqv mU at e1;simp only at e1;have hp:=hm.pos;have hdp:=hd.pos;have hcp:=hc.pos;generalize Ca c d=m at *;obtain ⟨m1,m2⟩:=m;obtain ⟨c1,c2⟩:=c;obtain ⟨d1,d2⟩:=d;simp only at *;have hl:d1*m2≠0:=Int.mul_ne_zero h qA;have hgp:0<Int.gcd (m1*d2) (d1*m2):=Int.gcd_pos_of_ne_zero_right _ hl;have key:m1*d2*c2=c1*(d1*m2):=by
    have:m1*(c2*d2)=c1*d1*m2:=e1
    calc m1*d2*c2=m1*(c2*d2):=by ac_rfl
      _=c1*d1*m2:=this
      _=c1*(d1*m2):=by ac_rfl
  unfold Hi;simp only;generalize m1*d2=T at *;generalize d1*m2=L at *;obtain ⟨x,hx⟩:(Int.gcd T L:Int)∣T:=Int.gcd_dvd_left ..;obtain ⟨y,hy⟩:(Int.gcd T L:Int)∣L:=Int.gcd_dvd_right ..;have hg':(Int.gcd T L:Int)≠0:=by omega
  have hred:Int.gcd (T/(Int.gcd T L:Int)) (L/(Int.gcd T L:Int))=1:=Int.gcd_ediv_gcd_ediv_gcd hgp;have q1:T/(Int.gcd T L:Int)=x:=by rw [hx];rw [←hx];rw [Int.ediv_eq_of_eq_mul_right hg' hx]
  have q2:L/(Int.gcd T L:Int)=y:=Int.ediv_eq_of_eq_mul_right hg' hy;rw [q1,q2] at hred;rw [q1,q2];have hxy:x*c2=c1*y:=by
    have h1:(Int.gcd T L:Int)*(x*c2)=(Int.gcd T L:Int)*(c1*y):=by
      calc (Int.gcd T L:Int)*(x*c2)=((Int.gcd T L:Int)*x)*c2:=by rw [Int.mul_assoc]
        _=T*c2:=by rw [←hx]
        _=c1*L:=key
        _=c1*((Int.gcd T L:Int)*y):=by rw [←hy]
        _=(Int.gcd T L:Int)*(c1*y):=by ac_rfl
    exact Int.eq_of_mul_eq_mul_left hg' h1
  have hyl:L<0↔y<0:=by
    constructor
    · intro h1;by_cases h2:y<0
      · exact h2
      · have:0≤(Int.gcd T L:Int)*y:=Int.mul_nonneg qA qA;omega
    · intro h1;have:(Int.gcd T L:Int)*y<0:=Int.mul_neg_of_pos_of_neg qA h1;omega
  have hy0:y≠0:=fun e=>by subst e;rw [Int.mul_zero] at hy;exact hl hy
  split
  · rename_i hneg;have:=hyl.1 hneg;refine pV ⟨by show (0:Int) < -y;omega,by show Int.gcd (-x) (-y)=1;rw [Int.neg_gcd,Int.gcd_neg];exact hred⟩ hc ?_;show -x*c2=c1 * -y;rw [Int.neg_mul,hxy,Int.mul_neg]
  · rename_i hneg;have:¬y<0:=fun h1=>hneg (hyl.2 h1)
    exact pV ⟨by show (0:Int)<y;omega,hred⟩ hc hxy
theorem pL:∀(k n:Nat),(dg n).length≤k→n<1000000000 ^ k:=by
 intro k
 induction k with
 | zero =>
  intro n h;rcases Aq n with rfl|h0
  ·decide
  ·rw [Hg h0] at h;simp at h
 | succ k ih =>
  intro n h;rcases Aq n with rfl|h0
  ·exact Nat.pow_pos qI
  ·rw [Hg h0] at h;have h1:=ih (n/1000000000) (by simpa using h);rw [Nat.pow_succ];exact (Nat.div_lt_iff_lt_mul qI).1 h1
theorem eN {n:Nat} (h:(dg n).length≤90):n.log2/29≤94:=by
 rcases Aq n with rfl|h0
 ·decide
 ·have h1:=pL 90 n h;have h2:∀k m:Nat,m=30*k→(1000000000:Nat) ^ k≤2 ^ m:=fun k m hm=>by
   subst hm;rw [Nat.pow_mul];exact Nat.pow_le_pow_left qI k
  have h3:n.log2<2700:=(Nat.log2_lt qA).2 (Nat.lt_of_lt_of_le h1 (h2 90 2700 rfl));clear h1;omega
theorem Abh {c:PC} (h:By 90 c):nP c≤100:=by
 have h1:=eN h.1;have h2:=eN h.2;unfold nP;omega
theorem fB:∀{l:Δ},Ct l→Pr l=true
 | [],_=>rfl
 | [x],_=>rfl
 | x::y::l,h=>by
  have h1:=List.pairwise_cons.1 h;unfold Pr;rw [fB h1.2,Bool.and_true,decide_eq_true_eq];exact h1.1 y qG
theorem tH {l:Δ} (h:PW l) (hl:l.length≤40) (hf:Cj 90 l):ck l=some l:=by
 unfold ck;rw [if_pos];unfold smB;rw [fB h.falls,Bool.true_and,Bool.and_eq_true,decide_eq_true_eq,List.all_eq_true];refine ⟨hl,fun t ht=>?_⟩;have h1:=h.good t ht;have h2:=h.key t ht;have h3:=Abh (hf t ht);unfold cwB;simp only [Bool.and_eq_true,decide_eq_true_eq,beq_iff_eq];exact ⟨⟨⟨⟨h1.1.pos,h1.1.red⟩,h1.2⟩,h2⟩,h3⟩
theorem Xp (p q:Δ):(En p q).length≤p.length*q.length:=by
 rw [←Ow];exact Ha _
theorem Yc {p q:Δ} (hp:PW p) (hq:PW q) (h1:Cj 2 p) (h2:Cj 2 q):Cj (p.length*q.length*5) (En p q) :=
 Xt (K0 hp.cw hq.cw) fun k=>Ah (Kf _ k) (Xn hp.cw hq.cw h1 h2)
theorem lQ {a b:Δ} (ha:PW a) (hb:PW b) (h1:Cj 2 a) (h2:Cj 2 b):Cj 5 (Hx a b):=by
 unfold Hx;rw [Tn ha hb];exact Cj.add a b ha.good hb.good h1 h2
theorem PW.sub {l m:Δ} (h:PW l) (hs:m.Sublist l):PW m:=⟨h.falls.sublist hs,fun t ht=>h.good t (hs.subset ht),fun t ht=>h.key t (hs.subset ht)⟩
theorem To {p p' q:Δ} (h:C8 p q=true) (hs:∀x∈p',x∈p):C8 p' q=true:=Cx.2 fun x hx y hy=>Cx.1 h x (hs x hx) y hy
theorem Zu (a b:Nat):Gj a b=Gj b a:=by unfold Gj;rw [Nat.add_comm (exN a 0),Nat.add_comm (exN a 1),Nat.add_comm (exN a 2),Nat.add_comm (exN a 3)]
theorem Rs (x y:Nat) (h:x+y≤8):x*y≤16:=by
 have hx:x=0∨x=1∨x=2∨x=3∨x=4∨x=5∨x=6∨x=7∨x=8:=by omega
 rcases hx with rfl|rfl|rfl|rfl|rfl|rfl|rfl|rfl|rfl<;>omega
theorem nE {p q:Δ} (hp:PW p) (hq:PW q) (h1:Cj 2 p) (h2:Cj 2 q) (hl:p.length+q.length≤8) (ho:C8 p q=true):ck (En p q)=some (En p q):=by
 have h3:=Rs _ _ hl;exact tH (Kk hp hq ho) (Ah (Xp p q) qA) ((Yc hp hq h1 h2).mono qA)
theorem Aa7 {h:PT} {d:Δ} (hd:PW (h::d)) (hdf:Cj 2 (h::d)):∀(s o:Δ) (n:Nat),s.length≤n→PW (o++s)→Cj 2 (o++s)→(o++s).length+(h::d).length≤8→C8 (o++s) (h::d)=true→Kw (h::d) h n (En s (h::d)) o []=some (o++s,[]):=by
 intro s
 induction s with
 | nil =>
  intro o n _ _ _ _ _;rw [List.append_nil,show En [] (h::d)=[] from rfl]
  cases n<;>rfl
 | cons t s ih =>
  intro o n hn hp hf hl ho;obtain ⟨n,rfl⟩:∃m,n=m+1:=⟨n-1,by simp at hn;omega⟩;have hsub:(t::s).Sublist (o++t::s):=List.sublist_append_right ..;have hts:=hp.sub hsub;have hsp:PW s:=hts.sub (List.sublist_cons_self ..);have hot:∀x∈t::s,x∈o++t::s:=fun x hx=>hsub.subset hx
  have ho1:=To ho hot;have ho2:=To ho1 (p':=s) fun x hx=>by simp [hx]
  have ht:=hts.good t qG;have htk:=hts.key t qG;have htf:By 2 t.2:=hf t (hot t qG);have hp1:=dG ht.1 ht.2 htk;have hkt:Gj t.1 h.1=true:=Cx.1 ho1 t qG h qG;have hh:=hd.good h qG;have hod:C8 (h::d) [t]=true:=Cx.2 fun x hx y hy=>by
   rw [Ao.1 hy,Zu];exact Cx.1 ho1 t qG x hx
  have hlen:(o++t::s).length=o.length+s.length+1:=by simp;omega
  have hlc:1≤(h::d).length:=by simp
  have f1:Cj 2 [t]:=fun x hx=>by rw [Ao.1 hx];exact htf
  have fs:Cj 2 s:=fun x hx=>hf x (hot x (by simp [hx]))
  obtain ⟨m,hm⟩:=pQ hts hd ho1;have hoapp:(o++[t])++s=o++t::s:=by simp
  have hop:PW (o++[t]):=hp.sub (by rw [←hoapp];exact List.sublist_append_left ..);have hof:Cj 2 (o++[t]):=fun x hx=>hf x (by rw [←hoapp];exact List.mem_append_left _ hx)
  rw [hm];show (if inM (t.1+h.1) h.1 then (ck [(t.1+h.1-h.1,Hi (Ca t.2 h.2) h.2)]).bind fun u=>(Qu (h::d) u).bind fun f=>(Ps o u).bind fun o'=>(Ui ((t.1+h.1,Ca t.2 h.2)::m) f).bind fun p'=>Kw (h::d) h n p' o' [] else _)=_;rw [if_pos (uV hkt htk (hd.key h qG)),Nat.add_sub_cancel,uQ ht.1 hh.1 hh.2,show (t.1,t.2)=t from rfl,tH hp1 qG (f1.mono qA),Option.bind_some];have e1:Qu (h::d) [t]=some (En (h::d) [t]):=by
   unfold Qu;rw [if_pos hod];exact nE hd hp1 hdf f1 (by simp only [List.length_singleton];omega) hod
  have e2:Ps o [t]=some (o++[t]):=by
   unfold Ps Hx;rw [Fx hop];exact tH hop qJ (hof.mono qA)
  have e3:Ui ((t.1+h.1,Ca t.2 h.2)::m) (En (h::d) [t])=some (En s (h::d)):=by
   unfold Ui;rw [←hm,pW hts hd ho1];exact nE hsp hd fs hdf qA ho2
  rw [e1,Option.bind_some,e2,Option.bind_some,e3,Option.bind_some];have:=ih (o++[t]) n (by simp at hn;omega) (by rw [hoapp];exact hp) (by rw [hoapp];exact hf) (by rw [hoapp];exact hl) (by rw [hoapp];exact ho);rwa [hoapp] at this
theorem iR {a b:Δ} (ha:PW a) (hb:PW b) (fa:Cj 2 a) (fb:Cj 2 b) (hl:a.length+b.length≤8) (ho:C8 a b=true) (hne:b≠[]):Fd (En a b) b=some (some a):=by
 cases b with
 | nil=>exact absurd rfl hne
 | cons h d =>
  have:=Aa7 hb fb a [] 100 qA ha fa hl ho;show (Kw (h::d) h 100 (En a (h::d)) [] []).map _=_;rw [this];rfl
def Wg:Δ:=[(0,(1,1))]
def Gy (l:Δ):Nat→Δ
 | 0=>Wg
 | n+1=>En (Gy l n) l
def msL (f:Ξ→Ξ):Ξ→Ξ
 | []=>[]
 | t::ts=>((f (t::ts)).map (·+t))++msL f ts
def msK:Nat→Ξ→Ξ
 | 0=>fun _=>[0]
 | k+1=>msL (msK k)
theorem Aa4:∀(k:Nat) (ts:Ξ) (x t:Nat),x∈msK k ts→t∈ts→x+t∈msK (k+1) ts:=by
 intro k
 induction k with
 | zero =>
  intro ts x t hx ht;obtain rfl:x=0:=by simpa [msK] using hx
  clear hx
  induction ts with
  | nil=>cases ht
  | cons s ts ih =>
   show _∈((msK 0 (s::ts)).map (·+s))++msL (msK 0) ts;rcases List.mem_cons.1 ht with rfl|ht
   ·exact List.mem_append_left _ (List.mem_map.2 ⟨0,by simp [msK],rfl⟩)
   ·exact List.mem_append_right _ (ih ht)
 | succ k ih =>
  intro ts
  induction ts with
  | nil=>intro x t _ ht;cases ht
  | cons s ts ihs =>
   intro x t hx ht;show _∈((msK (k+1) (s::ts)).map (·+s))++msL (msK (k+1)) ts;have hx':x∈((msK k (s::ts)).map (·+s))++msL (msK k) ts:=hx;rcases List.mem_cons.1 ht with rfl|ht'
   ·exact List.mem_append_left _ (List.mem_map.2 ⟨x,hx,rfl⟩)
   ·rcases List.mem_append.1 hx' with h|h
    ·obtain ⟨y,hy,rfl⟩:=List.mem_map.1 h;exact List.mem_append_left _ (List.mem_map.2 ⟨y+t,ih (s::ts) y t hy ht,by show y+t+s=y+s+t;omega⟩)
    ·exact List.mem_append_right _ (ihs x t h ht')
theorem aJ (f:Ξ→Ξ) (g:Nat→Nat) (hf:∀ts,(f ts).length=g ts.length):∀ts,(msL f ts).length=((List.range ts.length).map fun i=>g (i+1)).sum:=by
 intro ts
 induction ts with
 | nil=>rfl
 | cons t ts ih =>
  show ((f (t::ts)).map (·+t)++msL f ts).length=_;rw [A9,List.length_map,hf,ih,List.length_cons,List.range_succ,List.map_append,List.sum_append];simp only [List.map_cons,List.map_nil,List.sum_cons,List.sum_nil];omega
def msN:Nat→Nat→Nat
 | 0,_=>1
 | k+1,n=>((List.range n).map fun i=>msN k (i+1)).sum
theorem Te:∀(k:Nat) (ts:Ξ),(msK k ts).length=msN k ts.length:=by
 intro k
 induction k with
 | zero=>intro ts;rfl
 | succ k ih=>intro ts;exact aJ _ _ ih ts
theorem Aap:∀k,k<5→∀n,n<9→msN k n≤330:=by decide +kernel
theorem uB:∀k,k<4→∀n,n<9→msN k n≤120:=by decide +kernel
theorem jO:∀(l m:Ξ),l.Nodup→(∀x∈l,x∈m)→l.length≤m.length:=by
 intro l
 induction l with
 | nil=>intro m _ _;exact Ba _
 | cons x l ih =>
  intro m hn hs;have h1:=List.nodup_cons.1 hn;have hx:=hs x qG;have h2:=ih (m.erase x) h1.2 fun y hy=>(List.mem_erase_of_ne (fun e=>by subst e;exact h1.1 hy)).2 (hs y (by simp [hy]))
  rw [List.length_erase_of_mem hx] at h2;have:=List.length_pos_of_mem hx;simp only [List.length_cons];omega
theorem gK {l:Δ} (hf:Ct l) (m:Ξ) (h:∀t∈l,t.1∈m):l.length≤m.length:=by
 have:=jO (l.map fun t=>t.1) m (by
  rw [List.Nodup,List.pairwise_map];exact hf.imp fun h=>by omega) fun x hx=>by
   obtain ⟨t,ht,rfl⟩:=List.mem_map.1 hx;exact h t ht
 simpa using this
/-! ### Parts -/
theorem vX {p:Δ} (hf:Ct p) (hp:∀t∈p,CW t.2) {K K':Nat} (h:Cj K p) {y:PT} (hy:CW y.2) (hyf:By K' y.2) (g:Nat→Nat) (hg:∀s∈p,∀s'∈p,g s.1=g s'.1→s.1=s'.1) (k:Nat):wtk (p.map fun s=>(g s.1,Ca s.2 y.2)) k≤K+K'+1:=by
 induction p with
 | nil=>simp [wtk,wt]
 | cons s p ih =>
  have hfs:=List.pairwise_cons.1 hf;have hp':∀t∈p,CW t.2:=fun t ht=>hp t (by simp [ht])
  have i1:=ih hfs.2 hp' (fun t ht=>h t (by simp [ht])) fun a ha b hb=>hg a (by simp [ha]) b (by simp [hb])
  rw [List.map_cons,Ou];by_cases e:g s.1=k
  ·rw [if_pos e];have h0:wtk (p.map fun s=>(g s.1,Ca s.2 y.2)) k=0:=by
    unfold wtk;rw [show (p.map fun s=>((g s.1,Ca s.2 y.2):PT)).filter (fun t=>t.1=k)=[] from List.filter_eq_nil_iff.2 fun z hz=>by
     obtain ⟨x,hx,rfl⟩:=List.mem_map.1 hz;have h1:=hfs.1 x hx;simp only [decide_eq_true_eq];intro h2;have:=hg s qG x (by simp [hx]) (e.trans h2.symm)
     omega]
    rfl
   have h1:=yS (By.mul (hp s qG) hy (h s qG) hyf);show pC (Ca s.2 y.2)+1+_≤_;omega
  ·rw [if_neg e];omega
def Ve (p q:Δ) (k:Nat):Nat:=(q.map fun y=>wtk (p.map fun s=>(Eb s.1 y.1,Ca s.2 y.2)) k).sum
theorem bC (s:PT) (p:Δ) (k:Nat):∀q:Δ,Ve (s::p) q k=wtk (q.map fun y=>(Eb s.1 y.1,Ca s.2 y.2)) k+Ve p q k:=by
 intro q
 induction q with
 | nil=>simp [Ve,wtk,wt]
 | cons y q ih =>
  unfold Ve at ih ⊢;simp only [List.map_cons,List.sum_cons] at ih ⊢;rw [ih,Ou,Ou];omega
theorem cY (p q:Δ) (k:Nat):wtk (C5 p q) k=Ve p q k:=by
 induction p with
 | nil =>
  show wtk [] k=(q.map fun y=>wtk [] k).sum
  induction q with
  | nil=>rfl
  | cons y q ih=>rw [List.map_cons,List.sum_cons,←ih];rfl
 | cons s p ih=>rw [Fp,Jy,ih,bC]
theorem Xx {p q:Δ} (hp:PW p) (hq:PW q) {K K':Nat} (h:Cj K p) (h':Cj K' q) (ho:C8 p q=true) (k:Nat):wtk (C5 p q) k≤q.length*(K+K'+1):=by
 rw [cY];have hall:∀y∈q,wtk (p.map fun s=>(Eb s.1 y.1,Ca s.2 y.2)) k≤K+K'+1:=fun y hy=>by
  refine vX hp.falls hp.cw h (hq.cw y hy) (h' y hy) (fun s=>Eb s y.1) (fun s hs s' hs' e=>?_) k;have hok:=Cx.1 ho;have e1:=Jn (hok s hs y hy) (hp.key s hs) (hq.key y hy);have e2:=Jn (hok s' hs' y hy) (hp.key s' hs') (hq.key y hy);have e3:Eb s.1 y.1=Eb s'.1 y.1:=e;omega
 unfold Ve;clear ho hq h' hp h
 induction q with
 | nil=>simp
 | cons y q ih =>
  rw [List.map_cons,List.sum_cons,List.length_cons,Nat.add_mul,Nat.one_mul];have h1:=hall y qG;have h2:=ih fun z hz=>hall z (by simp [hz])
  omega
/-! ### The powers -/
def Lf (D:Nat) (l:Δ):Prop:=∀t∈l,exN t.1 0≤D∧exN t.1 1≤D∧exN t.1 2≤D∧exN t.1 3≤D
theorem Gv {p q:Δ} {D D':Nat} (h:Lf D p) (h':Lf D' q) (hd:D+D'<65536):C8 p q=true:=Cx.2 fun x hx y hy=>by
 have h1:=h x hx;have h2:=h' y hy;unfold Gj;simp only [Bool.and_eq_true,decide_eq_true_eq];omega
theorem Y2 {p q:Δ} (hp:PW p) (hq:PW q) (ho:C8 p q=true) {z:PT} (hz:z∈En p q):∃x∈p,∃y∈q,Gj x.1 y.1=true∧z.1=x.1+y.1:=by
 obtain ⟨u,hu,e⟩:=X0 hz;obtain ⟨x,hx,y,hy,rfl⟩:=Fy hu;have hok:=Cx.1 ho x hx y hy;exact ⟨x,hx,y,hy,hok,by rw [←e];exact Jn hok (hp.key x hx) (hq.key y hy)⟩
theorem rV {p q:Δ} (hp:PW p) (hq:PW q) {D D':Nat} (h:Lf D p) (h':Lf D' q) (hd:D+D'<65536):Lf (D+D') (En p q):=fun z hz=>by
 obtain ⟨x,hx,y,hy,hok,e⟩:=Y2 hp hq (Gv h h' hd) hz;obtain ⟨e0,e1,e2,e3⟩:=eG hok (hp.key x hx) (hq.key y hy);have h1:=h x hx;have h2:=h' y hy;rw [e,e0,e1,e2,e3];omega
theorem tU:PW Wg:=dG (H6 1) qI qI
theorem Xr:Lf 0 Wg:=fun t ht=>by rw [Ao.1 ht];decide
theorem Aad {c:PC} (h:CW c):Ca (1,1) c=c:=by rw [Us];exact Jh h
theorem vF {l:Δ} (hl:PW l) (hd:Lf 6 l):Gy l 1=l:=by
 show Hp (C5 Wg l)=l;have e:C5 Wg l=l:=by
  show (l.map fun t=>(Eb 0 t.1,Ca (1,1) t.2))++[]=l;rw [List.append_nil];have:(l.map fun t=>((Eb 0 t.1,Ca (1,1) t.2):PT))=l.map id:=List.map_congr_left fun t ht=>by
   have hk:Eb 0 t.1=0+t.1:=Jn (Cx.1 (Gv Xr hd qA) (0,(1,1)) (by simp [Wg]) t ht) qI (hl.key t ht);rw [hk,Nat.zero_add,Aad (hl.cw t ht)];rfl
  rw [this,List.map_id]
 rw [e,Fx hl]
structure Adg (l:Δ) (n:Nat):Prop where
 pw:PW (Gy l n)
 deg:Lf (6*n) (Gy l n)
 keys:∀t∈Gy l n,t.1∈msK n (l.map fun t=>t.1)
theorem Pf {l:Δ} (hl:PW l) (hd:Lf 6 l):∀n,n≤4→Adg l n:=by
 intro n
 induction n with
 | zero =>
  intro _;exact ⟨tU,Xr,fun t ht=>by
   have ht:t∈Wg:=ht;rw [Ao.1 ht];exact Ao.2 rfl⟩
 | succ n ih =>
  intro hn;have h:=ih qA;have ho:=Gv h.deg hd qA;refine ⟨Kk h.pw hl ho,?_,fun z hz=>?_⟩
  ·rw [show 6*(n+1)=6*n+6 by omega];exact rV h.pw hl h.deg hd qA
  ·obtain ⟨x,hx,y,hy,_,e⟩:=Y2 h.pw hl ho hz;rw [e];exact Aa4 n _ _ _ (h.keys x hx) (List.mem_map.2 ⟨y,hy,rfl⟩)
theorem Wt {l:Δ} (hl:PW l) (hd:Lf 6 l) (h8:l.length≤8) {n:Nat} (hn:n≤4):(Gy l n).length≤330:=by
 have h:=Pf hl hd n hn;have h1:=gK h.pw.falls _ h.keys;rw [Te,List.length_map] at h1;exact Ah h1 (Aap n qA _ qA)
theorem pY {l:Δ} (hl:PW l) (hd:Lf 6 l) (h8:l.length≤8) {n:Nat} (hn:n≤3):(Gy l n).length≤120:=by
 have h:=Pf hl hd n qA;have h1:=gK h.pw.falls _ h.keys;rw [Te,List.length_map] at h1;exact Ah h1 (uB n qA _ qA)
def tJ:Nat→Nat
 | 0=>2
 | 1=>2
 | 2=>40
 | 3=>344
 | _=>2776
theorem kU {p q:Δ} (hp:PW p) (hq:PW q) {K K':Nat} (h:Cj K p) (h':Cj K' q) (ho:C8 p q=true) (h8:q.length≤8):Cj (8*(K+K'+1)) (En p q) :=
 Xt (K0 hp.cw hq.cw) fun k=>Ah (Xx hp hq h h' ho k) (Nat.mul_le_mul_right _ h8)
theorem gI {l:Δ} (hl:PW l) (hd:Lf 6 l) (h8:l.length≤8) (hf:Cj 2 l) {n:Nat} (hn:n≤4):Cj (tJ n) (Gy l n):=by
 have step:∀m,m≤3→∀K,Cj K (Gy l m)→Cj (8*(K+2+1)) (Gy l (m+1)):=fun m hm K hK =>
  kU (Pf hl hd m qA).pw hl hK hf (Gv (Pf hl hd m qA).deg hd qA) h8
 have f1:Cj 2 (Gy l 1):=by rw [vF hl hd];exact hf
 have f2:=step 1 qA 2 f1;have f3:=step 2 qA 40 f2;have f4:=step 3 qA 344 f3;have hc:n=0∨n=1∨n=2∨n=3∨n=4:=by omega
 rcases hc with rfl|rfl|rfl|rfl|rfl
 ·exact fun t ht=>by
   have ht:t∈Wg:=ht;rw [Ao.1 ht];have h1:(dg 1).length=1:=Dg;exact ⟨by show (dg 1).length≤2;omega,by show (dg 1).length≤2;omega⟩
 ·exact f1
 ·exact f2
 ·exact f3
 ·exact f4
def tmX (t:Tm):PT:=(Cg t.m0 t.m1 t.m2 t.m3,(if t.g1 then -(val t.d1:Int) else (val t.d1:Int)),(val t.d2:Int))
def lst (p:Nat→Tm) (n:Nat):Δ:=(List.range n).map fun i=>tmX (p i)
theorem Jq (p:Nat→Tm) (n:Nat):(lst p n).length=n:=by simp [lst]
theorem wE (p:Nat→Tm) {n i:Nat} (h:i<n):(lst p n)[i]? = some (tmX (p i)):=by
 unfold lst;rw [List.getElem?_map,List.getElem?_range h];rfl
theorem Aaq {t:Tm} (h:TOk t):CW (tmX t).2∧(tmX t).2.1≠0:=by
 obtain ⟨⟨o1,o2,e2,hne,hg⟩,hd⟩:=h;have h1:=Cv o1.1 hd;have h2:=Cv o2.1 hne;refine ⟨⟨by show (0:Int)<(val t.d2:Int);omega,?_⟩,?_⟩
 ·show Int.gcd (if t.g1 then -(val t.d1:Int) else (val t.d1:Int)) (val t.d2:Int)=1
  split
  ·rw [Int.neg_gcd];simpa [Int.gcd] using hg
  ·simpa [Int.gcd] using hg
 ·show (if t.g1 then -(val t.d1:Int) else (val t.d1:Int))≠0
  split<;>omega
theorem pD {t:Tm} (h:TOk t):Ey t (tmX t):=by
 obtain ⟨⟨o1,o2,e2,hne,hg⟩,hd⟩:=h;have h1:=Cv o1.1 hd;refine ⟨?_,?_,?_,?_,rfl⟩
 ·show t.g1=decide ((if t.g1 then -(val t.d1:Int) else (val t.d1:Int))<0)
  cases t.g1
  ·rw [if_neg qI];simp
  ·rw [if_pos rfl];simp;omega
 ·show t.d1=dg (if t.g1 then -(val t.d1:Int) else (val t.d1:Int)).natAbs;have:(if t.g1 then -(val t.d1:Int) else (val t.d1:Int)).natAbs=val t.d1:=by split<;>omega
  rw [this,Fw o1.1]
 ·show t.g2=decide ((val t.d2:Int)<0);rw [e2];simp
 ·show t.d2=dg (val t.d2:Int).natAbs;rw [Int.natAbs_natCast,Fw o2.1]
theorem zR {w:World} {s t:Tm} (hs:Ei w s) (ht:Ei w t) (h:Iq s.mono t.mono<0):(tmX s).1<(tmX t).1:=by
 unfold Tm.mono at h;rw [N6 hs.s0 hs.s1 hs.s2 hs.s3 ht.s0 ht.s1 ht.s2 ht.s3,Pz] at h;show Cg s.m0 s.m1 s.m2 s.m3<Cg t.m0 t.m1 t.m2 t.m3
 split at h
 ·assumption
 ·split at h<;>omega
theorem kC {w:World} {a:Γ} {n c:Nat} {p:Nat→Tm} (hp:RdP w a n c p) (hok:POk p n):∀j,j<n→∀i,i<j→(tmX (p j)).1<(tmX (p i)).1:=by
 intro j
 induction j with
 | zero=>intro _ i hi;omega
 | succ j ih =>
  intro hj i hi;have h1:=zR (hp.tm (j+1) hj) (hp.tm j qA) ((hok (j+1) hj).2 qA);rcases Nat.lt_or_ge i j with h|h
  ·exact Nat.lt_trans h1 (ih qA i h)
  ·obtain rfl:i=j:=by omega
   exact h1
theorem yX {w:World} {a:Γ} {n c:Nat} {p:Nat→Tm} (hp:RdP w a n c p) (hok:POk p n):PW (lst p n):=by
 have hmem:∀t∈lst p n,∃i,i<n∧t=tmX (p i):=fun t ht=>by
  obtain ⟨i,hi,rfl⟩:=List.mem_map.1 ht;exact ⟨i,List.mem_range.1 hi,rfl⟩
 refine ⟨?_,fun t ht=>?_,fun t ht=>?_⟩
 ·rw [Ct,List.pairwise_iff_getElem];intro i j hi hj hij;rw [Jq] at hi hj;have e1:(lst p n)[i]'(by rw [Jq];exact hi)=tmX (p i):=by simp [lst]
  have e2:(lst p n)[j]'(by rw [Jq];exact hj)=tmX (p j):=by simp [lst]
  rw [e1,e2];exact kC hp hok j hj i hij
 ·obtain ⟨i,hi,rfl⟩:=hmem t ht;exact Aaq (hok i hi).1
 ·obtain ⟨i,hi,rfl⟩:=hmem t ht;have h:=hp.tm i hi;exact Re h.s0 h.s1 h.s2 h.s3
theorem Abo {w:World} {a:Γ} {n c:Nat} {p:Nat→Tm} (hp:RdP w a n c p) (hok:POk p n) (hnl:a=none→c=0):Bd w 0 a n c (lst p n):=by
 refine ⟨Jq p n,.inr fun x _=>Ba _,hnl,p,hp,fun i x hx=>?_⟩;have hi:i<n:=by
  rcases Nat.lt_or_ge i n with h|h
  ·exact h
  ·rw [List.getElem?_eq_none (by rw [Jq];exact h)] at hx;cases hx
 rw [wE p hi] at hx;obtain rfl:=Option.some.inj hx;exact ⟨pD (hok i hi).1,.inr fun x _=>Ba _,.inr fun x _=>Ba _⟩
theorem xN {w:World} {a:Γ} {n c:Nat} {p:Nat→Tm} (hp:RdP w a n c p) (hok:POk p n) {K:Nat} (hK:∀i,i<n→(p i).n1≤K∧(p i).n2≤K):Cj K (lst p n):=by
 intro t ht;obtain ⟨i,hi,rfl⟩:=List.mem_map.1 ht;have hi:=List.mem_range.1 hi;have h1:=pD (hok i hi).1;have h2:=hp.tm i hi;rw [←h1.d1,←h1.d2,h2.top.len,h2.low.len];exact hK i hi
end Go.Proofs.YtnnhcbeiogaknaaGreatDoor
end
