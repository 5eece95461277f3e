/- polys.of: a polynomial that is of the form comes back as it is, else nothing. -/
import Derived.Test.YtfijkfdfbnfmmaaGreatDoorQF18
set_option linter.unusedSimpArgs false
set_option linter.unusedVariables false
set_option maxRecDepth 100000
set_option maxHeartbeats 4000000
section
namespace Go.Proofs.YtfijkfdfbnfmmaaGreatDoor
open Go.RowKit Proofs.Tryz
variable (o:Nat→Nat) (neg:Bool) (x:Nat) {many m:Bool} {d L r:List UInt8} {b c B B' n K K' K1 K2 k:Nat} {w w':World} {a a1 a2:Γ} {p q l:Δ}
theorem aQ (w:World) (a:Γ) (n c:Nat) (p:Nat→Tm) (hp:RdP w a n c p) (mh:∀k,k<n→(p k).n1≤1000000∧(p k).n2≤1000000) (r:Bool) (hr:POk p n↔r=true) :
  Θ 91 #[.slice a n c] w fun e w'=>e=.returned (if r then .slice a n c else .slice none 0 0)∧xp w w':=by
 have HB:=Ac w w;have HR:=Ae hr;have HS:=Ae mh;clear hr mh;go_enter func91,ntmps91;go_wp2_with fail;refine (Fz _ a n c p hp HS.out r HR.out).mono ?_;rintro e w1 ⟨rfl,hb⟩
 cases r with
 | true =>
  go_wp2_with fail;exact bodyPost_ret (v:=.slice a n c) (by simp [results,results91,go_sem]) rfl ⟨rfl,qD⟩
 | false =>
  go_wp2_with fail;exact bodyPost_ret (v:=.slice none 0 0) (by simp [results,results91,go_sem]) rfl ⟨rfl,qD⟩
def Bv (a b c d:Nat):Nat:=((a*65536+b)*65536+c)*65536+d
theorem Ka {a d:Nat} (ha:a<65536) (hb:b<65536) (hc:c<65536) (hd:d<65536):Bv a b c d<18446744073709551616:=by unfold Bv;omega
theorem Z7 {a d a' b' c' d':Nat} (ha:a<65536) (hb:b<65536) (hc:c<65536) (hd:d<65536) (GZ:a'<65536) (BP:b'<65536) (jf:c'<65536) (ik:d'<65536) (h:Bv a b c d=Bv a' b' c' d'):a=a'∧b=b'∧c=c'∧d=d':=by
 unfold Bv at h;omega
theorem Rh (a b:Nat):Bz (a:Int) (b:Int)=if a<b then -1 else if a=b then 0 else 1:=by
 unfold Bz;by_cases h1:a<b
 ·rw [if_pos qB,if_pos h1]
 ·rw [if_neg qB,if_neg h1];by_cases h2:a=b
  ·rw [if_pos qB,if_pos h2]
  ·rw [if_neg qB,if_neg h2]
theorem Lu {a d a' b' c' d':Nat} (ha:a<65536) (hb:b<65536) (hc:c<65536) (hd:d<65536) (GZ:a'<65536) (BP:b'<65536) (jf:c'<65536) (ik:d'<65536) :
  Dd (Bn a b c d) (Bn a' b' c' d')=Bz (Bv a b c d:Nat) (Bv a' b' c' d':Nat):=by
 unfold Dd;simp only [Bn,Rh,ne_eq,Int.natCast_inj];by_cases h1:a=a'
 ·by_cases h2:b=b'
  ·by_cases h3:c=c'
   ·by_cases h4:d=d'
    ·subst h1 h2 h3 h4;simp
    ·subst h1 h2 h3;rw [if_neg qH,if_neg qH,if_neg qH,if_pos (by simpa using h4)];unfold Bv;by_cases h:d<d'
     ·rw [if_pos h,if_pos qB]
     ·rw [if_neg h,if_neg h4,if_neg qB,if_neg qB]
   ·subst h1 h2;rw [if_neg qH,if_neg qH,if_pos (by simpa using h3)];unfold Bv;by_cases h:c<c'
    ·rw [if_pos h,if_pos qB]
    ·rw [if_neg h,if_neg h3,if_neg qB,if_neg qB]
  ·subst h1;rw [if_neg qH,if_pos (by simpa using h2)];unfold Bv;by_cases h:b<b'
   ·rw [if_pos h,if_pos qB]
   ·rw [if_neg h,if_neg h2,if_neg qB,if_neg qB]
 ·rw [if_pos (by simpa using h1)];unfold Bv;by_cases h:a<a'
  ·rw [if_pos h,if_pos qB]
  ·rw [if_neg h,if_neg h1,if_neg qB,if_neg qB]
abbrev Nw (B n:Nat) (a:Γ):Prop:=n=0∨K0 B a
theorem Nw.mono (h:Nw B n a) (hB:B'≤B):Nw B' n a:=h.imp id (·.mono hB)
theorem RdL.butR {d:Ξ} {row:Option Nat} (h:RdL w a n c d) (hn:Nw B n a) (hg:w.grownBy w' row) (hr:∀k,row=some k→k<B):RdL w' a n c d:=by
 refine ⟨h.len,h.cap,h.few,h.top,h.small,?_⟩;rcases h.cell with h0|⟨b,o,ha,hc⟩
 ·exact .inl h0
 ·rcases hn with h0|hn
  ·exact .inl h0
  ·refine .inr ⟨b,o,ha,fun i hi=>hg.cell (hc i hi) fun e=>?_⟩;have h1:=hr _ e.symm;have h2:=hn _ ha;simp at h1 h2;omega
theorem Bh.butR {g:Bool} {z:Int} {row:Option Nat} (h:Bh w g a n c z) (hn:Nw B n a) (hg:w.grownBy w' row) (hr:∀k,row=some k→k<B):Bh w' g a n c z:=⟨h.neg,h.rd.butR hn hg hr⟩
theorem Bo.butR {g1:Bool} {n1 c1:Nat} {p:Int} {g2:Bool} {n2 c2:Nat} {q:Int} {row:Option Nat} (h:Bo w g1 a1 n1 c1 p g2 a2 n2 c2 q) (h1:Nw B n1 a1) (h2:Nw B n2 a2) (hg:w.grownBy w' row) (hr:∀k,row=some k→k<B):Bo w' g1 a1 n1 c1 p g2 a2 n2 c2 q :=
 ⟨h.top.butR h1 hg hr,h.low.butR h2 hg hr,h.pos,h.red⟩
structure Ey (t:Tm) (x:PT):Prop where
 g1:t.g1=decide (x.2.1<0)
 d1:t.d1=dg x.2.1.natAbs
 g2:t.g2=decide (x.2.2<0)
 d2:t.d2=dg x.2.2.natAbs
 key:Bv t.m0 t.m1 t.m2 t.m3=x.1
theorem Ey.frac {t:Tm} {x:PT} (h:Ey t x) (hr:Dg w t) (hc:CW x.2):Bo w t.g1 t.a1 t.n1 t.c1 x.2.1 t.g2 t.a2 t.n2 t.c2 x.2.2 :=
 ⟨⟨h.g1,h.d1▸hr.top⟩,⟨h.g2,h.d2▸hr.low⟩,hc.pos,hc.red⟩
def Cj (K:Nat) (l:Δ):Prop:=∀t∈l,(dg t.2.1.natAbs).length≤K∧(dg t.2.2.natAbs).length≤K
structure Be (w:World) (B:Nat) (a:Γ) (n c:Nat) (l:Δ):Prop where
 len:l.length=n
 base:Nw B n a
 nl:a=none→c=0
 ts:∃p:Nat→Tm,RdP w a n c p∧∀i x,l[i]? = some x→Ey (p i) x∧Nw B (p i).n1 (p i).a1∧Nw B (p i).n2 (p i).a2
theorem Be.keep (h:Be w B a n c l) (hb:xp w w'):Be w' B a n c l:=by
 obtain ⟨p,hp,hx⟩:=h.ts;exact ⟨h.len,h.base,h.nl,p,hp.keep hb,hx⟩
theorem Be.mono (h:Be w B a n c l) (hB:B'≤B):Be w B' a n c l:=by
 obtain ⟨p,hp,hx⟩:=h.ts;exact ⟨h.len,h.base.mono hB,h.nl,p,hp,fun i x hi=>⟨(hx i x hi).1,(hx i x hi).2.1.mono hB,(hx i x hi).2.2.mono hB⟩⟩
theorem Nr.butR {o:Nat} {t:Tm} {row:Option Nat} (h:Nr w b o t) (hg:w.grownBy w' row) (hr:some b≠row):Nr w' b o t :=
 ⟨hg.cell h.e0 hr,hg.cell h.e1 hr,hg.cell h.e2 hr,hg.cell h.e3 hr,hg.cell h.e4 hr,hg.cell h.e5 hr,hg.cell h.e6 hr,hg.cell h.e7 hr⟩
theorem Be.butR {row:Option Nat} (h:Be w B a n c l) (hg:w.grownBy w' row) (hr:∀k,row=some k→k<B):Be w' B a n c l:=by
 obtain ⟨p,hp,hx⟩:=h.ts;refine ⟨h.len,h.base,h.nl,p,⟨hp.cap,hp.few,hp.top,fun i hi=>?_,?_⟩,hx⟩
 ·obtain ⟨x,hxi⟩:∃x,l[i]? = some x:=⟨l[i]'(by rw [h.len];exact hi),Ai _⟩;have ht:=hp.tm i hi;obtain ⟨_,k1,k2⟩:=hx i x hxi;exact ⟨ht.top.butR k1 hg hr,ht.low.butR k2 hg hr,ht.s0,ht.s1,ht.s2,ht.s3⟩
 ·rcases hp.cell with h0|⟨b,o,ha,hc⟩
  ·exact .inl h0
  ·rcases h.base with h0|hn
   ·exact .inl h0
   ·exact qEp
theorem Be.nil (w:World) (B:Nat):Be w B none 0 0 [] :=
 ⟨rfl,.inl rfl,fun _=>rfl,fun _=>⟨false,none,0,0,[],false,none,0,0,[],0,0,0,0⟩,⟨Ad _,qB,qB,fun i hi=>qB,.inl rfl⟩,fun i x hi=>by simp at hi⟩
theorem jZ (h:n≠0):dg n≠[]:=by
 intro e;have:=Bq n;rw [e,val] at this;omega
theorem Bo.tok {t:Tm} {x:PT} (h:Ey t x) (hr:Dg w t) (hc:CW x.2) (h0:x.2.1≠0):TOk t:=by
 have:=(h.frac hr hc).ok;rw [←h.d1,←h.d2] at this;refine ⟨this,?_⟩;rw [h.d1];exact jZ qB
theorem Be.pok (h:Be w B a n c l) (hl:PW l) {p:Nat→Tm} (hp:RdP w a n c p) (hx:∀i x,l[i]? = some x→Ey (p i) x∧Nw B (p i).n1 (p i).a1∧Nw B (p i).n2 (p i).a2):POk p n:=by
 intro j hj;have yi:j<l.length:=by rw [h.len];exact hj
 have e:l[j]? = some l[j]:=Ai yi;have hg:=hl.good l[j] (List.getElem_mem yi);have hrj:=hp.tm j hj;refine ⟨Bo.tok (hx j _ e).1 hrj hg.1 hg.2,fun hj0=>?_⟩;have hk:j-1<l.length:=qB;have e':l[j-1]? = some l[j-1]:=Ai hk;have hrk:=hp.tm (j-1) qB;have bj:l[j].1<l[j-1].1:=List.pairwise_iff_getElem.1 hl.falls (j-1) j hk yi qB;unfold Tm.mono;rw [Lu hrj.s0 hrj.s1 hrj.s2 hrj.s3 hrk.s0 hrk.s1 hrk.s2 hrk.s3,(hx j _ e).1.key,(hx (j-1) _ e').1.key];rw [C6 qB];decide
theorem Be.few (h:Be w B a n c l) (hK:Cj K l) {p:Nat→Tm} (hp:RdP w a n c p) (hx:∀i x,l[i]? = some x→Ey (p i) x∧Nw B (p i).n1 (p i).a1∧Nw B (p i).n2 (p i).a2):∀k,k<n→(p k).n1≤K∧(p k).n2≤K:=by
 intro j hj;have yi:j<l.length:=by rw [h.len];exact hj
 have e:l[j]? = some l[j]:=Ai yi;have hk:=hK l[j] (List.getElem_mem yi);have ht:=(hx j _ e).1;have hr:=hp.tm j hj;have h1:=hr.top.len;have h2:=hr.low.len;rw [ht.d1] at h1;rw [ht.d2] at h2;omega
theorem Gf:(dg 1).length=1:=by rw [Hq qB,show 1/1000000000=0 from rfl,Dv];rfl
theorem eH (a b:Int) (hb:0<b):(dg (Fh a b).natAbs).length≤(dg a.natAbs).length∧(dg (E5 a b).natAbs).length≤(dg b.natAbs).length:=by
 unfold Fh E5;have h1:(a/(Int.gcd a b:Int)).natAbs≤a.natAbs:=Int.natAbs_ediv_le_natAbs ..;have h2:(b/(Int.gcd a b:Int)).natAbs≤b.natAbs:=Int.natAbs_ediv_le_natAbs ..;exact ⟨Bu h1,Bu h2⟩
def Ch (K:Nat) (c:PC):Prop:=(dg c.1.natAbs).length≤K∧(dg c.2.natAbs).length≤K
theorem Ch.mono {c:PC} (h:Ch K c) (hK:K≤K'):Ch K' c:=⟨Ah h.1 hK,Ah h.2 hK⟩
theorem Uy (y K:Nat) (hx:(dg x).length≤K) (hy:(dg y).length≤K):(dg (x+y)).length≤K+1:=by
 have h2:(dg 2).length=1:=by rw [Hq qB,show 2/1000000000=0 from rfl,Dv];rfl
 rcases Nat.le_total x y with h|h
 ·have e1:=Bu (show x+y≤2*y from qB);have e2:=Hp 2 y;omega
 ·have e1:=Bu (show x+y≤2*x from qB);have e2:=Hp 2 x;omega
theorem Sb (x y:Int) (K:Nat) (hx:(dg x.natAbs).length≤K) (hy:(dg y.natAbs).length≤K):(dg (x+y).natAbs).length≤K+1:=by
 have e:=Uy x.natAbs y.natAbs K hx hy;have:=Bu (Int.natAbs_add_le x y);omega
theorem Ch.add {c d:PC} (hc:CW c) (hd:CW d) (h1:Ch K1 c) (h2:Ch K2 d):Ch (K1+K2+1) (He c d):=by
 have hp:0<c.2*d.2:=Int.mul_pos hc.pos hd.pos;obtain ⟨a1,a2⟩:=eH (c.1*d.2+d.1*c.2) (c.2*d.2) hp;obtain ⟨b1,b2⟩:=h1;obtain ⟨b3,b4⟩:=h2;have e2:=C9 c.1 d.2;have e3:=C9 d.1 c.2;have e4:=C9 c.2 d.2;have e1:=Sb (c.1*d.2) (d.1*c.2) (K1+K2) qB qB;refine ⟨?_,?_⟩
 ·show (dg (Fh (c.1*d.2+d.1*c.2) (c.2*d.2)).natAbs).length≤_;omega
 ·show (dg (E5 (c.1*d.2+d.1*c.2) (c.2*d.2)).natAbs).length≤_;omega
theorem Ch.mul {c d:PC} (hc:CW c) (hd:CW d) (h1:Ch K1 c) (h2:Ch K2 d):Ch (K1+K2) (Ct c d):=by
 have hp:0<c.2*d.2:=Int.mul_pos hc.pos hd.pos;obtain ⟨a1,a2⟩:=eH (c.1*d.1) (c.2*d.2) hp;have e2:=C9 c.1 d.1;have e4:=C9 c.2 d.2;obtain ⟨b1,b2⟩:=h1;obtain ⟨b3,b4⟩:=h2;refine ⟨?_,?_⟩
 ·show (dg (Fh (c.1*d.1) (c.2*d.2)).natAbs).length≤_;omega
 ·show (dg (E5 (c.1*d.1) (c.2*d.2)).natAbs).length≤_;omega
theorem Cj.mono (h:Cj K l) (hK:K≤K'):Cj K' l:=fun t ht=>Ch.mono (h t ht) hK
theorem Cj.add (a b:Δ) (ha:On a) (hb:On b) (h1:Cj K1 a) (h2:Cj K2 b):Cj (K1+K2+1) (Cf a b):=by
 induction a,b using Cf.induct with
 | case1 b=>rw [Cf];exact h2.mono qB
 | case2 x a=>rw [Cf];exact h1.mono qB
 | case3 x a y b bj ih =>
  rw [Cf,if_pos bj];intro t ht;rcases List.mem_cons.1 ht with rfl|ht
  ·exact Ch.mono (h1 _ qH) qB
  ·exact ih (fun t h=>ha t (by simp [h])) hb (fun t h=>h1 t (by simp [h])) h2 t ht
 | case4 x a y b hn bj ih =>
  rw [Cf,if_neg hn,if_pos bj];intro t ht;rcases List.mem_cons.1 ht with rfl|ht
  ·exact Ch.mono (h2 _ qH) qB
  ·exact ih ha (fun t h=>hb t (by simp [h])) h1 (fun t h=>h2 t (by simp [h])) t ht
 | case5 x a y b hn hm h3 ih =>
  rw [Cf,if_neg hn,if_neg hm,if_pos h3];exact ih (fun t h=>ha t (by simp [h])) (fun t h=>hb t (by simp [h])) (fun t h=>h1 t (by simp [h])) (fun t h=>h2 t (by simp [h]))
 | case6 x a y b hn hm h3 ih =>
  rw [Cf,if_neg hn,if_neg hm,if_neg h3];intro t ht;rcases List.mem_cons.1 ht with rfl|ht
  ·exact Ch.add (ha x qH).1 (hb y qH).1 (h1 x qH) (h2 y qH)
  ·exact ih (fun t h=>ha t (by simp [h])) (fun t h=>hb t (by simp [h])) (fun t h=>h1 t (by simp [h])) (fun t h=>h2 t (by simp [h])) t ht
def Qu (t:PT):Δ→Δ
 | []=>if t.2.1=0 then [] else [t]
 | x::l =>
  if x.1<t.1 then (if t.2.1=0 then x::l else t::x::l)
  else if x.1=t.1 then (if (He x.2 t.2).1=0 then l else (x.1,He x.2 t.2)::l)
  else x::Qu t l
def Pv (L:Δ):Δ:=L.foldl (fun a t=>Qu t a) []
def cf (l:Δ) (k:Nat):PC:=(lk l k).getD (0,1)
theorem CW.zero {c:PC} (h:CW c) (h0:c.1=0):c=(0,1):=by
 obtain ⟨a,b⟩:=c;have h1:=h.pos;have h2:=h.red;simp only at h0 h1 h2;subst h0;rw [Int.gcd_zero_left] at h2
 congr 1
 omega
theorem Py {c:PC} (h:CW c):He (0,1) c=c:=by
 unfold He;simp only [Int.zero_mul,Int.zero_add,Int.mul_one,Int.one_mul];rw [Yt h.red,W6 h.red]
theorem iF (hg:On l) {c:PC}:lk l k=some c↔cf l k=c∧c.1≠0:=by
 unfold cf
 cases h:lk l k with
 | none =>
  simp only [Option.getD_none,reduceCtorEq,false_iff,not_and,Decidable.not_not];rintro rfl;rfl
 | some d =>
  simp only [Option.getD_some,Option.some.injEq];exact ⟨fun e=>⟨e,by subst e;exact (hg _ (Jf h)).2⟩,fun e=>e.1⟩
theorem xT {l':Δ} (hf:Dh l) (hg:On l) (wk:Dh l') (tq:On l') (h:∀k,cf l k=cf l' k):l=l' :=
 Mp hf wk fun t=>by
  obtain ⟨k,c⟩:=t;have e1:(k,c)∈l↔lk l k=some c:=⟨J1 hf,Jf⟩;have e2:(k,c)∈l'↔lk l' k=some c:=⟨J1 wk,Jf⟩;rw [e1,e2,iF hg,iF tq,h]
theorem Kj (x:PT) (l:Δ) (k:Nat):cf (x::l) k=if x.1=k then x.2 else cf l k:=by
 unfold cf;rw [Ks]
 split<;>rfl
theorem oH (k:Nat):cf [] k=(0,1):=rfl
theorem Uq (h:∀t∈l,t.1<k):cf l k=(0,1):=by unfold cf;rw [Jl h];rfl
theorem kS (t:PT) (l:Δ):∀x∈Qu t l,x.1=t.1∨∃y∈l,y.1=x.1:=by
 induction l with
 | nil=>intro x hx;unfold Qu at hx;split at hx<;>simp_all
 | cons y l ih =>
  intro x hx;unfold Qu at hx
  split at hx
  ·split at hx
   ·exact .inr ⟨x,hx,rfl⟩
   ·rcases List.mem_cons.1 hx with rfl|hx
    ·exact .inl rfl
    ·exact .inr ⟨x,hx,rfl⟩
  ·split at hx
   ·split at hx
    ·exact .inr ⟨x,by simp [hx],rfl⟩
    ·rcases List.mem_cons.1 hx with rfl|hx
     ·exact .inr ⟨y,qH,rfl⟩
     ·exact .inr ⟨x,by simp [hx],rfl⟩
   ·rcases List.mem_cons.1 hx with rfl|hx
    ·exact .inr ⟨x,qH,rfl⟩
    ·rcases ih x hx with h|⟨z,hz,e⟩
     ·exact .inl h
     ·exact .inr ⟨z,by simp [hz],e⟩
theorem kJ (t:PT) (ht:CW t.2) (l:Δ) (hf:Dh l) (hg:On l) :
  Dh (Qu t l)∧On (Qu t l)∧∀k,cf (Qu t l) k=if t.1=k then He (cf l k) t.2 else cf l k:=by
 induction l with
 | nil =>
  unfold Qu
  split
  ·next h=>exact ⟨hf,hg,fun k=>by rw [oH,Py ht,ht.zero h];split<;>rfl⟩
  ·next h =>
   refine ⟨by simp [Dh],fun x hx=>?_,fun k=>?_⟩
   ·simp only [Ao] at hx;subst hx;exact ⟨ht,h⟩
   ·rw [Kj,oH,Py ht]
 | cons x l ih =>
  obtain ⟨h1,h2⟩:=List.pairwise_cons.1 hf;have zt:On l:=fun y hy=>hg y (by simp [hy])
  obtain ⟨i1,i2,i3⟩:=ih h2 zt;unfold Qu
  split
  ·next bj =>
   have wu:∀y∈x::l,y.1<t.1:=fun y hy=>by
    rcases List.mem_cons.1 hy with rfl|hy
    ·exact bj
    ·have:=h1 y hy;omega
   split
   ·next h0 =>
    refine ⟨hf,hg,fun k=>?_⟩
    split
    ·next e=>subst e;rw [Uq wu,Py ht,ht.zero h0]
    ·rfl
   ·next h0 =>
    refine ⟨List.pairwise_cons.2 ⟨wu,hf⟩,fun y hy=>?_,fun k=>?_⟩
    ·rcases List.mem_cons.1 hy with rfl|hy
     ·exact ⟨ht,h0⟩
     ·exact hg y hy
    ·rw [Kj t]
     split
     ·next e=>subst e;rw [Uq wu,Py ht]
     ·rfl
  ·next hnlt =>
   split
   ·next he =>
    have hx:=hg x qH;have wu:∀y∈l,y.1<t.1:=fun y hy=>by have:=h1 y hy;omega
    split
    ·next h0 =>
     refine ⟨h2,zt,fun k=>?_⟩;rw [Kj];by_cases e:t.1=k
     ·subst e;rw [if_pos rfl,if_pos he,Uq wu,(hx.1.add ht).zero h0]
     ·rw [if_neg e,if_neg qB]
    ·next h0 =>
     refine ⟨List.pairwise_cons.2 ⟨h1,h2⟩,fun y hy=>?_,fun k=>?_⟩
     ·rcases List.mem_cons.1 hy with rfl|hy
      ·exact ⟨hx.1.add ht,h0⟩
      ·exact zt y hy
     ·rw [Kj,Kj];by_cases e:t.1=k
      ·rw [if_pos e,if_pos (by show x.1=k;omega),if_pos qB]
      ·rw [if_neg e,if_neg (by show ¬x.1=k;omega),if_neg qB]
   ·next di =>
    refine ⟨List.pairwise_cons.2 ⟨fun y hy=>?_,i1⟩,fun y hy=>?_,fun k=>?_⟩
    ·rcases kS t l y hy with e|⟨z,hz,e⟩
     ·omega
     ·have:=h1 z hz;omega
    ·rcases List.mem_cons.1 hy with rfl|hy
     ·exact hg y qH
     ·exact i2 y hy
    ·rw [Kj,Kj,i3];by_cases e:x.1=k
     ·rw [if_pos e,if_pos e,if_neg qB]
     ·rw [if_neg e,if_neg e]
theorem dG (L:Δ) (hL:∀t∈L,CW t.2):∀(a:Δ),Dh a→On a→∀f:Nat→Option PC,(∀k,(f k).getD (0,1)=cf a k) →
  Dh (L.foldl (fun a t=>Qu t a) a)∧On (L.foldl (fun a t=>Qu t a) a)∧∀k,(L.foldl I4 f k).getD (0,1)=cf (L.foldl (fun a t=>Qu t a) a) k:=by
 induction L with
 | nil=>intro a h1 h2 f hf;exact ⟨h1,h2,hf⟩
 | cons t L ih =>
  intro a h1 h2 f hf;have ht:=hL t qH;obtain ⟨s1,s2,s3⟩:=kJ t ht a h1 h2;refine ih (fun x hx=>hL x (by simp [hx])) _ s1 s2 _ fun k=>?_
  rw [s3,I4];by_cases e:k=t.1
  ·subst e;rw [if_pos rfl,if_pos rfl,←hf]
   cases f t.1 with
   | none=>simp [Py ht]
   | some c=>rfl
  ·rw [if_neg e,if_neg qB,hf]
theorem Qo {L:Δ} (hL:∀t∈L,CW t.2):Dh (Pv L)∧On (Pv L)∧∀k,(D2 L k).getD (0,1)=cf (Pv L) k :=
 dG L hL [] (by simp [Dh]) (fun x hx=>by cases hx) _ fun k=>rfl
theorem Zx {L:Δ} {x:PC} (h:D2 L k=some x):∃t∈L,t.1=k:=by
 have hi:∀(L:Δ) (f:Nat→Option PC),L.foldl I4 f k=some x→(∃t∈L,t.1=k)∨f k=some x:=by
  intro L
  induction L with
  | nil=>intro f h;exact .inr h
  | cons t L ih =>
   intro f h;rcases ih _ h with ⟨y,hy,e⟩|h
   ·exact .inl ⟨y,by simp [hy],e⟩
   ·unfold I4 at h;by_cases e:k=t.1
    ·exact .inl ⟨t,qH,e.symm⟩
    ·rw [if_neg e] at h;exact .inr h
 rcases hi L _ h with h|h
 ·exact h
 ·cases h
theorem Ml {L r:Δ} (hL:∀t∈L,CW t.2) (hr:Dh r) (hm:∀t,t∈r↔(D2 L t.1=some t.2∧t.2.1≠0)):r=Pv L:=by
 obtain ⟨s1,s2,s3⟩:=Qo hL;refine Mp hr s1 fun t=>?_
 obtain ⟨k,c⟩:=t;have e1:(k,c)∈Pv L↔lk (Pv L) k=some c:=⟨J1 s1,Jf⟩;rw [hm,e1,iF s2,←s3];show D2 L k=some c∧c.1≠0↔_
 cases h:D2 L k with
 | none =>
  simp only [reduceCtorEq,false_and,Option.getD_none,false_iff,not_and,Decidable.not_not];rintro rfl;rfl
 | some d=>simp
theorem Mu (h:PW l):Pv l=l:=by
 have hc:∀t∈l,CW t.2:=fun t ht=>(h.good t ht).1
 obtain ⟨s1,s2,s3⟩:=Qo hc;refine xT s1 s2 h.falls h.good fun k=>?_
 rw [←s3];unfold D2 cf;rw [Qh l h.falls]
 cases lk l k<;>rfl
theorem Uu {a b:Δ} (ha:PW a) (hb:PW b):Pv (a++b)=Cf a b:=by
 have hc:∀t∈a++b,CW t.2:=fun t ht=>by
  rcases List.mem_append.1 ht with h|h
  ·exact (ha.good t h).1
  ·exact (hb.good t h).1
 obtain ⟨s1,s2,s3⟩:=Qo hc;refine Sx ha hb s1 fun t=>?_
 obtain ⟨k,c⟩:=t;have e1:(k,c)∈Pv (a++b)↔lk (Pv (a++b)) k=some c:=⟨J1 s1,Jf⟩;rw [e1,iF s2,←s3];show _↔D2 (a++b) k=some c∧c.1≠0
 cases h:D2 (a++b) k with
 | none =>
  simp only [reduceCtorEq,false_and,Option.getD_none,iff_false,not_and,Decidable.not_not];rintro rfl;rfl
 | some d=>simp
theorem sC (n:Nat):(dg n).length≤n.log2/29+1:=by
 induction n using Nat.strongRecOn with
 | _ n ih =>
  by_cases h0:n=0
  ·subst h0;rw [Dv];simp
  ·rw [Hq qB,List.length_cons];by_cases h1:n<1000000000
   ·rw [Nat.div_eq_of_lt h1,Dv];simp
   ·have h2:=ih (n/1000000000) (Nat.div_lt_self qB qB);have h3:n/1000000000≠0:=by have:=Nat.div_pos (show 1000000000≤n from qB) qB;omega
    have h4:(n/1000000000).log2+29≤n.log2:=by
     rw [Nat.le_log2 h0,Nat.pow_add];have h5:=Nat.log2_self_le h3;have h6:(2:Nat) ^ 29≤1000000000:=qI;exact Ah (Nat.mul_le_mul h5 h6) (Nat.div_mul_le_self n 1000000000)
    omega
def nP (c:PC):Nat:=max (c.1.natAbs.log2/29) (c.2.natAbs.log2/29)+1
theorem hZ (c:PC):Ch (nP c) c:=⟨Ah (sC _) (by unfold nP;omega),Ah (sC _) (by unfold nP;omega)⟩
def pC (c:PC):Nat:=max (dg c.1.natAbs).length (dg c.2.natAbs).length
theorem Xt (c:PC):Ch (pC c) c:=⟨Nat.le_max_left _ _,Nat.le_max_right _ _⟩
theorem Ab5 {c:PC} (h:Ch K c):pC c≤K:=Nat.max_le.2 h
def wt (L:Δ):Nat:=(L.map fun t=>pC t.2+1).sum
theorem O7 (t:PT) (L:Δ):wt (t::L)=pC t.2+1+wt L:=by simp [wt]
theorem kC (L zh:Δ):wt (L++zh)=wt L+wt zh:=by simp [wt]
theorem yI {L:Δ} {t:PT} (h:t∈L):pC t.2+1≤wt L:=by
 induction L with
 | nil=>cases h
 | cons x L ih =>
  rw [O7];rcases List.mem_cons.1 h with rfl|h
  ·omega
  ·have:=ih h;omega
theorem nC {L:Δ} (h:∀t∈L,Ch K t.2):wt L≤L.length*(K+1):=by
 induction L with
 | nil=>simp [wt]
 | cons x L ih =>
  rw [O7,List.length_cons,Nat.add_mul,Nat.one_mul];have h1:=Ab5 (h x qH);have h2:=ih fun t ht=>h t (by simp [ht])
  omega
def wtk (L:Δ) (k:Nat):Nat:=wt (L.filter fun t=>t.1=k)
theorem Yj (L:Δ) (k:Nat):wtk L k≤wt L:=by
 unfold wtk
 induction L with
 | nil=>simp [wt]
 | cons t L ih =>
  rw [O7,List.filter_cons]
  split
  ·rw [O7];omega
  ·omega
theorem rK (t:PT) (L:Δ) (k:Nat):wtk (t::L) k=(if t.1=k then pC t.2+1 else 0)+wtk L k:=by
 unfold wtk;rw [List.filter_cons];by_cases h:t.1=k
 ·simp [h,O7]
 ·simp [h]
theorem Iu (L zh:Δ) (k:Nat):wtk (L++zh) k=wtk L k+wtk zh k:=by
 unfold wtk;rw [List.filter_append,kC]
theorem oB (L:Δ) (n k:Nat):wtk (L.take n) k≤wtk L k:=by
 have h:L=L.take n++L.drop n:=(List.take_append_drop n L).symm
 conv=>rhs;rw [h]
 rw [Iu];omega
theorem jM (L:Δ) (hL:∀t∈L,CW t.2):∀(f:Nat→Option PC) (g:Nat→Nat),(∀k x,f k=some x→CW x∧Ch (g k) x)→∀k x,L.foldl I4 f k=some x→CW x∧Ch (g k+wtk L k) x:=by
 induction L with
 | nil=>intro f g hf k x hx;exact ⟨(hf k x hx).1,(hf k x hx).2.mono qH⟩
 | cons t L ih =>
  intro f g hf k x hx;have ht:=hL t qH;have:=ih (fun y hy=>hL y (by simp [hy])) (I4 f t) (fun j=>g j+if t.1=j then pC t.2+1 else 0) (fun j y hy=>by
   unfold I4 at hy
   split at hy
   ·next e =>
    subst e;simp only [Option.some.injEq] at hy
    cases hft:f t.1 with
    | none=>rw [hft] at hy;simp only at hy;subst hy;exact ⟨ht,(Xt _).mono qL⟩
    | some c =>
     rw [hft] at hy;simp only at hy;subst hy;obtain ⟨h1,h2⟩:=hf _ _ hft;exact ⟨h1.add ht,(Ch.add h1 ht h2 (Xt _)).mono qL⟩
   ·next e =>
    obtain ⟨h1,h2⟩:=hf _ _ hy;exact ⟨h1,h2.mono qB⟩) k x hx
  rw [rK];exact ⟨this.1,this.2.mono qB⟩
theorem Lz {L:Δ} (hL:∀t∈L,CW t.2) {x:PC} (h:D2 L k=some x):CW x∧Ch (wtk L k) x:=by
 have:=jM L hL (fun _=>none) (fun _=>0) (fun k x h=>by cases h) k x h;exact ⟨this.1,this.2.mono qB⟩
def exN (k x:Nat):Nat:=k/65536 ^ (3-x)%65536
def Kc (x y:PC):PC :=
 let t:=x.1*y.2
 let l:=y.1*x.2
 if l<0 then (-(t/(Int.gcd t l:Int)),-(l/(Int.gcd t l:Int))) else (t/(Int.gcd t l:Int),l/(Int.gcd t l:Int))
def cwB (c:PC):Bool:=decide (0<c.2)&&(Int.gcd c.1 c.2==1)
def Xq:Δ→Bool
 | x::y::l=>decide (y.1<x.1)&&Xq (y::l)
 | _=>true
def smB (l:Δ):Bool:=Xq l&&decide (l.length≤40)&&l.all fun t=>cwB t.2&&decide (t.2.1≠0)&&decide (t.1<18446744073709551616)&&decide (nP t.2≤100)
def ck (l:Δ):Option (Δ):=if smB l then some l else none
def Va (p q:Δ):Δ:=Pv (p++q)
def Ej (c:PC) (l:Δ):Δ:=l.map fun t=>(t.1,Ct t.2 c)
def Ti (c:PC) (l:Δ):Δ:=Pv (Ej c l)
def Sd (p q:Δ):Δ:=Va p (Ti (-1,1) q)
def Fg (a b:Nat):Nat:=Bv (exN a 0+exN b 0) (exN a 1+exN b 1) (exN a 2+exN b 2) (exN a 3+exN b 3)
def Gr (a b:Nat):Bool:=exN a 0+exN b 0<65536&&exN a 1+exN b 1<65536&&exN a 2+exN b 2<65536&&exN a 3+exN b 3<65536
def C4 (p q:Δ):Δ:=p.flatMap fun s=>q.map fun t=>(Fg s.1 t.1,Ct s.2 t.2)
def Cm (p q:Δ):Bool:=p.all fun s=>q.all fun t=>Gr s.1 t.1
def Jk (p q:Δ):Δ:=Pv (C4 p q)
structure Sm (l:Δ):Prop where
 pw:PW l
 few:Cj 100 l
 len:l.length≤40
theorem Po:∀{l:Δ},Xq l=true→Dh l
 | [],_=>by simp [Dh]
 | [x],_=>by simp [Dh]
 | x::y::l,h=>by
  unfold Xq at h;simp only [Bool.and_eq_true,decide_eq_true_eq] at h;have ih:=Po h.2;refine List.pairwise_cons.2 ⟨fun z hz=>?_,ih⟩;rcases List.mem_cons.1 hz with rfl|hz
  ·exact h.1
  ·have:=(List.pairwise_cons.1 ih).1 z hz;omega
theorem Sm.of (h:smB l=true):Sm l:=by
 unfold smB at h;simp only [Bool.and_eq_true,decide_eq_true_eq,List.all_eq_true,cwB,beq_iff_eq] at h;obtain ⟨⟨h1,h2⟩,h3⟩:=h;refine ⟨⟨Po h1,fun t ht=>?_,fun t ht=>(h3 t ht).1.2⟩,fun t ht=>?_,h2⟩
 ·obtain ⟨⟨⟨⟨k1,k2⟩,k3⟩,k4⟩,k5⟩:=h3 t ht;exact ⟨⟨k1,k2⟩,k3⟩
 ·have k:=(h3 t ht).2;exact (hZ t.2).mono k
theorem Sm.nil:Sm []:=Sm.of qI
theorem Fv (k x:Nat):exN k x<65536:=Nat.mod_lt _ qI
theorem Dz {a d:Nat} (hb:b<65536) (hc:c<65536) (hd:d<65536) (ha:a<65536) :
  exN (Bv a b c d) 0=a∧exN (Bv a b c d) 1=b∧exN (Bv a b c d) 2=c∧exN (Bv a b c d) 3=d:=by
 have e0:(65536:Nat) ^ 3=281474976710656:=qI;have e1:(65536:Nat) ^ 2=4294967296:=qI;unfold exN Bv;simp only [Nat.sub_zero,Nat.reduceSub,e0,e1,Nat.pow_one,Nat.pow_zero,Nat.div_one];omega
theorem Xe (z:Int):CW (z,1):=⟨by show (0:Int)<1;decide,qH⟩
theorem jE (hl:Sm l) {c:PC} (hc:CW c) (hf:Ch 200 c) (k:Nat):wtk (Ej c l) k≤400000:=by
 have h1:=Yj (Ej c l) k;have h2:wt (Ej c l)≤(Ej c l).length*(300+1):=nC fun t ht=>by
  obtain ⟨x,hx,rfl⟩:=List.mem_map.1 ht;exact Ch.mul (hl.pw.good x hx).1 hc (hl.few x hx) hf
 have h3:(Ej c l).length=l.length:=by simp [Ej]
 have:=hl.len;rw [h3] at h2;omega
theorem Ke (x:PT) (p q:Δ):C4 (x::p) q=(q.map fun t=>(Fg x.1 t.1,Ct x.2 t.2))++C4 p q:=rfl
theorem Kd (p p' q:Δ):C4 (p++p') q=C4 p q++C4 p' q:=by simp [C4]
theorem Yh (p q:Δ):(C4 p q).length=p.length*q.length:=by
 induction p with
 | nil=>simp [C4]
 | cons x p ih=>rw [Ke,A8,List.length_map,ih,List.length_cons,Nat.add_mul,Nat.one_mul,Nat.add_comm]
theorem My {t:PT} (h:t∈C4 p q):∃x∈p,∃y∈q,t=(Fg x.1 y.1,Ct x.2 y.2):=by
 unfold C4 at h;obtain ⟨x,hx,h⟩:=List.mem_flatMap.1 h;obtain ⟨y,hy,rfl⟩:=List.mem_map.1 h;exact ⟨x,hx,y,hy,rfl⟩
theorem Yz (hp:∀t∈p,CW t.2) (hq:∀t∈q,CW t.2) (h:Cj K p) (h':Cj K' q):wt (C4 p q)≤p.length*q.length*(K+K'+1):=by
 rw [←Yh];refine nC fun t ht=>?_
 obtain ⟨x,hx,y,hy,rfl⟩:=My ht;exact Ch.mul (hp x hx) (hq y hy) (h x hx) (h' y hy)
theorem jT (hp:Sm p) (hq:Sm q) (k:Nat):wtk (C4 p q) k≤400000:=by
 have h1:=Yj (C4 p q) k;have h2:=Yz (fun t ht=>(hp.pw.good t ht).1) (fun t ht=>(hq.pw.good t ht).1) hp.few hq.few;have h3:=Nat.mul_le_mul hp.len hq.len;have h4:=Nat.mul_le_mul_right 201 h3;omega
theorem Rq {c:PC} (hc:CW c):Ct c (-1,1)=(-c.1,c.2):=by
 unfold Ct;have:Int.gcd (c.1 * -1) (c.2*1)=1:=by
  rw [Int.mul_one,Int.mul_neg,Int.mul_one,Int.neg_gcd];exact hc.red
 show (Fh (c.1 * -1) (c.2*1),E5 (c.1 * -1) (c.2*1))=_;rw [Yt this,W6 this,Int.mul_neg,Int.mul_one,Int.mul_one]
def uO (p q:Δ):Option (Δ):=ck (Va p q)
def vT (p q:Δ):Option (Δ):=ck (Sd p q)
def sZ (p q:Δ):Option (Δ):=if Cm p q then ck (Jk p q) else none
def inM (a b:Nat):Bool:=exN b 0≤exN a 0&&exN b 1≤exN a 1&&exN b 2≤exN a 2&&exN b 3≤exN a 3
def Cq:List UInt8→Int→Bool
 | [],_=>false
 | b::_,c=>decide ((b.toNat:Int)=c)
theorem J9 (b:UInt8) (r:List UInt8):(⟨(b::r).toArray⟩:ByteArray).extract 1 (r.length+1)=⟨r.toArray⟩:=by
 apply ByteArray.ext;simp
theorem eZ (w:World) (R:Nat) (c:Int) (h0:Z w R 0 (.string ⟨([]:List UInt8).toArray⟩)) (hf:Y w R 0) (h1:0≤c) (h2:c<256) :
  Θ 206 #[.pointer (E R),.int .u8 c] w (fun e w'=>e=.returned (.bool false)∧w'=w):=by
 go_enter func206,ntmps206;go_wp2;exact bodyPost_ret (v:=.bool false) (by simp [results,results206,go_sem]) rfl ⟨rfl,rfl⟩
theorem aI (w:World) (R:Nat) (b:UInt8) (r:List UInt8) (c:Int) (h0:Z w R 0 (.string ⟨(b::r).toArray⟩)) (hf:Y w R 0) (h1:0≤c) (h2:c<256) (hr:r.length<1000000000) :
  Θ 206 #[.pointer (E R),.int .u8 c] w (fun e w'=>e=.returned (.bool (decide ((b.toNat:Int)=c)))∧(if (b.toNat:Int)=c then w'=w.setCell (J R 0) (.string ⟨r.toArray⟩) else w'=w)):=by
 have hx:=J9 b r;have hy:(⟨(b::r).toArray⟩:ByteArray)[0]'(by simp [ByteArray.size])=b:=by simp [ByteArray.getElem_eq_getElem_data]
 go_enter func206,ntmps206;go_wp2;all_goals first
  | exact bodyPost_ret (v:=.bool true) (by simp [results,results206,go_sem]) rfl ⟨rfl,rfl⟩
  | exact bodyPost_ret (v:=.bool false) (by simp [results,results206,go_sem]) rfl ⟨rfl,rfl⟩
  | (exfalso;simp_all;done)
theorem jI (w:World) (R:Nat) (l:List UInt8) (c:Int) (h0:Z w R 0 (.string ⟨l.toArray⟩)) (hf:Y w R 0) (h1:0≤c) (h2:c<256) (hr:l.length<1000000000) :
  Θ 206 #[.pointer (E R),.int .u8 c] w (fun e w'=>e=.returned (.bool (Cq l c))∧w'=if Cq l c then w.setCell (J R 0) (.string ⟨l.tail.toArray⟩) else w):=by
 cases l with
 | nil=>exact eZ w R c h0 hf h1 h2
 | cons b r =>
  refine (aI w R b r c h0 hf h1 h2 (by simp at hr;omega)).mono ?_;rintro e w' ⟨rfl,h⟩;refine ⟨rfl,?_⟩;simp only [Cq,List.tail_cons,decide_eq_true_eq];by_cases hb:(b.toNat:Int)=c
  ·simpa [hb] using h
  ·simpa [hb] using h
def Ee (d:List UInt8):Nat:=d.foldl (fun n b=>10*n+(b.toNat-48)) 0
def Gd (d:List UInt8):Nat:=if 200<d.length then 0 else Ee d
def K8 (L:List UInt8) (many:Bool):Option (List UInt8×List UInt8×Bool) :=
 if E3 (L.takeWhile Ea) then some (L.takeWhile Ea,L.dropWhile Ea,many || decide (200<(L.takeWhile Ea).length)) else none
def Ix (L:List UInt8) (many:Bool):Option (List UInt8×List UInt8×Bool) :=
 match K8 L many with
 | none=>none
 | some (d,r,m)=>if d=[48] then none else some (d,r,m)
def Ja (L:List UInt8) (many:Bool):Option (Nat×List UInt8×Bool) :=
 if Cq L 94 then
  match Ix L.tail many with
  | none=>none
  | some (d,r,m)=>if 1000<Ee d then some (0,r,true) else some (Ee d,r,m)
 else some (1,L,many)
def Ps (n d:Nat):PC:=if d=0 then (0,1) else (Fh n d,E5 n d)
def Fu (L:List UInt8) (many:Bool):Option (PC×List UInt8×Bool) :=
 match K8 L many with
 | none=>none
 | some (t,r,m) =>
  if Cq r 47 then
   match Ix r.tail m with
   | none=>none
   | some (l,r',m')=>some (Ps (Gd t) (Gd l),r',m')
  else some (Ps (Gd t) 1,r,m)
def Iy (b:UInt8):Option Nat :=
 if b=120 then some 0 else if b=121 then some 1 else if b=122 then some 2 else if b=116 then some 3 else none
structure TS where
 c:PC
 o:Nat→Nat
 L:List UInt8
 many:Bool
def Vf (o:Nat→Nat) (i n:Nat):Nat→Nat:=fun k=>if k=i then o i+n else o k
def Co (s:TS):Option TS :=
 match s.L with
 | []=>none
 | b::r =>
  match Iy b with
  | some i=>match Ja r s.many with
   | none=>none
   | some (n,r',m)=>some ⟨s.c,Vf s.o i n,r',m⟩
  | none=>match Fu (b::r) s.many with
   | none=>none
   | some (c,r',m)=>some ⟨Ct s.c c,s.o,r',m⟩
def skp (L:List UInt8):List UInt8:=L.dropWhile rQ
theorem Fw (L:List UInt8):(skp L).length≤L.length:=(List.dropWhile_sublist _).length_le
theorem Ms (h:K8 L many=some (d,r,m)):d.length+r.length=L.length∧0<d.length:=by
 unfold K8 at h
 split at h
 ·next hd =>
  simp only [Option.some.injEq,Prod.mk.injEq] at h;obtain ⟨rfl,rfl,_⟩:=h;refine ⟨?_,?_⟩
  ·rw [←A8,List.takeWhile_append_dropWhile]
  ·cases he:L.takeWhile Ea with
   | nil=>rw [he] at hd;simp [E3] at hd
   | cons b t=>simp
 ·cases h
theorem J2 (h:Ix L many=some (d,r,m)):d.length+r.length=L.length∧0<d.length:=by
 unfold Ix at h
 split at h
 ·cases h
 ·next d' r' m' h' =>
  split at h
  ·cases h
  ·cases h;exact Ms h'
theorem Qv (h:Ja L many=some (n,r,m)):r.length≤L.length:=by
 unfold Ja at h
 split at h
 ·split at h
  ·cases h
  ·next d r' m' h' =>
   have h1:=J2 h';have h2:L.tail.length≤L.length:=qH
   split at h<;>cases h<;>omega
 ·cases h;exact Ad _
theorem dA {c:PC} (h:Fu L many=some (c,r,m)):r.length<L.length:=by
 unfold Fu at h
 split at h
 ·cases h
 ·next t r' m' h' =>
  have h1:=Ms h'
  split at h
  ·split at h
   ·cases h
   ·next l r'' m'' h'' =>
    have h2:=J2 h'';have h3:r'.tail.length≤r'.length:=qH
    cases h;omega
  ·cases h;omega
theorem D4 {s t:TS} (h:Co s=some t):t.L.length<s.L.length:=by
 unfold Co at h
 split at h
 ·cases h
 ·next b r hL =>
  rw [hL]
  split at h
  ·split at h
   ·cases h
   ·next n r' m h' =>
    have:=Qv h';cases h;simp;omega
  ·split at h
   ·cases h
   ·next c r' m h' =>
    have:=dA h';cases h;simpa using this
def Cp (s:TS):Option TS :=
 if Gb s.L then
  match h:Co s with
  | none=>none
  | some t =>
   if Cq (skp t.L) 42 then Cp { t with L:=skp (skp t.L).tail }
   else if Gb (skp t.L) then Cp { t with L:=skp t.L }
   else some { t with L:=skp t.L }
 else none
termination_by s.L.length
decreasing_by
 ·have h1:=D4 h
  have h2:=Fw t.L
  have h3:=Fw (skp t.L).tail
  have h4:(skp t.L).tail.length≤(skp t.L).length:=qH
  show (skp (skp t.L).tail).length<s.L.length
  omega
 ·have h1:=D4 h
  have h2:=Fw t.L
  show (skp t.L).length<s.L.length
  omega
def J0 (o:Nat→Nat):Bool:=decide (65535<o 0) || decide (65535<o 1) || decide (65535<o 2) || decide (65535<o 3)
def Jp (n:Nat):Nat:=min n 65535
def Sc (o:Nat→Nat):Nat:=Bv (Jp (o 0)) (Jp (o 1)) (Jp (o 2)) (Jp (o 3))
def Re (k:Nat) (c:PC):Δ:=if c.1=0 then [] else [(k,c)]
def Gc (L:List UInt8) (many neg:Bool):Option (Δ×List UInt8×Bool) :=
 match Cp ⟨(if neg then -1 else 1,1),fun _=>0,skp L,many⟩ with
 | none=>none
 | some t=>some (Re (Sc t.o) t.c,t.L,t.many || J0 t.o)
theorem Iz (s:TS) {t:TS} (h:Cp s=some t):t.L.length<s.L.length:=by
 induction s using Cp.induct with
 | case1 s hs hn=>rw [Cp,if_pos hs] at h;split at h<;>simp_all
 | case2 s hs u hu NZ ih =>
  rw [Cp,if_pos hs] at h
  split at h
  ·cases h
  ·next u' hu' =>
   have:u'=u:=by rw [hu'] at hu;exact Option.some.inj hu
   subst this;rw [if_pos NZ] at h;have h1:=D4 hu';have h2:=Fw u'.L;have h3:=Fw (skp u'.L).tail;have h4:(skp u'.L).tail.length≤(skp u'.L).length:=qH;have h5:=ih h;simp only at h5;omega
 | case3 s hs u hu NZ iv ih =>
  rw [Cp,if_pos hs] at h
  split at h
  ·cases h
  ·next u' hu' =>
   have:u'=u:=by rw [hu'] at hu;exact Option.some.inj hu
   subst this;rw [if_neg NZ,if_pos iv] at h;have h1:=D4 hu';have h2:=Fw u'.L;have h5:=ih h;simp only at h5;omega
 | case4 s hs u hu NZ iv =>
  rw [Cp,if_pos hs] at h
  split at h
  ·cases h
  ·next u' hu' =>
   have:u'=u:=by rw [hu'] at hu;exact Option.some.inj hu
   subst this;rw [if_neg NZ,if_neg iv] at h;cases h;have h1:=D4 hu';have h2:=Fw u'.L;simp only;omega
 | case5 s hs=>rw [Cp,if_neg hs] at h;cases h
theorem Kl {neg:Bool} (h:Gc L many neg=some (l,r,m)):r.length<L.length:=by
 unfold Gc at h
 split at h
 ·cases h
 ·next t ht =>
  have h1:=Iz _ ht;have h2:=Fw L;cases h;simp only at h1;omega
def Hn (p:Δ) (L:List UInt8) (many:Bool):Option (Δ×Bool) :=
 match L with
 | []=>some (p,many)
 | b::r =>
  if b=45∨b=43 then
   match h:Gc r many (b=45) with
   | none=>none
   | some (l,r',m)=>Hn (Cf p l) r' m
  else none
termination_by L.length
decreasing_by
 have:=Kl h
 simp;omega
def Ir (L:List UInt8):Option (Δ×Bool) :=
 match Gc (if Cq (skp L) 45 then (skp L).tail else skp L) false (Cq (skp L) 45) with
 | none=>none
 | some (l,r,m)=>Hn l r m
def Fm (L:List UInt8):Δ×Int :=
 if 65536<L.length then ([],3) else
  match Ir L with
  | none=>([],4)
  | some (l,m)=>if m then ([],3) else (l,0)
theorem Sy:∀(k n:Nat),n<1000000000 ^ k→(dg n).length≤k
 | 0,n,h=>by
  have:n=0:=by simpa using h
  subst this;rw [Dv];simp
 | k+1,n,h=>by
  by_cases h0:n=0
  ·subst h0;rw [Dv];simp
  ·rw [Hq qB,List.length_cons];have:n/1000000000<1000000000 ^ k:=by
    rw [Nat.div_lt_iff_lt_mul qB,←Nat.pow_succ];exact h
   have:=Sy k _ this;omega
theorem oM (d:List UInt8) (h:d.all Ea=true) (a:Nat):d.foldl (fun n b=>10*n+(b.toNat-48)) a<(a+1)*10 ^ d.length:=by
 induction d generalizing a with
 | nil=>simp
 | cons b r ih =>
  simp only [List.all_cons,Bool.and_eq_true] at h;have hb:b.toNat-48≤9:=by have:=h.1;unfold Ea at this;simp at this;omega
  refine Nat.lt_of_lt_of_le (ih h.2 _) ?_;rw [List.length_cons,Nat.pow_succ,Nat.mul_comm (10 ^ r.length) 10,←Nat.mul_assoc];exact Nat.mul_le_mul_right _ (by show 10*a+(b.toNat-48)+1≤(a+1)*10;omega)
theorem iM (h:d.all Ea=true):Ee d<10 ^ d.length:=by
 have:=oM d h 0;simpa [Ee] using this
theorem Li (h:E3 d=true):d.all Ea=true∧0<d.length:=by
 cases d with
 | nil=>cases h
 | cons b r =>
  simp only [E3,Bool.and_eq_true] at h;exact ⟨h.1,qH⟩
theorem Jo (h:E3 d=true):(dg (Gd d)).length≤d.length:=by
 unfold Gd
 split
 ·rw [Dv];simp
 ·apply Sy;refine Nat.lt_of_lt_of_le (iM (Li h).1) ?_;exact Nat.pow_le_pow_left qB _
theorem iH (n d:Nat):CW (Ps n d):=by
 unfold Ps
 split
 ·exact ⟨qI,qI⟩
 ·exact CW.low qB
theorem aD {d:Nat} (h1:(dg n).length≤K) (h2:(dg d).length≤K) (hK:1≤K):Ch K (Ps n d):=by
 unfold Ps
 split
 ·exact ⟨by show (dg 0).length≤K;rw [Dv];simp,by show (dg 1).length≤K;rw [Gf];exact hK⟩
 ·obtain ⟨a,b⟩:=eH (n:Int) (d:Int) qB;exact ⟨by show (dg (Fh (n:Int) d).natAbs).length≤K;simp only [Int.natAbs_natCast] at a;omega,by show (dg (E5 (n:Int) d).natAbs).length≤K;simp only [Int.natAbs_natCast] at b;omega⟩
theorem Gy (h:K8 L many=some (d,r,m)):E3 d=true:=by
 unfold K8 at h
 split at h
 ·next hd=>cases h;exact hd
 ·cases h
theorem Qj (h:Ix L many=some (d,r,m)):K8 L many=some (d,r,m)∧d≠[48]:=by
 unfold Ix at h
 split at h
 ·cases h
 ·next d' r' m' h' =>
  split at h
  ·cases h
  ·next hn=>cases h;exact ⟨h',hn⟩
theorem Mb {c:PC} (h:Fu L many=some (c,r,m)):CW c∧Ch (L.length-r.length) c:=by
 unfold Fu at h
 split at h
 ·cases h
 ·next t r' m' h' =>
  have h1:=Ms h';have k1:=Jo (Gy h')
  split at h
  ·split at h
   ·cases h
   ·next l r'' m'' h'' =>
    have h2:=J2 h'';have k2:=Jo (Gy (Qj h'').1);have h3:r'.tail.length≤r'.length:=qH;cases h
    exact ⟨iH _ _,aD qB qB qB⟩
  ·cases h
   exact ⟨iH _ _,aD qB (by rw [Gf];omega) qB⟩
theorem Tr (h:Ja L many=some (n,r,m)):n≤1000:=by
 unfold Ja at h
 split at h
 ·split at h
  ·cases h
  ·split at h
   ·cases h;omega
   ·cases h;omega
 ·cases h;omega
theorem Nu {s t:TS} (h:Co s=some t) (hc:CW s.c) (hK:Ch K s.c):CW t.c∧Ch (K+(s.L.length-t.L.length)) t.c:=by
 unfold Co at h
 split at h
 ·cases h
 ·next b r hL =>
  split at h
  ·next i hi =>
   split at h
   ·cases h
   ·next n r' m h' =>
    cases h
    exact ⟨hc,hK.mono qB⟩
  ·split at h
   ·cases h
   ·next c r' m h' =>
    obtain ⟨h1,h2⟩:=Mb h';cases h;refine ⟨hc.mul h1,?_⟩;rw [hL];exact Ch.mul hc h1 hK h2
theorem fP {s t:TS} (h:Co s=some t) {N:Nat} (hN:∀i,s.o i≤N):∀i,t.o i≤N+1000:=by
 unfold Co at h
 split at h
 ·cases h
 ·next b r hL =>
  split at h
  ·next i hi =>
   split at h
   ·cases h
   ·next n r' m h' =>
    have hn:=Tr h';cases h;intro k;show Vf s.o i n k≤_;unfold Vf;have:=hN k;have:=hN i
    split<;>omega
  ·split at h
   ·cases h
   ·next c r' m h' =>
    cases h
    intro k;have:=hN k;show s.o k≤_;omega
theorem Hj (s:TS):Cp s=if Gb s.L then (match Co s with
  | none=>none
  | some t=>if Cq (skp t.L) 42 then Cp { t with L:=skp (skp t.L).tail } else if Gb (skp t.L) then Cp { t with L:=skp t.L } else some { t with L:=skp t.L }) else none:=by
 rw [Cp]
 split
 ·split
  ·next h=>rw [h]
  ·next t h=>rw [h]
 ·rfl
theorem Xl {s t:TS} (h:Cp s=some t):Gb s.L=true∧∃u,Co s=some u ∧
  ((Cq (skp u.L) 42=true∧Cp { u with L:=skp (skp u.L).tail }=some t)∨(Cq (skp u.L) 42=false∧Gb (skp u.L)=true∧Cp { u with L:=skp u.L }=some t)∨(Cq (skp u.L) 42=false∧Gb (skp u.L)=false∧t={ u with L:=skp u.L })):=by
 rw [Hj] at h
 split at h
 ·next hs =>
  refine ⟨hs,?_⟩
  split at h
  ·cases h
  ·next u hu =>
   refine ⟨u,hu,?_⟩
   cases h1:Cq (skp u.L) 42
   ·rw [h1] at h
    cases h2:Gb (skp u.L)
    ·rw [h2] at h;simp only [Bool.false_eq_true,if_false,Option.some.injEq] at h;exact .inr (.inr ⟨rfl,rfl,h.symm⟩)
    ·rw [h2] at h;simp only [Bool.false_eq_true,if_false,if_true] at h;exact .inr (.inl ⟨rfl,rfl,h⟩)
   ·rw [h1] at h;simp only [if_true] at h;exact .inl ⟨rfl,h⟩
 ·cases h
theorem Lt:∀(n:Nat) (s:TS) {t:TS},s.L.length≤n→Cp s=some t→CW s.c→∀{K:Nat},Ch K s.c→CW t.c∧Ch (K+(s.L.length-t.L.length)) t.c
 | 0,s,t,hn,h,_,_,_=>by have:=Iz _ h;omega
 | n+1,s,t,hn,h,hc,K,hK=>by
  obtain ⟨hs,u,hu,hh⟩:=Xl h;obtain ⟨g1,g2⟩:=Nu hu hc hK;have h1:=D4 hu;have h2:=Fw u.L;have h3:=Fw (skp u.L).tail;have h4:(skp u.L).tail.length≤(skp u.L).length:=qH;rcases hh with ⟨_,h5⟩|⟨_,_,h5⟩|⟨_,_,h5⟩
  ·have h6:=Iz _ h5;obtain ⟨g3,g4⟩:=Lt n _ (by show (skp (skp u.L).tail).length≤n;omega) h5 g1 g2;refine ⟨g3,g4.mono ?_⟩;simp only at h6 ⊢;omega
  ·have h6:=Iz _ h5;obtain ⟨g3,g4⟩:=Lt n _ (by show (skp u.L).length≤n;omega) h5 g1 g2;refine ⟨g3,g4.mono ?_⟩;simp only at h6 ⊢;omega
  ·subst h5;refine ⟨g1,g2.mono ?_⟩;show _≤K+(s.L.length-(skp u.L).length);omega
theorem tQ:Sc o<18446744073709551616:=by
 unfold Sc;have:∀n,Jp n<65536:=fun n=>by unfold Jp;omega
 exact Ka (this _) (this _) (this _) (this _)
theorem PW.one {c:PC} (hc:CW c) (hk:k<18446744073709551616):PW (Re k c):=by
 unfold Re
 split
 ·exact ⟨qH,qH,qH⟩
 ·next h=>exact ⟨qH,by simpa using ⟨hc,h⟩,by simpa using hk⟩
theorem fM:CW ((if neg then -1 else 1,1):PC):=by cases neg<;>exact ⟨qI,qI⟩
theorem Xn:Ch 1 ((if neg then -1 else 1,1):PC):=by
 cases neg<;>exact ⟨by show (dg 1).length≤1;rw [Gf];exact Ad _,by show (dg 1).length≤1;rw [Gf];exact Ad _⟩
theorem Mj {neg:Bool} (h:Gc L many neg=some (l,r,m)):PW l∧Cj (1+(L.length-r.length)) l∧l.length≤1:=by
 unfold Gc at h
 split at h
 ·cases h
 ·next t ht =>
  have h0:=Fw L;obtain ⟨g1,g2⟩:=Lt _ _ (Ad _) ht (fM neg) (Xn neg);have h1:=Iz _ ht;cases h;refine ⟨PW.one g1 (tQ _),?_,?_⟩
  ·unfold Re
   split
   ·intro t ht;cases ht
   ·intro t' ht';simp only [Ao] at ht';subst ht';refine Ch.mono g2 ?_;simp only at h1 ⊢;omega
  ·unfold Re;split<;>simp
def Eqv (c d:PC):Prop:=c.1*d.2=d.1*c.2
theorem uH {a b:Int} (hb:0<b):Eqv (Fh a b,E5 a b) (a,b):=by
 unfold Eqv Fh E5;simp only;obtain ⟨x,hx⟩:(Int.gcd a b:Int)∣a:=Int.gcd_dvd_left ..;obtain ⟨y,hy⟩:(Int.gcd a b:Int)∣b:=Int.gcd_dvd_right ..;have hg:0<Int.gcd a b:=Int.gcd_pos_of_ne_zero_right _ qB;have tq:(Int.gcd a b:Int)≠0:=qB;generalize (Int.gcd a b:Int)=g at *;subst hx hy;rw [Int.mul_ediv_cancel_left _ tq,Int.mul_ediv_cancel_left _ tq];rw [←Int.mul_assoc,Int.mul_comm x g]
def yA (c d:PC):PC:=(c.1*d.1,c.2*d.2)
theorem wD {c d:PC} (hc:0<c.2) (hd:0<d.2):Eqv (Ct c d) (yA c d):=uH (Int.mul_pos hc hd)
theorem So (hq:PW q):PW (Ej (-1,1) q):=by
 refine ⟨?_,fun t ht=>?_,fun t ht=>?_⟩
 ·show Dh (q.map _);rw [Dh,List.pairwise_map];exact hq.falls
 ·obtain ⟨x,hx,rfl⟩:=List.mem_map.1 ht;have h1:=hq.good x hx;refine ⟨h1.1.mul (Xe (-1)),?_⟩;show (Ct x.2 (-1,1)).1≠0;rw [Rq h1.1];have:=h1.2;show -x.2.1≠0;omega
 ·obtain ⟨x,hx,rfl⟩:=List.mem_map.1 ht;exact hq.key x hx
/-! ### Products -/
theorem iX {a:Nat} (ha:a<18446744073709551616):Bv (exN a 0) (exN a 1) (exN a 2) (exN a 3)=a:=by
 have e0:exN a 0=a/281474976710656%65536:=by unfold exN;rw [show (65536:Nat) ^ (3-0)=281474976710656 from qI]
 have e1:exN a 1=a/4294967296%65536:=by unfold exN;rw [show (65536:Nat) ^ (3-1)=4294967296 from qI]
 have e2:exN a 2=a/65536%65536:=by unfold exN;rw [show (65536:Nat) ^ (3-2)=65536 from qI]
 have e3:exN a 3=a%65536:=by show a/65536 ^ 0%65536=_;rw [Nat.pow_zero,Nat.div_one]
 rw [e0,e1,e2,e3];have h1:=Nat.div_add_mod a 65536;have h2:=Nat.div_add_mod (a/65536) 65536;have h3:=Nat.div_add_mod (a/4294967296) 65536;have d2:a/65536/65536=a/4294967296:=qB;have d3:a/4294967296/65536=a/281474976710656:=qB;have h4:a/281474976710656<65536:=Nat.div_lt_of_lt_mul ha;have h5:a/281474976710656%65536=a/281474976710656:=Nat.mod_eq_of_lt h4;rw [d2] at h2;rw [d3] at h3;unfold Bv;rw [h5];generalize a/281474976710656=x at *;generalize a/4294967296=y at *;generalize a/65536=z at *;generalize y%65536=y' at *;generalize z%65536=z' at *;generalize a%65536=a' at *;omega
theorem Uw {a:Nat} (h:Gr a b=true) (ha:a<18446744073709551616) (hb:b<18446744073709551616):Fg a b=a+b:=by
 have h1:=iX ha;have h2:=iX hb;unfold Fg;generalize exN a 0=a0 at *;generalize exN a 1=a1 at *;generalize exN a 2=a2 at *;generalize exN a 3=a3 at *;generalize exN b 0=b0 at *;generalize exN b 1=b1 at *;generalize exN b 2=b2 at *;generalize exN b 3=b3 at *;clear h ha hb;rw [←h1,←h2];clear h1 h2;unfold Bv;omega
theorem Ab9 {a:Nat} (h:Gr a b=true) (ha:a<18446744073709551616) (hb:b<18446744073709551616):exN (a+b) 0=exN a 0+exN b 0∧exN (a+b) 1=exN a 1+exN b 1∧exN (a+b) 2=exN a 2+exN b 2∧exN (a+b) 3=exN a 3+exN b 3:=by
 have h1:=Uw h ha hb;unfold Gr at h;simp only [Bool.and_eq_true,decide_eq_true_eq] at h;have h2:=Dz (a:=exN a 0+exN b 0) (b:=exN a 1+exN b 1) (c:=exN a 2+exN b 2) (d:=exN a 3+exN b 3) qB qB qB qB;rw [←h1];exact h2
theorem tF (a b:Nat) (h:Gr a b=true):Fg a b<18446744073709551616:=by
 unfold Gr at h;simp only [Bool.and_eq_true,decide_eq_true_eq] at h;exact Ka qB qB qB qB
theorem Ge:Cm p q=true↔∀s∈p,∀t∈q,Gr s.1 t.1=true:=by
 unfold Cm;simp only [List.all_eq_true]
theorem vM {c d:PC} (hc:CW c) (hd:CW d) (h1:c.1≠0) (h2:d.1≠0):(Ct c d).1≠0:=fun h=>by
 have h3:Eqv (Ct c d) (yA c d):=wD hc.pos hd.pos;unfold Eqv yA at h3;simp only [h,Int.zero_mul] at h3;have h4:c.1*d.1≠0:=Int.mul_ne_zero h1 h2;have h5:=(hc.mul hd).pos;exact Int.mul_ne_zero h4 qB h3.symm
def Ia (f:Nat→Int):Int:=f 0+f 1+f 2+f 3
def Ji (f:Nat→Int) (i:Nat):Int:=f (3-i)
def Rp (f g:Nat→Int):Int:=Dd (Ji g) (Ji f)
def F7 (o:Nat) (f g:Nat→Int):Int :=
 if o=1 then (if Ia f≠Ia g then Bz (Ia f) (Ia g) else Dd f g)
 else if o=2 then (if Ia f≠Ia g then Bz (Ia f) (Ia g) else Rp f g)
 else Dd f g
def exF (k:Nat) (i:Nat):Int:=exN k i
def B8 (o:Nat):PT→Δ→PT
 | t,[]=>t
 | t,x::l=>B8 o (if 0<F7 o (exF x.1) (exF t.1) then x else t) l
theorem J5 (o:Nat):∀(l:Δ) (t:PT),B8 o t l=t∨B8 o t l∈l
 | [],t=>.inl rfl
 | x::l,t=>by
  rw [B8]
  split
  ·exact .inr ((J5 o l x).elim (fun h=>by rw [h];exact List.mem_cons_self ..) (fun h=>List.mem_cons_of_mem _ h))
  ·exact (J5 o l t).imp id (fun h=>List.mem_cons_of_mem _ h)
def Gg (a b:Nat):Nat:=Bv (max (exN a 0) (exN b 0)) (max (exN a 1) (exN b 1)) (max (exN a 2) (exN b 2)) (max (exN a 3) (exN b 3))
def Fl (c:PC):PC:=Kc (1,1) c
def Dk (p:Δ) (t:PT):Δ:=p.map fun s=>(Fg s.1 t.1,Ct s.2 t.2)
theorem Ym (p:Δ) (t:PT):C4 p [t]=Dk p t:=by
 unfold C4 Dk
 induction p with
 | nil=>rfl
 | cons s p ih=>rw [List.flatMap_cons,ih];rfl
theorem Qn {t:PT} (hp:PW p) (ht:CW t.2) (h0:t.2.1≠0) (hk:t.1<18446744073709551616) (ho:Cm p [t]=true):PW (Dk p t):=by
 have CY:∀s∈p,Gr s.1 t.1=true:=fun s hs=>Ge.1 ho s hs t (Ao.2 rfl)
 refine ⟨?_,fun x hx=>?_,fun x hx=>?_⟩
 ·unfold Dk Dh;rw [List.pairwise_map];refine List.Pairwise.imp_of_mem (fun {a b} ha hb h=>?_) hp.falls;rw [Uw (CY a ha) (hp.key a ha) hk,Uw (CY b hb) (hp.key b hb) hk];simp only at h ⊢;omega
 ·obtain ⟨s,hs,rfl⟩:=List.mem_map.1 hx;exact ⟨(hp.good s hs).1.mul ht,vM (hp.good s hs).1 ht (hp.good s hs).2 h0⟩
 ·obtain ⟨s,hs,rfl⟩:=List.mem_map.1 hx;exact tF _ _ (CY s hs)
theorem Ln {t:PT} (hp:PW p) (ht:CW t.2) (h0:t.2.1≠0) (hk:t.1<18446744073709551616) (ho:Cm p [t]=true):Jk p [t]=Dk p t:=by
 unfold Jk;rw [Ym];exact Mu (Qn hp ht h0 hk ho)
def Oc (k:Nat):List (PT×Δ)→Nat→Option (Nat×PT×Δ)
 | [],_=>none
 | (h,d)::ls,i=>if inM k h.1 then some (i,h,d) else Oc k ls (i+1)
def Ii (ls:List (PT×Δ)):Nat→Δ→List (Δ)→Δ→Option (Δ)
 | _,[],_,r=>some r
 | 0,_::_,_,_=>none
 | n+1,t::p,os,r =>
  match Oc t.1 ls 0 with
  | some (i,h,d)=>(ck [(t.1-h.1,Kc t.2 h.2)]).bind fun u=>(sZ (h::d) u).bind fun f=>(uO (os.getD i []) u).bind fun o'=>(vT (t::p) f).bind fun p'=>Ii ls n p' (os.set i o') r
  | none=>(uO r [t]).bind fun r'=>(vT (t::p) [t]).bind fun p'=>Ii ls n p' os r'
def bP1:Δ:=[(Bv 2 0 0 0,(1,1)),(Bv 0 2 0 0,(1,1)),(0,(-1,1))]
def bP2:Δ:=[(Bv 1 0 0 0,(1,1)),(Bv 0 1 0 0,(-1,1))]
def bS:Δ:=[(Bv 1 1 0 0,(1,1)),(Bv 0 2 0 0,(1,1)),(0,(-1,1))]
def bR:Δ:=[(Bv 0 2 0 0,(2,1)),(0,(-1,1))]
def bM:Δ:=[(Bv 0 2 0 0,(1,1)),(0,(-1,2))]
theorem Aaw:Ii [((Bv 2 0 0 0,(1,1)),bP1.tail),((Bv 1 0 0 0,(1,1)),bP2.tail)] 10 bS [[],[]] []=some bR:=by decide +kernel
theorem Aaa:Ii [((Bv 1 0 0 0,(1,1)),bP2.tail)] 10 bM [[]] []=some bM:=by decide +kernel
theorem zX:Ii [((Bv 0 2 0 0,(1,1)),bM.tail)] 10 bP2 [[]] []=some bP2:=by decide +kernel
def upT (a b:PT):PT:=(Gg a.1 b.1-a.1,Fl a.2)
def El (o:Nat) (x:PT) (l:Δ) (y:PT) (m:Δ):Bool:=Cm (x::l) [upT (B8 o x l) (B8 o y m)]&&Cm (y::m) [upT (B8 o y m) (B8 o x l)]
def I8 (o:Nat) (x:PT) (l:Δ) (y:PT) (m:Δ):Δ:=Sd (Jk (x::l) [upT (B8 o x l) (B8 o y m)]) (Jk (y::m) [upT (B8 o y m) (B8 o x l)])
def Fx (o:Nat) (x:PT) (l:Δ):Δ:=Ti (Fl (B8 o x l).2) (x::l)
def bQ1:Δ:=[(Bv 2 0 0 0,(1,1)),(Bv 0 1 0 0,(-1,1))]
def bQ2:Δ:=[(Bv 1 1 0 0,(1,1)),(0,(-1,1))]
def bQ:Δ:=[(Bv 1 0 0 0,(1,1)),(Bv 0 2 0 0,(-1,1))]
def bH:Δ:=[(Bv 1 2 0 0,(1,1)),(Bv 0 1 0 0,(-1,1))]
theorem oR:El 0 (Bv 2 0 0 0,(1,1)) bP1.tail (Bv 1 0 0 0,(1,1)) bP2.tail=true∧I8 0 (Bv 2 0 0 0,(1,1)) bP1.tail (Bv 1 0 0 0,(1,1)) bP2.tail=bS:=by decide +kernel
theorem mZ:El 0 (Bv 2 0 0 0,(1,1)) bQ1.tail (Bv 1 1 0 0,(1,1)) bQ2.tail=true∧I8 0 (Bv 2 0 0 0,(1,1)) bQ1.tail (Bv 1 1 0 0,(1,1)) bQ2.tail=bQ:=by decide +kernel
theorem sO:Fx 0 (Bv 2 0 0 0,(1,1)) bP1.tail=bP1:=by decide +kernel
theorem iK:Fx 0 (Bv 1 0 0 0,(1,1)) bP2.tail=bP2:=by decide +kernel
theorem tA:Fx 0 (Bv 0 2 0 0,(2,1)) bR.tail=bM:=by decide +kernel
theorem wJ:Fx 0 (Bv 0 2 0 0,(1,1)) bM.tail=bM:=by decide +kernel
theorem iI:Fx 0 (Bv 1 1 0 0,(1,1)) bQ2.tail=bQ2:=by decide +kernel
theorem yP:Ii [((Bv 1 1 0 0,(1,1)),bQ2.tail)] 10 bH [[]] []=some []:=by decide +kernel
theorem Aai:Ii [] 10 bQ2 [] []=some bQ2:=by decide +kernel
theorem Aac:Ii [] 10 [(0,(1,1))] [] []=some [(0,(1,1))]:=by decide +kernel
end Go.Proofs.YtfijkfdfbnfmmaaGreatDoor
end
