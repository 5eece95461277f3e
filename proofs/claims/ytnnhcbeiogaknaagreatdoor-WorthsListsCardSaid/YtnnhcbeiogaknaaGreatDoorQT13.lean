/- polys.of: a polynomial that is of the form comes back as it is, else nothing. -/
import Derived.Test.YtnnhcbeiogaknaaGreatDoorQT12
import Derived.Test.YtnnhcbeiogaknaaGreatDoorQT11
set_option linter.unusedSimpArgs false
set_option linter.unusedVariables false
set_option maxRecDepth 100000
set_option maxHeartbeats 4000000
section
namespace Go.Proofs.YtnnhcbeiogaknaaGreatDoor
open Go.RowKit
theorem Kl (w:World) (a:Option Addr) (n c:Nat) (p:Nat→Tm) (hp:RdP w a n c p) (hsm:∀k,k<n→(p k).n1≤1000000∧(p k).n2≤1000000) (r:Bool) (hr:POk p n↔r=true) :
  Calls Tryz.prog 46 #[.slice a n c] w fun e w'=>e=.returned (if r then .slice a n c else .slice none 0 0)∧Below w.heap.size w w':=by
 have HB:=Ac w.heap.size w;have HR:=Ae hr;have HS:=Ae hsm;clear hr hsm;go_enter Tryz.func46,Tryz.ntmps46;go_wp2_with fail;refine (Ev _ a n c p hp HS.out r HR.out).mono ?_;rintro e w1 ⟨rfl,hb⟩
 cases r with
 | true =>
  go_wp2_with fail;exact bodyPost_ret (v:=.slice a n c) (by simp [results,Tryz.results46,go_sem]) rfl ⟨rfl,by go_grown⟩
 | false =>
  go_wp2_with fail;exact bodyPost_ret (v:=.slice none 0 0) (by simp [results,Tryz.results46,go_sem]) rfl ⟨rfl,by go_grown⟩
def Ch (a b c d:Nat):Nat:=((a*65536+b)*65536+c)*65536+d
theorem Uw {a b c d:Nat} (ha:a<65536) (hb:b<65536) (hc:c<65536) (hd:d<65536):Ch a b c d<18446744073709551616:=by unfold Ch;omega
theorem W8 {a b c d a' b' c' d':Nat} (ha:a<65536) (hb:b<65536) (hc:c<65536) (hd:d<65536) (ha':a'<65536) (hb':b'<65536) (hc':c'<65536) (hd':d'<65536) (h:Ch a b c d=Ch a' b' c' d'):a=a'∧b=b'∧c=c'∧d=d':=by
 unfold Ch at h;omega
theorem Oy (a b:Nat):Bz (a:Int) (b:Int)=if a<b then -1 else if a=b then 0 else 1:=by
 unfold Bz;by_cases h1:a<b
 ·rw [if_pos qA,if_pos h1]
 ·rw [if_neg qA,if_neg h1];by_cases h2:a=b
  ·rw [if_pos qA,if_pos h2]
  ·rw [if_neg qA,if_neg h2]
theorem Nj {a b c d a' b' c' d':Nat} (ha:a<65536) (hb:b<65536) (hc:c<65536) (hd:d<65536) (ha':a'<65536) (hb':b'<65536) (hc':c'<65536) (hd':d'<65536) :
  Ht (Do a b c d) (Do a' b' c' d')=Bz (Ch a b c d:Nat) (Ch a' b' c' d':Nat):=by
 unfold Ht;simp only [Do,Oy,ne_eq,Int.natCast_inj];by_cases h1:a=a'
 ·by_cases h2:b=b'
  ·by_cases h3:c=c'
   ·by_cases h4:d=d'
    ·subst h1 h2 h3 h4;simp
    ·subst h1 h2 h3;rw [if_neg qG,if_neg qG,if_neg qG,if_pos (by simpa using h4)];unfold Ch;by_cases h:d<d'
     ·rw [if_pos h,if_pos qA]
     ·rw [if_neg h,if_neg h4,if_neg qA,if_neg qA]
   ·subst h1 h2;rw [if_neg qG,if_neg qG,if_pos (by simpa using h3)];unfold Ch;by_cases h:c<c'
    ·rw [if_pos h,if_pos qA]
    ·rw [if_neg h,if_neg h3,if_neg qA,if_neg qA]
  ·subst h1;rw [if_neg qG,if_pos (by simpa using h2)];unfold Ch;by_cases h:b<b'
   ·rw [if_pos h,if_pos qA]
   ·rw [if_neg h,if_neg h2,if_neg qA,if_neg qA]
 ·rw [if_pos (by simpa using h1)];unfold Ch;by_cases h:a<a'
  ·rw [if_pos h,if_pos qA]
  ·rw [if_neg h,if_neg h1,if_neg qA,if_neg qA]
abbrev Nw (B n:Nat) (a:Option Addr):Prop:=n=0∨aO B a
theorem Nw.mono {B B' n:Nat} {a:Option Addr} (h:Nw B n a) (hB:B'≤B):Nw B' n a:=h.imp id (·.mono hB)
theorem RdL.butR {w w':World} {a:Option Addr} {n c:Nat} {d:List Nat} {row:Option Nat} {B:Nat} (h:RdL w a n c d) (hn:Nw B n a) (hg:w.grownBy w' row) (hr:∀k,row=some k→k<B):RdL w' a n c d:=by
 refine ⟨h.len,h.cap,h.few,h.top,h.small,?_⟩;rcases h.cell with h0|⟨b,o,ha,hc⟩
 ·exact .inl h0
 ·rcases hn with h0|hn
  ·exact .inl h0
  ·refine .inr ⟨b,o,ha,fun i hi=>hg.cell (hc i hi) fun e=>?_⟩;have h1:=hr _ e.symm;have h2:=hn _ ha;simp at h1 h2;omega
theorem Bg.butR {w w':World} {g:Bool} {a:Option Addr} {n c:Nat} {z:Int} {row:Option Nat} {B:Nat} (h:Bg w g a n c z) (hn:Nw B n a) (hg:w.grownBy w' row) (hr:∀k,row=some k→k<B):Bg w' g a n c z:=⟨h.neg,h.rd.butR hn hg hr⟩
theorem Bi.butR {w w':World} {g1:Bool} {a1:Option Addr} {n1 c1:Nat} {p:Int} {g2:Bool} {a2:Option Addr} {n2 c2:Nat} {q:Int} {row:Option Nat} {B:Nat} (h:Bi w g1 a1 n1 c1 p g2 a2 n2 c2 q) (h1:Nw B n1 a1) (h2:Nw B n2 a2) (hg:w.grownBy w' row) (hr:∀k,row=some k→k<B):Bi w' g1 a1 n1 c1 p g2 a2 n2 c2 q :=
 ⟨h.top.butR h1 hg hr,h.low.butR h2 hg hr,h.pos,h.red⟩
structure Es (t:Tm) (x:PT):Prop where
 g1:t.g1=decide (x.2.1<0)
 d1:t.d1=dg x.2.1.natAbs
 g2:t.g2=decide (x.2.2<0)
 d2:t.d2=dg x.2.2.natAbs
 key:Ch t.m0 t.m1 t.m2 t.m3=x.1
theorem Es.frac {w:World} {t:Tm} {x:PT} (h:Es t x) (hr:Eb w t) (hc:CW x.2):Bi w t.g1 t.a1 t.n1 t.c1 x.2.1 t.g2 t.a2 t.n2 t.c2 x.2.2 :=
 ⟨⟨h.g1,h.d1▸hr.top⟩,⟨h.g2,h.d2▸hr.low⟩,hc.pos,hc.red⟩
def Dd (K:Nat) (l:List PT):Prop:=∀t∈l,(dg t.2.1.natAbs).length≤K∧(dg t.2.2.natAbs).length≤K
structure Bc (w:World) (B:Nat) (a:Option Addr) (n c:Nat) (l:List PT):Prop where
 len:l.length=n
 base:Nw B n a
 nl:a=none→c=0
 ts:∃p:Nat→Tm,RdP w a n c p∧∀i x,l[i]? = some x→Es (p i) x∧Nw B (p i).n1 (p i).a1∧Nw B (p i).n2 (p i).a2
theorem Bc.keep {w w':World} {B:Nat} {a:Option Addr} {n c:Nat} {l:List PT} (h:Bc w B a n c l) (hb:Below w.heap.size w w'):Bc w' B a n c l:=by
 obtain ⟨p,hp,hx⟩:=h.ts;exact ⟨h.len,h.base,h.nl,p,hp.keep hb,hx⟩
theorem Bc.mono {w:World} {B B':Nat} {a:Option Addr} {n c:Nat} {l:List PT} (h:Bc w B a n c l) (hB:B'≤B):Bc w B' a n c l:=by
 obtain ⟨p,hp,hx⟩:=h.ts;exact ⟨h.len,h.base.mono hB,h.nl,p,hp,fun i x hi=>⟨(hx i x hi).1,(hx i x hi).2.1.mono hB,(hx i x hi).2.2.mono hB⟩⟩
theorem Km.butR {w w':World} {b o:Nat} {t:Tm} {row:Option Nat} (h:Km w b o t) (hg:w.grownBy w' row) (hr:some b≠row):Km w' b o t :=
 ⟨hg.cell h.e0 hr,hg.cell h.e1 hr,hg.cell h.e2 hr,hg.cell h.e3 hr,hg.cell h.e4 hr,hg.cell h.e5 hr,hg.cell h.e6 hr,hg.cell h.e7 hr⟩
theorem Bc.butR {w w':World} {B:Nat} {a:Option Addr} {n c:Nat} {l:List PT} {row:Option Nat} (h:Bc w B a n c l) (hg:w.grownBy w' row) (hr:∀k,row=some k→k<B):Bc w' B a n c l:=by
 obtain ⟨p,hp,hx⟩:=h.ts;refine ⟨h.len,h.base,h.nl,p,⟨hp.cap,hp.few,hp.top,fun i hi=>?_,?_⟩,hx⟩
 ·obtain ⟨x,hxi⟩:∃x,l[i]? = some x:=⟨l[i]'(by rw [h.len];exact hi),Ai _⟩;have ht:=hp.tm i hi;obtain ⟨_,k1,k2⟩:=hx i x hxi;exact ⟨ht.top.butR k1 hg hr,ht.low.butR k2 hg hr,ht.s0,ht.s1,ht.s2,ht.s3⟩
 ·rcases hp.cell with h0|⟨b,o,ha,hc⟩
  ·exact .inl h0
  ·rcases h.base with h0|hn
   ·exact .inl h0
   ·exact qDc
theorem Bc.nil (w:World) (B:Nat):Bc w B none 0 0 [] :=
 ⟨rfl,.inl rfl,fun _=>rfl,fun _=>⟨false,none,0,0,[],false,none,0,0,[],0,0,0,0⟩,⟨Ad _,by omega,by omega,fun i hi=>by omega,.inl rfl⟩,fun i x hi=>by simp at hi⟩
theorem eW {n:Nat} (h:n≠0):dg n≠[]:=by
 intro e;have:=Bo n;rw [e,val] at this;omega
theorem Bi.tok {w:World} {t:Tm} {x:PT} (h:Es t x) (hr:Eb w t) (hc:CW x.2) (h0:x.2.1≠0):TOk t:=by
 have:=(h.frac hr hc).ok;rw [←h.d1,←h.d2] at this;refine ⟨this,?_⟩;rw [h.d1];exact eW qA
theorem Bc.pok {w:World} {B:Nat} {a:Option Addr} {n c:Nat} {l:List PT} (h:Bc w B a n c l) (hl:PW l) {p:Nat→Tm} (hp:RdP w a n c p) (hx:∀i x,l[i]? = some x→Es (p i) x∧Nw B (p i).n1 (p i).a1∧Nw B (p i).n2 (p i).a2):POk p n:=by
 intro j hj;have hjl:j<l.length:=by rw [h.len];exact hj
 have e:l[j]? = some l[j]:=Ai hjl;have hg:=hl.good l[j] (List.getElem_mem hjl);have hrj:=hp.tm j hj;refine ⟨Bi.tok (hx j _ e).1 hrj hg.1 hg.2,fun hj0=>?_⟩;have hk:j-1<l.length:=by omega
 have e':l[j-1]? = some l[j-1]:=Ai hk;have hrk:=hp.tm (j-1) qA;have hlt:l[j].1<l[j-1].1:=List.pairwise_iff_getElem.1 hl.falls (j-1) j hk hjl qA;unfold Tm.mono;rw [Nj hrj.s0 hrj.s1 hrj.s2 hrj.s3 hrk.s0 hrk.s1 hrk.s2 hrk.s3,(hx j _ e).1.key,(hx (j-1) _ e').1.key];rw [Ds qA];decide
theorem Bc.few {w:World} {B:Nat} {a:Option Addr} {n c:Nat} {l:List PT} (h:Bc w B a n c l) {K:Nat} (hK:Dd K l) {p:Nat→Tm} (hp:RdP w a n c p) (hx:∀i x,l[i]? = some x→Es (p i) x∧Nw B (p i).n1 (p i).a1∧Nw B (p i).n2 (p i).a2):∀k,k<n→(p k).n1≤K∧(p k).n2≤K:=by
 intro j hj;have hjl:j<l.length:=by rw [h.len];exact hj
 have e:l[j]? = some l[j]:=Ai hjl;have hk:=hK l[j] (List.getElem_mem hjl);have ht:=(hx j _ e).1;have hr:=hp.tm j hj;have h1:=hr.top.len;have h2:=hr.low.len;rw [ht.d1] at h1;rw [ht.d2] at h2;omega
theorem Dj:(dg 1).length=1:=by rw [Ij qA,show 1/1000000000=0 from rfl,C9];rfl
theorem Mj (a b:Int) (hb:0<b):(dg (Fj a b).natAbs).length≤(dg a.natAbs).length∧(dg (Fr a b).natAbs).length≤(dg b.natAbs).length:=by
 unfold Fj Fr;have h1:(a/(Int.gcd a b:Int)).natAbs≤a.natAbs:=Int.natAbs_ediv_le_natAbs ..;have h2:(b/(Int.gcd a b:Int)).natAbs≤b.natAbs:=Int.natAbs_ediv_le_natAbs ..;exact ⟨Bn h1,Bn h2⟩
def Ca (K:Nat) (c:PC):Prop:=(dg c.1.natAbs).length≤K∧(dg c.2.natAbs).length≤K
theorem Ca.mono {K K':Nat} {c:PC} (h:Ca K c) (hK:K≤K'):Ca K' c:=⟨Ah h.1 hK,Ah h.2 hK⟩
theorem Si (x y K:Nat) (hx:(dg x).length≤K) (hy:(dg y).length≤K):(dg (x+y)).length≤K+1:=by
 have h2:(dg 2).length=1:=by rw [Ij qA,show 2/1000000000=0 from rfl,C9];rfl
 rcases Nat.le_total x y with h|h
 ·have e1:=Bn (show x+y≤2*y by omega);have e2:=Fk 2 y;omega
 ·have e1:=Bn (show x+y≤2*x by omega);have e2:=Fk 2 x;omega
theorem Pt (x y:Int) (K:Nat) (hx:(dg x.natAbs).length≤K) (hy:(dg y.natAbs).length≤K):(dg (x+y).natAbs).length≤K+1:=by
 have e:=Si x.natAbs y.natAbs K hx hy;have:=Bn (Int.natAbs_add_le x y);omega
theorem Ca.add {K1 K2:Nat} {c d:PC} (hc:CW c) (hd:CW d) (h1:Ca K1 c) (h2:Ca K2 d):Ca (K1+K2+1) (Ll c d):=by
 have hp:0<c.2*d.2:=Int.mul_pos hc.pos hd.pos;obtain ⟨a1,a2⟩:=Mj (c.1*d.2+d.1*c.2) (c.2*d.2) hp;obtain ⟨b1,b2⟩:=h1;obtain ⟨b3,b4⟩:=h2;have e2:=Ec c.1 d.2;have e3:=Ec d.1 c.2;have e4:=Ec c.2 d.2;have e1:=Pt (c.1*d.2) (d.1*c.2) (K1+K2) qA qA;refine ⟨?_,?_⟩
 ·show (dg (Fj (c.1*d.2+d.1*c.2) (c.2*d.2)).natAbs).length≤_;omega
 ·show (dg (Fr (c.1*d.2+d.1*c.2) (c.2*d.2)).natAbs).length≤_;omega
theorem Ca.mul {K1 K2:Nat} {c d:PC} (hc:CW c) (hd:CW d) (h1:Ca K1 c) (h2:Ca K2 d):Ca (K1+K2) (Ct c d):=by
 have hp:0<c.2*d.2:=Int.mul_pos hc.pos hd.pos;obtain ⟨a1,a2⟩:=Mj (c.1*d.1) (c.2*d.2) hp;have e2:=Ec c.1 d.1;have e4:=Ec c.2 d.2;obtain ⟨b1,b2⟩:=h1;obtain ⟨b3,b4⟩:=h2;refine ⟨?_,?_⟩
 ·show (dg (Fj (c.1*d.1) (c.2*d.2)).natAbs).length≤_;omega
 ·show (dg (Fr (c.1*d.1) (c.2*d.2)).natAbs).length≤_;omega
theorem mG {K:Nat} {l:List PT}:Dd K l↔∀t∈l,Ca K t.2:=Iff.rfl
theorem Dd.mono {K K':Nat} {l:List PT} (h:Dd K l) (hK:K≤K'):Dd K' l:=fun t ht=>Ca.mono (h t ht) hK
theorem Dd.add {K1 K2:Nat} (a b:List PT) (ha:Jk a) (hb:Jk b) (h1:Dd K1 a) (h2:Dd K2 b):Dd (K1+K2+1) (Cr a b):=by
 induction a,b using Cr.induct with
 | case1 b=>rw [Cr];exact h2.mono qA
 | case2 x a=>rw [Cr];exact h1.mono qA
 | case3 x a y b hlt ih =>
  rw [Cr,if_pos hlt];intro t ht;rcases List.mem_cons.1 ht with rfl|ht
  ·exact Ca.mono (h1 _ qG) qA
  ·exact ih (fun t h=>ha t (by simp [h])) hb (fun t h=>h1 t (by simp [h])) h2 t ht
 | case4 x a y b hn hlt ih =>
  rw [Cr,if_neg hn,if_pos hlt];intro t ht;rcases List.mem_cons.1 ht with rfl|ht
  ·exact Ca.mono (h2 _ qG) qA
  ·exact ih ha (fun t h=>hb t (by simp [h])) h1 (fun t h=>h2 t (by simp [h])) t ht
 | case5 x a y b hn hm h3 ih =>
  rw [Cr,if_neg hn,if_neg hm,if_pos h3];exact ih (fun t h=>ha t (by simp [h])) (fun t h=>hb t (by simp [h])) (fun t h=>h1 t (by simp [h])) (fun t h=>h2 t (by simp [h]))
 | case6 x a y b hn hm h3 ih =>
  rw [Cr,if_neg hn,if_neg hm,if_neg h3];intro t ht;rcases List.mem_cons.1 ht with rfl|ht
  ·exact Ca.add (ha x qG).1 (hb y qG).1 (h1 x qG) (h2 y qG)
  ·exact ih (fun t h=>ha t (by simp [h])) (fun t h=>hb t (by simp [h])) (fun t h=>h1 t (by simp [h])) (fun t h=>h2 t (by simp [h])) t ht
abbrev RH:Value→Option (DataW Value×List MemPlace):=fun v=>some (.held v,[])
abbrev frV (g1:Bool) (a1:Option Addr) (n1 c1:Nat) (g2:Bool) (a2:Option Addr) (n2 c2:Nat):Value:=.agg #[.bool g1,.slice a1 n1 c1,.bool g2,.slice a2 n2 c2]
def Wn (w:World) (B:Nat) (v:Value) (c:PC):Prop :=
 ∃g1 a1 n1 c1 g2 a2 n2 c2,v=frV g1 a1 n1 c1 g2 a2 n2 c2∧Bi w g1 a1 n1 c1 c.1 g2 a2 n2 c2 c.2∧Nw B n1 a1∧Nw B n2 a2
theorem Wn.grown {w w':World} {B:Nat} {v:Value} {c:PC} {row:Option Nat} (h:Wn w B v c) (hg:w.grownBy w' row) (hr:∀k,row=some k→k<B):Wn w' B v c:=by
 obtain ⟨g1,a1,n1,c1,g2,a2,n2,c2,rfl,hf,h1,h2⟩:=h;exact ⟨g1,a1,n1,c1,g2,a2,n2,c2,rfl,hf.butR h1 h2 hg hr,h1,h2⟩
def Mk (o:Nat→Nat) (a:Option Addr) (c k:Nat):Prop:=c=0∨∀x,a=some x→o x.block=k
structure Pv (w:World) (B:Nat) (o:Nat→Nat) (k:Nat) (a1:Option Addr) (c1:Nat) (a2:Option Addr) (c2:Nat):Prop where
 top:Bf B w a1 c1
 low:Bf B w a2 c2
 ap:Ap2 a1 c1 a2 c2
 m1:Mk o a1 c1 k
 m2:Mk o a2 c2 k
theorem Bf.butR {w w':World} {B:Nat} {a:Option Addr} {c:Nat} {row:Option Nat} (h:Bf B w a c) (hg:w.grownBy w' row) (hr:∀k,row=some k→k<B):Bf B w' a c :=
 h.imp id fun⟨b,cur,h1,h2,h3,h4⟩=>⟨b,cur,h1,h2,by rw [hg.block b (Ar.1 h3).1 (fun e=>by have:=hr _ e.symm;omega)];exact h3,h4⟩
theorem Pv.butR {w w':World} {B:Nat} {o:Nat→Nat} {k:Nat} {a1:Option Addr} {c1:Nat} {a2:Option Addr} {c2:Nat} {row:Option Nat} (h:Pv w B o k a1 c1 a2 c2) (hg:w.grownBy w' row) (hr:∀k,row=some k→k<B):Pv w' B o k a1 c1 a2 c2 :=
 ⟨h.top.butR hg hr,h.low.butR hg hr,h.ap,h.m1,h.m2⟩
theorem Mk.old {w:World} {B:Nat} {o:Nat→Nat} {a:Option Addr} {c k H j:Nat} (h:Mk o a c k) (hf:Bf B w a c) (hH:w.heap.size≤H):Mk (fun g=>if g<H then o g else j) a c k:=by
 rcases hf with h0|⟨b,cur,h1,h2,h3,h4⟩
 ·exact .inl h0
 ·refine h.imp id fun h x hx=>?_
  have:=(Ar.1 h3).1;have e:=h x hx;rw [h1] at hx;cases hx
  show (if b<H then o b else j)=k;rw [if_pos qA];exact e
theorem Mk.new {w:World} {o:Nat→Nat} {a:Option Addr} {c H j:Nat} (hf:Bf H w a c):Mk (fun g=>if g<H then o g else j) a c j:=by
 rcases hf with h0|⟨b,cur,h1,h2,h3,h4⟩
 ·exact .inl h0
 ·refine .inr fun x hx=>?_
  rw [h1] at hx;cases hx
  show (if b<H then o b else j)=j;rw [if_neg qA]
def W5 (w:World) (B:Nat) (o:Nat→Nat) (k:Nat) (v:Value) (c:PC):Prop :=
 ∃g1 a1 n1 c1 g2 a2 n2 c2,v=frV g1 a1 n1 c1 g2 a2 n2 c2∧Bi w g1 a1 n1 c1 c.1 g2 a2 n2 c2 c.2∧Pv w B o k a1 c1 a2 c2
theorem W5.grown {w w':World} {B:Nat} {o:Nat→Nat} {k:Nat} {v:Value} {c:PC} {row:Option Nat} (h:W5 w B o k v c) (hg:w.grownBy w' row) (hr:∀k,row=some k→k<B):W5 w' B o k v c:=by
 obtain ⟨g1,a1,n1,c1,g2,a2,n2,c2,rfl,hf,hl⟩:=h;exact ⟨g1,a1,n1,c1,g2,a2,n2,c2,rfl,hf.butR (hl.top.newA hf.top.rd) (hl.low.newA hf.low.rd) hg hr,hl.butR hg hr⟩
def Fi (w:World) (B:Nat) (o:Nat→Nat) (D:DataW Value) (f:Nat→Option PC):Prop :=
 ∀a b c d kl,a<65536→b<65536→c<65536→d<65536→keyOf Tryz.prog 76 (C6 a b c d)=some kl →
  (f (Ch a b c d)=none→Maps.has D kl=false) ∧
  (∀x,f (Ch a b c d)=some x→Maps.has D kl=true∧∃v,(∀zd,D.atKey kl zd=.held v)∧W5 w B o (Ch a b c d) v x)
theorem Fi.grown {w w':World} {B:Nat} {o:Nat→Nat} {D:DataW Value} {f:Nat→Option PC} {row:Option Nat} (h:Fi w B o D f) (hg:w.grownBy w' row) (hr:∀k,row=some k→k<B):Fi w' B o D f:=by
 intro a b c d kl ha hb hc hd hk;obtain ⟨h1,h2⟩:=h a b c d kl ha hb hc hd hk;refine ⟨h1,fun x hx=>?_⟩;obtain ⟨h3,v,hv,hf⟩:=h2 x hx;exact ⟨h3,v,hv,hf.grown hg hr⟩
theorem Uz {a b c d a' b' c' d':Nat} {kl kl':Lit} (ha:a<65536) (hb:b<65536) (hc:c<65536) (hd:d<65536) (ha':a'<65536) (hb':b'<65536) (hc':c'<65536) (hd':d'<65536)
  (h:keyOf Tryz.prog 76 (C6 a b c d)=some kl) (h':keyOf Tryz.prog 76 (C6 a' b' c' d')=some kl'):kl=kl'↔Ch a b c d=Ch a' b' c' d':=by
 constructor
 ·rintro rfl;have:=Gw.inj h h';simp only [Value.agg.injEq,Array.mk.injEq,List.cons.injEq,Value.int.injEq,true_and,and_true,Int.natCast_inj] at this;obtain ⟨rfl,rfl,rfl,rfl⟩:=this;rfl
 ·intro e;obtain ⟨rfl,rfl,rfl,rfl⟩:=W8 ha hb hc hd ha' hb' hc' hd' e;rw [h] at h'
  cases h'
  rfl
theorem Fi.put {w w':World} {B b':Nat} {o:Nat→Nat} {D:DataW Value} {f:Nat→Option PC} (h:Fi w B o D f) (hD:Maps.IsMap D) (hg:w.grownBy w' (some b')) (hbB:b'<B) (hBw:B≤w.heap.size) {a b c d:Nat} {kl:Lit} (ha:a<65536) (hb:b<65536) (hc:c<65536) (hd:d<65536)
  (hk:keyOf Tryz.prog 76 (C6 a b c d)=some kl) {x:PC} {g1:Bool} {a1:Option Addr} {n1 c1:Nat} {g2:Bool} {a2:Option Addr} {n2 c2:Nat} (hx:Bi w' g1 a1 n1 c1 x.1 g2 a2 n2 c2 x.2) (f1:Bf w.heap.size w' a1 c1) (f2:Bf w.heap.size w' a2 c2) (hap:Ap2 a1 c1 a2 c2)
  {f':Nat→Option PC} (hf':∀k,f' k=if k=Ch a b c d then some x else f k):Fi w' B (fun g=>if g<w.heap.size then o g else Ch a b c d) (D.put kl (.held (frV g1 a1 n1 c1 g2 a2 n2 c2))) f':=by
 intro a' b'' c' d' kl' ha' hb' hc' hd' hk';have hi:=Uz ha' hb' hc' hd' ha hb hc hd hk' hk;have hkl:=Gw.key hk;have hr:∀k,some b'=some k→k<B:=fun k hk=>by cases hk;exact hbB
 by_cases e:Ch a' b'' c' d'=Ch a b c d
 ·have ek:=hi.2 e;subst ek;rw [hf',if_pos e,e];refine ⟨fun h=>by simp at h,fun y hy=>?_⟩;simp only [Option.some.injEq] at hy;subst hy;exact ⟨Maps.has_put_same hD hkl _,_,fun zd=>Maps.atKey_put_same hD hkl _ _,_,_,_,_,_,_,_,_,rfl,hx,⟨f1.mono hBw,f2.mono hBw,hap,Mk.new f1,Mk.new f2⟩⟩
 ·have hne:kl'≠kl:=fun ek=>e (hi.1 ek)
  rw [hf',if_neg e];obtain ⟨h1,h2⟩:=h a' b'' c' d' kl' ha' hb' hc' hd' hk';rw [Maps.has_put_other hne];refine ⟨h1,fun y hy=>?_⟩;obtain ⟨h3,u,hu,hf⟩:=h2 y hy;refine ⟨h3,u,fun zd=>by rw [Maps.atKey_put_other hne];exact hu zd,?_⟩;obtain ⟨q1,e1,m1,d1,q2,e2,m2,d2,rfl,hfr,hl⟩:=hf;have hl':=hl.butR hg hr;exact ⟨q1,e1,m1,d1,q2,e2,m2,d2,rfl,hfr.butR (hl.top.newA hfr.top.rd) (hl.low.newA hfr.low.rd) hg hr,hl'.top,hl'.low,hl.ap,hl.m1.old hl.top (Ad _),hl.m2.old hl.low (Ad _)⟩
theorem Fi.empty (w:World) (B:Nat) (o:Nat→Nat):Fi w B o (.map []) (fun _=>none):=fun a b c d kl _ _ _ _ _=>⟨fun _=>rfl,fun x hx=>by cases hx⟩
structure C8 (w:World) (b n B:Nat) (f:Nat→Option PC):Prop where
 ex:∃D o,w.ownsMap Tryz.prog 76 RH b n D∧Fi w B o D f
theorem C8.grown {w w':World} {b n B:Nat} {f:Nat→Option PC} {row:Option Nat} (h:C8 w b n B f) (hg:w.grownBy w' row) (hr:∀k,row=some k→k<B) (hb:some b≠row):C8 w' b n B f:=by
 obtain ⟨D,o,h1,h2⟩:=h.ex;exact ⟨D,o,h1.kept hg hb,h2.grown hg hr⟩
theorem Bq {w w':World} (h:Below w.heap.size w w'):w.grownBy w' none:=⟨h.os,h.tape,h.output,h.size,fun k hk _=>h.block k hk⟩
theorem C8.keep {w w':World} {b n B:Nat} {f:Nat→Option PC} (h:C8 w b n B f) (hb:Below w.heap.size w w'):C8 w' b n B f:=h.grown (Bq hb) qG qG
theorem Wn.keep {w w':World} {B:Nat} {v:Value} {c:PC} (h:Wn w B v c) (hb:Below w.heap.size w w'):Wn w' B v c:=h.grown (Bq hb) qG
theorem fY {D:DataW Value} {kl:Lit} {v zv:Value} {ps:List MemPlace} (h:RH v=some (D.atKey kl (.held zv),ps)) (hh:Maps.has D kl=false):v=zv:=by
 rw [Maps.atKey_of_not_has hh] at h;simp only [RH,Option.some.injEq,Prod.mk.injEq,DataW.held.injEq] at h;exact h.1
theorem fD {D:DataW Value} {kl:Lit} {v zv u:Value} {ps:List MemPlace} (h:RH v=some (D.atKey kl (.held zv),ps)) (hu:∀zd,D.atKey kl zd=.held u):v=u:=by
 rw [hu] at h;simp only [RH,Option.some.injEq,Prod.mk.injEq,DataW.held.injEq] at h;exact h.1
theorem Ef {w w':World} {b n:Nat} {D:DataW Value} (h:w.ownsMap Tryz.prog 76 RH b n D) (hb:Below w.heap.size w w'):w'.ownsMap Tryz.prog 76 RH b n D :=
 h.kept (row:=none) (Bq hb) qG
theorem H7 {w w1 w':World} {b:Nat} (hb:Below w.heap.size w w1) (hg:w1.grownBy w' (some b)):w.grownBy w' (some b) :=
 ⟨hg.os.trans hb.os,hg.tape.trans hb.tape,hg.output.trans hb.output,Ah hb.size hg.size,fun k hk hne=>(hg.block k (Nat.lt_of_lt_of_le hk hb.size) hne).trans (hb.block k hk)⟩
theorem fK {f:Nat→Option PC} {k:Nat} {x:PC} (h:f k=none) (j:Nat):Gy f (k,x) j=if j=k then some x else f j:=by
 unfold Gy;simp only [h]
theorem eF {f:Nat→Option PC} {k:Nat} {x y:PC} (h:f k=some y) (j:Nat):Gy f (k,x) j=if j=k then some (Ll y x) else f j:=by
 unfold Gy;simp only [h]
theorem oJ (w0 w:World) (b n B:Nat) (f:Nat→Option PC) (h:C8 w0 b n B f) (h00:Below w0.heap.size w0 w) (hbB:b<B) (hBw:B≤w0.heap.size) (hn:n<1000000000)
  (g1:Bool) (a1:Option Addr) (n1 c1:Nat) (g2:Bool) (a2:Option Addr) (n2 c2:Nat) (x:PC) (hx:Bi w g1 a1 n1 c1 x.1 g2 a2 n2 c2 x.2) (k1:Bf w0.heap.size w a1 c1) (k2:Bf w0.heap.size w a2 c2) (hap:Ap2 a1 c1 a2 c2)
  (m0 m1 m2 m3:Nat) (h0:m0<65536) (h1:m1<65536) (h2:m2<65536) (h3:m3<65536) (hf:f (Ch m0 m1 m2 m3)=none) :
  Calls Tryz.prog 43 #[.map (some b),frV g1 a1 n1 c1 g2 a2 n2 c2,C6 m0 m1 m2 m3] w fun e w'=>e=.returned (.tuple #[])∧C8 w' b (n+1) B (Gy f (Ch m0 m1 m2 m3,x))∧w.grownBy w' (some b):=by
 obtain ⟨kl,hkl⟩:=Vs h0 h1 h2 h3;obtain ⟨D,o,hown0,hH⟩:=h.ex;have hown:=Ef hown0 h00;have hhas:=(hH _ _ _ _ _ h0 h1 h2 h3 hkl).1 hf;go_enter Tryz.func43,Tryz.ntmps43;go_wp2_with (first|(at_lookup;refine wpList_lookup_own_ok _ rfl _ _ 85 rfl 76 34 Gw Tryz.underlying85 RH (Tryz.zeroValue34 _) (.held (frV false none 0 0 false none 0 0)) [] rfl b n D rfl (Ef hown qF) _ kl rfl hkl ?_;intro v ps hv;obtain rfl:=fY hv hhas;rw [hhas])|(at_mapUpdate;refine wpList_mapUpdate_own _ rfl _ _ _ 85 rfl 76 34 Gw Tryz.underlying85 RH b n D rfl (Ef hown qF) qO _ _ kl rfl rfl hkl (.held (frV g1 a1 n1 c1 g2 a2 n2 c2)) [] rfl ?_;intro w1 hown1 hgrow1));have hg:w.grownBy w1 (some b):=H7 qF hgrow1;have hr:∀k,some b=some k→k<w0.heap.size:=fun k hk=>by cases hk;omega
 exact bodyPost_end (v:=.tuple #[]) (by simp [results,Tryz.results43,go_sem]) rfl ⟨rfl,⟨_,_,hown1,hH.put (hown.isMap) (H7 h00 hg) hbB hBw h0 h1 h2 h3 hkl (hx.butR (k1.newA hx.top.rd) (k2.newA hx.low.rd) hg hr) (k1.butR hg hr) (k2.butR hg hr) hap (fK hf)⟩,hg⟩
theorem oL (w0 w:World) (b n B:Nat) (f:Nat→Option PC) (h:C8 w0 b n B f) (h00:Below w0.heap.size w0 w) (hbB:b<B) (hBw:B≤w0.heap.size) (hn:n<1000000000)
  (g1:Bool) (a1:Option Addr) (n1 c1:Nat) (g2:Bool) (a2:Option Addr) (n2 c2:Nat) (x:PC) (hx:Bi w g1 a1 n1 c1 x.1 g2 a2 n2 c2 x.2) (k1:Bf w0.heap.size w a1 c1) (k2:Bf w0.heap.size w a2 c2) (hap:Ap2 a1 c1 a2 c2)
  (m0 m1 m2 m3:Nat) (h0:m0<65536) (h1:m1<65536) (h2:m2<65536) (h3:m3<65536) (y:PC) (hfy:f (Ch m0 m1 m2 m3)=some y) (hxK:Ca 1000000000 x) (hyK:Ca 1000000000 y) :
  Calls Tryz.prog 43 #[.map (some b),frV g1 a1 n1 c1 g2 a2 n2 c2,C6 m0 m1 m2 m3] w fun e w'=>e=.returned (.tuple #[])∧C8 w' b (n+1) B (Gy f (Ch m0 m1 m2 m3,x))∧w.grownBy w' (some b):=by
 obtain ⟨kl,hkl⟩:=Vs h0 h1 h2 h3;obtain ⟨D,o,hown0,hH⟩:=h.ex;have hown:=Ef hown0 h00;obtain ⟨hhas,u,hu,g3,a3,n3,c3,g4,a4,n4,c4,rfl,hy0,k3⟩:=(hH _ _ _ _ _ h0 h1 h2 h3 hkl).2 y hfy;have hy:=hy0.keep h00;have hz00:=h00.size;have HB:=Ac w.heap.size w;have e1:=hx.top.rd.len;have e2:=hx.low.rd.len;have e3:=hy.top.rd.len;have e4:=hy.low.rd.len;obtain ⟨i1,i2⟩:=hxK;obtain ⟨i3,i4⟩:=hyK;have q1:n1≤1000000000:=by omega
 have q2:n2≤1000000000:=by omega
 have q3:n3≤1000000000:=by omega
 have q4:n4≤1000000000:=by omega
 clear e1 e2 e3 e4 i1 i2 i3 i4;go_enter Tryz.func43,Tryz.ntmps43;go_wp2_with (first|(at_lookup;refine wpList_lookup_own_ok _ rfl _ _ 85 rfl 76 34 Gw Tryz.underlying85 RH (Tryz.zeroValue34 _) (.held (frV false none 0 0 false none 0 0)) [] rfl b n D rfl (Ef hown qF) _ kl rfl hkl ?_;intro v ps hv;obtain rfl:=fD hv hu;rw [hhas]));refine (tU _ _ _ _ _ _ _ _ _ _ _ (hy.keep qF) _ _ _ _ _ _ _ _ _ _ (hx.keep qF) q3 q4 q1 q2).mono ?_;rintro e w1 ⟨ge,ae,ne,ce,gf,af,nf,cf,rfl,hr,hfe,hff,hap2,hb⟩;obtain ⟨hc,hf⟩:=Bl hb;have hz:=hb.size;(try simp only [Aj,Ak] at hz);replace HB:=zI w hb;obtain ⟨s0_0,s0_1⟩:=qZ hc (w.heap.size) (.bool g1) (.slice a1 n1 c1);obtain ⟨s0_2,s0_3⟩:=zD hc (w.heap.size) (.bool g2) (.slice a2 n2 c2);obtain ⟨s1_0,s1_1⟩:=qZ hc (w.heap.size+1) (.int .u16 m0) (.int .u16 m1);obtain ⟨s1_2,s1_3⟩:=zD hc (w.heap.size+1) (.int .u16 m2) (.int .u16 m3);obtain ⟨s2_0,s2_1⟩:=qZ hc (w.heap.size+1+1) (.bool g3) (.slice a3 n3 c3);obtain ⟨s2_2,s2_3⟩:=zD hc (w.heap.size+1+1) (.bool g4) (.slice a4 n4 c4);obtain ⟨f0_0,f0_1⟩:=zF hf (w.heap.size);obtain ⟨f0_2,f0_3⟩:=zG hf (w.heap.size);have HAP:=Ae hap2;have hk1:w.heap.size+1+1<w1.heap.size:=by omega
 have fe:Bf (w.heap.size+1+1+1) w1 ae ce:=hfe.mono qB;have ff:Bf (w.heap.size+1+1+1) w1 af cf:=hff.mono qB;clear hc hf hb hz hfe hff hap2;go_wp2_with (first|(at_mapUpdate;refine wpList_mapUpdate_own _ rfl _ _ _ 85 rfl 76 34 Gw Tryz.underlying85 RH b n D rfl (Ef hown qF) qO _ _ kl rfl rfl hkl (.held (frV ge ae ne ce gf af nf cf)) [] rfl ?_;intro w2 hown2 hgrow2));have u:w.heap.size<w.heap.size+1+1+1:=by omega
 have hg:w.grownBy w2 (some b):=H7 qF hgrow2;have hr':∀k,some b=some k→k<w.heap.size+1+1+1:=fun k hk=>by cases hk;omega
 have hfe4:=fe.set4 ⟨w.heap.size,0,none⟩ ⟨w.heap.size,1,none⟩ ⟨w.heap.size,2,none⟩ ⟨w.heap.size,3,none⟩ (.bool ge) (.slice ae ne ce) (.bool gf) (.slice af nf cf) u u u u;have hff4:=ff.set4 ⟨w.heap.size,0,none⟩ ⟨w.heap.size,1,none⟩ ⟨w.heap.size,2,none⟩ ⟨w.heap.size,3,none⟩ (.bool ge) (.slice ae ne ce) (.bool gf) (.slice af nf cf) u u u u;have fe2:=(fe.set4 ⟨w.heap.size,0,none⟩ ⟨w.heap.size,1,none⟩ ⟨w.heap.size,2,none⟩ ⟨w.heap.size,3,none⟩ (.bool ge) (.slice ae ne ce) (.bool gf) (.slice af nf cf) u u u u).butR hgrow2 hr';have ff2:=(ff.set4 ⟨w.heap.size,0,none⟩ ⟨w.heap.size,1,none⟩ ⟨w.heap.size,2,none⟩ ⟨w.heap.size,3,none⟩ (.bool ge) (.slice ae ne ce) (.bool gf) (.slice af nf cf) u u u u).butR hgrow2 hr';refine bodyPost_end (v:=.tuple #[]) (by simp [results,Tryz.results43,go_sem]) rfl ⟨rfl,⟨_,_,hown2,hH.put (hown.isMap) (H7 h00 hg) hbB hBw h0 h1 h2 h3 hkl (x:=Ll y x) (Bi.butR ⟨hr.top.set4 fe _ _ _ _ _ _ _ _ u u u u,hr.low.set4 ff _ _ _ _ _ _ _ _ u u u u,hr.pos,hr.red⟩ (hfe4.newA (hr.top.set4 fe _ _ _ _ _ _ _ _ u u u u).rd) (hff4.newA (hr.low.set4 ff _ _ _ _ _ _ _ _ u u u u).rd) hgrow2 hr') (fe2.mono qA) (ff2.mono qA) HAP.out (eF hfy)⟩,hg⟩
theorem bR (w0 w:World) (b n B:Nat) (f:Nat→Option PC) (h:C8 w0 b n B f) (h00:Below w0.heap.size w0 w) (hbB:b<B) (hBw:B≤w0.heap.size) (hn:n<1000000000)
  (g1:Bool) (a1:Option Addr) (n1 c1:Nat) (g2:Bool) (a2:Option Addr) (n2 c2:Nat) (x:PC) (hx:Bi w g1 a1 n1 c1 x.1 g2 a2 n2 c2 x.2) (k1:Bf w0.heap.size w a1 c1) (k2:Bf w0.heap.size w a2 c2) (hap:Ap2 a1 c1 a2 c2)
  (m0 m1 m2 m3:Nat) (h0:m0<65536) (h1:m1<65536) (h2:m2<65536) (h3:m3<65536) (hxK:Ca 1000000000 x) (hyK:∀y,f (Ch m0 m1 m2 m3)=some y→Ca 1000000000 y) :
  Calls Tryz.prog 43 #[.map (some b),frV g1 a1 n1 c1 g2 a2 n2 c2,C6 m0 m1 m2 m3] w fun e w'=>e=.returned (.tuple #[])∧C8 w' b (n+1) B (Gy f (Ch m0 m1 m2 m3,x))∧w.grownBy w' (some b):=by
 cases hf:f (Ch m0 m1 m2 m3) with
 | none=>exact oJ w0 w b n B f h h00 hbB hBw hn g1 a1 n1 c1 g2 a2 n2 c2 x hx k1 k2 hap m0 m1 m2 m3 h0 h1 h2 h3 hf
 | some y=>exact oL w0 w b n B f h h00 hbB hBw hn g1 a1 n1 c1 g2 a2 n2 c2 x hx k1 k2 hap m0 m1 m2 m3 h0 h1 h2 h3 y hf hxK (hyK y hf)
theorem kS (w:World) :
  Calls Tryz.prog 228 #[] w fun e w'=>(∃B es clock,e=.returned (.map (some B))∧w'.heap[B]? = some (.map es clock)∧Instr.findNow (.int .u8) (.int .u8 0) es.toList 0=some none)∧Below w.heap.size w w'∧w.drawn≤w'.drawn:=by
 have hmm:=@run_makeMap Tryz.prog;have hb1:((w.alloc (.map #[] 0)).alloc (.cells #[.func (.func 293) #[] #[],.func (.func 229) #[] #[]] 150)).heap[w.heap.size]? = some (.map #[] 0):=by
  rw [Below.heap_alloc _ _ _ qG];exact World.alloc_heap_new w _
 have q1:=rD _ _ _ _ 1 (.slice (some ⟨w.heap.size+1,0,none⟩) 2 2) hb1 rfl;have HB1:Below w.heap.size w ((w.alloc (.map #[] 0)).alloc (.cells #[.func (.func 293) #[] #[],.func (.func 229) #[] #[]] 150)):=by go_grown
 have hz1:((w.alloc (.map #[] 0)).alloc (.cells #[.func (.func 293) #[] #[],.func (.func 229) #[] #[]] 150)).heap.size=w.heap.size+2:=by simp
 have hb2:((((w.alloc (.map #[] 0)).alloc (.cells #[.func (.func 293) #[] #[],.func (.func 229) #[] #[]] 150)).putObj w.heap.size (.map #[{ key:=.int .u8 1,val:=.slice (some ⟨w.heap.size+1,0,none⟩) 2 2,born:=0 }] 1)).alloc (.cells #[.func (.func 293) #[] #[],.func (.func 294) #[] #[]] 150)).heap[w.heap.size]? = some (.map #[{ key:=.int .u8 1,val:=.slice (some ⟨w.heap.size+1,0,none⟩) 2 2,born:=0 }] 1):=by
  rw [Below.heap_alloc _ _ _ (by rw [Fl];omega),Ba qA]
 have q2:=rD _ _ _ _ 2 (.slice (some ⟨w.heap.size+2,0,none⟩) 2 2) hb2 rfl;have HB2:Below w.heap.size w ((((w.alloc (.map #[] 0)).alloc (.cells #[.func (.func 293) #[] #[],.func (.func 229) #[] #[]] 150)).putObj w.heap.size (.map #[{ key:=.int .u8 1,val:=.slice (some ⟨w.heap.size+1,0,none⟩) 2 2,born:=0 }] 1)).alloc (.cells #[.func (.func 293) #[] #[],.func (.func 294) #[] #[]] 150)):=Below.alloc (Ku _ HB1 (Ad _)) (by rw [Fl];omega) _;have hz2:w.heap.size<((((w.alloc (.map #[] 0)).alloc (.cells #[.func (.func 293) #[] #[],.func (.func 229) #[] #[]] 150)).putObj w.heap.size (.map #[{ key:=.int .u8 1,val:=.slice (some ⟨w.heap.size+1,0,none⟩) 2 2,born:=0 }] 1)).alloc (.cells #[.func (.func 293) #[] #[],.func (.func 294) #[] #[]] 150)).heap.size:=by rw [Aj,Fl];omega
 go_enter Tryz.func228,Tryz.ntmps228;go_wp2_with fail;go_ret;exact ⟨⟨w.heap.size,_,_,rfl,Ba hz2,rfl⟩,Ku _ HB2 (Ad _),Ad _⟩
theorem eL (w:World) (x0 x1 x2 x3 y0 y1 y2 y3:Int) (f g:Nat→Int) (f0:f 0=x0) (f1:f 1=x1) (f2:f 2=x2) (f3:f 3=x3) (g0:g 0=y0) (g1:g 1=y1) (g2:g 2=y2) (g3:g 3=y3) :
  Calls Tryz.prog 229 #[.agg #[.int .u16 x0,.int .u16 x1,.int .u16 x2,.int .u16 x3],.agg #[.int .u16 y0,.int .u16 y1,.int .u16 y2,.int .u16 y3]] w fun e w'=>e=.returned (.int .i64 (Ht f g))∧Below w.heap.size w w'∧w.drawn≤w'.drawn:=by
 have HB:=Ac w.heap.size w;go_enter Tryz.func229,Tryz.ntmps229;go_wp2_with fail;have HF:Hid (∀i,i<4→((w.alloc (.cells #[.int .u16 x0,.int .u16 x1,.int .u16 x2,.int .u16 x3] 76)).alloc (.cells #[.int .u16 y0,.int .u16 y1,.int .u16 y2,.int .u16 y3] 76)).cell? ⟨w.heap.size,i,none⟩=some (.int .u16 (f i))):=Ae (fun i hi=>by
  match i,hi with
  | 0,_=>rw [f0];simp [go_sem]
  | 1,_=>rw [f1];simp [go_sem]
  | 2,_=>rw [f2];simp [go_sem]
  | 3,_=>rw [f3];simp [go_sem])
 have HG:Hid (∀i,i<4→((w.alloc (.cells #[.int .u16 x0,.int .u16 x1,.int .u16 x2,.int .u16 x3] 76)).alloc (.cells #[.int .u16 y0,.int .u16 y1,.int .u16 y2,.int .u16 y3] 76)).cell? ⟨w.heap.size+1,i,none⟩=some (.int .u16 (g i))):=Ae (fun i hi=>by
  match i,hi with
  | 0,_=>rw [g0];simp [go_sem]
  | 1,_=>rw [g1];simp [go_sem]
  | 2,_=>rw [g2];simp [go_sem]
  | 3,_=>rw [g3];simp [go_sem])
 have HB2:Below w.heap.size w ((w.alloc (.cells #[.int .u16 x0,.int .u16 x1,.int .u16 x2,.int .u16 x3] 76)).alloc (.cells #[.int .u16 y0,.int .u16 y1,.int .u16 y2,.int .u16 y3] 76)):=by go_grown
 clear f0 f1 f2 f3 g0 g1 g2 g3;have HDr:w.drawn=((w.alloc (.cells #[.int .u16 x0,.int .u16 x1,.int .u16 x2,.int .u16 x3] 76)).alloc (.cells #[.int .u16 y0,.int .u16 y1,.int .u16 y2,.int .u16 y3] 76)).drawn:=rfl;generalize ((w.alloc (.cells #[.int .u16 x0,.int .u16 x1,.int .u16 x2,.int .u16 x3] 76)).alloc (.cells #[.int .u16 y0,.int .u16 y1,.int .u16 y2,.int .u16 y3] 76))=w1 at *;go_quiet (((first|(go_at_call 295;exact Fu (Jp _ _ _ f g HF.out HG.out))|(go_at_call 295;exact Ey (Jp _ _ _ f g HF.out HG.out)))));go_wp2_with fail;go_ret;exact ⟨rfl,Bu _ HB2,by rw [HDr];exact Nat.le_add_right _ _⟩
theorem uY (w:World) (x0 x1 x2 x3 y0 y1 y2 y3:Int) :
  Calls Tryz.prog 169 #[.int .u8 0,.agg #[.int .u16 x0,.int .u16 x1,.int .u16 x2,.int .u16 x3],.agg #[.int .u16 y0,.int .u16 y1,.int .u16 y2,.int .u16 y3]] w fun e w'=>e=.returned (.int .i64 (Ht (Do x0 x1 x2 x3) (Do y0 y1 y2 y3)))∧Below w.heap.size w w'∧w.drawn≤w'.drawn:=by
 have HB:=Ac w.heap.size w;go_enter Tryz.func169,Tryz.ntmps169;go_wp2_with fail;refine (kS _).mono ?_;rintro e w1 ⟨⟨B,es,clock,rfl,hes,hfn⟩,hb,hdr⟩;replace hdr:w.drawn≤w1.drawn:=hdr;obtain ⟨hc,hf⟩:=Bl hb;have hz:=hb.size;(try simp only [Aj,Ak] at hz);replace HB:=zI w hb;have s0:∀i,i<4→w1.cell? ⟨w.heap.size,i,none⟩=some (.int .u16 (Do x0 x1 x2 x3 i)):=fun i hi=>(hc _ _ qB).trans (by
  match i,hi with
  | 0,_=>simp [go_sem,Do]
  | 1,_=>simp [go_sem,Do]
  | 2,_=>simp [go_sem,Do]
  | 3,_=>simp [go_sem,Do])
 have s1:∀i,i<4→w1.cell? ⟨w.heap.size+1,i,none⟩=some (.int .u16 (Do y0 y1 y2 y3 i)):=fun i hi=>(hc _ _ qB).trans (by
  match i,hi with
  | 0,_=>simp [go_sem,Do]
  | 1,_=>simp [go_sem,Do]
  | 2,_=>simp [go_sem,Do]
  | 3,_=>simp [go_sem,Do])
 have s00:=s0 0 qA;have s01:=s0 1 qA;have s02:=s0 2 qA;have s03:=s0 3 qA;have s10:=s1 0 qA;have s11:=s1 1 qA;have s12:=s1 2 qA;have s13:=s1 3 qA;simp only [Do] at s00 s01 s02 s03 s10 s11 s12 s13;have q1:=tE w1 B clock es 0 hes hfn;clear s0 s1 hc hf hes hfn;go_wp2_with fail;go_loop [14] (fun v=>v=.int .i64 0) (fun _=>0)
 case atStart=>rfl
 case round =>
  subst hrel;go_wp2_with fail;refine (eL _ _ _ _ _ _ _ _ _ (Do x0 x1 x2 x3) (Do y0 y1 y2 y3) rfl rfl rfl rfl rfl rfl rfl rfl).mono ?_;rintro e w2 ⟨rfl,hb2,hdr2⟩;replace hdr2:=Ah hdr hdr2;go_wp2_with fail;go_ret;exact ⟨rfl,HB.trans (hb2.mono HB.size),hdr2⟩
theorem pG (w:World) (x0 x1 x2 x3 y0 y1 y2 y3:Int) :
  Calls Tryz.prog 99 #[.agg #[.int .u16 x0,.int .u16 x1,.int .u16 x2,.int .u16 x3],.agg #[.int .u16 y0,.int .u16 y1,.int .u16 y2,.int .u16 y3]] w fun e w'=>e=.returned (.int .i64 (Ht (Do y0 y1 y2 y3) (Do x0 x1 x2 x3)))∧Below w.heap.size w w'∧w.drawn≤w'.drawn:=by
 have HB:=Ac w.heap.size w;go_enter Tryz.func99,Tryz.ntmps99;go_wp2_with fail;refine (uY _ _ _ _ _ _ _ _ _).mono ?_;rintro e w1 ⟨rfl,hb,hdr⟩;replace hdr:w.drawn≤w1.drawn:=hdr;have HB2:=zI w hb;go_wp2_with fail;go_ret;exact ⟨rfl,HB2,hdr⟩
end Go.Proofs.YtnnhcbeiogaknaaGreatDoor
end
