/- polys.of: a polynomial that is of the form comes back as it is, else nothing. -/
import Derived.Test.YtnnhcbeiogaknaaGreatDoorQV13
set_option linter.unusedSimpArgs false
set_option linter.unusedVariables false
set_option maxRecDepth 100000
set_option maxHeartbeats 4000000
section
namespace Go.Proofs.YtnnhcbeiogaknaaGreatDoor
open Go.RowKit
theorem Lk (w:World) (a:Γ) (n c:Nat) (p:Nat→Tm) (hp:RdP w a n c p) (hsm:∀k,k<n→(p k).n1≤1000000∧(p k).n2≤1000000) (r:Bool) (hr:POk p n↔r=true) :
  Θ 46 #[.slice a n c] w fun e w'=>e=.returned (if r then .slice a n c else .slice none 0 0)∧Below w.heap.size w w':=by
 have HB:=Ac w.heap.size w;have HR:=Ae hr;have HS:=Ae hsm;clear hr hsm;go_enter Tryz.func46,Tryz.ntmps46;go_wp2_with fail;refine (E4 _ a n c p hp HS.out r HR.out).mono ?_;rintro e w1 ⟨rfl,hb⟩
 cases r with
 | true =>
  go_wp2_with fail;exact bodyPost_ret (v:=.slice a n c) (by simp [results,Tryz.results46,go_sem]) rfl ⟨rfl,by go_grown⟩
 | false =>
  go_wp2_with fail;exact bodyPost_ret (v:=.slice none 0 0) (by simp [results,Tryz.results46,go_sem]) rfl ⟨rfl,by go_grown⟩
def Cg (a b c d:Nat):Nat:=((a*65536+b)*65536+c)*65536+d
theorem Re {a b c d:Nat} (ha:a<65536) (hb:b<65536) (hc:c<65536) (hd:d<65536):Cg a b c d<18446744073709551616:=by unfold Cg;omega
theorem Yp {a b c d a' b' c' d':Nat} (ha:a<65536) (hb:b<65536) (hc:c<65536) (hd:d<65536) (ha':a'<65536) (hb':b'<65536) (hc':c'<65536) (hd':d'<65536) (h:Cg a b c d=Cg a' b' c' d'):a=a'∧b=b'∧c=c'∧d=d':=by
 unfold Cg at h;omega
theorem Pz (a b:Nat):Bz (a:Int) (b:Int)=if a<b then -1 else if a=b then 0 else 1:=by
 unfold Bz;by_cases h1:a<b
 ·rw [if_pos qA,if_pos h1]
 ·rw [if_neg qA,if_neg h1];by_cases h2:a=b
  ·rw [if_pos qA,if_pos h2]
  ·rw [if_neg qA,if_neg h2]
theorem N6 {a b c d a' b' c' d':Nat} (ha:a<65536) (hb:b<65536) (hc:c<65536) (hd:d<65536) (ha':a'<65536) (hb':b'<65536) (hc':c'<65536) (hd':d'<65536) :
  Iq (Dt a b c d) (Dt a' b' c' d')=Bz (Cg a b c d:Nat) (Cg a' b' c' d':Nat):=by
 unfold Iq;simp only [Dt,Pz,ne_eq,Int.natCast_inj];by_cases h1:a=a'
 ·by_cases h2:b=b'
  ·by_cases h3:c=c'
   ·by_cases h4:d=d'
    ·subst h1 h2 h3 h4;simp
    ·subst h1 h2 h3;rw [if_neg qG,if_neg qG,if_neg qG,if_pos (by simpa using h4)];unfold Cg;by_cases h:d<d'
     ·rw [if_pos h,if_pos qA]
     ·rw [if_neg h,if_neg h4,if_neg qA,if_neg qA]
   ·subst h1 h2;rw [if_neg qG,if_neg qG,if_pos (by simpa using h3)];unfold Cg;by_cases h:c<c'
    ·rw [if_pos h,if_pos qA]
    ·rw [if_neg h,if_neg h3,if_neg qA,if_neg qA]
  ·subst h1;rw [if_neg qG,if_pos (by simpa using h2)];unfold Cg;by_cases h:b<b'
   ·rw [if_pos h,if_pos qA]
   ·rw [if_neg h,if_neg h2,if_neg qA,if_neg qA]
 ·rw [if_pos (by simpa using h1)];unfold Cg;by_cases h:a<a'
  ·rw [if_pos h,if_pos qA]
  ·rw [if_neg h,if_neg h1,if_neg qA,if_neg qA]
abbrev Nw (B n:Nat) (a:Γ):Prop:=n=0∨dV B a
theorem Nw.mono {B B' n:Nat} {a:Γ} (h:Nw B n a) (hB:B'≤B):Nw B' n a:=h.imp id (·.mono hB)
theorem RdL.butR {w w':World} {a:Γ} {n c:Nat} {d:Ξ} {row:Option Nat} {B:Nat} (h:RdL w a n c d) (hn:Nw B n a) (hg:w.grownBy w' row) (hr:∀k,row=some k→k<B):RdL w' a n c d:=by
 refine ⟨h.len,h.cap,h.few,h.top,h.small,?_⟩;rcases h.cell with h0|⟨b,o,ha,hc⟩
 ·exact .inl h0
 ·rcases hn with h0|hn
  ·exact .inl h0
  ·refine .inr ⟨b,o,ha,fun i hi=>hg.cell (hc i hi) fun e=>?_⟩;have h1:=hr _ e.symm;have h2:=hn _ ha;simp at h1 h2;omega
theorem Bh.butR {w w':World} {g:Bool} {a:Γ} {n c:Nat} {z:Int} {row:Option Nat} {B:Nat} (h:Bh w g a n c z) (hn:Nw B n a) (hg:w.grownBy w' row) (hr:∀k,row=some k→k<B):Bh w' g a n c z:=⟨h.neg,h.rd.butR hn hg hr⟩
theorem Bj.butR {w w':World} {g1:Bool} {a1:Γ} {n1 c1:Nat} {p:Int} {g2:Bool} {a2:Γ} {n2 c2:Nat} {q:Int} {row:Option Nat} {B:Nat} (h:Bj w g1 a1 n1 c1 p g2 a2 n2 c2 q) (h1:Nw B n1 a1) (h2:Nw B n2 a2) (hg:w.grownBy w' row) (hr:∀k,row=some k→k<B):Bj w' g1 a1 n1 c1 p g2 a2 n2 c2 q :=
 ⟨h.top.butR h1 hg hr,h.low.butR h2 hg hr,h.pos,h.red⟩
structure Ey (t:Tm) (x:PT):Prop where
 g1:t.g1=decide (x.2.1<0)
 d1:t.d1=dg x.2.1.natAbs
 g2:t.g2=decide (x.2.2<0)
 d2:t.d2=dg x.2.2.natAbs
 key:Cg t.m0 t.m1 t.m2 t.m3=x.1
theorem Ey.frac {w:World} {t:Tm} {x:PT} (h:Ey t x) (hr:Ei w t) (hc:CW x.2):Bj w t.g1 t.a1 t.n1 t.c1 x.2.1 t.g2 t.a2 t.n2 t.c2 x.2.2 :=
 ⟨⟨h.g1,h.d1▸hr.top⟩,⟨h.g2,h.d2▸hr.low⟩,hc.pos,hc.red⟩
def Cj (K:Nat) (l:Δ):Prop:=∀t∈l,(dg t.2.1.natAbs).length≤K∧(dg t.2.2.natAbs).length≤K
structure Bd (w:World) (B:Nat) (a:Γ) (n c:Nat) (l:Δ):Prop where
 len:l.length=n
 base:Nw B n a
 nl:a=none→c=0
 ts:∃p:Nat→Tm,RdP w a n c p∧∀i x,l[i]? = some x→Ey (p i) x∧Nw B (p i).n1 (p i).a1∧Nw B (p i).n2 (p i).a2
theorem Bd.keep {w w':World} {B:Nat} {a:Γ} {n c:Nat} {l:Δ} (h:Bd w B a n c l) (hb:Below w.heap.size w w'):Bd w' B a n c l:=by
 obtain ⟨p,hp,hx⟩:=h.ts;exact ⟨h.len,h.base,h.nl,p,hp.keep hb,hx⟩
theorem Bd.mono {w:World} {B B':Nat} {a:Γ} {n c:Nat} {l:Δ} (h:Bd w B a n c l) (hB:B'≤B):Bd w B' a n c l:=by
 obtain ⟨p,hp,hx⟩:=h.ts;exact ⟨h.len,h.base.mono hB,h.nl,p,hp,fun i x hi=>⟨(hx i x hi).1,(hx i x hi).2.1.mono hB,(hx i x hi).2.2.mono hB⟩⟩
theorem Ll.butR {w w':World} {b o:Nat} {t:Tm} {row:Option Nat} (h:Ll w b o t) (hg:w.grownBy w' row) (hr:some b≠row):Ll w' b o t :=
 ⟨hg.cell h.e0 hr,hg.cell h.e1 hr,hg.cell h.e2 hr,hg.cell h.e3 hr,hg.cell h.e4 hr,hg.cell h.e5 hr,hg.cell h.e6 hr,hg.cell h.e7 hr⟩
theorem Bd.butR {w w':World} {B:Nat} {a:Γ} {n c:Nat} {l:Δ} {row:Option Nat} (h:Bd w B a n c l) (hg:w.grownBy w' row) (hr:∀k,row=some k→k<B):Bd w' B a n c l:=by
 obtain ⟨p,hp,hx⟩:=h.ts;refine ⟨h.len,h.base,h.nl,p,⟨hp.cap,hp.few,hp.top,fun i hi=>?_,?_⟩,hx⟩
 ·obtain ⟨x,hxi⟩:∃x,l[i]? = some x:=⟨l[i]'(by rw [h.len];exact hi),Ai _⟩;have ht:=hp.tm i hi;obtain ⟨_,k1,k2⟩:=hx i x hxi;exact ⟨ht.top.butR k1 hg hr,ht.low.butR k2 hg hr,ht.s0,ht.s1,ht.s2,ht.s3⟩
 ·rcases hp.cell with h0|⟨b,o,ha,hc⟩
  ·exact .inl h0
  ·rcases h.base with h0|hn
   ·exact .inl h0
   ·exact qDf
theorem Bd.nil (w:World) (B:Nat):Bd w B none 0 0 [] :=
 ⟨rfl,.inl rfl,fun _=>rfl,fun _=>⟨false,none,0,0,[],false,none,0,0,[],0,0,0,0⟩,⟨Ad _,by omega,by omega,fun i hi=>by omega,.inl rfl⟩,fun i x hi=>by simp at hi⟩
theorem jE {n:Nat} (h:n≠0):dg n≠[]:=by
 intro e;have:=Bq n;rw [e,val] at this;omega
theorem Bj.tok {w:World} {t:Tm} {x:PT} (h:Ey t x) (hr:Ei w t) (hc:CW x.2) (h0:x.2.1≠0):TOk t:=by
 have:=(h.frac hr hc).ok;rw [←h.d1,←h.d2] at this;refine ⟨this,?_⟩;rw [h.d1];exact jE qA
theorem Bd.pok {w:World} {B:Nat} {a:Γ} {n c:Nat} {l:Δ} (h:Bd w B a n c l) (hl:PW l) {p:Nat→Tm} (hp:RdP w a n c p) (hx:∀i x,l[i]? = some x→Ey (p i) x∧Nw B (p i).n1 (p i).a1∧Nw B (p i).n2 (p i).a2):POk p n:=by
 intro j hj;have hjl:j<l.length:=by rw [h.len];exact hj
 have e:l[j]? = some l[j]:=Ai hjl;have hg:=hl.good l[j] (List.getElem_mem hjl);have hrj:=hp.tm j hj;refine ⟨Bj.tok (hx j _ e).1 hrj hg.1 hg.2,fun hj0=>?_⟩;have hk:j-1<l.length:=by omega
 have e':l[j-1]? = some l[j-1]:=Ai hk;have hrk:=hp.tm (j-1) qA;have hlt:l[j].1<l[j-1].1:=List.pairwise_iff_getElem.1 hl.falls (j-1) j hk hjl qA;unfold Tm.mono;rw [N6 hrj.s0 hrj.s1 hrj.s2 hrj.s3 hrk.s0 hrk.s1 hrk.s2 hrk.s3,(hx j _ e).1.key,(hx (j-1) _ e').1.key];rw [Dx qA];decide
theorem Bd.few {w:World} {B:Nat} {a:Γ} {n c:Nat} {l:Δ} (h:Bd w B a n c l) {K:Nat} (hK:Cj K l) {p:Nat→Tm} (hp:RdP w a n c p) (hx:∀i x,l[i]? = some x→Ey (p i) x∧Nw B (p i).n1 (p i).a1∧Nw B (p i).n2 (p i).a2):∀k,k<n→(p k).n1≤K∧(p k).n2≤K:=by
 intro j hj;have hjl:j<l.length:=by rw [h.len];exact hj
 have e:l[j]? = some l[j]:=Ai hjl;have hk:=hK l[j] (List.getElem_mem hjl);have ht:=(hx j _ e).1;have hr:=hp.tm j hj;have h1:=hr.top.len;have h2:=hr.low.len;rw [ht.d1] at h1;rw [ht.d2] at h2;omega
theorem Dg:(dg 1).length=1:=by rw [Hg qA,show 1/1000000000=0 from rfl,De];rfl
theorem Ni (a b:Int) (hb:0<b):(dg (E6 a b).natAbs).length≤(dg a.natAbs).length∧(dg (Fi a b).natAbs).length≤(dg b.natAbs).length:=by
 unfold E6 Fi;have h1:(a/(Int.gcd a b:Int)).natAbs≤a.natAbs:=Int.natAbs_ediv_le_natAbs ..;have h2:(b/(Int.gcd a b:Int)).natAbs≤b.natAbs:=Int.natAbs_ediv_le_natAbs ..;exact ⟨Bn h1,Bn h2⟩
def By (K:Nat) (c:PC):Prop:=(dg c.1.natAbs).length≤K∧(dg c.2.natAbs).length≤K
theorem By.mono {K K':Nat} {c:PC} (h:By K c) (hK:K≤K'):By K' c:=⟨Ah h.1 hK,Ah h.2 hK⟩
theorem Ts (x y K:Nat) (hx:(dg x).length≤K) (hy:(dg y).length≤K):(dg (x+y)).length≤K+1:=by
 have h2:(dg 2).length=1:=by rw [Hg qA,show 2/1000000000=0 from rfl,De];rfl
 rcases Nat.le_total x y with h|h
 ·have e1:=Bn (show x+y≤2*y by omega);have e2:=Ft 2 y;omega
 ·have e1:=Bn (show x+y≤2*x by omega);have e2:=Ft 2 x;omega
theorem Qw (x y:Int) (K:Nat) (hx:(dg x.natAbs).length≤K) (hy:(dg y.natAbs).length≤K):(dg (x+y).natAbs).length≤K+1:=by
 have e:=Ts x.natAbs y.natAbs K hx hy;have:=Bn (Int.natAbs_add_le x y);omega
theorem By.add {K1 K2:Nat} {c d:PC} (hc:CW c) (hd:CW d) (h1:By K1 c) (h2:By K2 d):By (K1+K2+1) (Ea c d):=by
 have hp:0<c.2*d.2:=Int.mul_pos hc.pos hd.pos;obtain ⟨a1,a2⟩:=Ni (c.1*d.2+d.1*c.2) (c.2*d.2) hp;obtain ⟨b1,b2⟩:=h1;obtain ⟨b3,b4⟩:=h2;have e2:=Ej c.1 d.2;have e3:=Ej d.1 c.2;have e4:=Ej c.2 d.2;have e1:=Qw (c.1*d.2) (d.1*c.2) (K1+K2) qA qA;refine ⟨?_,?_⟩
 ·show (dg (E6 (c.1*d.2+d.1*c.2) (c.2*d.2)).natAbs).length≤_;omega
 ·show (dg (Fi (c.1*d.2+d.1*c.2) (c.2*d.2)).natAbs).length≤_;omega
theorem By.mul {K1 K2:Nat} {c d:PC} (hc:CW c) (hd:CW d) (h1:By K1 c) (h2:By K2 d):By (K1+K2) (Ca c d):=by
 have hp:0<c.2*d.2:=Int.mul_pos hc.pos hd.pos;obtain ⟨a1,a2⟩:=Ni (c.1*d.1) (c.2*d.2) hp;have e2:=Ej c.1 d.1;have e4:=Ej c.2 d.2;obtain ⟨b1,b2⟩:=h1;obtain ⟨b3,b4⟩:=h2;refine ⟨?_,?_⟩
 ·show (dg (E6 (c.1*d.1) (c.2*d.2)).natAbs).length≤_;omega
 ·show (dg (Fi (c.1*d.1) (c.2*d.2)).natAbs).length≤_;omega
theorem rT {K:Nat} {l:Δ}:Cj K l↔∀t∈l,By K t.2:=Iff.rfl
theorem Cj.mono {K K':Nat} {l:Δ} (h:Cj K l) (hK:K≤K'):Cj K' l:=fun t ht=>By.mono (h t ht) hK
theorem Cj.add {K1 K2:Nat} (a b:Δ) (ha:I6 a) (hb:I6 b) (h1:Cj K1 a) (h2:Cj K2 b):Cj (K1+K2+1) (Cu a b):=by
 induction a,b using Cu.induct with
 | case1 b=>rw [Cu];exact h2.mono qA
 | case2 x a=>rw [Cu];exact h1.mono qA
 | case3 x a y b hlt ih =>
  rw [Cu,if_pos hlt];intro t ht;rcases List.mem_cons.1 ht with rfl|ht
  ·exact By.mono (h1 _ qG) qA
  ·exact ih (fun t h=>ha t (by simp [h])) hb (fun t h=>h1 t (by simp [h])) h2 t ht
 | case4 x a y b hn hlt ih =>
  rw [Cu,if_neg hn,if_pos hlt];intro t ht;rcases List.mem_cons.1 ht with rfl|ht
  ·exact By.mono (h2 _ qG) qA
  ·exact ih ha (fun t h=>hb t (by simp [h])) h1 (fun t h=>h2 t (by simp [h])) t ht
 | case5 x a y b hn hm h3 ih =>
  rw [Cu,if_neg hn,if_neg hm,if_pos h3];exact ih (fun t h=>ha t (by simp [h])) (fun t h=>hb t (by simp [h])) (fun t h=>h1 t (by simp [h])) (fun t h=>h2 t (by simp [h]))
 | case6 x a y b hn hm h3 ih =>
  rw [Cu,if_neg hn,if_neg hm,if_neg h3];intro t ht;rcases List.mem_cons.1 ht with rfl|ht
  ·exact By.add (ha x qG).1 (hb y qG).1 (h1 x qG) (h2 y qG)
  ·exact ih (fun t h=>ha t (by simp [h])) (fun t h=>hb t (by simp [h])) (fun t h=>h1 t (by simp [h])) (fun t h=>h2 t (by simp [h])) t ht
abbrev RH:Value→Option (DataW Value×List MemPlace):=fun v=>some (.held v,[])
abbrev frV (g1:Bool) (a1:Γ) (n1 c1:Nat) (g2:Bool) (a2:Γ) (n2 c2:Nat):Value:=.agg #[.bool g1,.slice a1 n1 c1,.bool g2,.slice a2 n2 c2]
def X5 (w:World) (B:Nat) (v:Value) (c:PC):Prop :=
 ∃g1 a1 n1 c1 g2 a2 n2 c2,v=frV g1 a1 n1 c1 g2 a2 n2 c2∧Bj w g1 a1 n1 c1 c.1 g2 a2 n2 c2 c.2∧Nw B n1 a1∧Nw B n2 a2
theorem X5.grown {w w':World} {B:Nat} {v:Value} {c:PC} {row:Option Nat} (h:X5 w B v c) (hg:w.grownBy w' row) (hr:∀k,row=some k→k<B):X5 w' B v c:=by
 obtain ⟨g1,a1,n1,c1,g2,a2,n2,c2,rfl,hf,h1,h2⟩:=h;exact ⟨g1,a1,n1,c1,g2,a2,n2,c2,rfl,hf.butR h1 h2 hg hr,h1,h2⟩
def Mk (o:Nat→Nat) (a:Γ) (c k:Nat):Prop:=c=0∨∀x,a=some x→o x.block=k
structure Qx (w:World) (B:Nat) (o:Nat→Nat) (k:Nat) (a1:Γ) (c1:Nat) (a2:Γ) (c2:Nat):Prop where
 top:Bg B w a1 c1
 low:Bg B w a2 c2
 ap:Ap2 a1 c1 a2 c2
 m1:Mk o a1 c1 k
 m2:Mk o a2 c2 k
theorem Bg.butR {w w':World} {B:Nat} {a:Γ} {c:Nat} {row:Option Nat} (h:Bg B w a c) (hg:w.grownBy w' row) (hr:∀k,row=some k→k<B):Bg B w' a c :=
 h.imp id fun⟨b,cur,h1,h2,h3,h4⟩=>⟨b,cur,h1,h2,by rw [hg.block b (Ar.1 h3).1 (fun e=>by have:=hr _ e.symm;omega)];exact h3,h4⟩
theorem Qx.butR {w w':World} {B:Nat} {o:Nat→Nat} {k:Nat} {a1:Γ} {c1:Nat} {a2:Γ} {c2:Nat} {row:Option Nat} (h:Qx w B o k a1 c1 a2 c2) (hg:w.grownBy w' row) (hr:∀k,row=some k→k<B):Qx w' B o k a1 c1 a2 c2 :=
 ⟨h.top.butR hg hr,h.low.butR hg hr,h.ap,h.m1,h.m2⟩
theorem Mk.old {w:World} {B:Nat} {o:Nat→Nat} {a:Γ} {c k H j:Nat} (h:Mk o a c k) (hf:Bg B w a c) (hH:w.heap.size≤H):Mk (fun g=>if g<H then o g else j) a c k:=by
 rcases hf with h0|⟨b,cur,h1,h2,h3,h4⟩
 ·exact .inl h0
 ·refine h.imp id fun h x hx=>?_
  have:=(Ar.1 h3).1;have e:=h x hx;rw [h1] at hx;cases hx
  show (if b<H then o b else j)=k;rw [if_pos qA];exact e
theorem Mk.new {w:World} {o:Nat→Nat} {a:Γ} {c H j:Nat} (hf:Bg H w a c):Mk (fun g=>if g<H then o g else j) a c j:=by
 rcases hf with h0|⟨b,cur,h1,h2,h3,h4⟩
 ·exact .inl h0
 ·refine .inr fun x hx=>?_
  rw [h1] at hx;cases hx
  show (if b<H then o b else j)=j;rw [if_neg qA]
def Yn (w:World) (B:Nat) (o:Nat→Nat) (k:Nat) (v:Value) (c:PC):Prop :=
 ∃g1 a1 n1 c1 g2 a2 n2 c2,v=frV g1 a1 n1 c1 g2 a2 n2 c2∧Bj w g1 a1 n1 c1 c.1 g2 a2 n2 c2 c.2∧Qx w B o k a1 c1 a2 c2
theorem Yn.grown {w w':World} {B:Nat} {o:Nat→Nat} {k:Nat} {v:Value} {c:PC} {row:Option Nat} (h:Yn w B o k v c) (hg:w.grownBy w' row) (hr:∀k,row=some k→k<B):Yn w' B o k v c:=by
 obtain ⟨g1,a1,n1,c1,g2,a2,n2,c2,rfl,hf,hl⟩:=h;exact ⟨g1,a1,n1,c1,g2,a2,n2,c2,rfl,hf.butR (hl.top.newA hf.top.rd) (hl.low.newA hf.low.rd) hg hr,hl.butR hg hr⟩
def Fs (w:World) (B:Nat) (o:Nat→Nat) (D:DataW Value) (f:Nat→Option PC):Prop :=
 ∀a b c d kl,a<65536→b<65536→c<65536→d<65536→keyOf Tryz.prog 76 (Da a b c d)=some kl →
  (f (Cg a b c d)=none→Maps.has D kl=false) ∧
  (∀x,f (Cg a b c d)=some x→Maps.has D kl=true∧∃v,(∀zd,D.atKey kl zd=.held v)∧Yn w B o (Cg a b c d) v x)
theorem Fs.grown {w w':World} {B:Nat} {o:Nat→Nat} {D:DataW Value} {f:Nat→Option PC} {row:Option Nat} (h:Fs w B o D f) (hg:w.grownBy w' row) (hr:∀k,row=some k→k<B):Fs w' B o D f:=by
 intro a b c d kl ha hb hc hd hk;obtain ⟨h1,h2⟩:=h a b c d kl ha hb hc hd hk;refine ⟨h1,fun x hx=>?_⟩;obtain ⟨h3,v,hv,hf⟩:=h2 x hx;exact ⟨h3,v,hv,hf.grown hg hr⟩
theorem Wi {a b c d a' b' c' d':Nat} {kl kl':Lit} (ha:a<65536) (hb:b<65536) (hc:c<65536) (hd:d<65536) (ha':a'<65536) (hb':b'<65536) (hc':c'<65536) (hd':d'<65536)
  (h:keyOf Tryz.prog 76 (Da a b c d)=some kl) (h':keyOf Tryz.prog 76 (Da a' b' c' d')=some kl'):kl=kl'↔Cg a b c d=Cg a' b' c' d':=by
 constructor
 ·rintro rfl;have:=Ho.inj h h';simp only [Value.agg.injEq,Array.mk.injEq,List.cons.injEq,Value.int.injEq,true_and,and_true,Int.natCast_inj] at this;obtain ⟨rfl,rfl,rfl,rfl⟩:=this;rfl
 ·intro e;obtain ⟨rfl,rfl,rfl,rfl⟩:=Yp ha hb hc hd ha' hb' hc' hd' e;rw [h] at h'
  cases h'
  rfl
theorem Fs.put {w w':World} {B b':Nat} {o:Nat→Nat} {D:DataW Value} {f:Nat→Option PC} (h:Fs w B o D f) (hD:Maps.IsMap D) (hg:w.grownBy w' (some b')) (hbB:b'<B) (hBw:B≤w.heap.size) {a b c d:Nat} {kl:Lit} (ha:a<65536) (hb:b<65536) (hc:c<65536) (hd:d<65536)
  (hk:keyOf Tryz.prog 76 (Da a b c d)=some kl) {x:PC} {g1:Bool} {a1:Γ} {n1 c1:Nat} {g2:Bool} {a2:Γ} {n2 c2:Nat} (hx:Bj w' g1 a1 n1 c1 x.1 g2 a2 n2 c2 x.2) (f1:Bg w.heap.size w' a1 c1) (f2:Bg w.heap.size w' a2 c2) (hap:Ap2 a1 c1 a2 c2)
  {f':Nat→Option PC} (hf':∀k,f' k=if k=Cg a b c d then some x else f k):Fs w' B (fun g=>if g<w.heap.size then o g else Cg a b c d) (D.put kl (.held (frV g1 a1 n1 c1 g2 a2 n2 c2))) f':=by
 intro a' b'' c' d' kl' ha' hb' hc' hd' hk';have hi:=Wi ha' hb' hc' hd' ha hb hc hd hk' hk;have hkl:=Ho.key hk;have hr:∀k,some b'=some k→k<B:=fun k hk=>by cases hk;exact hbB
 by_cases e:Cg a' b'' c' d'=Cg a b c d
 ·have ek:=hi.2 e;subst ek;rw [hf',if_pos e,e];refine ⟨fun h=>by simp at h,fun y hy=>?_⟩;simp only [Option.some.injEq] at hy;subst hy;exact ⟨Maps.has_put_same hD hkl _,_,fun zd=>Maps.atKey_put_same hD hkl _ _,_,_,_,_,_,_,_,_,rfl,hx,⟨f1.mono hBw,f2.mono hBw,hap,Mk.new f1,Mk.new f2⟩⟩
 ·have hne:kl'≠kl:=fun ek=>e (hi.1 ek)
  rw [hf',if_neg e];obtain ⟨h1,h2⟩:=h a' b'' c' d' kl' ha' hb' hc' hd' hk';rw [Maps.has_put_other hne];refine ⟨h1,fun y hy=>?_⟩;obtain ⟨h3,u,hu,hf⟩:=h2 y hy;refine ⟨h3,u,fun zd=>by rw [Maps.atKey_put_other hne];exact hu zd,?_⟩;obtain ⟨q1,e1,m1,d1,q2,e2,m2,d2,rfl,hfr,hl⟩:=hf;have hl':=hl.butR hg hr;exact ⟨q1,e1,m1,d1,q2,e2,m2,d2,rfl,hfr.butR (hl.top.newA hfr.top.rd) (hl.low.newA hfr.low.rd) hg hr,hl'.top,hl'.low,hl.ap,hl.m1.old hl.top (Ad _),hl.m2.old hl.low (Ad _)⟩
theorem Fs.empty (w:World) (B:Nat) (o:Nat→Nat):Fs w B o (.map []) (fun _=>none):=fun a b c d kl _ _ _ _ _=>⟨fun _=>rfl,fun x hx=>by cases hx⟩
structure Dd (w:World) (b n B:Nat) (f:Nat→Option PC):Prop where
 ex:∃D o,w.ownsMap Tryz.prog 76 RH b n D∧Fs w B o D f
theorem Dd.grown {w w':World} {b n B:Nat} {f:Nat→Option PC} {row:Option Nat} (h:Dd w b n B f) (hg:w.grownBy w' row) (hr:∀k,row=some k→k<B) (hb:some b≠row):Dd w' b n B f:=by
 obtain ⟨D,o,h1,h2⟩:=h.ex;exact ⟨D,o,h1.kept hg hb,h2.grown hg hr⟩
theorem Bt {w w':World} (h:Below w.heap.size w w'):w.grownBy w' none:=⟨h.os,h.tape,h.output,h.size,fun k hk _=>h.block k hk⟩
theorem Dd.keep {w w':World} {b n B:Nat} {f:Nat→Option PC} (h:Dd w b n B f) (hb:Below w.heap.size w w'):Dd w' b n B f:=h.grown (Bt hb) qG qG
theorem X5.keep {w w':World} {B:Nat} {v:Value} {c:PC} (h:X5 w B v c) (hb:Below w.heap.size w w'):X5 w' B v c:=h.grown (Bt hb) qG
theorem kL {D:DataW Value} {kl:Lit} {v zv:Value} {ps:List MemPlace} (h:RH v=some (D.atKey kl (.held zv),ps)) (hh:Maps.has D kl=false):v=zv:=by
 rw [Maps.atKey_of_not_has hh] at h;simp only [RH,Option.some.injEq,Prod.mk.injEq,DataW.held.injEq] at h;exact h.1
theorem jL {D:DataW Value} {kl:Lit} {v zv u:Value} {ps:List MemPlace} (h:RH v=some (D.atKey kl (.held zv),ps)) (hu:∀zd,D.atKey kl zd=.held u):v=u:=by
 rw [hu] at h;simp only [RH,Option.some.injEq,Prod.mk.injEq,DataW.held.injEq] at h;exact h.1
theorem Em {w w':World} {b n:Nat} {D:DataW Value} (h:w.ownsMap Tryz.prog 76 RH b n D) (hb:Below w.heap.size w w'):w'.ownsMap Tryz.prog 76 RH b n D :=
 h.kept (row:=none) (Bt hb) qG
theorem I0 {w w1 w':World} {b:Nat} (hb:Below w.heap.size w w1) (hg:w1.grownBy w' (some b)):w.grownBy w' (some b) :=
 ⟨hg.os.trans hb.os,hg.tape.trans hb.tape,hg.output.trans hb.output,Ah hb.size hg.size,fun k hk hne=>(hg.block k (Nat.lt_of_lt_of_le hk hb.size) hne).trans (hb.block k hk)⟩
theorem jT {f:Nat→Option PC} {k:Nat} {x:PC} (h:f k=none) (j:Nat):Gx f (k,x) j=if j=k then some x else f j:=by
 unfold Gx;simp only [h]
theorem iM {f:Nat→Option PC} {k:Nat} {x y:PC} (h:f k=some y) (j:Nat):Gx f (k,x) j=if j=k then some (Ea y x) else f j:=by
 unfold Gx;simp only [h]
theorem uD (w0 w:World) (b n B:Nat) (f:Nat→Option PC) (h:Dd w0 b n B f) (h00:Below w0.heap.size w0 w) (hbB:b<B) (hBw:B≤w0.heap.size) (hn:n<1000000000)
  (g1:Bool) (a1:Γ) (n1 c1:Nat) (g2:Bool) (a2:Γ) (n2 c2:Nat) (x:PC) (hx:Bj w g1 a1 n1 c1 x.1 g2 a2 n2 c2 x.2) (k1:Bg w0.heap.size w a1 c1) (k2:Bg w0.heap.size w a2 c2) (hap:Ap2 a1 c1 a2 c2)
  (m0 m1 m2 m3:Nat) (h0:m0<65536) (h1:m1<65536) (h2:m2<65536) (h3:m3<65536) (hf:f (Cg m0 m1 m2 m3)=none) :
  Θ 43 #[.map (some b),frV g1 a1 n1 c1 g2 a2 n2 c2,Da m0 m1 m2 m3] w fun e w'=>e=.returned (.tuple #[])∧Dd w' b (n+1) B (Gx f (Cg m0 m1 m2 m3,x))∧w.grownBy w' (some b):=by
 obtain ⟨kl,hkl⟩:=Xd h0 h1 h2 h3;obtain ⟨D,o,hown0,hH⟩:=h.ex;have hown:=Em hown0 h00;have hhas:=(hH _ _ _ _ _ h0 h1 h2 h3 hkl).1 hf;go_enter Tryz.func43,Tryz.ntmps43;go_wp2_with (first|(at_lookup;refine wpList_lookup_own_ok _ rfl _ _ 85 rfl 76 34 Ho Tryz.underlying85 RH (Tryz.zeroValue34 _) (.held (frV false none 0 0 false none 0 0)) [] rfl b n D rfl (Em hown qF) _ kl rfl hkl ?_;intro v ps hv;obtain rfl:=kL hv hhas;rw [hhas])|(at_mapUpdate;refine wpList_mapUpdate_own _ rfl _ _ _ 85 rfl 76 34 Ho Tryz.underlying85 RH b n D rfl (Em hown qF) qO _ _ kl rfl rfl hkl (.held (frV g1 a1 n1 c1 g2 a2 n2 c2)) [] rfl ?_;intro w1 hown1 hgrow1));have hg:w.grownBy w1 (some b):=I0 qF hgrow1;have hr:∀k,some b=some k→k<w0.heap.size:=fun k hk=>by cases hk;omega
 exact bodyPost_end (v:=.tuple #[]) (by simp [results,Tryz.results43,go_sem]) rfl ⟨rfl,⟨_,_,hown1,hH.put (hown.isMap) (I0 h00 hg) hbB hBw h0 h1 h2 h3 hkl (hx.butR (k1.newA hx.top.rd) (k2.newA hx.low.rd) hg hr) (k1.butR hg hr) (k2.butR hg hr) hap (jT hf)⟩,hg⟩
theorem uG (w0 w:World) (b n B:Nat) (f:Nat→Option PC) (h:Dd w0 b n B f) (h00:Below w0.heap.size w0 w) (hbB:b<B) (hBw:B≤w0.heap.size) (hn:n<1000000000)
  (g1:Bool) (a1:Γ) (n1 c1:Nat) (g2:Bool) (a2:Γ) (n2 c2:Nat) (x:PC) (hx:Bj w g1 a1 n1 c1 x.1 g2 a2 n2 c2 x.2) (k1:Bg w0.heap.size w a1 c1) (k2:Bg w0.heap.size w a2 c2) (hap:Ap2 a1 c1 a2 c2)
  (m0 m1 m2 m3:Nat) (h0:m0<65536) (h1:m1<65536) (h2:m2<65536) (h3:m3<65536) (y:PC) (hfy:f (Cg m0 m1 m2 m3)=some y) (hxK:By 1000000000 x) (hyK:By 1000000000 y) :
  Θ 43 #[.map (some b),frV g1 a1 n1 c1 g2 a2 n2 c2,Da m0 m1 m2 m3] w fun e w'=>e=.returned (.tuple #[])∧Dd w' b (n+1) B (Gx f (Cg m0 m1 m2 m3,x))∧w.grownBy w' (some b):=by
 obtain ⟨kl,hkl⟩:=Xd h0 h1 h2 h3;obtain ⟨D,o,hown0,hH⟩:=h.ex;have hown:=Em hown0 h00;obtain ⟨hhas,u,hu,g3,a3,n3,c3,g4,a4,n4,c4,rfl,hy0,k3⟩:=(hH _ _ _ _ _ h0 h1 h2 h3 hkl).2 y hfy;have hy:=hy0.keep h00;have hz00:=h00.size;have HB:=Ac w.heap.size w;have e1:=hx.top.rd.len;have e2:=hx.low.rd.len;have e3:=hy.top.rd.len;have e4:=hy.low.rd.len;obtain ⟨i1,i2⟩:=hxK;obtain ⟨i3,i4⟩:=hyK;have q1:n1≤1000000000:=by omega
 have q2:n2≤1000000000:=by omega
 have q3:n3≤1000000000:=by omega
 have q4:n4≤1000000000:=by omega
 clear e1 e2 e3 e4 i1 i2 i3 i4;go_enter Tryz.func43,Tryz.ntmps43;go_wp2_with (first|(at_lookup;refine wpList_lookup_own_ok _ rfl _ _ 85 rfl 76 34 Ho Tryz.underlying85 RH (Tryz.zeroValue34 _) (.held (frV false none 0 0 false none 0 0)) [] rfl b n D rfl (Em hown qF) _ kl rfl hkl ?_;intro v ps hv;obtain rfl:=jL hv hu;rw [hhas]));refine (yU _ _ _ _ _ _ _ _ _ _ _ (hy.keep qF) _ _ _ _ _ _ _ _ _ _ (hx.keep qF) q3 q4 q1 q2).mono ?_;rintro e w1 ⟨ge,ae,ne,ce,gf,af,nf,cf,rfl,hr,hfe,hff,hap2,hb⟩;obtain ⟨hc,hf⟩:=Bl hb;have hz:=hb.size;(try simp only [Aj,Ak] at hz);replace HB:=zI w hb;obtain ⟨s0_0,s0_1⟩:=qZ hc (w.heap.size) (.bool g1) (.slice a1 n1 c1);obtain ⟨s0_2,s0_3⟩:=zD hc (w.heap.size) (.bool g2) (.slice a2 n2 c2);obtain ⟨s1_0,s1_1⟩:=qZ hc (w.heap.size+1) (.int .u16 m0) (.int .u16 m1);obtain ⟨s1_2,s1_3⟩:=zD hc (w.heap.size+1) (.int .u16 m2) (.int .u16 m3);obtain ⟨s2_0,s2_1⟩:=qZ hc (w.heap.size+1+1) (.bool g3) (.slice a3 n3 c3);obtain ⟨s2_2,s2_3⟩:=zD hc (w.heap.size+1+1) (.bool g4) (.slice a4 n4 c4);obtain ⟨f0_0,f0_1⟩:=zF hf (w.heap.size);obtain ⟨f0_2,f0_3⟩:=zG hf (w.heap.size);have HAP:=Ae hap2;have hk1:w.heap.size+1+1<w1.heap.size:=by omega
 have fe:Bg (w.heap.size+1+1+1) w1 ae ce:=hfe.mono qB;have ff:Bg (w.heap.size+1+1+1) w1 af cf:=hff.mono qB;clear hc hf hb hz hfe hff hap2;go_wp2_with (first|(at_mapUpdate;refine wpList_mapUpdate_own _ rfl _ _ _ 85 rfl 76 34 Ho Tryz.underlying85 RH b n D rfl (Em hown qF) qO _ _ kl rfl rfl hkl (.held (frV ge ae ne ce gf af nf cf)) [] rfl ?_;intro w2 hown2 hgrow2));have u:w.heap.size<w.heap.size+1+1+1:=by omega
 have hg:w.grownBy w2 (some b):=I0 qF hgrow2;have hr':∀k,some b=some k→k<w.heap.size+1+1+1:=fun k hk=>by cases hk;omega
 have hfe4:=fe.set4 ⟨w.heap.size,0,none⟩ ⟨w.heap.size,1,none⟩ ⟨w.heap.size,2,none⟩ ⟨w.heap.size,3,none⟩ (.bool ge) (.slice ae ne ce) (.bool gf) (.slice af nf cf) u u u u;have hff4:=ff.set4 ⟨w.heap.size,0,none⟩ ⟨w.heap.size,1,none⟩ ⟨w.heap.size,2,none⟩ ⟨w.heap.size,3,none⟩ (.bool ge) (.slice ae ne ce) (.bool gf) (.slice af nf cf) u u u u;have fe2:=(fe.set4 ⟨w.heap.size,0,none⟩ ⟨w.heap.size,1,none⟩ ⟨w.heap.size,2,none⟩ ⟨w.heap.size,3,none⟩ (.bool ge) (.slice ae ne ce) (.bool gf) (.slice af nf cf) u u u u).butR hgrow2 hr';have ff2:=(ff.set4 ⟨w.heap.size,0,none⟩ ⟨w.heap.size,1,none⟩ ⟨w.heap.size,2,none⟩ ⟨w.heap.size,3,none⟩ (.bool ge) (.slice ae ne ce) (.bool gf) (.slice af nf cf) u u u u).butR hgrow2 hr';refine bodyPost_end (v:=.tuple #[]) (by simp [results,Tryz.results43,go_sem]) rfl ⟨rfl,⟨_,_,hown2,hH.put (hown.isMap) (I0 h00 hg) hbB hBw h0 h1 h2 h3 hkl (x:=Ea y x) (Bj.butR ⟨hr.top.set4 fe _ _ _ _ _ _ _ _ u u u u,hr.low.set4 ff _ _ _ _ _ _ _ _ u u u u,hr.pos,hr.red⟩ (hfe4.newA (hr.top.set4 fe _ _ _ _ _ _ _ _ u u u u).rd) (hff4.newA (hr.low.set4 ff _ _ _ _ _ _ _ _ u u u u).rd) hgrow2 hr') (fe2.mono qA) (ff2.mono qA) HAP.out (iM hfy)⟩,hg⟩
theorem fD (w0 w:World) (b n B:Nat) (f:Nat→Option PC) (h:Dd w0 b n B f) (h00:Below w0.heap.size w0 w) (hbB:b<B) (hBw:B≤w0.heap.size) (hn:n<1000000000)
  (g1:Bool) (a1:Γ) (n1 c1:Nat) (g2:Bool) (a2:Γ) (n2 c2:Nat) (x:PC) (hx:Bj w g1 a1 n1 c1 x.1 g2 a2 n2 c2 x.2) (k1:Bg w0.heap.size w a1 c1) (k2:Bg w0.heap.size w a2 c2) (hap:Ap2 a1 c1 a2 c2)
  (m0 m1 m2 m3:Nat) (h0:m0<65536) (h1:m1<65536) (h2:m2<65536) (h3:m3<65536) (hxK:By 1000000000 x) (hyK:∀y,f (Cg m0 m1 m2 m3)=some y→By 1000000000 y) :
  Θ 43 #[.map (some b),frV g1 a1 n1 c1 g2 a2 n2 c2,Da m0 m1 m2 m3] w fun e w'=>e=.returned (.tuple #[])∧Dd w' b (n+1) B (Gx f (Cg m0 m1 m2 m3,x))∧w.grownBy w' (some b):=by
 cases hf:f (Cg m0 m1 m2 m3) with
 | none=>exact uD w0 w b n B f h h00 hbB hBw hn g1 a1 n1 c1 g2 a2 n2 c2 x hx k1 k2 hap m0 m1 m2 m3 h0 h1 h2 h3 hf
 | some y=>exact uG w0 w b n B f h h00 hbB hBw hn g1 a1 n1 c1 g2 a2 n2 c2 x hx k1 k2 hap m0 m1 m2 m3 h0 h1 h2 h3 y hf hxK (hyK y hf)
theorem oY (w:World) :
  Θ 228 #[] w fun e w'=>(∃B es clock,e=.returned (.map (some B))∧w'.heap[B]? = some (.map es clock)∧Instr.findNow (.int .u8) (.int .u8 0) es.toList 0=some none)∧Below w.heap.size w w'∧w.drawn≤w'.drawn:=by
 have hmm:=@run_makeMap Tryz.prog;have hb1:((w.alloc (.map #[] 0)).alloc (.cells #[.func (.func 293) #[] #[],.func (.func 229) #[] #[]] 150)).heap[w.heap.size]? = some (.map #[] 0):=by
  rw [Below.heap_alloc _ _ _ qG];exact World.alloc_heap_new w _
 have q1:=vY _ _ _ _ 1 (.slice (some ⟨w.heap.size+1,0,none⟩) 2 2) hb1 rfl;have HB1:Below w.heap.size w ((w.alloc (.map #[] 0)).alloc (.cells #[.func (.func 293) #[] #[],.func (.func 229) #[] #[]] 150)):=by go_grown
 have hz1:((w.alloc (.map #[] 0)).alloc (.cells #[.func (.func 293) #[] #[],.func (.func 229) #[] #[]] 150)).heap.size=w.heap.size+2:=by simp
 have hb2:((((w.alloc (.map #[] 0)).alloc (.cells #[.func (.func 293) #[] #[],.func (.func 229) #[] #[]] 150)).putObj w.heap.size (.map #[{ key:=.int .u8 1,val:=.slice (some ⟨w.heap.size+1,0,none⟩) 2 2,born:=0 }] 1)).alloc (.cells #[.func (.func 293) #[] #[],.func (.func 294) #[] #[]] 150)).heap[w.heap.size]? = some (.map #[{ key:=.int .u8 1,val:=.slice (some ⟨w.heap.size+1,0,none⟩) 2 2,born:=0 }] 1):=by
  rw [Below.heap_alloc _ _ _ (by rw [Fu];omega),Bb qA]
 have q2:=vY _ _ _ _ 2 (.slice (some ⟨w.heap.size+2,0,none⟩) 2 2) hb2 rfl;have HB2:Below w.heap.size w ((((w.alloc (.map #[] 0)).alloc (.cells #[.func (.func 293) #[] #[],.func (.func 229) #[] #[]] 150)).putObj w.heap.size (.map #[{ key:=.int .u8 1,val:=.slice (some ⟨w.heap.size+1,0,none⟩) 2 2,born:=0 }] 1)).alloc (.cells #[.func (.func 293) #[] #[],.func (.func 294) #[] #[]] 150)):=Below.alloc (Lq _ HB1 (Ad _)) (by rw [Fu];omega) _;have hz2:w.heap.size<((((w.alloc (.map #[] 0)).alloc (.cells #[.func (.func 293) #[] #[],.func (.func 229) #[] #[]] 150)).putObj w.heap.size (.map #[{ key:=.int .u8 1,val:=.slice (some ⟨w.heap.size+1,0,none⟩) 2 2,born:=0 }] 1)).alloc (.cells #[.func (.func 293) #[] #[],.func (.func 294) #[] #[]] 150)).heap.size:=by rw [Aj,Fu];omega
 go_enter Tryz.func228,Tryz.ntmps228;go_wp2_with fail;go_ret;exact ⟨⟨w.heap.size,_,_,rfl,Bb hz2,rfl⟩,Lq _ HB2 (Ad _),Ad _⟩
theorem iU (w:World) (x0 x1 x2 x3 y0 y1 y2 y3:Int) (f g:Nat→Int) (f0:f 0=x0) (f1:f 1=x1) (f2:f 2=x2) (f3:f 3=x3) (g0:g 0=y0) (g1:g 1=y1) (g2:g 2=y2) (g3:g 3=y3) :
  Θ 229 #[.agg #[.int .u16 x0,.int .u16 x1,.int .u16 x2,.int .u16 x3],.agg #[.int .u16 y0,.int .u16 y1,.int .u16 y2,.int .u16 y3]] w fun e w'=>e=.returned (.int .i64 (Iq f g))∧Below w.heap.size w w'∧w.drawn≤w'.drawn:=by
 have HB:=Ac w.heap.size w;go_enter Tryz.func229,Tryz.ntmps229;go_wp2_with fail;have HF:Hid (∀i,i<4→((w.alloc (.cells #[.int .u16 x0,.int .u16 x1,.int .u16 x2,.int .u16 x3] 76)).alloc (.cells #[.int .u16 y0,.int .u16 y1,.int .u16 y2,.int .u16 y3] 76)).cell? ⟨w.heap.size,i,none⟩=some (.int .u16 (f i))):=Ae (fun i hi=>by
  match i,hi with
  | 0,_=>rw [f0];simp [go_sem]
  | 1,_=>rw [f1];simp [go_sem]
  | 2,_=>rw [f2];simp [go_sem]
  | 3,_=>rw [f3];simp [go_sem])
 have HG:Hid (∀i,i<4→((w.alloc (.cells #[.int .u16 x0,.int .u16 x1,.int .u16 x2,.int .u16 x3] 76)).alloc (.cells #[.int .u16 y0,.int .u16 y1,.int .u16 y2,.int .u16 y3] 76)).cell? ⟨w.heap.size+1,i,none⟩=some (.int .u16 (g i))):=Ae (fun i hi=>by
  match i,hi with
  | 0,_=>rw [g0];simp [go_sem]
  | 1,_=>rw [g1];simp [go_sem]
  | 2,_=>rw [g2];simp [go_sem]
  | 3,_=>rw [g3];simp [go_sem])
 have HB2:Below w.heap.size w ((w.alloc (.cells #[.int .u16 x0,.int .u16 x1,.int .u16 x2,.int .u16 x3] 76)).alloc (.cells #[.int .u16 y0,.int .u16 y1,.int .u16 y2,.int .u16 y3] 76)):=by go_grown
 clear f0 f1 f2 f3 g0 g1 g2 g3;have HDr:w.drawn=((w.alloc (.cells #[.int .u16 x0,.int .u16 x1,.int .u16 x2,.int .u16 x3] 76)).alloc (.cells #[.int .u16 y0,.int .u16 y1,.int .u16 y2,.int .u16 y3] 76)).drawn:=rfl;generalize ((w.alloc (.cells #[.int .u16 x0,.int .u16 x1,.int .u16 x2,.int .u16 x3] 76)).alloc (.cells #[.int .u16 y0,.int .u16 y1,.int .u16 y2,.int .u16 y3] 76))=w1 at *;go_quiet (((first|(go_at_call 295;exact Ga (Kj _ _ _ f g HF.out HG.out))|(go_at_call 295;exact E8 (Kj _ _ _ f g HF.out HG.out)))));go_wp2_with fail;go_ret;exact ⟨rfl,Bu _ HB2,by rw [HDr];exact Nat.le_add_right _ _⟩
theorem Aai (w:World) (x0 x1 x2 x3 y0 y1 y2 y3:Int) :
  Θ 169 #[.int .u8 0,.agg #[.int .u16 x0,.int .u16 x1,.int .u16 x2,.int .u16 x3],.agg #[.int .u16 y0,.int .u16 y1,.int .u16 y2,.int .u16 y3]] w fun e w'=>e=.returned (.int .i64 (Iq (Dt x0 x1 x2 x3) (Dt y0 y1 y2 y3)))∧Below w.heap.size w w'∧w.drawn≤w'.drawn:=by
 have HB:=Ac w.heap.size w;go_enter Tryz.func169,Tryz.ntmps169;go_wp2_with fail;refine (oY _).mono ?_;rintro e w1 ⟨⟨B,es,clock,rfl,hes,hfn⟩,hb,hdr⟩;replace hdr:w.drawn≤w1.drawn:=hdr;obtain ⟨hc,hf⟩:=Bl hb;have hz:=hb.size;(try simp only [Aj,Ak] at hz);replace HB:=zI w hb;have s0:∀i,i<4→w1.cell? ⟨w.heap.size,i,none⟩=some (.int .u16 (Dt x0 x1 x2 x3 i)):=fun i hi=>(hc _ _ qB).trans (by
  match i,hi with
  | 0,_=>simp [go_sem,Dt]
  | 1,_=>simp [go_sem,Dt]
  | 2,_=>simp [go_sem,Dt]
  | 3,_=>simp [go_sem,Dt])
 have s1:∀i,i<4→w1.cell? ⟨w.heap.size+1,i,none⟩=some (.int .u16 (Dt y0 y1 y2 y3 i)):=fun i hi=>(hc _ _ qB).trans (by
  match i,hi with
  | 0,_=>simp [go_sem,Dt]
  | 1,_=>simp [go_sem,Dt]
  | 2,_=>simp [go_sem,Dt]
  | 3,_=>simp [go_sem,Dt])
 have s00:=s0 0 qA;have s01:=s0 1 qA;have s02:=s0 2 qA;have s03:=s0 3 qA;have s10:=s1 0 qA;have s11:=s1 1 qA;have s12:=s1 2 qA;have s13:=s1 3 qA;simp only [Dt] at s00 s01 s02 s03 s10 s11 s12 s13;have q1:=yC w1 B clock es 0 hes hfn;clear s0 s1 hc hf hes hfn;go_wp2_with fail;go_loop [14] (fun v=>v=.int .i64 0) (fun _=>0)
 case atStart=>rfl
 case round =>
  subst hrel;go_wp2_with fail;refine (iU _ _ _ _ _ _ _ _ _ (Dt x0 x1 x2 x3) (Dt y0 y1 y2 y3) rfl rfl rfl rfl rfl rfl rfl rfl).mono ?_;rintro e w2 ⟨rfl,hb2,hdr2⟩;replace hdr2:=Ah hdr hdr2;go_wp2_with fail;go_ret;exact ⟨rfl,HB.trans (hb2.mono HB.size),hdr2⟩
theorem uY (w:World) (x0 x1 x2 x3 y0 y1 y2 y3:Int) :
  Θ 99 #[.agg #[.int .u16 x0,.int .u16 x1,.int .u16 x2,.int .u16 x3],.agg #[.int .u16 y0,.int .u16 y1,.int .u16 y2,.int .u16 y3]] w fun e w'=>e=.returned (.int .i64 (Iq (Dt y0 y1 y2 y3) (Dt x0 x1 x2 x3)))∧Below w.heap.size w w'∧w.drawn≤w'.drawn:=by
 have HB:=Ac w.heap.size w;go_enter Tryz.func99,Tryz.ntmps99;go_wp2_with fail;refine (Aai _ _ _ _ _ _ _ _ _).mono ?_;rintro e w1 ⟨rfl,hb,hdr⟩;replace hdr:w.drawn≤w1.drawn:=hdr;have HB2:=zI w hb;go_wp2_with fail;go_ret;exact ⟨rfl,HB2,hdr⟩
end Go.Proofs.YtnnhcbeiogaknaaGreatDoor
end
