/- Package fracs: Add, Mul. -/
import Derived.Test.YtnnhcbeiogaknaaGreatDoorQV12
set_option linter.unusedSimpArgs false
set_option linter.unusedVariables false
set_option maxRecDepth 100000
set_option maxHeartbeats 4000000
section
namespace Go.Proofs.YtnnhcbeiogaknaaGreatDoor
open Go.RowKit
theorem aW (x y:Nat):(dg (x+y)).length≤(dg x).length+(dg y).length+1:=by
 have h1:=Ez (dg x) (Ew x);have h2:=Ez (dg y) (Ew y);rw [Bq] at h1 h2;obtain ⟨m,hm⟩:∃m,m=(dg x).length+(dg y).length:=⟨_,rfl⟩;have h3:1000000000 ^ (dg x).length≤1000000000 ^ m:=Nat.pow_le_pow_right qA qA;have h4:1000000000 ^ (dg y).length≤1000000000 ^ m:=Nat.pow_le_pow_right qA qA;have h5:x+y<1000000000 ^ (m+1):=by rw [Nat.pow_succ];omega
 rw [←hm];rcases Nat.lt_or_ge (m+1) (dg (x+y)).length with h6|h6
 ·exfalso;have h7:=oB (Ch (x+y)) rfl qA;rw [Bq] at h7;have h8:1000000000 ^ (m+1)≤1000000000 ^ ((dg (x+y)).length-1):=Nat.pow_le_pow_right qA qA;omega
 ·exact h6
theorem Ej (x y:Int):(dg (x*y).natAbs).length≤(dg x.natAbs).length+(dg y.natAbs).length:=by rw [Int.natAbs_mul];exact Ft _ _
theorem Xw (x y:Int):(dg (x+y).natAbs).length≤(dg x.natAbs).length+(dg y.natAbs).length+1 :=
 Ah (Bn (Int.natAbs_add_le x y)) (aW _ _)
def E6 (a b:Int):Int:=a/(Int.gcd a b:Int)
def Fi (a b:Int):Int:=b/(Int.gcd a b:Int)
theorem xB (w:World) (g:Bool) (a:Γ) (n c:Nat) (z:Int) (h:Bh w g a n c z) (g':Bool) (a':Γ) (n' c':Nat) (z':Int) (h':Bh w g' a' n' c' z') (hb1:n<35184372088829) (hb2:n'<35184372088829) :
  Θ 170 #[.agg #[.bool g,.slice a n c],.agg #[.bool g',.slice a' n' c']] w (Fc w (z+z')):=by
 have HB:=Ac w.heap.size w;go_enter Tryz.func170,Tryz.ntmps170;go_wp2_with fail;refine (Y3 _ _ _ _ _ z (h.keep qF) _ _ _ _ z' (h'.keep qF) qA qA).mono ?_;rintro e w1 ⟨g3,a3,n3,c3,rfl,hn3,hfr3,hb⟩;obtain ⟨hc,hf⟩:=Bl hb;have hz:=hb.size;(try simp only [Aj,Ak] at hz);replace HB:=zI w hb;obtain ⟨s0_0,s0_1⟩:=qZ hc (w.heap.size) (.bool g) (.slice a n c);obtain ⟨s1_0,s1_1⟩:=qZ hc (w.heap.size+1) (.bool g') (.slice a' n' c');obtain ⟨s2_0,s2_1⟩:=zE hc (w.heap.size+1+1);obtain ⟨f2_0,f2_1⟩:=zF hf (w.heap.size+1+1);have hk1:w.heap.size+1+1<w1.heap.size:=by omega
 have hf3:Bg (w.heap.size+1+1+1) w1 a3 c3:=hfr3.mono qB;clear hc hf hb hz hfr3;go_wp2_with fail;refine bodyPost_ret (v:=.agg #[.bool g3,.slice a3 n3 c3]) (by simp [results,Tryz.results170,go_sem,s2_0,s2_1]) rfl ?_;exact qBh
theorem yU (w:World) (g1:Bool) (a1:Γ) (n1 c1:Nat) (p:Int) (g2:Bool) (a2:Γ) (n2 c2:Nat) (q:Int) (h:Bj w g1 a1 n1 c1 p g2 a2 n2 c2 q)
  (g3:Bool) (a3:Γ) (n3 c3:Nat) (p':Int) (g4:Bool) (a4:Γ) (n4 c4:Nat) (q':Int) (h':Bj w g3 a3 n3 c3 p' g4 a4 n4 c4 q') (hb1:n1≤1000000000) (hb2:n2≤1000000000) (hb3:n3≤1000000000) (hb4:n4≤1000000000) :
  Θ 102 #[.agg #[.bool g1,.slice a1 n1 c1,.bool g2,.slice a2 n2 c2],.agg #[.bool g3,.slice a3 n3 c3,.bool g4,.slice a4 n4 c4]] w (Eg w (E6 (p*q'+p'*q) (q*q')) (Fi (p*q'+p'*q) (q*q'))):=by
 have HB:=Ac w.heap.size w;have e1:=h.top.rd.len;have e2:=h.low.rd.len;have e3:=h'.top.rd.len;have e4:=h'.low.rd.len;have i1:=Ej p q';have i2:=Ej p' q;have i3:=Xw (p*q') (p'*q);have HD:Hid ((dg (p*q'+p'*q).natAbs).length<35184372088829∧(dg (p*q').natAbs).length<35184372088829∧(dg (p'*q).natAbs).length<35184372088829):=Ae qA;clear e1 e2 e3 e4 i1 i2 i3;go_enter Tryz.func102,Tryz.ntmps102;go_wp2_with fail;refine Be ?_;intro w0 hw0;have HB0:Below w.heap.size w w0:=by rw [hw0];go_grown
 have R0:w0.cell? ⟨w.heap.size+1+1,0,none⟩=some (.bool false):=by rw [hw0];simp [go_sem]
 have R1:w0.cell? ⟨w.heap.size+1+1,1,none⟩=some (.slice none 0 0):=by rw [hw0];simp [go_sem]
 have R2:w0.cell? ⟨w.heap.size+1+1,2,none⟩=some (.bool false):=by rw [hw0];simp [go_sem]
 have R3:w0.cell? ⟨w.heap.size+1+1,3,none⟩=some (.slice none 0 0):=by rw [hw0];simp [go_sem]
 have Rf0:w0.frozen? ⟨w.heap.size+1+1,0,none⟩=false:=by rw [hw0];simp [go_sem]
 have Rf1:w0.frozen? ⟨w.heap.size+1+1,1,none⟩=false:=by rw [hw0];simp [go_sem]
 have Rf2:w0.frozen? ⟨w.heap.size+1+1,2,none⟩=false:=by rw [hw0];simp [go_sem]
 have Rf3:w0.frozen? ⟨w.heap.size+1+1,3,none⟩=false:=by rw [hw0];simp [go_sem]
 have hk0:w.heap.size+1+1+1≤w0.heap.size:=Aa _ _ R0;clear hw0;refine (lN _ _ _ _ _ _ _ _ _ _ _ (h.keep HB0) _ _ _ _ _ _ _ _ _ _ (h'.keep HB0) hb1 hb2 hb3 hb4 (p*q'+p'*q) HD.out.1 (fun W gx ax nx cx gy ay ny cy hW hx hy=>xB W gx ax nx cx _ hx gy ay ny cy _ hy (by have:=hx.rd.len;have:=HD.out.2.1;omega) (by have:=hy.rd.len;have:=HD.out.2.2;omega))).mono ?_;rintro e w1 ⟨ge,ae,ne,ce,gf,af,nf,cf,rfl,hr,hfe,hff,hap,hb⟩;have HB1:=HB0.trans (hb.mono HB0.size)
 (replace Rf0:=(Ab hb (Aa _ _ R0)).trans Rf0;replace Rf1:=(Ab hb (Aa _ _ R1)).trans Rf1;replace Rf2:=(Ab hb (Aa _ _ R2)).trans Rf2;replace Rf3:=(Ab hb (Aa _ _ R3)).trans Rf3;replace R0:=Bc hb R0;replace R1:=Bc hb R1;replace R2:=Bc hb R2;replace R3:=Bc hb R3)
 have fe:Bg (w.heap.size+1+1+1) w1 ae ce:=hfe.mono hk0;have ff:Bg (w.heap.size+1+1+1) w1 af cf:=hff.mono hk0;have u2:w.heap.size+1+1<w.heap.size+1+1+1:=Ag _;clear hb HB0 hfe hff;go_wp2_with fail;refine bodyPost_ret (v:=.agg #[.bool ge,.slice ae ne ce,.bool gf,.slice af nf cf]) (by simp [results,Tryz.results102,go_sem,R0,R1,R2,R3]) rfl ?_;exact qAt
theorem tY (w:World) (A B:Nat) (gi:Bool) (ai:Γ) (ni ci:Nat) (gj:Bool) (aj:Γ) (nj cj:Nat) (g:Bool) (a:Γ) (n c:Nat) (z:Int) (h:Bh w g a n c z) (g':Bool) (a':Γ) (n' c':Nat) (z':Int) (h':Bh w g' a' n' c' z') (hb1:n<17592186044416) (hb2:n'<17592186044416)
  (h1:w.cell? ⟨A,0,none⟩=some (.bool g)) (h2:w.cell? ⟨A,1,none⟩=some (.slice a n c)) (h3:w.cell? ⟨B,0,none⟩=some (.bool g')) (h4:w.cell? ⟨B,1,none⟩=some (.slice a' n' c')) :
  Θ 95 #[.agg #[.bool gi,.slice ai ni ci],.agg #[.bool gj,.slice aj nj cj],.pointer (some ⟨A,0,none⟩),.pointer (some ⟨B,0,none⟩)] w (Fc w (z*z')):=by
 have HB:=Ac w.heap.size w;have hA:=Aa _ _ h1;have hB:=Aa _ _ h3;have W3:Below w.heap.size w (((w.alloc (.cells #[.bool gi,.slice ai ni ci] 32)).alloc (.cells #[.bool gj,.slice aj nj cj] 32)).alloc (.cells #[.bool false,.slice none 0 0] 32)):=by go_grown
 have k1:=Bc W3 h1;have k2:=Bc W3 h2;have k3:=Bc W3 h3;have k4:=Bc W3 h4;go_enter Tryz.func95,Tryz.ntmps95;go_wp2_with fail;refine (Za _ _ _ _ _ z (h.keep qF) _ _ _ _ z' (h'.keep qF) qA qA).mono ?_;rintro e w1 ⟨g3,a3,n3,c3,rfl,hn3,hfr3,hb⟩;obtain ⟨hc,hf⟩:=Bl hb;have hz:=hb.size;(try simp only [Aj,Ak] at hz);replace HB:=zI w hb;obtain ⟨s0_0,s0_1⟩:=qZ hc (w.heap.size) (.bool gi) (.slice ai ni ci);obtain ⟨s1_0,s1_1⟩:=qZ hc (w.heap.size+1) (.bool gj) (.slice aj nj cj);obtain ⟨s2_0,s2_1⟩:=zE hc (w.heap.size+1+1);obtain ⟨f2_0,f2_1⟩:=zF hf (w.heap.size+1+1);have hk1:w.heap.size+1+1<w1.heap.size:=by omega
 have hf3:Bg (w.heap.size+1+1+1) w1 a3 c3:=hfr3.mono qB;clear hc hf hb hz hfr3;go_wp2_with fail;refine bodyPost_ret (v:=.agg #[.bool g3,.slice a3 n3 c3]) (by simp [results,Tryz.results95,go_sem,s2_0,s2_1]) rfl ?_;exact qBh
abbrev PC:=Int×Int
abbrev PT:=Nat×Int×Int
abbrev Δ:=List PT
def Ea (c d:PC):PC:=(E6 (c.1*d.2+d.1*c.2) (c.2*d.2),Fi (c.1*d.2+d.1*c.2) (c.2*d.2))
def Ca (c d:PC):PC:=(E6 (c.1*d.1) (c.2*d.2),Fi (c.1*d.1) (c.2*d.2))
structure CW (c:PC):Prop where
 pos:0<c.2
 red:Int.gcd c.1 c.2=1
theorem wW {a b:Int} (hb:0<b):0<Fi a b:=by
 unfold Fi;have hg:0<Int.gcd a b:=Int.gcd_pos_of_ne_zero_right _ qA;have hd:(Int.gcd a b:Int)∣b:=Int.gcd_dvd_right ..;obtain ⟨k,hk⟩:=hd;have hg':(0:Int)<(Int.gcd a b:Int):=by exact_mod_cast hg
 have:b/(Int.gcd a b:Int)=k:=by
  conv=>lhs;rw [hk]
  rw [←hk];exact Int.ediv_eq_of_eq_mul_right qA hk
 rw [this];have hk':0<(Int.gcd a b:Int)*k:=by rw [←hk];exact hb
 exact Int.pos_of_mul_pos_right hk' qA
theorem vU {a b:Int} (hb:0<b):Int.gcd (E6 a b) (Fi a b)=1:=by
 unfold E6 Fi;have hg:0<Int.gcd a b:=Int.gcd_pos_of_ne_zero_right _ qA;exact Int.gcd_ediv_gcd_ediv_gcd hg
theorem CW.low {a b:Int} (hb:0<b):CW (E6 a b,Fi a b):=⟨wW hb,vU hb⟩
theorem CW.add {c d:PC} (hc:CW c) (hd:CW d):CW (Ea c d):=CW.low (Int.mul_pos hc.pos hd.pos)
theorem CW.mul {c d:PC} (hc:CW c) (hd:CW d):CW (Ca c d):=CW.low (Int.mul_pos hc.pos hd.pos)
theorem Rm {a b:Int} (h:Int.gcd a b=1):E6 a b=a:=by unfold E6;rw [h];simp
theorem Q9 {a b:Int} (h:Int.gcd a b=1):Fi a b=b:=by unfold Fi;rw [h];simp
theorem Jh {c:PC} (hc:CW c):Ca c (1,1)=c:=by
 unfold Ca;simp only [Int.mul_one];rw [Rm hc.red,Q9 hc.red]
abbrev Ct (l:Δ):Prop:=l.Pairwise (fun a b=>b.1<a.1)
abbrev I6 (l:Δ):Prop:=∀t∈l,CW t.2∧t.2.1≠0
structure PW (l:Δ):Prop where
 falls:Ct l
 good:I6 l
 key:∀t∈l,t.1<18446744073709551616
def lk:Δ→Nat→Option PC
 | [],_=>none
 | t::l,k=>if t.1=k then some t.2 else lk l k
theorem Hn (t:PT) (l:Δ) (k:Nat):lk (t::l) k=if t.1=k then some t.2 else lk l k:=rfl
theorem dL {l:Δ} {k:Nat} (h:∀t∈l,t.1≠k):lk l k=none:=by
 induction l with
 | nil=>rfl
 | cons t l ih =>
  rw [lk,if_neg (h t qG)];exact ih fun t' h'=>h t' (by simp [h'])
theorem Hb {l:Δ} {k:Nat} {c:PC} (h:lk l k=some c):(k,c)∈l:=by
 induction l with
 | nil=>cases h
 | cons t l ih =>
  rw [lk] at h
  split at h
  ·next e=>cases h;subst e;simp
  ·simp [ih h]
theorem Hv {l:Δ} (hf:Ct l) {k:Nat} {c:PC} (h:(k,c)∈l):lk l k=some c:=by
 induction l with
 | nil=>cases h
 | cons t l ih =>
  obtain ⟨h1,h2⟩:=List.pairwise_cons.1 hf;rw [lk];rcases List.mem_cons.1 h with rfl|h
  ·simp
  ·have:=h1 _ h;rw [if_neg (by simp at this;omega)];exact ih h2 h
theorem Ls:∀{l l':Δ},Ct l→Ct l'→(∀t,t∈l↔t∈l')→l=l'
 | [],[],_,_,_=>rfl
 | [],t::l',_,_,h=>by have:=(h t).2 qG;cases this
 | t::l,[],_,_,h=>by have:=(h t).1 qG;cases this
 | t::l,t'::l',hf,hf',h=>by
  obtain ⟨h1,h2⟩:=List.pairwise_cons.1 hf;obtain ⟨h1',h2'⟩:=List.pairwise_cons.1 hf';have e:t=t':=by
   rcases List.mem_cons.1 ((h t).1 qG) with e|m
   ·exact e
   ·rcases List.mem_cons.1 ((h t').2 qG) with e'|m'
    ·exact e'.symm
    ·have a:=h1 _ m';have b:=h1' _ m;omega
  subst e;rw [Ls h2 h2' fun x=>?_];constructor
  ·intro hx;rcases List.mem_cons.1 ((h x).1 (by simp [hx])) with e|m
   ·subst e;have:=h1 _ hx;omega
   ·exact m
  ·intro hx;rcases List.mem_cons.1 ((h x).2 (by simp [hx])) with e|m
   ·subst e;have:=h1' _ hx;omega
   ·exact m
def Cu:Δ→Δ→Δ
 | [],b=>b
 | x::a,[]=>x::a
 | x::a,y::b =>
  if y.1<x.1 then x::Cu a (y::b)
  else if x.1<y.1 then y::Cu (x::a) b
  else if (Ea x.2 y.2).1=0 then Cu a b else (x.1,Ea x.2 y.2)::Cu a b
termination_by a b=>a.length+b.length
def Xe:Option PC→Option PC→Option PC
 | none,y=>y
 | some c,none=>some c
 | some c,some d=>if (Ea c d).1=0 then none else some (Ea c d)
theorem Va (x:Option PC):Xe x none=x:=by cases x<;>rfl
theorem Md (a b:Δ) (K:Nat) (ha:∀t∈a,t.1<K) (hb:∀t∈b,t.1<K):∀t∈Cu a b,t.1<K:=by
 induction a,b using Cu.induct with
 | case1 b=>simpa [Cu] using hb
 | case2 x a=>simpa [Cu] using ha
 | case3 x a y b hlt ih =>
  exact qDd
 | case4 x a y b h1 h2 ih =>
  exact qCx
 | case5 x a y b h1 h2 h3 ih =>
  exact qDk
 | case6 x a y b h1 h2 h3 ih =>
  rw [Cu,if_neg h1,if_neg h2,if_neg h3];intro t ht;rcases List.mem_cons.1 ht with rfl|ht
  ·exact ha x qG
  ·exact ih (fun t h=>ha t (by simp [h])) (fun t h=>hb t (by simp [h])) t ht
theorem Nd (a b:Δ) (ha:Ct a) (hb:Ct b):Ct (Cu a b):=by
 induction a,b using Cu.induct with
 | case1 b=>simpa [Cu] using hb
 | case2 x a=>simpa [Cu] using ha
 | case3 x a y b hlt ih =>
  obtain ⟨h1,h2⟩:=List.pairwise_cons.1 ha;obtain ⟨k1,k2⟩:=List.pairwise_cons.1 hb;rw [Cu,if_pos hlt];refine List.pairwise_cons.2 ⟨Md _ _ _ h1 (fun t ht=>?_),ih h2 hb⟩;rcases List.mem_cons.1 ht with rfl|ht
  ·exact hlt
  ·have:=k1 _ ht;omega
 | case4 x a y b hn hlt ih =>
  obtain ⟨h1,h2⟩:=List.pairwise_cons.1 ha;obtain ⟨k1,k2⟩:=List.pairwise_cons.1 hb;rw [Cu,if_neg hn,if_pos hlt];refine List.pairwise_cons.2 ⟨Md _ _ _ (fun t ht=>?_) k1,ih ha k2⟩;rcases List.mem_cons.1 ht with rfl|ht
  ·exact hlt
  ·have:=h1 _ ht;omega
 | case5 x a y b h1 h2 h3 ih =>
  rw [Cu,if_neg h1,if_neg h2,if_pos h3];exact ih (List.pairwise_cons.1 ha).2 (List.pairwise_cons.1 hb).2
 | case6 x a y b hn hm h3 ih =>
  obtain ⟨h1,h2⟩:=List.pairwise_cons.1 ha;obtain ⟨k1,k2⟩:=List.pairwise_cons.1 hb;rw [Cu,if_neg hn,if_neg hm,if_neg h3];refine List.pairwise_cons.2 ⟨Md _ _ _ h1 (fun t ht=>?_),ih h2 k2⟩;have:=k1 _ ht;show t.1<x.1;omega
theorem I9 {l:Δ} {k:Nat} (h:∀t∈l,t.1<k):lk l k=none:=dL fun t ht e=>by have:=h t ht;omega
theorem vM (a b:Δ) (ha:Ct a) (hb:Ct b) (k:Nat):lk (Cu a b) k=Xe (lk a k) (lk b k):=by
 induction a,b using Cu.induct with
 | case1 b=>simp [Cu,lk,Xe]
 | case2 x a=>simp [Cu,lk,Va]
 | case3 x a y b hlt ih =>
  obtain ⟨h1,h2⟩:=List.pairwise_cons.1 ha;obtain ⟨k1,k2⟩:=List.pairwise_cons.1 hb;rw [Cu,if_pos hlt,lk];by_cases e:x.1=k
  ·have hn:lk (y::b) k=none:=I9 fun t ht=>by
    rcases List.mem_cons.1 ht with rfl|ht
    ·omega
    ·have:=k1 _ ht;omega
   rw [if_pos e,hn,Va,lk,if_pos e]
  ·rw [if_neg e,ih h2 hb,Hn x a k,if_neg e]
 | case4 x a y b hn hlt ih =>
  obtain ⟨h1,h2⟩:=List.pairwise_cons.1 ha;obtain ⟨k1,k2⟩:=List.pairwise_cons.1 hb;rw [Cu,if_neg hn,if_pos hlt,lk];by_cases e:y.1=k
  ·have hn:lk (x::a) k=none:=I9 fun t ht=>by
    rcases List.mem_cons.1 ht with rfl|ht
    ·omega
    ·have:=h1 _ ht;omega
   rw [if_pos e,hn,lk,if_pos e];rfl
  ·rw [if_neg e,ih ha k2,Hn y b k,if_neg e]
 | case5 x a y b hn hm h3 ih =>
  obtain ⟨h1,h2⟩:=List.pairwise_cons.1 ha;obtain ⟨k1,k2⟩:=List.pairwise_cons.1 hb;rw [Cu,if_neg hn,if_neg hm,if_pos h3,ih h2 k2,Hn x a k,Hn y b k];have exy:x.1=y.1:=by omega
  by_cases e:x.1=k
  ·have e':y.1=k:=by omega
   rw [if_pos e,if_pos e',I9 (by rw [←e];exact h1),I9 (by rw [←e'];exact k1)];simp [Xe,h3]
  ·have e':¬y.1=k:=by omega
   rw [if_neg e,if_neg e']
 | case6 x a y b hn hm h3 ih =>
  obtain ⟨h1,h2⟩:=List.pairwise_cons.1 ha;obtain ⟨k1,k2⟩:=List.pairwise_cons.1 hb;rw [Cu,if_neg hn,if_neg hm,if_neg h3,lk,Hn x a k,Hn y b k];have exy:x.1=y.1:=by omega
  by_cases e:x.1=k
  ·have e':y.1=k:=by omega
   rw [if_pos e,if_pos e',if_pos (by exact e)];simp [Xe,h3]
  ·have e':¬y.1=k:=by omega
   rw [if_neg e,if_neg e',if_neg (by exact e),ih h2 k2]
theorem kK (a b:Δ) (ha:I6 a) (hb:I6 b):I6 (Cu a b):=by
 induction a,b using Cu.induct with
 | case1 b=>simpa [Cu] using hb
 | case2 x a=>simpa [Cu] using ha
 | case3 x a y b hlt ih =>
  exact qDd
 | case4 x a y b h1 h2 ih =>
  exact qCx
 | case5 x a y b h1 h2 h3 ih =>
  exact qDk
 | case6 x a y b h1 h2 h3 ih =>
  rw [Cu,if_neg h1,if_neg h2,if_neg h3];intro t ht;rcases List.mem_cons.1 ht with rfl|ht
  ·exact ⟨(ha x qG).1.add (hb y qG).1,h3⟩
  ·exact ih (fun t h=>ha t (by simp [h])) (fun t h=>hb t (by simp [h])) t ht
theorem PW.add {a b:Δ} (ha:PW a) (hb:PW b):PW (Cu a b) :=
 ⟨Nd a b ha.falls hb.falls,kK a b ha.good hb.good,Md a b _ ha.key hb.key⟩
theorem Qm (a b:Δ):(Cu a b).length≤a.length+b.length:=by
 induction a,b using Cu.induct with
 | case1 b=>simp [Cu]
 | case2 x a=>simp [Cu]
 | case3 x a y b hlt ih=>rw [Cu,if_pos hlt];simp at *;omega
 | case4 x a y b h1 h2 ih=>rw [Cu,if_neg h1,if_pos h2];simp at *;omega
 | case5 x a y b h1 h2 h3 ih=>rw [Cu,if_neg h1,if_neg h2,if_pos h3];simp at *;omega
 | case6 x a y b h1 h2 h3 ih=>rw [Cu,if_neg h1,if_neg h2,if_neg h3];simp at *;omega
def Gx (f:Nat→Option PC) (t:PT):Nat→Option PC:=fun k=>if k=t.1 then some (match f t.1 with|none=>t.2|some c=>Ea c t.2) else f k
def Dj (l:Δ):Nat→Option PC:=l.foldl Gx (fun _=>none)
theorem Lz (l:Δ) (t:PT):Dj (l++[t])=Gx (Dj l) t:=by simp [Dj]
theorem Pd (l:Δ) (hl:Ct l) (f:Nat→Option PC) (k:Nat):l.foldl Gx f k=(match lk l k,f k with|none,y=>y|some c,none=>some c|some c,some d=>some (Ea d c)):=by
 induction l generalizing f with
 | nil=>simp [lk]
 | cons t l ih =>
  obtain ⟨h1,h2⟩:=List.pairwise_cons.1 hl;rw [List.foldl_cons,ih h2,lk];by_cases e:t.1=k
  ·rw [I9 (by rw [←e];exact h1),if_pos e,Gx,if_pos e.symm,e]
   cases f k<;>rfl
  ·rw [if_neg e,Gx,if_neg qA]
theorem Zi (a b:Δ) (ha:Ct a) (hb:Ct b) (k:Nat):Dj (a++b) k=(match lk b k,lk a k with|none,y=>y|some c,none=>some c|some c,some d=>some (Ea d c)):=by
 have h1:Dj a k=lk a k:=by
  unfold Dj;rw [Pd a ha]
  cases lk a k<;>rfl
 have:Dj (a++b)=b.foldl Gx (Dj a):=by simp [Dj]
 rw [this,Pd b hb,h1]
theorem Rp {a b r:Δ} (ha:PW a) (hb:PW b) (hr:Ct r) (hm:∀t,t∈r↔(Dj (a++b) t.1=some t.2∧t.2.1≠0)):r=Cu a b:=by
 refine Ls hr (Nd a b ha.falls hb.falls) fun t=>?_
 obtain ⟨k,c⟩:=t;rw [hm];have e1:(k,c)∈Cu a b↔lk (Cu a b) k=some c:=⟨Hv (Nd a b ha.falls hb.falls),Hb⟩;rw [e1,vM a b ha.falls hb.falls,Zi a b ha.falls hb.falls];show _∧c.1≠0↔_
 cases h1:lk a k with
 | none =>
  cases h2:lk b k with
  | none=>simp [Xe]
  | some d =>
   simp only [Xe,Option.some.injEq];constructor
   ·rintro ⟨rfl,_⟩;rfl
   ·rintro rfl;exact ⟨rfl,(hb.good _ (Hb h2)).2⟩
 | some d =>
  cases h2:lk b k with
  | none =>
   simp only [Xe,Option.some.injEq];constructor
   ·rintro ⟨rfl,_⟩;rfl
   ·rintro rfl;exact ⟨rfl,(ha.good _ (Hb h1)).2⟩
  | some d' =>
   simp only [Xe,Option.some.injEq]
   split
   ·next h0 =>
    constructor
    ·rintro ⟨rfl,hne⟩;exact absurd h0 hne
    ·intro h;cases h
   ·next h0 =>
    simp only [Option.some.injEq];constructor
    ·rintro ⟨rfl,_⟩;rfl
    ·rintro rfl;exact ⟨rfl,h0⟩
end Go.Proofs.YtnnhcbeiogaknaaGreatDoor
end
