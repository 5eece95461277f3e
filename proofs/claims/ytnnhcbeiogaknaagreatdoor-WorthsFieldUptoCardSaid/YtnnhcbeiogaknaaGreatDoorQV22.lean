/- Plain: any terms put together as one sum, and how many parts their numbers have. -/
import Derived.Test.YtnnhcbeiogaknaaGreatDoorQV19
set_option linter.unusedSimpArgs false
set_option linter.unusedVariables false
set_option maxRecDepth 100000
set_option maxHeartbeats 4000000
section
namespace Go.Proofs.YtnnhcbeiogaknaaGreatDoor
open Go.RowKit
def Jw (t:PT):Δ→Δ
 | []=>if t.2.1=0 then [] else [t]
 | x::l =>
  if x.1<t.1 then (if t.2.1=0 then x::l else t::x::l)
  else if x.1=t.1 then (if (Ea x.2 t.2).1=0 then l else (x.1,Ea x.2 t.2)::l)
  else x::Jw t l
def Hp (L:Δ):Δ:=L.foldl (fun a t=>Jw t a) []
def cf (l:Δ) (k:Nat):PC:=(lk l k).getD (0,1)
theorem CW.zero {c:PC} (h:CW c) (h0:c.1=0):c=(0,1):=by
 obtain ⟨a,b⟩:=c;have h1:=h.pos;have h2:=h.red;simp only at h0 h1 h2;subst h0;rw [Int.gcd_zero_left] at h2
 congr 1
 omega
theorem Wm:CW (0,1):=⟨by decide,by decide⟩
theorem Iz {c:PC} (h:CW c):Ea (0,1) c=c:=by
 unfold Ea;simp only [Int.zero_mul,Int.zero_add,Int.mul_one,Int.one_mul];rw [Rm h.red,Q9 h.red]
theorem Rd {c:PC} (h:CW c):Ea c (0,1)=c:=by
 unfold Ea;simp only [Int.zero_mul,Int.add_zero,Int.mul_one];rw [Rm h.red,Q9 h.red]
theorem yB {l:Δ} (hg:I6 l) (k:Nat):CW (cf l k):=by
 unfold cf
 cases h:lk l k with
 | none=>exact Wm
 | some c=>exact (hg _ (Hb h)).1
theorem Y0 {l:Δ} (hg:I6 l) {k:Nat} {c:PC}:lk l k=some c↔cf l k=c∧c.1≠0:=by
 unfold cf
 cases h:lk l k with
 | none =>
  simp only [Option.getD_none,reduceCtorEq,false_iff,not_and,Decidable.not_not];rintro rfl;rfl
 | some d =>
  simp only [Option.getD_some,Option.some.injEq];exact ⟨fun e=>⟨e,by subst e;exact (hg _ (Hb h)).2⟩,fun e=>e.1⟩
theorem mA {l l':Δ} (hf:Ct l) (hg:I6 l) (hf':Ct l') (hg':I6 l') (h:∀k,cf l k=cf l' k):l=l' :=
 Ls hf hf' fun t=>by
  obtain ⟨k,c⟩:=t;have e1:(k,c)∈l↔lk l k=some c:=⟨Hv hf,Hb⟩;have e2:(k,c)∈l'↔lk l' k=some c:=⟨Hv hf',Hb⟩;rw [e1,e2,Y0 hg,Y0 hg',h]
theorem Hm (x:PT) (l:Δ) (k:Nat):cf (x::l) k=if x.1=k then x.2 else cf l k:=by
 unfold cf;rw [Hn]
 split<;>rfl
theorem bI (k:Nat):cf [] k=(0,1):=rfl
theorem Oq {l:Δ} {k:Nat} (h:∀t∈l,t.1<k):cf l k=(0,1):=by unfold cf;rw [I9 h];rfl
theorem Vi (t:PT) (l:Δ):∀x∈Jw t l,x.1=t.1∨∃y∈l,y.1=x.1:=by
 induction l with
 | nil=>intro x hx;unfold Jw at hx;split at hx<;>simp_all
 | cons y l ih =>
  intro x hx;unfold Jw at hx
  split at hx
  ·split at hx
   ·exact .inr ⟨x,hx,rfl⟩
   ·rcases List.mem_cons.1 hx with rfl|hx
    ·exact .inl rfl
    ·exact .inr ⟨x,hx,rfl⟩
  ·split at hx
   ·split at hx
    ·exact .inr ⟨x,by simp [hx],rfl⟩
    ·rcases List.mem_cons.1 hx with rfl|hx
     ·exact .inr ⟨y,by simp,rfl⟩
     ·exact .inr ⟨x,by simp [hx],rfl⟩
   ·rcases List.mem_cons.1 hx with rfl|hx
    ·exact .inr ⟨x,by simp,rfl⟩
    ·rcases ih x hx with h|⟨z,hz,e⟩
     ·exact .inl h
     ·exact .inr ⟨z,by simp [hz],e⟩
theorem jM (t:PT) (ht:CW t.2) (l:Δ) (hf:Ct l) (hg:I6 l) :
  Ct (Jw t l)∧I6 (Jw t l)∧∀k,cf (Jw t l) k=if t.1=k then Ea (cf l k) t.2 else cf l k:=by
 induction l with
 | nil =>
  unfold Jw
  split
  ·next h=>exact ⟨hf,hg,fun k=>by rw [bI,Iz ht,ht.zero h];split<;>rfl⟩
  ·next h =>
   refine ⟨by simp [Ct],fun x hx=>?_,fun k=>?_⟩
   ·simp only [Ao] at hx;subst hx;exact ⟨ht,h⟩
   ·rw [Hm,bI,Iz ht]
 | cons x l ih =>
  obtain ⟨h1,h2⟩:=List.pairwise_cons.1 hf;have hgl:I6 l:=fun y hy=>hg y (by simp [hy])
  obtain ⟨i1,i2,i3⟩:=ih h2 hgl;unfold Jw
  split
  ·next hlt =>
   have habove:∀y∈x::l,y.1<t.1:=fun y hy=>by
    rcases List.mem_cons.1 hy with rfl|hy
    ·exact hlt
    ·have:=h1 y hy;omega
   split
   ·next h0 =>
    refine ⟨hf,hg,fun k=>?_⟩
    split
    ·next e=>subst e;rw [Oq habove,Iz ht,ht.zero h0]
    ·rfl
   ·next h0 =>
    refine ⟨List.pairwise_cons.2 ⟨habove,hf⟩,fun y hy=>?_,fun k=>?_⟩
    ·rcases List.mem_cons.1 hy with rfl|hy
     ·exact ⟨ht,h0⟩
     ·exact hg y hy
    ·rw [Hm t]
     split
     ·next e=>subst e;rw [Oq habove,Iz ht]
     ·rfl
  ·next hnlt =>
   split
   ·next he =>
    have hx:=hg x qG;have habove:∀y∈l,y.1<t.1:=fun y hy=>by have:=h1 y hy;omega
    split
    ·next h0 =>
     refine ⟨h2,hgl,fun k=>?_⟩;rw [Hm];by_cases e:t.1=k
     ·subst e;rw [if_pos rfl,if_pos he,Oq habove,(hx.1.add ht).zero h0]
     ·rw [if_neg e,if_neg qA]
    ·next h0 =>
     refine ⟨List.pairwise_cons.2 ⟨h1,h2⟩,fun y hy=>?_,fun k=>?_⟩
     ·rcases List.mem_cons.1 hy with rfl|hy
      ·exact ⟨hx.1.add ht,h0⟩
      ·exact hgl y hy
     ·rw [Hm,Hm];by_cases e:t.1=k
      ·rw [if_pos e,if_pos (by show x.1=k;omega),if_pos qA]
      ·rw [if_neg e,if_neg (by show ¬x.1=k;omega),if_neg qA]
   ·next hne =>
    refine ⟨List.pairwise_cons.2 ⟨fun y hy=>?_,i1⟩,fun y hy=>?_,fun k=>?_⟩
    ·rcases Vi t l y hy with e|⟨z,hz,e⟩
     ·omega
     ·have:=h1 z hz;omega
    ·rcases List.mem_cons.1 hy with rfl|hy
     ·exact hg y qG
     ·exact i2 y hy
    ·rw [Hm,Hm,i3];by_cases e:x.1=k
     ·rw [if_pos e,if_pos e,if_neg qA]
     ·rw [if_neg e,if_neg e]
theorem bE (L:Δ) (hL:∀t∈L,CW t.2):∀(a:Δ),Ct a→I6 a→∀f:Nat→Option PC,(∀k,(f k).getD (0,1)=cf a k) →
  Ct (L.foldl (fun a t=>Jw t a) a)∧I6 (L.foldl (fun a t=>Jw t a) a)∧∀k,(L.foldl Gx f k).getD (0,1)=cf (L.foldl (fun a t=>Jw t a) a) k:=by
 induction L with
 | nil=>intro a h1 h2 f hf;exact ⟨h1,h2,hf⟩
 | cons t L ih =>
  intro a h1 h2 f hf;have ht:=hL t qG;obtain ⟨s1,s2,s3⟩:=jM t ht a h1 h2;refine ih (fun x hx=>hL x (by simp [hx])) _ s1 s2 _ fun k=>?_
  rw [s3,Gx];by_cases e:k=t.1
  ·subst e;rw [if_pos rfl,if_pos rfl,←hf]
   cases f t.1 with
   | none=>simp [Iz ht]
   | some c=>rfl
  ·rw [if_neg e,if_neg qA,hf]
theorem Gp {L:Δ} (hL:∀t∈L,CW t.2):Ct (Hp L)∧I6 (Hp L)∧∀k,(Dj L k).getD (0,1)=cf (Hp L) k :=
 bE L hL [] (by simp [Ct]) (fun x hx=>by cases hx) _ fun k=>rfl
theorem Sn {L:Δ} {k:Nat} {x:PC} (h:Dj L k=some x):∃t∈L,t.1=k:=by
 have hi:∀(L:Δ) (f:Nat→Option PC),L.foldl Gx f k=some x→(∃t∈L,t.1=k)∨f k=some x:=by
  intro L
  induction L with
  | nil=>intro f h;exact .inr h
  | cons t L ih =>
   intro f h;rcases ih _ h with ⟨y,hy,e⟩|h
   ·exact .inl ⟨y,by simp [hy],e⟩
   ·unfold Gx at h;by_cases e:k=t.1
    ·exact .inl ⟨t,by simp,e.symm⟩
    ·rw [if_neg e] at h;exact .inr h
 rcases hi L _ h with h|h
 ·exact h
 ·cases h
theorem bL (L:Δ):∀a:Δ,∀x∈L.foldl (fun a t=>Jw t a) a,∃y∈L++a,y.1=x.1:=by
 induction L with
 | nil=>intro a x hx;exact ⟨x,by simpa using hx,rfl⟩
 | cons t L ih =>
  intro a x hx;obtain ⟨y,hy,e⟩:=ih _ x hx;rcases List.mem_append.1 hy with hy|hy
  ·exact ⟨y,by simp [hy],e⟩
  ·rcases Vi t a y hy with h|⟨z,hz,h⟩
   ·exact ⟨t,by simp,by omega⟩
   ·exact ⟨z,by simp [hz],by omega⟩
theorem X0 {L:Δ} {x:PT} (h:x∈Hp L):∃y∈L,y.1=x.1:=by
 obtain ⟨y,hy,e⟩:=bL L [] x h;exact ⟨y,by simpa using hy,e⟩
theorem fN {L:Δ} (hL:∀t∈L,CW t.2) (hk:∀t∈L,t.1<18446744073709551616):PW (Hp L) :=
 ⟨(Gp hL).1,(Gp hL).2.1,fun t ht=>by obtain ⟨y,hy,e⟩:=X0 ht;rw [←e];exact hk y hy⟩
theorem Lp {L r:Δ} (hL:∀t∈L,CW t.2) (hr:Ct r) (hm:∀t,t∈r↔(Dj L t.1=some t.2∧t.2.1≠0)):r=Hp L:=by
 obtain ⟨s1,s2,s3⟩:=Gp hL;refine Ls hr s1 fun t=>?_
 obtain ⟨k,c⟩:=t;have e1:(k,c)∈Hp L↔lk (Hp L) k=some c:=⟨Hv s1,Hb⟩;rw [hm,e1,Y0 s2,←s3];show Dj L k=some c∧c.1≠0↔_
 cases h:Dj L k with
 | none =>
  simp only [reduceCtorEq,false_and,Option.getD_none,false_iff,not_and,Decidable.not_not];rintro rfl;rfl
 | some d=>simp
theorem Fx {l:Δ} (h:PW l):Hp l=l:=by
 have hc:∀t∈l,CW t.2:=fun t ht=>(h.good t ht).1
 obtain ⟨s1,s2,s3⟩:=Gp hc;refine mA s1 s2 h.falls h.good fun k=>?_
 rw [←s3];unfold Dj cf;rw [Pd l h.falls]
 cases lk l k<;>rfl
theorem Tn {a b:Δ} (ha:PW a) (hb:PW b):Hp (a++b)=Cu a b:=by
 have hc:∀t∈a++b,CW t.2:=fun t ht=>by
  rcases List.mem_append.1 ht with h|h
  ·exact (ha.good t h).1
  ·exact (hb.good t h).1
 obtain ⟨s1,s2,s3⟩:=Gp hc;refine Rp ha hb s1 fun t=>?_
 obtain ⟨k,c⟩:=t;have e1:(k,c)∈Hp (a++b)↔lk (Hp (a++b)) k=some c:=⟨Hv s1,Hb⟩;rw [e1,Y0 s2,←s3];show _↔Dj (a++b) k=some c∧c.1≠0
 cases h:Dj (a++b) k with
 | none =>
  simp only [reduceCtorEq,false_and,Option.getD_none,iff_false,not_and,Decidable.not_not];rintro rfl;rfl
 | some d=>simp
theorem tD (n:Nat):(dg n).length≤n.log2/29+1:=by
 induction n using Nat.strongRecOn with
 | _ n ih =>
  by_cases h0:n=0
  ·subst h0;rw [De];simp
  ·rw [Hg qA,List.length_cons];by_cases h1:n<1000000000
   ·rw [Nat.div_eq_of_lt h1,De];simp
   ·have h2:=ih (n/1000000000) (Nat.div_lt_self qA qA);have h3:n/1000000000≠0:=by have:=Nat.div_pos (show 1000000000≤n by omega) qA;omega
    have h4:(n/1000000000).log2+29≤n.log2:=by
     rw [Nat.le_log2 h0,Nat.pow_add];have h5:=Nat.log2_self_le h3;have h6:(2:Nat) ^ 29≤1000000000:=by decide
     exact Ah (Nat.mul_le_mul h5 h6) (Nat.div_mul_le_self n 1000000000)
    omega
def nP (c:PC):Nat:=max (c.1.natAbs.log2/29) (c.2.natAbs.log2/29)+1
theorem Oc (c:PC):By (nP c) c:=⟨Ah (tD _) (by unfold nP;omega),Ah (tD _) (by unfold nP;omega)⟩
def pC (c:PC):Nat:=max (dg c.1.natAbs).length (dg c.2.natAbs).length
theorem Wv (c:PC):By (pC c) c:=⟨Nat.le_max_left _ _,Nat.le_max_right _ _⟩
theorem yS {K:Nat} {c:PC} (h:By K c):pC c≤K:=Nat.max_le.2 h
def wt (L:Δ):Nat:=(L.map fun t=>pC t.2+1).sum
theorem Nv (t:PT) (L:Δ):wt (t::L)=pC t.2+1+wt L:=by simp [wt]
theorem jF (L M:Δ):wt (L++M)=wt L+wt M:=by simp [wt]
theorem zX {L:Δ} {t:PT} (h:t∈L):pC t.2+1≤wt L:=by
 induction L with
 | nil=>cases h
 | cons x L ih =>
  rw [Nv];exact qDh
theorem Xv {L:Δ} {K:Nat} (h:∀t∈L,By K t.2):wt L≤L.length*(K+1):=by
 induction L with
 | nil=>simp [wt]
 | cons x L ih =>
  rw [Nv,List.length_cons,Nat.add_mul,Nat.one_mul];have h1:=yS (h x qG);have h2:=ih fun t ht=>h t (by simp [ht])
  omega
def wtk (L:Δ) (k:Nat):Nat:=wt (L.filter fun t=>t.1=k)
theorem Kf (L:Δ) (k:Nat):wtk L k≤wt L:=by
 unfold wtk
 induction L with
 | nil=>simp [wt]
 | cons t L ih =>
  rw [Nv,List.filter_cons]
  split
  ·rw [Nv];omega
  ·omega
theorem Ou (t:PT) (L:Δ) (k:Nat):wtk (t::L) k=(if t.1=k then pC t.2+1 else 0)+wtk L k:=by
 unfold wtk;rw [List.filter_cons];by_cases h:t.1=k
 ·simp [h,Nv]
 ·simp [h]
theorem Jy (L M:Δ) (k:Nat):wtk (L++M) k=wtk L k+wtk M k:=by
 unfold wtk;rw [List.filter_append,jF]
theorem nJ (L:Δ) (n k:Nat):wtk (L.take n) k≤wtk L k:=by
 have h:L=L.take n++L.drop n:=(List.take_append_drop n L).symm
 conv=>rhs;rw [h]
 rw [Jy];omega
theorem iD (L:Δ) (hL:∀t∈L,CW t.2):∀(f:Nat→Option PC) (g:Nat→Nat),(∀k x,f k=some x→CW x∧By (g k) x)→∀k x,L.foldl Gx f k=some x→CW x∧By (g k+wtk L k) x:=by
 induction L with
 | nil=>intro f g hf k x hx;exact ⟨(hf k x hx).1,(hf k x hx).2.mono qG⟩
 | cons t L ih =>
  intro f g hf k x hx;have ht:=hL t qG;have:=ih (fun y hy=>hL y (by simp [hy])) (Gx f t) (fun j=>g j+if t.1=j then pC t.2+1 else 0) (fun j y hy=>by
   unfold Gx at hy
   split at hy
   ·next e =>
    subst e;simp only [Option.some.injEq] at hy
    cases hft:f t.1 with
    | none=>rw [hft] at hy;simp only at hy;subst hy;exact ⟨ht,(Wv _).mono qJ⟩
    | some c =>
     rw [hft] at hy;simp only at hy;subst hy;obtain ⟨h1,h2⟩:=hf _ _ hft;exact ⟨h1.add ht,(By.add h1 ht h2 (Wv _)).mono qJ⟩
   ·next e =>
    obtain ⟨h1,h2⟩:=hf _ _ hy;exact ⟨h1,h2.mono qA⟩) k x hx
  rw [Ou];exact ⟨this.1,this.2.mono qA⟩
theorem Ie {L:Δ} (hL:∀t∈L,CW t.2) {k:Nat} {x:PC} (h:Dj L k=some x):CW x∧By (wtk L k) x:=by
 have:=iD L hL (fun _=>none) (fun _=>0) (fun k x h=>by cases h) k x h;exact ⟨this.1,this.2.mono qA⟩
theorem Xt {L:Δ} (hL:∀t∈L,CW t.2) {K:Nat} (hK:∀k,wtk L k≤K):Cj K (Hp L):=fun t ht=>by
 obtain ⟨s1,s2,s3⟩:=Gp hL;have h1:=Hv s1 (show (t.1,t.2)∈Hp L from ht);obtain ⟨h2,h3⟩:=(Y0 s2).1 h1;rw [←s3] at h2
 cases h:Dj L t.1 with
 | none=>rw [h] at h2;exact absurd (congrArg Prod.fst h2).symm h3
 | some d =>
  rw [h] at h2;simp only [Option.getD_some] at h2;subst h2;exact ((Ie hL h).2).mono (hK _)
theorem Wn (L:Δ):∀a:Δ,(L.foldl (fun a t=>Jw t a) a).length≤a.length+L.length:=by
 have hi:∀(t:PT) (a:Δ),(Jw t a).length≤a.length+1:=fun t a=>by
  induction a with
  | nil=>unfold Jw;split<;>simp
  | cons x a ih =>
   unfold Jw
   split
   ·split<;>simp only [List.length_cons]<;>omega
   ·split
    ·split<;>simp only [List.length_cons]<;>omega
    ·simp only [List.length_cons];omega
 induction L with
 | nil=>intro a;simp
 | cons t L ih=>intro a;have h1:=ih (Jw t a);have h2:=hi t a;simp at *;omega
theorem Ha (L:Δ):(Hp L).length≤L.length:=by
 have:=Wn L [];rw [List.length_nil,Nat.zero_add] at this;exact this
def exN (k x:Nat):Nat:=k/65536 ^ (3-x)%65536
def unN (x:Nat):Nat:=65536 ^ (3-x)
def Hi (x y:PC):PC :=
 let t:=x.1*y.2
 let l:=y.1*x.2
 if l<0 then (-(t/(Int.gcd t l:Int)),-(l/(Int.gcd t l:Int))) else (t/(Int.gcd t l:Int),l/(Int.gcd t l:Int))
def cwB (c:PC):Bool:=decide (0<c.2)&&(Int.gcd c.1 c.2==1)
def Pr:Δ→Bool
 | x::y::l=>decide (y.1<x.1)&&Pr (y::l)
 | _=>true
def smB (l:Δ):Bool:=Pr l&&decide (l.length≤40)&&l.all fun t=>cwB t.2&&decide (t.2.1≠0)&&decide (t.1<18446744073709551616)&&decide (nP t.2≤100)
def ck (l:Δ):Option (Δ):=if smB l then some l else none
def Hx (p q:Δ):Δ:=Hp (p++q)
def Gh (c:PC) (l:Δ):Δ:=l.map fun t=>(t.1,Ca t.2 c)
def Nz (c:PC) (l:Δ):Δ:=Hp (Gh c l)
def Lj (p q:Δ):Δ:=Hx p (Nz (-1,1) q)
def Eb (a b:Nat):Nat:=Cg (exN a 0+exN b 0) (exN a 1+exN b 1) (exN a 2+exN b 2) (exN a 3+exN b 3)
def Gj (a b:Nat):Bool:=exN a 0+exN b 0<65536&&exN a 1+exN b 1<65536&&exN a 2+exN b 2<65536&&exN a 3+exN b 3<65536
def C5 (p q:Δ):Δ:=p.flatMap fun s=>q.map fun t=>(Eb s.1 t.1,Ca s.2 t.2)
def C8 (p q:Δ):Bool:=p.all fun s=>q.all fun t=>Gj s.1 t.1
def En (p q:Δ):Δ:=Hp (C5 p q)
def Ka (l:Δ) (x:Nat):Nat:=l.foldl (fun n t=>max n (exN t.1 x)) 0
def Du (l:Δ) (x k:Nat):Δ:=(l.filter fun t=>exN t.1 x=k).map fun t=>(t.1-k*unN x,t.2)
def Dv (l:Δ) (x:Nat):List (Δ):=if l=[] then [] else (List.range (Ka l x+1)).map fun k=>Du l x k
def Iw (l:Δ):PC :=
 let r:=l.foldl (fun (a:Int×Int) t=>((Int.gcd a.1 t.2.1:Int),a.2*(t.2.2/(Int.gcd a.2 t.2.2:Int)))) (0,1)
 Ca (E6 r.1 r.2,Fi r.1 r.2) (match l with|[]=>(1,1)|t::_=>if t.2.1<0 then (-1,1) else (1,1))
def Ck (l:Δ):Δ:=if l=[] then [] else Nz (Hi (1,1) (Iw l)) l
structure Sm (l:Δ):Prop where
 pw:PW l
 few:Cj 100 l
 len:l.length≤40
theorem Og:∀{l:Δ},Pr l=true→Ct l
 | [],_=>by simp [Ct]
 | [x],_=>by simp [Ct]
 | x::y::l,h=>by
  unfold Pr at h;simp only [Bool.and_eq_true,decide_eq_true_eq] at h;have ih:=Og h.2;refine List.pairwise_cons.2 ⟨fun z hz=>?_,ih⟩;rcases List.mem_cons.1 hz with rfl|hz
  ·exact h.1
  ·have:=(List.pairwise_cons.1 ih).1 z hz;omega
theorem Sm.of {l:Δ} (h:smB l=true):Sm l:=by
 unfold smB at h;simp only [Bool.and_eq_true,decide_eq_true_eq,List.all_eq_true,cwB,beq_iff_eq] at h;obtain ⟨⟨h1,h2⟩,h3⟩:=h;refine ⟨⟨Og h1,fun t ht=>?_,fun t ht=>(h3 t ht).1.2⟩,fun t ht=>?_,h2⟩
 ·obtain ⟨⟨⟨⟨k1,k2⟩,k3⟩,k4⟩,k5⟩:=h3 t ht;exact ⟨⟨k1,k2⟩,k3⟩
 ·have k:=(h3 t ht).2;exact (Oc t.2).mono k
theorem Sm.nil:Sm []:=Sm.of qI
theorem mF (k x:Nat):exN k x<65536:=Nat.mod_lt _ qI
theorem Ec {a b c d:Nat} (hb:b<65536) (hc:c<65536) (hd:d<65536) (ha:a<65536) :
  exN (Cg a b c d) 0=a∧exN (Cg a b c d) 1=b∧exN (Cg a b c d) 2=c∧exN (Cg a b c d) 3=d:=by
 have e0:(65536:Nat) ^ 3=281474976710656:=by decide
 have e1:(65536:Nat) ^ 2=4294967296:=by decide
 unfold exN Cg;simp only [Nat.sub_zero,Nat.reduceSub,e0,e1,Nat.pow_one,Nat.pow_zero,Nat.div_one];omega
theorem H6 (z:Int):CW (z,1):=⟨by show (0:Int)<1;decide,by simp⟩
theorem gQ {l:Δ} (hl:Sm l) {c:PC} (hc:CW c) (hf:By 200 c) (k:Nat):wtk (Gh c l) k≤400000:=by
 have h1:=Kf (Gh c l) k;have h2:wt (Gh c l)≤(Gh c l).length*(300+1):=Xv fun t ht=>by
  obtain ⟨x,hx,rfl⟩:=List.mem_map.1 ht;exact By.mul (hl.pw.good x hx).1 hc (hl.few x hx) hf
 have h3:(Gh c l).length=l.length:=by simp [Gh]
 have:=hl.len;rw [h3] at h2;omega
theorem Fp (x:PT) (p q:Δ):C5 (x::p) q=(q.map fun t=>(Eb x.1 t.1,Ca x.2 t.2))++C5 p q:=rfl
theorem Nx (p p' q:Δ):C5 (p++p') q=C5 p q++C5 p' q:=by simp [C5]
theorem Ow (p q:Δ):(C5 p q).length=p.length*q.length:=by
 induction p with
 | nil=>simp [C5]
 | cons x p ih=>rw [Fp,A9,List.length_map,ih,List.length_cons,Nat.add_mul,Nat.one_mul,Nat.add_comm]
theorem Fy {p q:Δ} {t:PT} (h:t∈C5 p q):∃x∈p,∃y∈q,t=(Eb x.1 y.1,Ca x.2 y.2):=by
 unfold C5 at h;obtain ⟨x,hx,h⟩:=List.mem_flatMap.1 h;obtain ⟨y,hy,rfl⟩:=List.mem_map.1 h;exact ⟨x,hx,y,hy,rfl⟩
theorem Xn {p q:Δ} {K K':Nat} (hp:∀t∈p,CW t.2) (hq:∀t∈q,CW t.2) (h:Cj K p) (h':Cj K' q):wt (C5 p q)≤p.length*q.length*(K+K'+1):=by
 rw [←Ow];refine Xv fun t ht=>?_
 obtain ⟨x,hx,y,hy,rfl⟩:=Fy ht;exact By.mul (hp x hx) (hq y hy) (h x hx) (h' y hy)
theorem iQ {p q:Δ} (hp:Sm p) (hq:Sm q) (k:Nat):wtk (C5 p q) k≤400000:=by
 have h1:=Kf (C5 p q) k;have h2:=Xn (fun t ht=>(hp.pw.good t ht).1) (fun t ht=>(hq.pw.good t ht).1) hp.few hq.few;have h3:=Nat.mul_le_mul hp.len hq.len;have h4:=Nat.mul_le_mul_right 201 h3;omega
theorem Iu {c:PC} (hc:CW c):Ca c (-1,1)=(-c.1,c.2):=by
 unfold Ca;have:Int.gcd (c.1 * -1) (c.2*1)=1:=by
  rw [Int.mul_one,Int.mul_neg,Int.mul_one,Int.neg_gcd];exact hc.red
 show (E6 (c.1 * -1) (c.2*1),Fi (c.1 * -1) (c.2*1))=_;rw [Rm this,Q9 this,Int.mul_neg,Int.mul_one,Int.mul_one]
structure Dh (w:World) (b:Nat) (t:Tm):Prop where
 c0:w.cell? ⟨b,0,none⟩=some (.bool t.g1)
 c1:w.cell? ⟨b,1,none⟩=some (.slice t.a1 t.n1 t.c1)
 c2:w.cell? ⟨b,2,none⟩=some (.bool t.g2)
 c3:w.cell? ⟨b,3,none⟩=some (.slice t.a2 t.n2 t.c2)
 c4:w.cell? ⟨b,4,none⟩=some (.int .u16 t.m0)
 c5:w.cell? ⟨b,5,none⟩=some (.int .u16 t.m1)
 c6:w.cell? ⟨b,6,none⟩=some (.int .u16 t.m2)
 c7:w.cell? ⟨b,7,none⟩=some (.int .u16 t.m3)
 f0:w.frozen? ⟨b,0,none⟩=false
 f1:w.frozen? ⟨b,1,none⟩=false
 f2:w.frozen? ⟨b,2,none⟩=false
 f3:w.frozen? ⟨b,3,none⟩=false
 f4:w.frozen? ⟨b,4,none⟩=false
 f5:w.frozen? ⟨b,5,none⟩=false
 f6:w.frozen? ⟨b,6,none⟩=false
 f7:w.frozen? ⟨b,7,none⟩=false
theorem Dh.new (w:World) (t:Tm):Dh (w.alloc (.cells #[.bool t.g1,.slice t.a1 t.n1 t.c1,.bool t.g2,.slice t.a2 t.n2 t.c2,.int .u16 t.m0,.int .u16 t.m1,.int .u16 t.m2,.int .u16 t.m3] 79)) w.heap.size t:=by
 constructor<;>simp [go_sem]
theorem Dh.lt {w:World} {b:Nat} {t:Tm} (h:Dh w b t):b<w.heap.size:=Aa _ _ h.c0
theorem Dh.keep {w w':World} {b:Nat} {t:Tm} (h:Dh w b t) (hb:Below w.heap.size w w'):Dh w' b t:=by
 have f:∀i,w.frozen? ⟨b,i,none⟩=false→w'.frozen? ⟨b,i,none⟩=false:=fun i e=>(hb.frozen h.lt).trans e
 exact ⟨Bc hb h.c0,Bc hb h.c1,Bc hb h.c2,Bc hb h.c3,Bc hb h.c4,Bc hb h.c5,Bc hb h.c6,Bc hb h.c7,f _ h.f0,f _ h.f1,f _ h.f2,f _ h.f3,f _ h.f4,f _ h.f5,f _ h.f6,f _ h.f7⟩
def Sf (w:World) (y:PT) (e:Ending) (w':World):Prop :=
 ∃t:Tm,e=.returned t.val∧Ey t y∧Ei w' t∧Bg w.heap.size w' t.a1 t.c1∧Bg w.heap.size w' t.a2 t.c2∧Ap2 t.a1 t.c1 t.a2 t.c2∧Below w.heap.size w w'
theorem Wh (wo:World) (a:Γ) (n c:Nat) (p:Nat→Tm) (hp:RdP wo a n c p) (l:Δ) (hll:l.length=n) (F:Nat) (cap:Array Value) (f:PT→PT)
  (hE:∀args W,(callFunc F args).run Tryz.prog W=.ok (.enter F args) W) (hdo:Hid (∀W,Below wo.heap.size wo W→∀k x,l[k]? = some x→Θ F (#[(p k).val]++cap) W (Sf W (f x))))
  (hcw:∀x∈l,CW (f x).2) (hkey:∀x∈l,(f x).1<18446744073709551616) (hw:∀k,wtk (l.map f) k≤400000) (hn:n≤400000) :
  Θ 37 #[.slice a n c,.func (.func F) #[] cap] wo (Cl wo (Hp (l.map f))):=by
 have HB:=Ac wo.heap.size wo;have hmm:=@run_makeMap Tryz.prog;have HM0:Dd (wo.alloc (.map #[] 0)) wo.heap.size 0 (wo.heap.size+1) (fun _=>none):=⟨.map [],id,World.ownsMap_made wo Tryz.prog 76 RH,Fs.empty _ _ _⟩;have HX:=Ae (Ay hcw hkey);have HC:=Ae (show ∀t∈l.map f,CW t.2 from fun t ht=>by obtain ⟨x,hx,rfl⟩:=List.mem_map.1 ht;exact hcw x hx);have HW:=Ae hw;clear hcw hkey hw;go_enter Tryz.func37,Tryz.ntmps37;go_wp2_with fail;go_loopw [11] (fun v11 wr=>∃i:Nat,i≤n∧v11=.int .i64 i∧Dd wr wo.heap.size i (wo.heap.size+1) (Dj ((l.map f).take i))∧Below wo.heap.size wo wr) (fun v11 _=>n-(intOf v11).toNat)
 case atStart=>exact ⟨0,by omega,rfl,by simpa [Dj] using HM0,by go_grown⟩
 case round =>
  obtain ⟨k,hk,rfl,hM,HBr⟩:=hrel;have hzr:=HBr.size;clear HM0;by_cases hlt:k<n
  ·obtain ⟨gb,go,rfl,_⟩:=hp.cell.resolve_left qA;have hkl:k<l.length:=by omega
   obtain ⟨x,hx⟩:∃x,l[k]? = some x:=⟨_,Ai hkl⟩;have hm:=A8 hx;have HD:=Ae fun W hW=>hdo.out W hW k x hx
   have hat:=(hp.keep HBr).at hlt;generalize p k=t at *;obtain ⟨e0,e1,e2,e3,e4,e5,e6,e7⟩:=hat;obtain ⟨w,rfl⟩:∃w:World,w=wr:=⟨_,rfl⟩;have HBw:=Ac w.heap.size w;have hbl:wo.heap.size<w.heap.size:=by obtain ⟨D,_,hD,_⟩:=hM.ex;exact hD.lt
   have hcx:=HX.out.1 x hm;have hkx:=HX.out.2 x hm;have hyk:∀y,Dj ((l.map f).take k) (f x).1=some y→By 1000000000 y:=fun y hy=>by
    have h1:=Ie (fun t ht=>HC.out t (List.mem_of_mem_take ht)) hy;exact By.mono h1.2 (by have h2:=nJ (l.map f) k (f x).1;have h3:=HW.out (f x).1;omega)
   have hfx:By 1000000000 (f x).2:=By.mono (Wv _) (by
    have h0:f x∈(l.map f).filter (fun t=>t.1=(f x).1):=List.mem_filter.2 ⟨List.mem_map_of_mem hm,by simp⟩;have h1:=zX h0;have h3:=HW.out (f x).1;unfold wtk at h3
    omega)
   have HN:=Ae (show Dj ((l.map f).take (k+1))=Gx (Dj ((l.map f).take k)) (f x) by
    have e:(l.map f).take (k+1)=(l.map f).take k++[f x]:=by
     rw [List.take_add_one,List.getElem?_map,hx];rfl
    rw [e,Lz])
   have HY:=Ae (Ay hyk hfx);have HCX:=Ae hcx;generalize f x=y at *;clear hx hyk hfx hcx hm;have T0:=Dh.new w t;go_wp2_with fail;refine (HD.out _ (HBr.trans (Below.mono qF HBr.size))).mono ?_;rintro e w5 ⟨s,rfl,hs,hrs,hs1,hs2,hap,hb5⟩;have T5:=T0.keep hb5;have hz5:=hb5.size;simp only [Aj] at hz5;obtain ⟨s0,s1,s2,s3,s4,s5,s6,s7,f0,f1,f2,f3,f4,f5,f6,f7⟩:=T5;have B5:=zI w hb5;have hsc:=hs.frac hrs HCX.out;have fe1:=hs1.mono (show w.heap.size+1≤_ by go_size);have fe2:=hs2.mono (show w.heap.size+1≤_ by go_size);have u:w.heap.size<w.heap.size+1:=by omega
   have hk5:w.heap.size<w5.heap.size:=by omega
   have hkey:=hs.key;clear hb5 T0;go_wp2_with fail;refine (fD w _ wo.heap.size k (wo.heap.size+1) (Dj ((l.map f).take k)) hM qF (Ag _) qA qA s.g1 s.a1 s.n1 s.c1 s.g2 s.a2 s.n2 s.c2 y.2 ⟨(hsc.top.set4 fe1 _ _ _ _ _ _ _ _ u u u u).set4 (fe1.set4 _ _ _ _ _ _ _ _ u u u u) _ _ _ _ _ _ _ _ u u u u,(hsc.low.set4 fe2 _ _ _ _ _ _ _ _ u u u u).set4 (fe2.set4 _ _ _ _ _ _ _ _ u u u u) _ _ _ _ _ _ _ _ u u u u,hsc.pos,hsc.red⟩ (((fe1.set4 _ _ _ _ _ _ _ _ u u u u).set4 _ _ _ _ _ _ _ _ u u u u).mono qA) (((fe2.set4 _ _ _ _ _ _ _ _ u u u u).set4 _ _ _ _ _ _ _ _ u u u u).mono qA) hap s.m0 s.m1 s.m2 s.m3 hrs.s0 hrs.s1 hrs.s2 hrs.s3 HY.out.2 (by rw [hkey];exact HY.out.1)).mono ?_;rintro e w6 ⟨rfl,hM6,hg6⟩;have HB6:Below wo.heap.size wo w6:=Below.grown (HBr.trans (Below.mono (by go_grown:Below w.heap.size w _) HBr.size)) hg6 qB (fun j hj=>by cases hj;exact Ad _);rw [hkey] at hM6;go_wp2_with fail;go_roundw
   case rel=>exact ⟨k+1,by omega,by go_num,by rw [HN.out];exact hM6,HB6⟩
   case measure=>(first|(simp [intOf];omega)|(simp [intOf];done))
  ·obtain rfl:k=n:=by omega
   have hM6:Dd wr wo.heap.size k (wo.heap.size+1) (Dj (l.map f)):=by
    have:=hM;rwa [As (by rw [List.length_map];omega)] at this
   have hbl:wo.heap.size<wr.heap.size:=by obtain ⟨D,_,hD,_⟩:=hM.ex;exact hD.lt
   have hkk:∀j x,Dj (l.map f) j=some x→j<18446744073709551616∧By 1000000 x:=fun j x hx=>by
    refine ⟨?_,By.mono (Ie HC.out hx).2 (by have:=HW.out j;omega)⟩;obtain ⟨t,ht,e⟩:=Sn hx;obtain ⟨z,hz,rfl⟩:=List.mem_map.1 ht;rw [←e];exact HX.out.2 z hz
   go_wp2_with fail;refine (fX _ wo.heap.size k (wo.heap.size+1) (Dj (l.map f)) hM6 qA qA hkk).mono ?_;rintro e w6 ⟨a6,n6,c6,r,rfl,hr,hro,hfr,hmr,hb6⟩;obtain rfl:=Lp HC.out hfr hmr;go_wp2_with fail;refine bodyPost_ret (v:=.slice a6 n6 c6) (by simp [results,Tryz.results37,go_sem]) rfl ?_;exact qCw
theorem nT (w:World) (t:Tm) (x:PT) (hrt:Ei w t) (hti:Ey t x) (hcx:CW x.2) (b:Nat) (g1:Bool) (a1:Γ) (n1 c1:Nat) (g2:Bool) (a2:Γ) (n2 c2:Nat) (y:PC) (hy:Bj w g1 a1 n1 c1 y.1 g2 a2 n2 c2 y.2)
  (h0:w.cell? ⟨b,0,none⟩=some (.bool g1)) (h1:w.cell? ⟨b,1,none⟩=some (.slice a1 n1 c1)) (h2:w.cell? ⟨b,2,none⟩=some (.bool g2)) (h3:w.cell? ⟨b,3,none⟩=some (.slice a2 n2 c2))
  (q1:t.n1≤1000000000) (q2:t.n2≤1000000000) (q3:n1≤1000000000) (q4:n2≤1000000000) :
  Θ 47 #[t.val,.pointer (some ⟨b,0,none⟩)] w (Sf w (x.1,Ca x.2 y)):=by
 have hx:=hti.frac hrt hcx;have HT:=Ae hti;have HRT:=Ae hrt;clear hti hrt;have hlt:b<w.heap.size:=Aa _ _ h0;have hlt1:b≠w.heap.size:=by omega
 have hlt2:b≠w.heap.size+1:=by omega
 have HB:=Ac w.heap.size w;go_enter Tryz.func47,Tryz.ntmps47;go_wp2_with fail;go_region_held3 (fun W=>W.cell? ⟨w.heap.size,0,none⟩=some (.bool t.g1)∧W.cell? ⟨w.heap.size,1,none⟩=some (.slice t.a1 t.n1 t.c1)∧W.cell? ⟨w.heap.size,2,none⟩=some (.bool t.g2)∧W.cell? ⟨w.heap.size,3,none⟩=some (.slice t.a2 t.n2 t.c2)∧W.cell? ⟨w.heap.size,4,none⟩=some (.int .u16 t.m0)∧W.cell? ⟨w.heap.size,5,none⟩=some (.int .u16 t.m1)∧W.cell? ⟨w.heap.size,6,none⟩=some (.int .u16 t.m2)∧W.cell? ⟨w.heap.size,7,none⟩=some (.int .u16 t.m3)∧W.cell? ⟨b,0,none⟩=some (.bool g1)∧W.cell? ⟨b,1,none⟩=some (.slice a1 n1 c1)∧W.cell? ⟨b,2,none⟩=some (.bool g2)∧W.cell? ⟨b,3,none⟩=some (.slice a2 n2 c2)) (first|((try dsimp only);(repeat' apply Ay);all_goals (first|(with_reducible assumption)|(go_keep;done)|(simp [*,go_sem];done)))) (first
  | (go_at_call 39;(with_reducible refine (I3 _ _ _ _ _ _ _ _ _ _ _ (hx.keep qF) _ _ _ _ _ _ _ _ _ _ (hy.keep qF) q1 q2 q3 q4).mono ?_);rintro e w4 ⟨gm1,am1,nm1,cm1,gm2,am2,nm2,cm2,rfl,hmul,hfm1,hfm2,hap,hb⟩;obtain ⟨hc,hf⟩:=Bl hb;have hz:=hb.size;(try simp only [Aj,Ak,Am] at hz);replace HB:=zI w hb;obtain ⟨s0_0,s0_1⟩:=qZ hc (w.heap.size) (.bool t.g1) (.slice t.a1 t.n1 t.c1);obtain ⟨s0_2,s0_3⟩:=zD hc (w.heap.size) (.bool t.g2) (.slice t.a2 t.n2 t.c2);have s0_4:=qX hc (w.heap.size) 4 (.int .u16 t.m0);have s0_5:=qX hc (w.heap.size) 5 (.int .u16 t.m1);have s0_6:=qX hc (w.heap.size) 6 (.int .u16 t.m2);have s0_7:=qX hc (w.heap.size) 7 (.int .u16 t.m3);obtain ⟨s1_0,s1_1⟩:=zE hc (w.heap.size+1);obtain ⟨s1_2,s1_3⟩:=zD hc (w.heap.size+1) (.bool false) (.slice none 0 0);have s1_4:=qX hc (w.heap.size+1) 4 (.int .u16 0);have s1_5:=qX hc (w.heap.size+1) 5 (.int .u16 0);have s1_6:=qX hc (w.heap.size+1) 6 (.int .u16 0);have s1_7:=qX hc (w.heap.size+1) 7 (.int .u16 0);obtain ⟨f1_0,f1_1⟩:=zF hf (w.heap.size+1);obtain ⟨f1_2,f1_3⟩:=zG hf (w.heap.size+1);have f1_4:=qY hf (w.heap.size+1) 4;have f1_5:=qY hf (w.heap.size+1) 5;have f1_6:=qY hf (w.heap.size+1) 6;have f1_7:=qY hf (w.heap.size+1) 7;have z0:w4.cell? ⟨b,0,none⟩=some (.bool g1):=(hc _ _ qB).trans qM;have z1:w4.cell? ⟨b,1,none⟩=some (.slice a1 n1 c1):=(hc _ _ qB).trans qM;have z2:w4.cell? ⟨b,2,none⟩=some (.bool g2):=(hc _ _ qB).trans qM;have z3:w4.cell? ⟨b,3,none⟩=some (.slice a2 n2 c2):=(hc _ _ qB).trans qM))
 go_wp2_with fail;have fe1:=hfm1.mono (show w.heap.size+1+1≤_ by go_size);have fe2:=hfm2.mono (show w.heap.size+1+1≤_ by go_size);have u:w.heap.size+1<w.heap.size+1+1:=by omega
 have hk1:w.heap.size+1<w4.heap.size:=by have:=hz;omega
 refine bodyPost_ret (v:=.agg #[.bool gm1,.slice am1 nm1 cm1,.bool gm2,.slice am2 nm2 cm2,.int .u16 t.m0,.int .u16 t.m1,.int .u16 t.m2,.int .u16 t.m3]) (by simp [*,results,Tryz.results47,go_sem]) rfl ?_;have hF:Bj w4 gm1 am1 nm1 cm1 (Ca x.2 y).1 gm2 am2 nm2 cm2 (Ca x.2 y).2:=hmul;refine ⟨⟨gm1,am1,nm1,cm1,dg (Ca x.2 y).1.natAbs,gm2,am2,nm2,cm2,dg (Ca x.2 y).2.natAbs,t.m0,t.m1,t.m2,t.m3⟩,rfl,⟨hF.top.neg,rfl,hF.low.neg,rfl,HT.out.key⟩,⟨?_,?_,HRT.out.s0,HRT.out.s1,HRT.out.s2,HRT.out.s3⟩,((fe1.set4 _ _ _ _ _ _ _ _ u u u u).set4 _ _ _ _ _ _ _ _ u u u u).mono qA,((fe2.set4 _ _ _ _ _ _ _ _ u u u u).set4 _ _ _ _ _ _ _ _ u u u u).mono qA,hap,by go_grown⟩
 ·exact Bh.rd (g:=gm1) (z:=(Ca x.2 y).1) ((hF.top.set4 fe1 _ _ _ _ _ _ _ _ u u u u).set4 (fe1.set4 _ _ _ _ _ _ _ _ u u u u) _ _ _ _ _ _ _ _ u u u u)
 ·exact Bh.rd (g:=gm2) (z:=(Ca x.2 y).2) ((hF.low.set4 fe2 _ _ _ _ _ _ _ _ u u u u).set4 (fe2.set4 _ _ _ _ _ _ _ _ u u u u) _ _ _ _ _ _ _ _ u u u u)
theorem Jf {P:Program} {f:FuncId} {fn:Func} {c:Code} (hf:P.funcs[f]? = some fn) (hname:(fn.name == "runtime.NumGoroutine")=false) (hb:fn.body=some c) (args:Array Value) (w:World) :
  (callFunc f args).run P w=.ok (.enter f args) w:=by
 have h1:fn.name ≠ "runtime.NumGoroutine" := by simpa using hname
 simp [callFunc,hf,h1,hb]
theorem Wb (w:World) (B:Nat) (a:Γ) (n c:Nat) (l:Δ) (h:Bd w B a n c l) (hl:PW l) (K:Nat) (hK:Cj K l) (hK1:K≤1000000) (hn:n≤400000)
  (g1:Bool) (a1:Γ) (n1 c1:Nat) (g2:Bool) (a2:Γ) (n2 c2:Nat) (y:PC) (hy:l≠[]→Bj w g1 a1 n1 c1 y.1 g2 a2 n2 c2 y.2) (q3:n1≤1000000000) (q4:n2≤1000000000) (hw:∀k,wtk (Gh y l) k≤400000) :
  Θ 13 #[.slice a n c,.agg #[.bool g1,.slice a1 n1 c1,.bool g2,.slice a2 n2 c2]] w (Cl w (Nz y l)):=by
 obtain ⟨p,hp,hpx⟩:=h.ts;have hok:=h.pok hl hp hpx;have hpf:=h.few hK hp hpx;have hyc:∀x,x∈l→CW y:=fun x hx=>⟨(hy (List.ne_nil_of_mem hx)).pos,(hy (List.ne_nil_of_mem hx)).red⟩
 have HY:=Ae hy;have HYC:=Ae hyc;have P1:=Ae hok;have P3:Hid (∀k,k<n→(p k).n1≤1000000∧(p k).n2≤1000000):=Ae fun k hk=>by have:=hpf k hk;omega
 have P5:=Ae hpx;have P6:=Ae hw;have P7:=Ae hl;clear hok hpf hpx hw hy hyc;go_enter Tryz.func13,Tryz.ntmps13;go_wp2_with fail;refine (Lk _ a n c p (hp.keep qF) P3.out true ⟨fun _=>rfl,fun _=>P1.out⟩).mono ?_;rintro e w1 ⟨rfl,hb1⟩;have B1:Below w.heap.size w w1:=Al qF (hb1.mono qG);have z0:w1.cell? ⟨w.heap.size,0,none⟩=some (.bool g1):=(hb1.cell qG).trans qL;have z1:w1.cell? ⟨w.heap.size,1,none⟩=some (.slice a1 n1 c1):=(hb1.cell qG).trans qL;have z2:w1.cell? ⟨w.heap.size,2,none⟩=some (.bool g2):=(hb1.cell qG).trans qL;have z3:w1.cell? ⟨w.heap.size,3,none⟩=some (.slice a2 n2 c2):=(hb1.cell qG).trans qL;go_wp2_with fail;refine (Wh w1 a n c p (hp.keep B1) l h.len 47 #[.pointer (some ⟨w.heap.size,0,none⟩)] (fun t=>(t.1,Ca t.2 y)) (Jf Tryz.func47 qC rfl) (Ae fun W hW k x hx=>?_) (fun x hx=>(P7.out.good x hx).1.mul (HYC.out x hx)) (fun x hx=>P7.out.key x hx) P6.out hn).mono ?_
 ·have hk:k<n:=by have:=(List.getElem?_eq_some_iff.1 hx).1;have:=h.len;omega
  have hm:=A8 hx;have hq:=P3.out k hk;exact nT W (p k) x (((hp.tm k hk).keep B1).keep hW) (P5.out k x hx).1 (P7.out.good x hm).1 w.heap.size g1 a1 n1 c1 g2 a2 n2 c2 y (((HY.out (List.ne_nil_of_mem hm)).keep B1).keep hW) (Bc hW z0) (Bc hW z1) (Bc hW z2) (Bc hW z3) qA qA q3 q4
 rintro e w2 ⟨a2,n2,c2,rfl,P2,PO,hb2⟩;go_wp2_with fail;refine bodyPost_ret (v:=.slice a2 n2 c2) (by simp [results,Tryz.results13,go_sem]) rfl ?_;exact qCp
theorem Ld (w:World) (x y s:Nat) (hs:s=x+y) (hx:x<65536) (hy:y<65536):Θ 101 #[.int .i64 x,.int .i64 y] w (fun e w'=>e=.returned (.int .i64 s)∧w=w'):=by
 have HS:=Ae hs;clear hs;go_enter Tryz.func101,Tryz.ntmps101;go_wp2_with fail;go_ret;exact ⟨by rw [HS.out];simp,rfl⟩
def Q2 (k j s:Nat):Nat:=if j<k then s else 0
theorem Aa3 (w:World) (a0 a1 a2 a3 b0 b1 b2 b3 s0 s1 s2 s3:Nat) (z0:s0=a0+b0) (z1:s1=a1+b1) (z2:s2=a2+b2) (z3:s3=a3+b3) (h0:s0<65536) (h1:s1<65536) (h2:s2<65536) (h3:s3<65536) :
  Θ 100 #[Da a0 a1 a2 a3,Da b0 b1 b2 b3,.func (.func 101) #[] #[]] w (fun e w'=>e=.returned (.tuple #[Da s0 s1 s2 s3,.bool true])∧Below w.heap.size w w'):=by
 have Z0:=Ae z0;have Z1:=Ae z1;have Z2:=Ae z2;have Z3:=Ae z3;have wa0:IntKind.i64.wrap (a0:Int)=a0:=IntWalk.i64_in _ qA;have wb0:IntKind.i64.wrap (b0:Int)=b0:=IntWalk.i64_in _ qA;have wa1:IntKind.i64.wrap (a1:Int)=a1:=IntWalk.i64_in _ qA;have wb1:IntKind.i64.wrap (b1:Int)=b1:=IntWalk.i64_in _ qA;have wa2:IntKind.i64.wrap (a2:Int)=a2:=IntWalk.i64_in _ qA;have wb2:IntKind.i64.wrap (b2:Int)=b2:=IntWalk.i64_in _ qA;have wa3:IntKind.i64.wrap (a3:Int)=a3:=IntWalk.i64_in _ qA;have wb3:IntKind.i64.wrap (b3:Int)=b3:=IntWalk.i64_in _ qA;clear z0 z1 z2 z3;go_enter Tryz.func100,Tryz.ntmps100;go_wp2_with fail;go_loopw [10] (fun v wr=>∃k:Nat,k≤4∧v=.int .i64 k∧wr.cell? ⟨w.heap.size,0,none⟩=some (.int .u16 (a0:Nat))∧wr.cell? ⟨w.heap.size,1,none⟩=some (.int .u16 (a1:Nat))∧wr.cell? ⟨w.heap.size,2,none⟩=some (.int .u16 (a2:Nat))∧wr.cell? ⟨w.heap.size,3,none⟩=some (.int .u16 (a3:Nat))∧wr.cell? ⟨w.heap.size+1,0,none⟩=some (.int .u16 (b0:Nat))∧wr.cell? ⟨w.heap.size+1,1,none⟩=some (.int .u16 (b1:Nat))∧wr.cell? ⟨w.heap.size+1,2,none⟩=some (.int .u16 (b2:Nat))∧wr.cell? ⟨w.heap.size+1,3,none⟩=some (.int .u16 (b3:Nat))∧wr.cell? ⟨w.heap.size+1+1,0,none⟩=some (.int .u16 (Q2 k 0 s0:Nat))∧wr.cell? ⟨w.heap.size+1+1,1,none⟩=some (.int .u16 (Q2 k 1 s1:Nat))∧wr.cell? ⟨w.heap.size+1+1,2,none⟩=some (.int .u16 (Q2 k 2 s2:Nat))∧wr.cell? ⟨w.heap.size+1+1,3,none⟩=some (.int .u16 (Q2 k 3 s3:Nat))∧wr.frozen? ⟨w.heap.size+1+1,0,none⟩=false∧wr.frozen? ⟨w.heap.size+1+1,1,none⟩=false∧wr.frozen? ⟨w.heap.size+1+1,2,none⟩=false∧wr.frozen? ⟨w.heap.size+1+1,3,none⟩=false∧w.heap.size+1+1<wr.heap.size∧Below w.heap.size w wr) (fun v _=>4-(intOf v).toNat)
 case atStart=>exact ⟨0,by omega,rfl,by simp [go_sem],by simp [go_sem],by simp [go_sem],by simp [go_sem],by simp [go_sem],by simp [go_sem],by simp [go_sem],by simp [go_sem],by simp [go_sem,Q2],by simp [go_sem,Q2],by simp [go_sem,Q2],by simp [go_sem,Q2],by simp [go_sem],by simp [go_sem],by simp [go_sem],by simp [go_sem],by simp,by go_grown⟩
 case round =>
  obtain ⟨k,hk,rfl,A0,A1,A2,A3,B0,B1,B2,B3,O0,O1,O2,O3,F0,F1,F2,F3,hsz,HBr⟩:=hrel;rcases (by omega:k=0∨k=1∨k=2∨k=3∨k=4) with rfl|rfl|rfl|rfl|rfl
  ·
   change wr.cell? ⟨w.heap.size+1+1,0,none⟩=some (.int .u16 ((0:Nat):Int)) at O0
   change wr.cell? ⟨w.heap.size+1+1,1,none⟩=some (.int .u16 ((0:Nat):Int)) at O1
   change wr.cell? ⟨w.heap.size+1+1,2,none⟩=some (.int .u16 ((0:Nat):Int)) at O2
   change wr.cell? ⟨w.heap.size+1+1,3,none⟩=some (.int .u16 ((0:Nat):Int)) at O3
   go_wp2_with fail;go_quiet (((first|(go_at_call 101;exact Ga (Ld _ a0 b0 s0 Z0.out (by have:=Z0.out;omega) (by have:=Z0.out;omega)))|(go_at_call 101;exact E8 (Ld _ a0 b0 s0 Z0.out (by have:=Z0.out;omega) (by have:=Z0.out;omega))))));have HD:=Bu nq HBr;go_wp2_with fail;go_roundw
   case rel =>
    refine ⟨1,by omega,by first|rfl|go_num,?_,?_,?_,?_,?_,?_,?_,?_,?_,?_,?_,?_,?_,?_,?_,?_,by simpa using hsz,by go_grown⟩;all_goals first|assumption|(simp [*,go_sem,Q2];done)
   case measure=>simp [intOf]
  ·
   change wr.cell? ⟨w.heap.size+1+1,0,none⟩=some (.int .u16 ((s0:Nat):Int)) at O0
   change wr.cell? ⟨w.heap.size+1+1,1,none⟩=some (.int .u16 ((0:Nat):Int)) at O1
   change wr.cell? ⟨w.heap.size+1+1,2,none⟩=some (.int .u16 ((0:Nat):Int)) at O2
   change wr.cell? ⟨w.heap.size+1+1,3,none⟩=some (.int .u16 ((0:Nat):Int)) at O3
   go_wp2_with fail;go_quiet (((first|(go_at_call 101;exact Ga (Ld _ a1 b1 s1 Z1.out (by have:=Z1.out;omega) (by have:=Z1.out;omega)))|(go_at_call 101;exact E8 (Ld _ a1 b1 s1 Z1.out (by have:=Z1.out;omega) (by have:=Z1.out;omega))))));have HD:=Bu nq HBr;go_wp2_with fail;go_roundw
   case rel =>
    refine ⟨2,by omega,by first|rfl|go_num,?_,?_,?_,?_,?_,?_,?_,?_,?_,?_,?_,?_,?_,?_,?_,?_,by simpa using hsz,by go_grown⟩;all_goals first|assumption|(simp [*,go_sem,Q2];done)
   case measure=>simp [intOf]
  ·
   change wr.cell? ⟨w.heap.size+1+1,0,none⟩=some (.int .u16 ((s0:Nat):Int)) at O0
   change wr.cell? ⟨w.heap.size+1+1,1,none⟩=some (.int .u16 ((s1:Nat):Int)) at O1
   change wr.cell? ⟨w.heap.size+1+1,2,none⟩=some (.int .u16 ((0:Nat):Int)) at O2
   change wr.cell? ⟨w.heap.size+1+1,3,none⟩=some (.int .u16 ((0:Nat):Int)) at O3
   go_wp2_with fail;go_quiet (((first|(go_at_call 101;exact Ga (Ld _ a2 b2 s2 Z2.out (by have:=Z2.out;omega) (by have:=Z2.out;omega)))|(go_at_call 101;exact E8 (Ld _ a2 b2 s2 Z2.out (by have:=Z2.out;omega) (by have:=Z2.out;omega))))));have HD:=Bu nq HBr;go_wp2_with fail;go_roundw
   case rel =>
    refine ⟨3,by omega,by first|rfl|go_num,?_,?_,?_,?_,?_,?_,?_,?_,?_,?_,?_,?_,?_,?_,?_,?_,by simpa using hsz,by go_grown⟩;all_goals first|assumption|(simp [*,go_sem,Q2];done)
   case measure=>simp [intOf]
  ·
   change wr.cell? ⟨w.heap.size+1+1,0,none⟩=some (.int .u16 ((s0:Nat):Int)) at O0
   change wr.cell? ⟨w.heap.size+1+1,1,none⟩=some (.int .u16 ((s1:Nat):Int)) at O1
   change wr.cell? ⟨w.heap.size+1+1,2,none⟩=some (.int .u16 ((s2:Nat):Int)) at O2
   change wr.cell? ⟨w.heap.size+1+1,3,none⟩=some (.int .u16 ((0:Nat):Int)) at O3
   go_wp2_with fail;go_quiet (((first|(go_at_call 101;exact Ga (Ld _ a3 b3 s3 Z3.out (by have:=Z3.out;omega) (by have:=Z3.out;omega)))|(go_at_call 101;exact E8 (Ld _ a3 b3 s3 Z3.out (by have:=Z3.out;omega) (by have:=Z3.out;omega))))));have HD:=Bu nq HBr;go_wp2_with fail;go_roundw
   case rel =>
    refine ⟨4,by omega,by first|rfl|go_num,?_,?_,?_,?_,?_,?_,?_,?_,?_,?_,?_,?_,?_,?_,?_,?_,by simpa using hsz,by go_grown⟩;all_goals first|assumption|(simp [*,go_sem,Q2];done)
   case measure=>simp [intOf]
  ·
   change wr.cell? ⟨w.heap.size+1+1,0,none⟩=some (.int .u16 ((s0:Nat):Int)) at O0
   change wr.cell? ⟨w.heap.size+1+1,1,none⟩=some (.int .u16 ((s1:Nat):Int)) at O1
   change wr.cell? ⟨w.heap.size+1+1,2,none⟩=some (.int .u16 ((s2:Nat):Int)) at O2
   change wr.cell? ⟨w.heap.size+1+1,3,none⟩=some (.int .u16 ((s3:Nat):Int)) at O3
   go_wp2_with fail;refine bodyPost_ret (v:=.tuple #[Da s0 s1 s2 s3,.bool true]) (by simp [*,results,Tryz.results100,go_sem]) rfl ⟨rfl,by go_grown⟩
theorem lI (w:World) (a0 a1 a2 a3 b0 b1 b2 b3 s0 s1 s2 s3:Nat) (z0:s0=a0+b0) (z1:s1=a1+b1) (z2:s2=a2+b2) (z3:s3=a3+b3) (h0:s0<65536) (h1:s1<65536) (h2:s2<65536) (h3:s3<65536) :
  Θ 42 #[Da a0 a1 a2 a3,Da b0 b1 b2 b3] w (fun e w'=>e=.returned (.tuple #[Da s0 s1 s2 s3,.int .i64 0])∧Below w.heap.size w w'):=by
 have hE:=fun W=>Aa3 W a0 a1 a2 a3 b0 b1 b2 b3 s0 s1 s2 s3 z0 z1 z2 z3 h0 h1 h2 h3
 have HE:=Ae hE;clear hE z0 z1 z2 z3;go_enter Tryz.func42,Tryz.ntmps42;go_wp2_with fail;refine (HE.out _).mono ?_;rintro e w1 ⟨rfl,hb1⟩;obtain ⟨hc,hf⟩:=Bl hb1;have hz:=hb1.size;(try simp only [Aj,Ak] at hz);have s0_:w1.cell? ⟨w.heap.size+1+1,0,none⟩=some (.int .u16 0):=(hc _ _ qB).trans qL;have f0_:w1.frozen? ⟨w.heap.size+1+1,0,none⟩=false:=(hf _ _ qB).trans qL;have s1_:w1.cell? ⟨w.heap.size+1+1,1,none⟩=some (.int .u16 0):=(hc _ _ qB).trans qL;have f1_:w1.frozen? ⟨w.heap.size+1+1,1,none⟩=false:=(hf _ _ qB).trans qL;have s2_:w1.cell? ⟨w.heap.size+1+1,2,none⟩=some (.int .u16 0):=(hc _ _ qB).trans qL;have f2_:w1.frozen? ⟨w.heap.size+1+1,2,none⟩=false:=(hf _ _ qB).trans qL;have s3_:w1.cell? ⟨w.heap.size+1+1,3,none⟩=some (.int .u16 0):=(hc _ _ qB).trans qL;have f3_:w1.frozen? ⟨w.heap.size+1+1,3,none⟩=false:=(hf _ _ qB).trans qL;have B1:=zI w hb1;have hk:w.heap.size+1+1<w1.heap.size:=by omega
 clear hc hf hb1;go_wp2_with fail;refine bodyPost_ret (v:=.tuple #[Da s0 s1 s2 s3,.int .i64 0]) (by simp [*,results,Tryz.results42,go_sem]) rfl ⟨rfl,by go_grown⟩
structure B4 (w:World) (b:Nat) (v0 v1 v2 v3:Value):Prop where
 c0:w.cell? ⟨b,0,none⟩=some v0
 c1:w.cell? ⟨b,1,none⟩=some v1
 c2:w.cell? ⟨b,2,none⟩=some v2
 c3:w.cell? ⟨b,3,none⟩=some v3
 f0:w.frozen? ⟨b,0,none⟩=false
 f1:w.frozen? ⟨b,1,none⟩=false
 f2:w.frozen? ⟨b,2,none⟩=false
 f3:w.frozen? ⟨b,3,none⟩=false
structure B1 (w:World) (b:Nat) (v:Value):Prop where
 c0:w.cell? ⟨b,0,none⟩=some v
 f0:w.frozen? ⟨b,0,none⟩=false
section
variable {w w':World} {b:Nat} {v v0 v1 v2 v3:Value}
theorem B4.lt (h:B4 w b v0 v1 v2 v3):b<w.heap.size:=Aa _ _ h.c0
theorem B1.lt (h:B1 w b v):b<w.heap.size:=Aa _ _ h.c0
theorem B4.keep (h:B4 w b v0 v1 v2 v3) (hb:Below w.heap.size w w'):B4 w' b v0 v1 v2 v3:=by
 have f:∀i,w.frozen? ⟨b,i,none⟩=false→w'.frozen? ⟨b,i,none⟩=false:=fun i e=>(hb.frozen h.lt).trans e
 exact ⟨Bc hb h.c0,Bc hb h.c1,Bc hb h.c2,Bc hb h.c3,f _ h.f0,f _ h.f1,f _ h.f2,f _ h.f3⟩
theorem B1.keep (h:B1 w b v) (hb:Below w.heap.size w w'):B1 w' b v:=⟨Bc hb h.c0,(hb.frozen h.lt).trans h.f0⟩
theorem B4.far (h:B4 w b v0 v1 v2 v3) (p:Addr) (u:Value) (hp:p.block≠b):B4 (w.setCell p u) b v0 v1 v2 v3 :=
 ⟨(A6 _ _ _ _ hp).trans h.c0,(A6 _ _ _ _ hp).trans h.c1,(A6 _ _ _ _ hp).trans h.c2,(A6 _ _ _ _ hp).trans h.c3,
  by rw [World.frozen?_setCell];exact h.f0,by rw [World.frozen?_setCell];exact h.f1,by rw [World.frozen?_setCell];exact h.f2,by rw [World.frozen?_setCell];exact h.f3⟩
theorem B1.row {row:Option Nat} (h:B1 w b v) (hg:w.grownBy w' row) (hr:some b≠row):B1 w' b v:=⟨hg.cell h.c0 hr,(hg.frozen_far _ h.lt hr).trans h.f0⟩
theorem Dh.row {t:Tm} {row:Option Nat} (h:Dh w b t) (hg:w.grownBy w' row) (hr:some b≠row):Dh w' b t :=
 ⟨hg.cell h.c0 hr,hg.cell h.c1 hr,hg.cell h.c2 hr,hg.cell h.c3 hr,hg.cell h.c4 hr,hg.cell h.c5 hr,hg.cell h.c6 hr,hg.cell h.c7 hr,(hg.frozen_far _ h.lt hr).trans h.f0,(hg.frozen_far _ h.lt hr).trans h.f1,(hg.frozen_far _ h.lt hr).trans h.f2,(hg.frozen_far _ h.lt hr).trans h.f3,(hg.frozen_far _ h.lt hr).trans h.f4,(hg.frozen_far _ h.lt hr).trans h.f5,(hg.frozen_far _ h.lt hr).trans h.f6,(hg.frozen_far _ h.lt hr).trans h.f7⟩
theorem B4.set (h:B4 w b v0 v1 v2 v3) (u0 u1 u2 u3:Value):B4 ((((w.setCell ⟨b,0,none⟩ u0).setCell ⟨b,1,none⟩ u1).setCell ⟨b,2,none⟩ u2).setCell ⟨b,3,none⟩ u3) b u0 u1 u2 u3:=by
 obtain ⟨c0,c1,c2,c3,f0,f1,f2,f3⟩:=h;constructor<;>simp [*,go_sem]
theorem B1.set (h:B1 w b v) (u:Value):B1 (w.setCell ⟨b,0,none⟩ u) b u:=by
 obtain ⟨c0,f0⟩:=h;constructor<;>simp [*,go_sem]
theorem Gu {B:Nat} {w0:World} (h:Below B w0 w) (hB:B≤b) (u0 u1 u2 u3:Value):Below B w0 ((((w.setCell ⟨b,0,none⟩ u0).setCell ⟨b,1,none⟩ u1).setCell ⟨b,2,none⟩ u2).setCell ⟨b,3,none⟩ u3) :=
 (((h.setCell (p:=⟨b,0,none⟩) hB _).setCell (p:=⟨b,1,none⟩) hB _).setCell (p:=⟨b,2,none⟩) hB _).setCell (p:=⟨b,3,none⟩) hB _
end
end Go.Proofs.YtnnhcbeiogaknaaGreatDoor
end
