/- Plain: any terms put together as one sum, and how many parts their numbers have. -/
import Derived.Test.YtnnhcbeiogaknaaGreatDoorQT16
set_option linter.unusedSimpArgs false
set_option linter.unusedVariables false
set_option maxRecDepth 100000
set_option maxHeartbeats 4000000
section
namespace Go.Proofs.YtnnhcbeiogaknaaGreatDoor
open Go.RowKit
def Ol (t:PT):List PT→List PT
 | []=>if t.2.1=0 then [] else [t]
 | x::l =>
  if x.1<t.1 then (if t.2.1=0 then x::l else t::x::l)
  else if x.1=t.1 then (if (Ll x.2 t.2).1=0 then l else (x.1,Ll x.2 t.2)::l)
  else x::Ol t l
def Kk (L:List PT):List PT:=L.foldl (fun a t=>Ol t a) []
def cf (l:List PT) (k:Nat):PC:=(lk l k).getD (0,1)
theorem CW.zero {c:PC} (h:CW c) (h0:c.1=0):c=(0,1):=by
 obtain ⟨a,b⟩:=c;have h1:=h.pos;have h2:=h.red;simp only at h0 h1 h2;subst h0;rw [Int.gcd_zero_left] at h2
 congr 1
 omega
theorem Nz {c:PC} (h:CW c):Ll (0,1) c=c:=by
 unfold Ll;simp only [Int.zero_mul,Int.zero_add,Int.mul_one,Int.one_mul];rw [Vy h.red,Uq h.red]
theorem cK {l:List PT} (hg:Jk l) {k:Nat} {c:PC}:lk l k=some c↔cf l k=c∧c.1≠0:=by
 unfold cf
 cases h:lk l k with
 | none =>
  simp only [Option.getD_none,reduceCtorEq,false_iff,not_and,Decidable.not_not];rintro rfl;rfl
 | some d =>
  simp only [Option.getD_some,Option.some.injEq];exact ⟨fun e=>⟨e,by subst e;exact (hg _ (Id h)).2⟩,fun e=>e.1⟩
theorem uE {l l':List PT} (hf:Cx l) (hg:Jk l) (hf':Cx l') (hg':Jk l') (h:∀k,cf l k=cf l' k):l=l' :=
 Kx hf hf' fun t=>by
  obtain ⟨k,c⟩:=t;have e1:(k,c)∈l↔lk l k=some c:=⟨Iw hf,Id⟩;have e2:(k,c)∈l'↔lk l' k=some c:=⟨Iw hf',Id⟩;rw [e1,e2,cK hg,cK hg',h]
theorem I9 (x:PT) (l:List PT) (k:Nat):cf (x::l) k=if x.1=k then x.2 else cf l k:=by
 unfold cf;rw [Ji]
 split<;>rfl
theorem jP (k:Nat):cf [] k=(0,1):=rfl
theorem Sc {l:List PT} {k:Nat} (h:∀t∈l,t.1<k):cf l k=(0,1):=by unfold cf;rw [Ik h];rfl
theorem fJ (t:PT) (l:List PT):∀x∈Ol t l,x.1=t.1∨∃y∈l,y.1=x.1:=by
 induction l with
 | nil=>intro x hx;unfold Ol at hx;split at hx<;>simp_all
 | cons y l ih =>
  intro x hx;unfold Ol at hx
  split at hx
  ·split at hx
   ·exact .inr ⟨x,hx,rfl⟩
   ·rcases List.mem_cons.1 hx with rfl|hx
    ·exact .inl rfl
    ·exact .inr ⟨x,hx,rfl⟩
  ·split at hx
   ·split at hx
    ·exact .inr ⟨x,by simp [hx],rfl⟩
    ·rcases List.mem_cons.1 hx with rfl|hx
     ·exact .inr ⟨y,by simp,rfl⟩
     ·exact .inr ⟨x,by simp [hx],rfl⟩
   ·rcases List.mem_cons.1 hx with rfl|hx
    ·exact .inr ⟨x,by simp,rfl⟩
    ·rcases ih x hx with h|⟨z,hz,e⟩
     ·exact .inl h
     ·exact .inr ⟨z,by simp [hz],e⟩
theorem fE (t:PT) (ht:CW t.2) (l:List PT) (hf:Cx l) (hg:Jk l) :
  Cx (Ol t l)∧Jk (Ol t l)∧∀k,cf (Ol t l) k=if t.1=k then Ll (cf l k) t.2 else cf l k:=by
 induction l with
 | nil =>
  unfold Ol
  split
  ·next h=>exact ⟨hf,hg,fun k=>by rw [jP,Nz ht,ht.zero h];split<;>rfl⟩
  ·next h =>
   refine ⟨by simp [Cx],fun x hx=>?_,fun k=>?_⟩
   ·simp only [Ao] at hx;subst hx;exact ⟨ht,h⟩
   ·rw [I9,jP,Nz ht]
 | cons x l ih =>
  obtain ⟨h1,h2⟩:=List.pairwise_cons.1 hf;have hgl:Jk l:=fun y hy=>hg y (by simp [hy])
  obtain ⟨i1,i2,i3⟩:=ih h2 hgl;unfold Ol
  split
  ·next hlt =>
   have habove:∀y∈x::l,y.1<t.1:=fun y hy=>by
    rcases List.mem_cons.1 hy with rfl|hy
    ·exact hlt
    ·have:=h1 y hy;omega
   split
   ·next h0 =>
    refine ⟨hf,hg,fun k=>?_⟩
    split
    ·next e=>subst e;rw [Sc habove,Nz ht,ht.zero h0]
    ·rfl
   ·next h0 =>
    refine ⟨List.pairwise_cons.2 ⟨habove,hf⟩,fun y hy=>?_,fun k=>?_⟩
    ·rcases List.mem_cons.1 hy with rfl|hy
     ·exact ⟨ht,h0⟩
     ·exact hg y hy
    ·rw [I9 t]
     split
     ·next e=>subst e;rw [Sc habove,Nz ht]
     ·rfl
  ·next hnlt =>
   split
   ·next he =>
    have hx:=hg x qG;have habove:∀y∈l,y.1<t.1:=fun y hy=>by have:=h1 y hy;omega
    split
    ·next h0 =>
     refine ⟨h2,hgl,fun k=>?_⟩;rw [I9];by_cases e:t.1=k
     ·subst e;rw [if_pos rfl,if_pos he,Sc habove,(hx.1.add ht).zero h0]
     ·rw [if_neg e,if_neg qA]
    ·next h0 =>
     refine ⟨List.pairwise_cons.2 ⟨h1,h2⟩,fun y hy=>?_,fun k=>?_⟩
     ·rcases List.mem_cons.1 hy with rfl|hy
      ·exact ⟨hx.1.add ht,h0⟩
      ·exact hgl y hy
     ·rw [I9,I9];by_cases e:t.1=k
      ·rw [if_pos e,if_pos (by show x.1=k;omega),if_pos qA]
      ·rw [if_neg e,if_neg (by show ¬x.1=k;omega),if_neg qA]
   ·next hne =>
    refine ⟨List.pairwise_cons.2 ⟨fun y hy=>?_,i1⟩,fun y hy=>?_,fun k=>?_⟩
    ·rcases fJ t l y hy with e|⟨z,hz,e⟩
     ·omega
     ·have:=h1 z hz;omega
    ·rcases List.mem_cons.1 hy with rfl|hy
     ·exact hg y qG
     ·exact i2 y hy
    ·rw [I9,I9,i3];by_cases e:x.1=k
     ·rw [if_pos e,if_pos e,if_neg qA]
     ·rw [if_neg e,if_neg e]
theorem Y3 (L:List PT) (hL:∀t∈L,CW t.2):∀(a:List PT),Cx a→Jk a→∀f:Nat→Option PC,(∀k,(f k).getD (0,1)=cf a k) →
  Cx (L.foldl (fun a t=>Ol t a) a)∧Jk (L.foldl (fun a t=>Ol t a) a)∧∀k,(L.foldl Gy f k).getD (0,1)=cf (L.foldl (fun a t=>Ol t a) a) k:=by
 induction L with
 | nil=>intro a h1 h2 f hf;exact ⟨h1,h2,hf⟩
 | cons t L ih =>
  intro a h1 h2 f hf;have ht:=hL t qG;obtain ⟨s1,s2,s3⟩:=fE t ht a h1 h2;refine ih (fun x hx=>hL x (by simp [hx])) _ s1 s2 _ fun k=>?_
  rw [s3,Gy];by_cases e:k=t.1
  ·subst e;rw [if_pos rfl,if_pos rfl,←hf]
   cases f t.1 with
   | none=>simp [Nz ht]
   | some c=>rfl
  ·rw [if_neg e,if_neg qA,hf]
theorem Oi {L:List PT} (hL:∀t∈L,CW t.2):Cx (Kk L)∧Jk (Kk L)∧∀k,(Dl L k).getD (0,1)=cf (Kk L) k :=
 Y3 L hL [] (by simp [Cx]) (fun x hx=>by cases hx) _ fun k=>rfl
theorem Rc {L:List PT} {k:Nat} {x:PC} (h:Dl L k=some x):∃t∈L,t.1=k:=by
 have hi:∀(L:List PT) (f:Nat→Option PC),L.foldl Gy f k=some x→(∃t∈L,t.1=k)∨f k=some x:=by
  intro L
  induction L with
  | nil=>intro f h;exact .inr h
  | cons t L ih =>
   intro f h;rcases ih _ h with ⟨y,hy,e⟩|h
   ·exact .inl ⟨y,by simp [hy],e⟩
   ·unfold Gy at h;by_cases e:k=t.1
    ·exact .inl ⟨t,by simp,e.symm⟩
    ·rw [if_neg e] at h;exact .inr h
 rcases hi L _ h with h|h
 ·exact h
 ·cases h
theorem Kr {L r:List PT} (hL:∀t∈L,CW t.2) (hr:Cx r) (hm:∀t,t∈r↔(Dl L t.1=some t.2∧t.2.1≠0)):r=Kk L:=by
 obtain ⟨s1,s2,s3⟩:=Oi hL;refine Kx hr s1 fun t=>?_
 obtain ⟨k,c⟩:=t;have e1:(k,c)∈Kk L↔lk (Kk L) k=some c:=⟨Iw s1,Id⟩;rw [hm,e1,cK s2,←s3];show Dl L k=some c∧c.1≠0↔_
 cases h:Dl L k with
 | none =>
  simp only [reduceCtorEq,false_and,Option.getD_none,false_iff,not_and,Decidable.not_not];rintro rfl;rfl
 | some d=>simp
theorem On {l:List PT} (h:PW l):Kk l=l:=by
 have hc:∀t∈l,CW t.2:=fun t ht=>(h.good t ht).1
 obtain ⟨s1,s2,s3⟩:=Oi hc;refine uE s1 s2 h.falls h.good fun k=>?_
 rw [←s3];unfold Dl cf;rw [Oa l h.falls]
 cases lk l k<;>rfl
theorem Xx {a b:List PT} (ha:PW a) (hb:PW b):Kk (a++b)=Cr a b:=by
 have hc:∀t∈a++b,CW t.2:=fun t ht=>by
  rcases List.mem_append.1 ht with h|h
  ·exact (ha.good t h).1
  ·exact (hb.good t h).1
 obtain ⟨s1,s2,s3⟩:=Oi hc;refine Qm ha hb s1 fun t=>?_
 obtain ⟨k,c⟩:=t;have e1:(k,c)∈Kk (a++b)↔lk (Kk (a++b)) k=some c:=⟨Iw s1,Id⟩;rw [e1,cK s2,←s3];show _↔Dl (a++b) k=some c∧c.1≠0
 cases h:Dl (a++b) k with
 | none =>
  simp only [reduceCtorEq,false_and,Option.getD_none,iff_false,not_and,Decidable.not_not];rintro rfl;rfl
 | some d=>simp
theorem nJ (n:Nat):(dg n).length≤n.log2/29+1:=by
 induction n using Nat.strongRecOn with
 | _ n ih =>
  by_cases h0:n=0
  ·subst h0;rw [C9];simp
  ·rw [Ij qA,List.length_cons];by_cases h1:n<1000000000
   ·rw [Nat.div_eq_of_lt h1,C9];simp
   ·have h2:=ih (n/1000000000) (Nat.div_lt_self qA qA);have h3:n/1000000000≠0:=by have:=Nat.div_pos (show 1000000000≤n by omega) qA;omega
    have h4:(n/1000000000).log2+29≤n.log2:=by
     rw [Nat.le_log2 h0,Nat.pow_add];have h5:=Nat.log2_self_le h3;have h6:(2:Nat) ^ 29≤1000000000:=by decide
     exact Ah (Nat.mul_le_mul h5 h6) (Nat.div_mul_le_self n 1000000000)
    omega
def nP (c:PC):Nat:=max (c.1.natAbs.log2/29) (c.2.natAbs.log2/29)+1
theorem Nm (c:PC):Ca (nP c) c:=⟨Ah (nJ _) (by unfold nP;omega),Ah (nJ _) (by unfold nP;omega)⟩
def pC (c:PC):Nat:=max (dg c.1.natAbs).length (dg c.2.natAbs).length
theorem Vf (c:PC):Ca (pC c) c:=⟨Nat.le_max_left _ _,Nat.le_max_right _ _⟩
theorem zO {K:Nat} {c:PC} (h:Ca K c):pC c≤K:=Nat.max_le.2 h
def wt (L:List PT):Nat:=(L.map fun t=>pC t.2+1).sum
theorem Mz (t:PT) (L:List PT):wt (t::L)=pC t.2+1+wt L:=by simp [wt]
theorem eX (L M:List PT):wt (L++M)=wt L+wt M:=by simp [wt]
theorem uP {L:List PT} {t:PT} (h:t∈L):pC t.2+1≤wt L:=by
 induction L with
 | nil=>cases h
 | cons x L ih =>
  rw [Mz];exact qDe
theorem Wi {L:List PT} {K:Nat} (h:∀t∈L,Ca K t.2):wt L≤L.length*(K+1):=by
 induction L with
 | nil=>simp [wt]
 | cons x L ih =>
  rw [Mz,List.length_cons,Nat.add_mul,Nat.one_mul];have h1:=zO (h x qG);have h2:=ih fun t ht=>h t (by simp [ht])
  omega
def wtk (L:List PT) (k:Nat):Nat:=wt (L.filter fun t=>t.1=k)
theorem Mp (L:List PT) (k:Nat):wtk L k≤wt L:=by
 unfold wtk
 induction L with
 | nil=>simp [wt]
 | cons t L ih =>
  rw [Mz,List.filter_cons]
  split
  ·rw [Mz];omega
  ·omega
theorem mQ (t:PT) (L:List PT) (k:Nat):wtk (t::L) k=(if t.1=k then pC t.2+1 else 0)+wtk L k:=by
 unfold wtk;rw [List.filter_cons];by_cases h:t.1=k
 ·simp [h,Mz]
 ·simp [h]
theorem Mb (L M:List PT) (k:Nat):wtk (L++M) k=wtk L k+wtk M k:=by
 unfold wtk;rw [List.filter_append,eX]
theorem jJ (L:List PT) (n k:Nat):wtk (L.take n) k≤wtk L k:=by
 have h:L=L.take n++L.drop n:=(List.take_append_drop n L).symm
 conv=>rhs;rw [h]
 rw [Mb];omega
theorem dW (L:List PT) (hL:∀t∈L,CW t.2):∀(f:Nat→Option PC) (g:Nat→Nat),(∀k x,f k=some x→CW x∧Ca (g k) x)→∀k x,L.foldl Gy f k=some x→CW x∧Ca (g k+wtk L k) x:=by
 induction L with
 | nil=>intro f g hf k x hx;exact ⟨(hf k x hx).1,(hf k x hx).2.mono qG⟩
 | cons t L ih =>
  intro f g hf k x hx;have ht:=hL t qG;have:=ih (fun y hy=>hL y (by simp [hy])) (Gy f t) (fun j=>g j+if t.1=j then pC t.2+1 else 0) (fun j y hy=>by
   unfold Gy at hy
   split at hy
   ·next e =>
    subst e;simp only [Option.some.injEq] at hy
    cases hft:f t.1 with
    | none=>rw [hft] at hy;simp only at hy;subst hy;exact ⟨ht,(Vf _).mono qI⟩
    | some c =>
     rw [hft] at hy;simp only at hy;subst hy;obtain ⟨h1,h2⟩:=hf _ _ hft;exact ⟨h1.add ht,(Ca.add h1 ht h2 (Vf _)).mono qI⟩
   ·next e =>
    obtain ⟨h1,h2⟩:=hf _ _ hy;exact ⟨h1,h2.mono qA⟩) k x hx
  rw [mQ];exact ⟨this.1,this.2.mono qA⟩
theorem Is {L:List PT} (hL:∀t∈L,CW t.2) {k:Nat} {x:PC} (h:Dl L k=some x):CW x∧Ca (wtk L k) x:=by
 have:=dW L hL (fun _=>none) (fun _=>0) (fun k x h=>by cases h) k x h;exact ⟨this.1,this.2.mono qA⟩
def exN (k x:Nat):Nat:=k/65536 ^ (3-x)%65536
def unN (x:Nat):Nat:=65536 ^ (3-x)
def Ic (x y:PC):PC :=
 let t:=x.1*y.2
 let l:=y.1*x.2
 if l<0 then (-(t/(Int.gcd t l:Int)),-(l/(Int.gcd t l:Int))) else (t/(Int.gcd t l:Int),l/(Int.gcd t l:Int))
def cwB (c:PC):Bool:=decide (0<c.2)&&(Int.gcd c.1 c.2==1)
def Vc:List PT→Bool
 | x::y::l=>decide (y.1<x.1)&&Vc (y::l)
 | _=>true
def smB (l:List PT):Bool:=Vc l&&decide (l.length≤40)&&l.all fun t=>cwB t.2&&decide (t.2.1≠0)&&decide (t.1<18446744073709551616)&&decide (nP t.2≤100)
def ck (l:List PT):Option (List PT):=if smB l then some l else none
def Qq (p q:List PT):List PT:=Kk (p++q)
def Gv (c:PC) (l:List PT):List PT:=l.map fun t=>(t.1,Ct t.2 c)
def U3 (c:PC) (l:List PT):List PT:=Kk (Gv c l)
def Vm (p q:List PT):List PT:=Qq p (U3 (-1,1) q)
def Lm (a b:Nat):Nat:=Ch (exN a 0+exN b 0) (exN a 1+exN b 1) (exN a 2+exN b 2) (exN a 3+exN b 3)
def aZ (a b:Nat):Bool:=exN a 0+exN b 0<65536&&exN a 1+exN b 1<65536&&exN a 2+exN b 2<65536&&exN a 3+exN b 3<65536
def D0 (p q:List PT):List PT:=p.flatMap fun s=>q.map fun t=>(Lm s.1 t.1,Ct s.2 t.2)
def I3 (p q:List PT):Bool:=p.all fun s=>q.all fun t=>aZ s.1 t.1
def Px (p q:List PT):List PT:=Kk (D0 p q)
def Jh (l:List PT) (x:Nat):Nat:=l.foldl (fun n t=>max n (exN t.1 x)) 0
def Dp (l:List PT) (x k:Nat):List PT:=(l.filter fun t=>exN t.1 x=k).map fun t=>(t.1-k*unN x,t.2)
def Dq (l:List PT) (x:Nat):List (List PT):=if l=[] then [] else (List.range (Jh l x+1)).map fun k=>Dp l x k
def Hz (l:List PT):PC :=
 let r:=l.foldl (fun (a:Int×Int) t=>((Int.gcd a.1 t.2.1:Int),a.2*(t.2.2/(Int.gcd a.2 t.2.2:Int)))) (0,1)
 Ct (Fj r.1 r.2,Fr r.1 r.2) (match l with|[]=>(1,1)|t::_=>if t.2.1<0 then (-1,1) else (1,1))
def Ci (l:List PT):List PT:=if l=[] then [] else U3 (Ic (1,1) (Hz l)) l
structure Sm (l:List PT):Prop where
 pw:PW l
 few:Dd 100 l
 len:l.length≤40
theorem Nq:∀{l:List PT},Vc l=true→Cx l
 | [],_=>by simp [Cx]
 | [x],_=>by simp [Cx]
 | x::y::l,h=>by
  unfold Vc at h;simp only [Bool.and_eq_true,decide_eq_true_eq] at h;have ih:=Nq h.2;refine List.pairwise_cons.2 ⟨fun z hz=>?_,ih⟩;rcases List.mem_cons.1 hz with rfl|hz
  ·exact h.1
  ·have:=(List.pairwise_cons.1 ih).1 z hz;omega
theorem Sm.of {l:List PT} (h:smB l=true):Sm l:=by
 unfold smB at h;simp only [Bool.and_eq_true,decide_eq_true_eq,List.all_eq_true,cwB,beq_iff_eq] at h;obtain ⟨⟨h1,h2⟩,h3⟩:=h;refine ⟨⟨Nq h1,fun t ht=>?_,fun t ht=>(h3 t ht).1.2⟩,fun t ht=>?_,h2⟩
 ·obtain ⟨⟨⟨⟨k1,k2⟩,k3⟩,k4⟩,k5⟩:=h3 t ht;exact ⟨⟨k1,k2⟩,k3⟩
 ·have k:=(h3 t ht).2;exact (Nm t.2).mono k
theorem Sm.nil:Sm []:=Sm.of qJ
theorem iP (k x:Nat):exN k x<65536:=Nat.mod_lt _ qJ
theorem Em {a b c d:Nat} (hb:b<65536) (hc:c<65536) (hd:d<65536) (ha:a<65536) :
  exN (Ch a b c d) 0=a∧exN (Ch a b c d) 1=b∧exN (Ch a b c d) 2=c∧exN (Ch a b c d) 3=d:=by
 have e0:(65536:Nat) ^ 3=281474976710656:=by decide
 have e1:(65536:Nat) ^ 2=4294967296:=by decide
 unfold exN Ch;simp only [Nat.sub_zero,Nat.reduceSub,e0,e1,Nat.pow_one,Nat.pow_zero,Nat.div_one];omega
theorem J2 (z:Int):CW (z,1):=⟨by show (0:Int)<1;decide,by simp⟩
theorem dM {l:List PT} (hl:Sm l) {c:PC} (hc:CW c) (hf:Ca 200 c) (k:Nat):wtk (Gv c l) k≤400000:=by
 have h1:=Mp (Gv c l) k;have h2:wt (Gv c l)≤(Gv c l).length*(300+1):=Wi fun t ht=>by
  obtain ⟨x,hx,rfl⟩:=List.mem_map.1 ht;exact Ca.mul (hl.pw.good x hx).1 hc (hl.few x hx) hf
 have h3:(Gv c l).length=l.length:=by simp [Gv]
 have:=hl.len;rw [h3] at h2;omega
theorem Ly (x:PT) (p q:List PT):D0 (x::p) q=(q.map fun t=>(Lm x.1 t.1,Ct x.2 t.2))++D0 p q:=rfl
theorem Na (p p' q:List PT):D0 (p++p') q=D0 p q++D0 p' q:=by simp [D0]
theorem Vv (p q:List PT):(D0 p q).length=p.length*q.length:=by
 induction p with
 | nil=>simp [D0]
 | cons x p ih=>rw [Ly,A8,List.length_map,ih,List.length_cons,Nat.add_mul,Nat.one_mul,Nat.add_comm]
theorem La {p q:List PT} {t:PT} (h:t∈D0 p q):∃x∈p,∃y∈q,t=(Lm x.1 y.1,Ct x.2 y.2):=by
 unfold D0 at h;obtain ⟨x,hx,h⟩:=List.mem_flatMap.1 h;obtain ⟨y,hy,rfl⟩:=List.mem_map.1 h;exact ⟨x,hx,y,hy,rfl⟩
theorem iF {p q:List PT} {K K':Nat} (hp:∀t∈p,CW t.2) (hq:∀t∈q,CW t.2) (h:Dd K p) (h':Dd K' q):wt (D0 p q)≤p.length*q.length*(K+K'+1):=by
 rw [←Vv];refine Wi fun t ht=>?_
 obtain ⟨x,hx,y,hy,rfl⟩:=La ht;exact Ca.mul (hp x hx) (hq y hy) (h x hx) (h' y hy)
theorem eI {p q:List PT} (hp:Sm p) (hq:Sm q) (k:Nat):wtk (D0 p q) k≤400000:=by
 have h1:=Mp (D0 p q) k;have h2:=iF (fun t ht=>(hp.pw.good t ht).1) (fun t ht=>(hq.pw.good t ht).1) hp.few hq.few;have h3:=Nat.mul_le_mul hp.len hq.len;have h4:=Nat.mul_le_mul_right 201 h3;omega
theorem Wq {c:PC} (hc:CW c):Ct c (-1,1)=(-c.1,c.2):=by
 unfold Ct;have:Int.gcd (c.1 * -1) (c.2*1)=1:=by
  rw [Int.mul_one,Int.mul_neg,Int.mul_one,Int.neg_gcd];exact hc.red
 show (Fj (c.1 * -1) (c.2*1),Fr (c.1 * -1) (c.2*1))=_;rw [Vy this,Uq this,Int.mul_neg,Int.mul_one,Int.mul_one]
structure Db (w:World) (b:Nat) (t:Tm):Prop where
 c0:w.cell? ⟨b,0,none⟩=some (.bool t.g1)
 c1:w.cell? ⟨b,1,none⟩=some (.slice t.a1 t.n1 t.c1)
 c2:w.cell? ⟨b,2,none⟩=some (.bool t.g2)
 c3:w.cell? ⟨b,3,none⟩=some (.slice t.a2 t.n2 t.c2)
 c4:w.cell? ⟨b,4,none⟩=some (.int .u16 t.m0)
 c5:w.cell? ⟨b,5,none⟩=some (.int .u16 t.m1)
 c6:w.cell? ⟨b,6,none⟩=some (.int .u16 t.m2)
 c7:w.cell? ⟨b,7,none⟩=some (.int .u16 t.m3)
 f0:w.frozen? ⟨b,0,none⟩=false
 f1:w.frozen? ⟨b,1,none⟩=false
 f2:w.frozen? ⟨b,2,none⟩=false
 f3:w.frozen? ⟨b,3,none⟩=false
 f4:w.frozen? ⟨b,4,none⟩=false
 f5:w.frozen? ⟨b,5,none⟩=false
 f6:w.frozen? ⟨b,6,none⟩=false
 f7:w.frozen? ⟨b,7,none⟩=false
theorem Db.new (w:World) (t:Tm):Db (w.alloc (.cells #[.bool t.g1,.slice t.a1 t.n1 t.c1,.bool t.g2,.slice t.a2 t.n2 t.c2,.int .u16 t.m0,.int .u16 t.m1,.int .u16 t.m2,.int .u16 t.m3] 79)) w.heap.size t:=by
 constructor<;>simp [go_sem]
theorem Db.lt {w:World} {b:Nat} {t:Tm} (h:Db w b t):b<w.heap.size:=Aa _ _ h.c0
theorem Db.keep {w w':World} {b:Nat} {t:Tm} (h:Db w b t) (hb:Below w.heap.size w w'):Db w' b t:=by
 have f:∀i,w.frozen? ⟨b,i,none⟩=false→w'.frozen? ⟨b,i,none⟩=false:=fun i e=>(hb.frozen h.lt).trans e
 exact ⟨Bb hb h.c0,Bb hb h.c1,Bb hb h.c2,Bb hb h.c3,Bb hb h.c4,Bb hb h.c5,Bb hb h.c6,Bb hb h.c7,f _ h.f0,f _ h.f1,f _ h.f2,f _ h.f3,f _ h.f4,f _ h.f5,f _ h.f6,f _ h.f7⟩
def Q0 (w:World) (y:PT) (e:Ending) (w':World):Prop :=
 ∃t:Tm,e=.returned t.val∧Es t y∧Eb w' t∧Bf w.heap.size w' t.a1 t.c1∧Bf w.heap.size w' t.a2 t.c2∧Ap2 t.a1 t.c1 t.a2 t.c2∧Below w.heap.size w w'
theorem Uy (wo:World) (a:Option Addr) (n c:Nat) (p:Nat→Tm) (hp:RdP wo a n c p) (l:List PT) (hll:l.length=n) (F:Nat) (cap:Array Value) (f:PT→PT)
  (hE:∀args W,(callFunc F args).run Tryz.prog W=.ok (.enter F args) W) (hdo:Hid (∀W,Below wo.heap.size wo W→∀k x,l[k]? = some x→Calls Tryz.prog F (#[(p k).val]++cap) W (Q0 W (f x))))
  (hcw:∀x∈l,CW (f x).2) (hkey:∀x∈l,(f x).1<18446744073709551616) (hw:∀k,wtk (l.map f) k≤400000) (hn:n≤400000) :
  Calls Tryz.prog 37 #[.slice a n c,.func (.func F) #[] cap] wo (Cj wo (Kk (l.map f))):=by
 have HB:=Ac wo.heap.size wo;have hmm:=@run_makeMap Tryz.prog;have HM0:C8 (wo.alloc (.map #[] 0)) wo.heap.size 0 (wo.heap.size+1) (fun _=>none):=⟨.map [],id,World.ownsMap_made wo Tryz.prog 76 RH,Fi.empty _ _ _⟩;have HX:=Ae (Ay hcw hkey);have HC:=Ae (show ∀t∈l.map f,CW t.2 from fun t ht=>by obtain ⟨x,hx,rfl⟩:=List.mem_map.1 ht;exact hcw x hx);have HW:=Ae hw;clear hcw hkey hw;go_enter Tryz.func37,Tryz.ntmps37;go_wp2_with fail;go_loopw [11] (fun v11 wr=>∃i:Nat,i≤n∧v11=.int .i64 i∧C8 wr wo.heap.size i (wo.heap.size+1) (Dl ((l.map f).take i))∧Below wo.heap.size wo wr) (fun v11 _=>n-(intOf v11).toNat)
 case atStart=>exact ⟨0,by omega,rfl,by simpa [Dl] using HM0,by go_grown⟩
 case round =>
  obtain ⟨k,hk,rfl,hM,HBr⟩:=hrel;have hzr:=HBr.size;clear HM0;by_cases hlt:k<n
  ·obtain ⟨gb,go,rfl,_⟩:=hp.cell.resolve_left qA;have hkl:k<l.length:=by omega
   obtain ⟨x,hx⟩:∃x,l[k]? = some x:=⟨_,Ai hkl⟩;have hm:=A7 hx;have HD:=Ae fun W hW=>hdo.out W hW k x hx
   have hat:=(hp.keep HBr).at hlt;generalize p k=t at *;obtain ⟨e0,e1,e2,e3,e4,e5,e6,e7⟩:=hat;obtain ⟨w,rfl⟩:∃w:World,w=wr:=⟨_,rfl⟩;have HBw:=Ac w.heap.size w;have hbl:wo.heap.size<w.heap.size:=by obtain ⟨D,_,hD,_⟩:=hM.ex;exact hD.lt
   have hcx:=HX.out.1 x hm;have hkx:=HX.out.2 x hm;have hyk:∀y,Dl ((l.map f).take k) (f x).1=some y→Ca 1000000000 y:=fun y hy=>by
    have h1:=Is (fun t ht=>HC.out t (List.mem_of_mem_take ht)) hy;exact Ca.mono h1.2 (by have h2:=jJ (l.map f) k (f x).1;have h3:=HW.out (f x).1;omega)
   have hfx:Ca 1000000000 (f x).2:=Ca.mono (Vf _) (by
    have h0:f x∈(l.map f).filter (fun t=>t.1=(f x).1):=List.mem_filter.2 ⟨List.mem_map_of_mem hm,by simp⟩;have h1:=uP h0;have h3:=HW.out (f x).1;unfold wtk at h3
    omega)
   have HN:=Ae (show Dl ((l.map f).take (k+1))=Gy (Dl ((l.map f).take k)) (f x) by
    have e:(l.map f).take (k+1)=(l.map f).take k++[f x]:=by
     rw [List.take_add_one,List.getElem?_map,hx];rfl
    rw [e,K6])
   have HY:=Ae (Ay hyk hfx);have HCX:=Ae hcx;generalize f x=y at *;clear hx hyk hfx hcx hm;have T0:=Db.new w t;go_wp2_with fail;refine (HD.out _ (HBr.trans (Below.mono qF HBr.size))).mono ?_;rintro e w5 ⟨s,rfl,hs,hrs,hs1,hs2,hap,hb5⟩;have T5:=T0.keep hb5;have hz5:=hb5.size;simp only [Aj] at hz5;obtain ⟨s0,s1,s2,s3,s4,s5,s6,s7,f0,f1,f2,f3,f4,f5,f6,f7⟩:=T5;have B5:=zI w hb5;have hsc:=hs.frac hrs HCX.out;have fe1:=hs1.mono (show w.heap.size+1≤_ by go_size);have fe2:=hs2.mono (show w.heap.size+1≤_ by go_size);have u:w.heap.size<w.heap.size+1:=by omega
   have hk5:w.heap.size<w5.heap.size:=by omega
   have hkey:=hs.key;clear hb5 T0;go_wp2_with fail;refine (bR w _ wo.heap.size k (wo.heap.size+1) (Dl ((l.map f).take k)) hM qF (Ag _) qA qA s.g1 s.a1 s.n1 s.c1 s.g2 s.a2 s.n2 s.c2 y.2 ⟨(hsc.top.set4 fe1 _ _ _ _ _ _ _ _ u u u u).set4 (fe1.set4 _ _ _ _ _ _ _ _ u u u u) _ _ _ _ _ _ _ _ u u u u,(hsc.low.set4 fe2 _ _ _ _ _ _ _ _ u u u u).set4 (fe2.set4 _ _ _ _ _ _ _ _ u u u u) _ _ _ _ _ _ _ _ u u u u,hsc.pos,hsc.red⟩ (((fe1.set4 _ _ _ _ _ _ _ _ u u u u).set4 _ _ _ _ _ _ _ _ u u u u).mono qA) (((fe2.set4 _ _ _ _ _ _ _ _ u u u u).set4 _ _ _ _ _ _ _ _ u u u u).mono qA) hap s.m0 s.m1 s.m2 s.m3 hrs.s0 hrs.s1 hrs.s2 hrs.s3 HY.out.2 (by rw [hkey];exact HY.out.1)).mono ?_;rintro e w6 ⟨rfl,hM6,hg6⟩;have HB6:Below wo.heap.size wo w6:=Below.grown (HBr.trans (Below.mono (by go_grown:Below w.heap.size w _) HBr.size)) hg6 qB (fun j hj=>by cases hj;exact Ad _);rw [hkey] at hM6;go_wp2_with fail;go_roundw
   case rel=>exact ⟨k+1,by omega,by go_num,by rw [HN.out];exact hM6,HB6⟩
   case measure=>(first|(simp [intOf];omega)|(simp [intOf];done))
  ·obtain rfl:k=n:=by omega
   have hM6:C8 wr wo.heap.size k (wo.heap.size+1) (Dl (l.map f)):=by
    have:=hM;rwa [As (by rw [List.length_map];omega)] at this
   have hbl:wo.heap.size<wr.heap.size:=by obtain ⟨D,_,hD,_⟩:=hM.ex;exact hD.lt
   have hkk:∀j x,Dl (l.map f) j=some x→j<18446744073709551616∧Ca 1000000 x:=fun j x hx=>by
    refine ⟨?_,Ca.mono (Is HC.out hx).2 (by have:=HW.out j;omega)⟩;obtain ⟨t,ht,e⟩:=Rc hx;obtain ⟨z,hz,rfl⟩:=List.mem_map.1 ht;rw [←e];exact HX.out.2 z hz
   go_wp2_with fail;refine (dB _ wo.heap.size k (wo.heap.size+1) (Dl (l.map f)) hM6 qA qA hkk).mono ?_;rintro e w6 ⟨a6,n6,c6,r,rfl,hr,hro,hfr,hmr,hb6⟩;obtain rfl:=Kr HC.out hfr hmr;go_wp2_with fail;refine bodyPost_ret (v:=.slice a6 n6 c6) (by simp [results,Tryz.results37,go_sem]) rfl ?_;exact qCt
theorem jS (w:World) (t:Tm) (x:PT) (hrt:Eb w t) (hti:Es t x) (hcx:CW x.2) (b:Nat) (g1:Bool) (a1:Option Addr) (n1 c1:Nat) (g2:Bool) (a2:Option Addr) (n2 c2:Nat) (y:PC) (hy:Bi w g1 a1 n1 c1 y.1 g2 a2 n2 c2 y.2)
  (h0:w.cell? ⟨b,0,none⟩=some (.bool g1)) (h1:w.cell? ⟨b,1,none⟩=some (.slice a1 n1 c1)) (h2:w.cell? ⟨b,2,none⟩=some (.bool g2)) (h3:w.cell? ⟨b,3,none⟩=some (.slice a2 n2 c2))
  (q1:t.n1≤1000000000) (q2:t.n2≤1000000000) (q3:n1≤1000000000) (q4:n2≤1000000000) :
  Calls Tryz.prog 47 #[t.val,.pointer (some ⟨b,0,none⟩)] w (Q0 w (x.1,Ct x.2 y)):=by
 have hx:=hti.frac hrt hcx;have HT:=Ae hti;have HRT:=Ae hrt;clear hti hrt;have hlt:b<w.heap.size:=Aa _ _ h0;have hlt1:b≠w.heap.size:=by omega
 have hlt2:b≠w.heap.size+1:=by omega
 have HB:=Ac w.heap.size w;go_enter Tryz.func47,Tryz.ntmps47;go_wp2_with fail;go_region_held3 (fun W=>W.cell? ⟨w.heap.size,0,none⟩=some (.bool t.g1)∧W.cell? ⟨w.heap.size,1,none⟩=some (.slice t.a1 t.n1 t.c1)∧W.cell? ⟨w.heap.size,2,none⟩=some (.bool t.g2)∧W.cell? ⟨w.heap.size,3,none⟩=some (.slice t.a2 t.n2 t.c2)∧W.cell? ⟨w.heap.size,4,none⟩=some (.int .u16 t.m0)∧W.cell? ⟨w.heap.size,5,none⟩=some (.int .u16 t.m1)∧W.cell? ⟨w.heap.size,6,none⟩=some (.int .u16 t.m2)∧W.cell? ⟨w.heap.size,7,none⟩=some (.int .u16 t.m3)∧W.cell? ⟨b,0,none⟩=some (.bool g1)∧W.cell? ⟨b,1,none⟩=some (.slice a1 n1 c1)∧W.cell? ⟨b,2,none⟩=some (.bool g2)∧W.cell? ⟨b,3,none⟩=some (.slice a2 n2 c2)) (first|((try dsimp only);(repeat' apply Ay);all_goals (first|(with_reducible assumption)|(go_keep;done)|(simp [*,go_sem];done)))) (first
  | (go_at_call 39;(with_reducible refine (Ie _ _ _ _ _ _ _ _ _ _ _ (hx.keep qF) _ _ _ _ _ _ _ _ _ _ (hy.keep qF) q1 q2 q3 q4).mono ?_);rintro e w4 ⟨gm1,am1,nm1,cm1,gm2,am2,nm2,cm2,rfl,hmul,hfm1,hfm2,hap,hb⟩;obtain ⟨hc,hf⟩:=Bl hb;have hz:=hb.size;(try simp only [Aj,Ak,Am] at hz);replace HB:=zI w hb;obtain ⟨s0_0,s0_1⟩:=qZ hc (w.heap.size) (.bool t.g1) (.slice t.a1 t.n1 t.c1);obtain ⟨s0_2,s0_3⟩:=zD hc (w.heap.size) (.bool t.g2) (.slice t.a2 t.n2 t.c2);have s0_4:=qX hc (w.heap.size) 4 (.int .u16 t.m0);have s0_5:=qX hc (w.heap.size) 5 (.int .u16 t.m1);have s0_6:=qX hc (w.heap.size) 6 (.int .u16 t.m2);have s0_7:=qX hc (w.heap.size) 7 (.int .u16 t.m3);obtain ⟨s1_0,s1_1⟩:=zE hc (w.heap.size+1);obtain ⟨s1_2,s1_3⟩:=zD hc (w.heap.size+1) (.bool false) (.slice none 0 0);have s1_4:=qX hc (w.heap.size+1) 4 (.int .u16 0);have s1_5:=qX hc (w.heap.size+1) 5 (.int .u16 0);have s1_6:=qX hc (w.heap.size+1) 6 (.int .u16 0);have s1_7:=qX hc (w.heap.size+1) 7 (.int .u16 0);obtain ⟨f1_0,f1_1⟩:=zF hf (w.heap.size+1);obtain ⟨f1_2,f1_3⟩:=zG hf (w.heap.size+1);have f1_4:=qY hf (w.heap.size+1) 4;have f1_5:=qY hf (w.heap.size+1) 5;have f1_6:=qY hf (w.heap.size+1) 6;have f1_7:=qY hf (w.heap.size+1) 7;have z0:w4.cell? ⟨b,0,none⟩=some (.bool g1):=(hc _ _ qB).trans qM;have z1:w4.cell? ⟨b,1,none⟩=some (.slice a1 n1 c1):=(hc _ _ qB).trans qM;have z2:w4.cell? ⟨b,2,none⟩=some (.bool g2):=(hc _ _ qB).trans qM;have z3:w4.cell? ⟨b,3,none⟩=some (.slice a2 n2 c2):=(hc _ _ qB).trans qM))
 go_wp2_with fail;have fe1:=hfm1.mono (show w.heap.size+1+1≤_ by go_size);have fe2:=hfm2.mono (show w.heap.size+1+1≤_ by go_size);have u:w.heap.size+1<w.heap.size+1+1:=by omega
 have hk1:w.heap.size+1<w4.heap.size:=by have:=hz;omega
 refine bodyPost_ret (v:=.agg #[.bool gm1,.slice am1 nm1 cm1,.bool gm2,.slice am2 nm2 cm2,.int .u16 t.m0,.int .u16 t.m1,.int .u16 t.m2,.int .u16 t.m3]) (by simp [*,results,Tryz.results47,go_sem]) rfl ?_;have hF:Bi w4 gm1 am1 nm1 cm1 (Ct x.2 y).1 gm2 am2 nm2 cm2 (Ct x.2 y).2:=hmul;refine ⟨⟨gm1,am1,nm1,cm1,dg (Ct x.2 y).1.natAbs,gm2,am2,nm2,cm2,dg (Ct x.2 y).2.natAbs,t.m0,t.m1,t.m2,t.m3⟩,rfl,⟨hF.top.neg,rfl,hF.low.neg,rfl,HT.out.key⟩,⟨?_,?_,HRT.out.s0,HRT.out.s1,HRT.out.s2,HRT.out.s3⟩,((fe1.set4 _ _ _ _ _ _ _ _ u u u u).set4 _ _ _ _ _ _ _ _ u u u u).mono qA,((fe2.set4 _ _ _ _ _ _ _ _ u u u u).set4 _ _ _ _ _ _ _ _ u u u u).mono qA,hap,by go_grown⟩
 ·exact Bg.rd (g:=gm1) (z:=(Ct x.2 y).1) ((hF.top.set4 fe1 _ _ _ _ _ _ _ _ u u u u).set4 (fe1.set4 _ _ _ _ _ _ _ _ u u u u) _ _ _ _ _ _ _ _ u u u u)
 ·exact Bg.rd (g:=gm2) (z:=(Ct x.2 y).2) ((hF.low.set4 fe2 _ _ _ _ _ _ _ _ u u u u).set4 (fe2.set4 _ _ _ _ _ _ _ _ u u u u) _ _ _ _ _ _ _ _ u u u u)
theorem Ip {P:Program} {f:FuncId} {fn:Func} {c:Code} (hf:P.funcs[f]? = some fn) (hname:(fn.name == "runtime.NumGoroutine")=false) (hb:fn.body=some c) (args:Array Value) (w:World) :
  (callFunc f args).run P w=.ok (.enter f args) w:=by
 have h1:fn.name ≠ "runtime.NumGoroutine" := by simpa using hname
 simp [callFunc,hf,h1,hb]
theorem Us (w:World) (B:Nat) (a:Option Addr) (n c:Nat) (l:List PT) (h:Bc w B a n c l) (hl:PW l) (K:Nat) (hK:Dd K l) (hK1:K≤1000000) (hn:n≤400000)
  (g1:Bool) (a1:Option Addr) (n1 c1:Nat) (g2:Bool) (a2:Option Addr) (n2 c2:Nat) (y:PC) (hy:l≠[]→Bi w g1 a1 n1 c1 y.1 g2 a2 n2 c2 y.2) (q3:n1≤1000000000) (q4:n2≤1000000000) (hw:∀k,wtk (Gv y l) k≤400000) :
  Calls Tryz.prog 13 #[.slice a n c,.agg #[.bool g1,.slice a1 n1 c1,.bool g2,.slice a2 n2 c2]] w (Cj w (U3 y l)):=by
 obtain ⟨p,hp,hpx⟩:=h.ts;have hok:=h.pok hl hp hpx;have hpf:=h.few hK hp hpx;have hyc:∀x,x∈l→CW y:=fun x hx=>⟨(hy (List.ne_nil_of_mem hx)).pos,(hy (List.ne_nil_of_mem hx)).red⟩
 have HY:=Ae hy;have HYC:=Ae hyc;have P1:=Ae hok;have P3:Hid (∀k,k<n→(p k).n1≤1000000∧(p k).n2≤1000000):=Ae fun k hk=>by have:=hpf k hk;omega
 have P5:=Ae hpx;have P6:=Ae hw;have P7:=Ae hl;clear hok hpf hpx hw hy hyc;go_enter Tryz.func13,Tryz.ntmps13;go_wp2_with fail;refine (Kl _ a n c p (hp.keep qF) P3.out true ⟨fun _=>rfl,fun _=>P1.out⟩).mono ?_;rintro e w1 ⟨rfl,hb1⟩;have B1:Below w.heap.size w w1:=Al qF (hb1.mono qG);have z0:w1.cell? ⟨w.heap.size,0,none⟩=some (.bool g1):=(hb1.cell qG).trans qL;have z1:w1.cell? ⟨w.heap.size,1,none⟩=some (.slice a1 n1 c1):=(hb1.cell qG).trans qL;have z2:w1.cell? ⟨w.heap.size,2,none⟩=some (.bool g2):=(hb1.cell qG).trans qL;have z3:w1.cell? ⟨w.heap.size,3,none⟩=some (.slice a2 n2 c2):=(hb1.cell qG).trans qL;go_wp2_with fail;refine (Uy w1 a n c p (hp.keep B1) l h.len 47 #[.pointer (some ⟨w.heap.size,0,none⟩)] (fun t=>(t.1,Ct t.2 y)) (Ip Tryz.func47 qC rfl) (Ae fun W hW k x hx=>?_) (fun x hx=>(P7.out.good x hx).1.mul (HYC.out x hx)) (fun x hx=>P7.out.key x hx) P6.out hn).mono ?_
 ·have hk:k<n:=by have:=(List.getElem?_eq_some_iff.1 hx).1;have:=h.len;omega
  have hm:=A7 hx;have hq:=P3.out k hk;exact jS W (p k) x (((hp.tm k hk).keep B1).keep hW) (P5.out k x hx).1 (P7.out.good x hm).1 w.heap.size g1 a1 n1 c1 g2 a2 n2 c2 y (((HY.out (List.ne_nil_of_mem hm)).keep B1).keep hW) (Bb hW z0) (Bb hW z1) (Bb hW z2) (Bb hW z3) qA qA q3 q4
 rintro e w2 ⟨a2,n2,c2,rfl,P2,PO,hb2⟩;go_wp2_with fail;refine bodyPost_ret (v:=.slice a2 n2 c2) (by simp [results,Tryz.results13,go_sem]) rfl ?_;exact qCm
end Go.Proofs.YtnnhcbeiogaknaaGreatDoor
end
