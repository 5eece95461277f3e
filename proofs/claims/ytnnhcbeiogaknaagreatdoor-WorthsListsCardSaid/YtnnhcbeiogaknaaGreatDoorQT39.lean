/- A sum that came in, as a list. -/
import Derived.Test.YtnnhcbeiogaknaaGreatDoorQT38
import Derived.Test.YtnnhcbeiogaknaaGreatDoorQT36
set_option linter.unusedSimpArgs false
set_option linter.unusedVariables false
set_option maxRecDepth 100000
set_option maxHeartbeats 4000000
section
namespace Go.Proofs.YtnnhcbeiogaknaaGreatDoor
open Go.RowKit
def tmX (t:Tm):PT:=(Ch t.m0 t.m1 t.m2 t.m3,(if t.g1 then -(val t.d1:Int) else (val t.d1:Int)),(val t.d2:Int))
def lst (p:Nat→Tm) (n:Nat):List PT:=(List.range n).map fun i=>tmX (p i)
theorem Ks (p:Nat→Tm) (n:Nat):(lst p n).length=n:=by simp [lst]
theorem rJ (p:Nat→Tm) {n i:Nat} (h:i<n):(lst p n)[i]? = some (tmX (p i)):=by
 unfold lst;rw [List.getElem?_map,List.getElem?_range h];rfl
theorem vF {t:Tm} (h:TOk t):CW (tmX t).2∧(tmX t).2.1≠0:=by
 obtain ⟨⟨o1,o2,e2,hne,hg⟩,hd⟩:=h;have h1:=Cs o1.1 hd;have h2:=Cs o2.1 hne;refine ⟨⟨by show (0:Int)<(val t.d2:Int);omega,?_⟩,?_⟩
 ·show Int.gcd (if t.g1 then -(val t.d1:Int) else (val t.d1:Int)) (val t.d2:Int)=1
  split
  ·rw [Int.neg_gcd];simpa [Int.gcd] using hg
  ·simpa [Int.gcd] using hg
 ·show (if t.g1 then -(val t.d1:Int) else (val t.d1:Int))≠0
  split<;>omega
theorem kY {t:Tm} (h:TOk t):Es t (tmX t):=by
 obtain ⟨⟨o1,o2,e2,hne,hg⟩,hd⟩:=h;have h1:=Cs o1.1 hd;refine ⟨?_,?_,?_,?_,rfl⟩
 ·show t.g1=decide ((if t.g1 then -(val t.d1:Int) else (val t.d1:Int))<0)
  cases t.g1
  ·rw [if_neg qJ];simp
  ·rw [if_pos rfl];simp;omega
 ·show t.d1=dg (if t.g1 then -(val t.d1:Int) else (val t.d1:Int)).natAbs;have:(if t.g1 then -(val t.d1:Int) else (val t.d1:Int)).natAbs=val t.d1:=by split<;>omega
  rw [this,Fo o1.1]
 ·show t.g2=decide ((val t.d2:Int)<0);rw [e2];simp
 ·show t.d2=dg (val t.d2:Int).natAbs;rw [Int.natAbs_natCast,Fo o2.1]
theorem uI {w:World} {s t:Tm} (hs:Eb w s) (ht:Eb w t) (h:Ht s.mono t.mono<0):(tmX s).1<(tmX t).1:=by
 unfold Tm.mono at h;rw [Nj hs.s0 hs.s1 hs.s2 hs.s3 ht.s0 ht.s1 ht.s2 ht.s3,Oy] at h;show Ch s.m0 s.m1 s.m2 s.m3<Ch t.m0 t.m1 t.m2 t.m3
 split at h
 ·assumption
 ·split at h<;>omega
theorem fP {w:World} {a:Option Addr} {n c:Nat} {p:Nat→Tm} (hp:RdP w a n c p) (hok:POk p n):∀j,j<n→∀i,i<j→(tmX (p j)).1<(tmX (p i)).1:=by
 intro j
 induction j with
 | zero=>intro _ i hi;omega
 | succ j ih =>
  intro hj i hi;have h1:=uI (hp.tm (j+1) hj) (hp.tm j qA) ((hok (j+1) hj).2 qA);rcases Nat.lt_or_ge i j with h|h
  ·exact Nat.lt_trans h1 (ih qA i h)
  ·obtain rfl:i=j:=by omega
   exact h1
theorem tW {w:World} {a:Option Addr} {n c:Nat} {p:Nat→Tm} (hp:RdP w a n c p) (hok:POk p n):PW (lst p n):=by
 have hmem:∀t∈lst p n,∃i,i<n∧t=tmX (p i):=fun t ht=>by
  obtain ⟨i,hi,rfl⟩:=List.mem_map.1 ht;exact ⟨i,List.mem_range.1 hi,rfl⟩
 refine ⟨?_,fun t ht=>?_,fun t ht=>?_⟩
 ·rw [Cx,List.pairwise_iff_getElem];intro i j hi hj hij;rw [Ks] at hi hj;have e1:(lst p n)[i]'(by rw [Ks];exact hi)=tmX (p i):=by simp [lst]
  have e2:(lst p n)[j]'(by rw [Ks];exact hj)=tmX (p j):=by simp [lst]
  rw [e1,e2];exact fP hp hok j hj i hij
 ·obtain ⟨i,hi,rfl⟩:=hmem t ht;exact vF (hok i hi).1
 ·obtain ⟨i,hi,rfl⟩:=hmem t ht;have h:=hp.tm i hi;exact Uw h.s0 h.s1 h.s2 h.s3
theorem wM {w:World} {a:Option Addr} {n c:Nat} {p:Nat→Tm} (hp:RdP w a n c p) (hok:POk p n) (hnl:a=none→c=0):Bc w 0 a n c (lst p n):=by
 refine ⟨Ks p n,.inr fun x _=>A9 _,hnl,p,hp,fun i x hx=>?_⟩;have hi:i<n:=by
  rcases Nat.lt_or_ge i n with h|h
  ·exact h
  ·rw [List.getElem?_eq_none (by rw [Ks];exact h)] at hx;cases hx
 rw [rJ p hi] at hx;obtain rfl:=Option.some.inj hx;exact ⟨kY (hok i hi).1,.inr fun x _=>A9 _,.inr fun x _=>A9 _⟩
theorem sU {w:World} {a:Option Addr} {n c:Nat} {p:Nat→Tm} (hp:RdP w a n c p) (hok:POk p n) {K:Nat} (hK:∀i,i<n→(p i).n1≤K∧(p i).n2≤K):Dd K (lst p n):=by
 intro t ht;obtain ⟨i,hi,rfl⟩:=List.mem_map.1 ht;have hi:=List.mem_range.1 hi;have h1:=kY (hok i hi).1;have h2:=hp.tm i hi;rw [←h1.d1,←h1.d2,h2.top.len,h2.low.len];exact hK i hi
inductive VT where
 | node (g:Bool) (l:List PT) (xs:List VT)
mutual
def VT.dep:VT→Nat
 | .node _ _ xs=>VT.depL xs+1
def VT.depL:List VT→Nat
 | []=>0
 | x::xs=>max x.dep (VT.depL xs)
end
theorem VT.depL_mem {xs:List VT} {x:VT} (h:x∈xs):x.dep≤VT.depL xs:=by
 induction xs with
 | nil=>cases h
 | cons y xs ih =>
  rw [VT.depL];exact qDe
mutual
def VT.Ok:Nat→VT→Prop
 | d,.node g l xs=>(g=false∧xs=[]∧l.length≤2000∧PW l∧Dd 5000 l)∨(g=true∧l=[]∧xs.length≤2000∧d≤64∧VT.OkL (d+1) xs)
def VT.OkL:Nat→List VT→Prop
 | _,[]=>True
 | d,x::xs=>VT.Ok d x∧VT.OkL d xs
end
theorem VT.OkL_iff {d:Nat} {xs:List VT}:VT.OkL d xs↔∀x∈xs,VT.Ok d x:=by
 induction xs with
 | nil=>simp [VT.OkL]
 | cons y xs ih=>simp [VT.OkL,ih]
mutual
def Bt (w:World) (B:Nat) (o:Option Nat):Value→Value→Value→VT→Prop
 | v0,v1,v2,.node f l xs=>v0=.bool f∧(∃a n c,v1=.slice a n c∧Bc w 0 a n c l∧(∀g,o=some g→Bk w 0 a n c)) ∧
  ∃a c,v2=.slice a xs.length c∧xs.length≤c∧c≤9223372036854775807∧(a=none→c=0)∧(xs=[]∨∃b p,a=some ⟨b,p,none⟩∧(∀g,o=some g→B≤b∧b≠g)∧Cd w B o b p xs)
def Cd (w:World) (B:Nat) (o:Option Nat) (b:Nat):Nat→List VT→Prop
 | _,[]=>True
 | p,x::xs=>(∃v0 v1 v2,w.cell? ⟨b,p,none⟩=some v0∧w.cell? ⟨b,p+1,none⟩=some v1∧w.cell? ⟨b,p+2,none⟩=some v2∧Bt w B o v0 v1 v2 x)∧Cd w B o b (p+3) xs
end
theorem Cd.at {w:World} {B:Nat} {o:Option Nat} {b:Nat}:∀{xs:List VT} {p i:Nat} {x:VT},Cd w B o b p xs→xs[i]? = some x→∃v0 v1 v2,w.cell? ⟨b,p+i*3,none⟩=some v0∧w.cell? ⟨b,p+i*3+1,none⟩=some v1∧w.cell? ⟨b,p+i*3+2,none⟩=some v2∧Bt w B o v0 v1 v2 x:=by
 intro xs
 induction xs with
 | nil=>intro p i x _ h;simp at h
 | cons y xs ih =>
  intro p i x h hx;rw [Cd] at h
  cases i with
  | zero=>simp only [List.getElem?_cons_zero,Option.some.injEq] at hx;subst hx;simpa using h.1
  | succ i =>
   simp only [List.getElem?_cons_succ] at hx;have:=ih h.2 hx;rwa [show p+3+i*3=p+(i+1)*3 by omega] at this
theorem Cd.of {w:World} {B:Nat} {o:Option Nat} {b:Nat}:∀{xs:List VT} {p:Nat},(∀i x,xs[i]? = some x→∃v0 v1 v2,w.cell? ⟨b,p+i*3,none⟩=some v0∧w.cell? ⟨b,p+i*3+1,none⟩=some v1∧w.cell? ⟨b,p+i*3+2,none⟩=some v2∧Bt w B o v0 v1 v2 x)→Cd w B o b p xs:=by
 intro xs
 induction xs with
 | nil=>intro p _;rw [Cd];trivial
 | cons y xs ih =>
  intro p h;rw [Cd];exact qCq
theorem Bt.map {w w':World} {B B':Nat} {o o':Option Nat} (ho:∀g',o'=some g'→∃g,o=some g)
  (hp:∀a n c l,Bc w 0 a n c l→(∀g,o=some g→Bk w 0 a n c)→Bc w' 0 a n c l∧(∀g,o'=some g→Bk w' 0 a n c))
  (hb:∀b,(∀g,o=some g→B≤b∧b≠g)→(∃p v,w.cell? ⟨b,p,none⟩=some v)→(∀g,o'=some g→B'≤b∧b≠g)∧∀p v,w.cell? ⟨b,p,none⟩=some v→w'.cell? ⟨b,p,none⟩=some v) :
  ∀(k:Nat) (t:VT),t.dep≤k→∀{v0 v1 v2:Value},Bt w B o v0 v1 v2 t→Bt w' B' o' v0 v1 v2 t:=by
 intro k
 induction k with
 | zero=>intro t ht;cases t;rw [VT.dep] at ht;omega
 | succ k ih =>
  intro t ht v0 v1 v2 h;obtain ⟨f,l,xs⟩:=t;rw [VT.dep] at ht;rw [Bt] at h ⊢;obtain ⟨h0,⟨a,n,c,h1,h2,h3⟩,a',c',k1,k2,k3,k4,k5⟩:=h;obtain ⟨p1,p2⟩:=hp a n c l h2 h3;refine ⟨h0,⟨a,n,c,h1,p1,p2⟩,a',c',k1,k2,k3,k4,?_⟩;rcases xs with _|⟨x,xs⟩
  ·exact .inl rfl
  ·obtain ⟨b,p,e,hbb,hr⟩:=k5.resolve_left qG;have hx0:=hr.at (i:=0) (x:=x) rfl;obtain ⟨u0,u1,u2,c0,_,_,_⟩:=hx0;obtain ⟨q1,q2⟩:=hb b hbb ⟨_,_,c0⟩;refine .inr ⟨b,p,e,q1,Cd.of fun i y hy=>?_⟩;obtain ⟨u0,u1,u2,c0,c1,c2,hv⟩:=hr.at hy;exact ⟨u0,u1,u2,q2 _ _ c0,q2 _ _ c1,q2 _ _ c2,ih y (by have:=VT.depL_mem (A7 hy);omega) hv⟩
theorem Bt.keep {w w':World} {B:Nat} {o:Option Nat} {v0 v1 v2:Value} {t:VT} (h:Bt w B o v0 v1 v2 t) (hb:Below w.heap.size w w'):Bt w' B o v0 v1 v2 t :=
 Bt.map (fun g h=>⟨g,h⟩) (fun a n c l h1 h2=>⟨h1.keep hb,fun g e=>(h2 g e).keep hb⟩) (fun b h1 _=>⟨h1,fun p v h=>Bb hb h⟩) t.dep t (Ad _) h
theorem Bt.read {w:World} {B:Nat} {o:Option Nat} {v0 v1 v2:Value} {t:VT} (h:Bt w B o v0 v1 v2 t):Bt w 0 none v0 v1 v2 t :=
 Bt.map (fun g h=>by cases h) (fun a n c l h1 h2=>⟨h1,fun g e=>by cases e⟩) (fun b h1 _=>⟨fun g e=>(by cases e),fun p v h=>h⟩) t.dep t (Ad _) h
theorem Bt.down {w:World} {B B' g:Nat} {v0 v1 v2:Value} {t:VT} (h:Bt w B (some g) v0 v1 v2 t) (hB:B'≤B):Bt w B' (some g) v0 v1 v2 t :=
 Bt.map (fun g' h=>⟨g,rfl⟩) (fun a n c l h1 h2=>⟨h1,fun g' e=>h2 g rfl⟩) (fun b h1 _=>⟨fun g' e=>by cases e;have:=h1 g rfl;exact ⟨by omega,this.2⟩,fun p v h=>h⟩) t.dep t (Ad _) h
theorem Bt.other {w:World} {B g G:Nat} {v0 v1 v2:Value} {t:VT} (h:Bt w B (some g) v0 v1 v2 t) (hG:w.heap.size≤G∨G<B):Bt w B (some G) v0 v1 v2 t :=
 Bt.map (fun g' h=>⟨g,rfl⟩) (fun a n c l h1 h2=>⟨h1,fun g' e=>h2 g rfl⟩) (fun b h1 ⟨p,v,hc⟩=>⟨fun g' e=>by cases e;have:=h1 g rfl;have:b<w.heap.size:=Aa _ _ hc;exact ⟨by omega,by omega⟩,fun p v h=>h⟩) t.dep t (Ad _) h
mutual
def RT.clean:RT→VT
 | .node g n p xs=>.node g (lst p n) (RT.cleanL xs)
def RT.cleanL:List RT→List VT
 | []=>[]
 | x::xs=>x.clean::RT.cleanL xs
end
theorem RT.cleanL_eq (xs:List RT):RT.cleanL xs=xs.map RT.clean:=by
 induction xs with
 | nil=>rw [RT.cleanL];rfl
 | cons x xs ih=>rw [RT.cleanL,ih];rfl
theorem rN:∀(k:Nat) (t:RT),t.dep≤k→∀(w:World) (d:Nat) (v0 v1 v2:Value),VAt w v0 v1 v2 t→RT.Chk d t→RT.Sml 5000 t→Bt w 0 none v0 v1 v2 t.clean∧VT.Ok d t.clean:=by
 intro k
 induction k with
 | zero=>intro t ht;cases t;rw [RT.dep] at ht;omega
 | succ k ih =>
  intro t ht w d v0 v1 v2 h hc hs;obtain ⟨g,n,p,xs⟩:=t;rw [RT.dep] at ht;rw [VAt] at h;rw [RT.Chk] at hc;rw [RT.Sml] at hs;rw [RT.clean,RT.cleanL_eq];obtain ⟨rfl,⟨a,c,rfl,hp,hnl,hsm⟩,a',c',rfl,k1,k2,k3,k4,hrow⟩:=h;have hok:POk p n:=by
   rcases hc with ⟨_,_,_,h⟩|⟨_,rfl,_⟩
   ·exact h
   ·exact fun j hj=>absurd hj qA
  have hxs:∀d',(∀x∈xs,RT.Chk d' x)→∀x∈xs,∀v0 v1 v2,VAt w v0 v1 v2 x→Bt w 0 none v0 v1 v2 x.clean∧VT.Ok d' x.clean:=fun d' hd' x hx v0 v1 v2 hv =>
   ih x (by have:=RT.depL_mem (xs:=xs) hx;omega) w d' v0 v1 v2 hv (hd' x hx) (RT.SmlL_iff.1 hs.2.2 x hx)
  have hcd:∃d',∀x∈xs,RT.Chk d' x:=by
   rcases hc with ⟨_,rfl,_⟩|⟨_,_,_,_,h⟩
   ·exact ⟨0,fun x hx=>by cases hx⟩
   ·exact ⟨d+1,RT.ChkL_iff.1 h⟩
  constructor
  ·rw [Bt];refine ⟨rfl,⟨a,n,c,rfl,wM hp hok hnl,fun g e=>by cases e⟩,a',c',by rw [List.length_map],by rw [List.length_map];exact k1,k3,k4,?_⟩;rcases hrow with rfl|⟨b,o,e,hr⟩
   ·exact .inl rfl
   ·refine .inr ⟨b,o,e,fun g e=>(by cases e),Cd.of fun i y hy=>?_⟩;rw [List.getElem?_map] at hy;obtain ⟨x,hx,rfl⟩:=Option.map_eq_some_iff.1 hy;obtain ⟨u0,u1,u2,c0,c1,c2,hv⟩:=hr.at hx;obtain ⟨d',hd'⟩:=hcd;exact ⟨u0,u1,u2,c0,c1,c2,(hxs d' hd' x (A7 hx) _ _ _ hv).1⟩
  ·rw [VT.Ok];rcases hc with ⟨rfl,rfl,h3,h4⟩|⟨rfl,rfl,h3,h4,h5⟩
   ·exact .inl ⟨rfl,rfl,by rw [Ks];exact h3,tW hp hok,sU hp hok hs.2.1⟩
   ·refine .inr ⟨rfl,rfl,by rw [List.length_map];exact h3,h4,VT.OkL_iff.2 fun y hy=>?_⟩;obtain ⟨x,hx,rfl⟩:=List.mem_map.1 hy;obtain ⟨i,hi⟩:=List.getElem?_of_mem hx;obtain ⟨b,o,e,hr⟩:=hrow.resolve_left (by rintro rfl;cases hx);obtain ⟨u0,u1,u2,c0,c1,c2,hv⟩:=hr.at hi;exact (hxs (d+1) (RT.ChkL_iff.1 h5) x hx _ _ _ hv).2
theorem dE {w:World} {b:Nat} (d:Nat):∀{xs:List VT} {p:Nat},Cd w 0 none b p xs→(∀x∈xs,∀v0 v1 v2,Bt w 0 none v0 v1 v2 x→∃r:RT,VAt w v0 v1 v2 r∧RT.Chk d r)→∃rs:List RT,rs.length=xs.length∧Fg w b p rs∧RT.ChkL d rs:=by
 intro xs
 induction xs with
 | nil=>intro p _ _;exact ⟨[],rfl,by rw [Fg];trivial,by rw [RT.ChkL];trivial⟩
 | cons x xs ih =>
  intro p h hx;rw [Cd] at h;obtain ⟨⟨v0,v1,v2,c0,c1,c2,hv⟩,hr⟩:=h;obtain ⟨r,k1,k2⟩:=hx x (List.mem_cons_self ..) v0 v1 v2 hv;obtain ⟨rs,e,k3,k4⟩:=ih hr fun y hy=>hx y (List.mem_cons_of_mem _ hy)
  exact ⟨r::rs,by simp [e],by rw [Fg];exact ⟨⟨v0,v1,v2,c0,c1,c2,k1⟩,k3⟩,by rw [RT.ChkL];exact ⟨k2,k4⟩⟩
theorem tI (w:World):∀(k:Nat) (t:VT),t.dep≤k→∀(d:Nat) (v0 v1 v2:Value),Bt w 0 none v0 v1 v2 t→VT.Ok d t→∃r:RT,VAt w v0 v1 v2 r∧RT.Chk d r:=by
 intro k
 induction k with
 | zero=>intro t ht;cases t;rw [VT.dep] at ht;omega
 | succ k ih =>
  intro t ht d v0 v1 v2 h hok;obtain ⟨f,l,xs⟩:=t;rw [VT.dep] at ht;rw [Bt] at h;rw [VT.Ok] at hok;obtain ⟨rfl,⟨a,n,c,rfl,hp,_⟩,a',c',rfl,k2,k3,k4,k5⟩:=h;obtain ⟨p,hrd,hx⟩:=hp.ts;have hpw:PW l:=by
   exact qCv
  have hfew:Dd 5000 l:=by
   rcases hok with ⟨_,_,_,_,h⟩|⟨_,rfl,_⟩
   ·exact h
   ·exact fun t ht=>(by cases ht)
  have hpk:=hp.pok hpw hrd hx;have hpf:=hp.few hfew hrd hx;have hlen:=hp.len;obtain ⟨rs,e,k6,k7,k8⟩:∃rs:List RT,rs.length=xs.length∧(rs=[]∨∃b o,a'=some ⟨b,o,none⟩∧Fg w b o rs)∧(f=true→RT.ChkL (d+1) rs)∧(xs=[]→rs=[]):=by
   rcases hok with ⟨_,rfl,_⟩|⟨_,_,_,_,h5⟩
   ·exact ⟨[],rfl,.inl rfl,fun _=>by rw [RT.ChkL];trivial,fun _=>rfl⟩
   ·rcases k5 with rfl|⟨b,q,e,_,hr⟩
    ·exact ⟨[],rfl,.inl rfl,fun _=>by rw [RT.ChkL];trivial,fun _=>rfl⟩
    ·obtain ⟨rs,e1,e2,e3⟩:=dE (d+1) hr fun x hx v0 v1 v2 hv=>ih x (by have:=VT.depL_mem (xs:=xs) hx;omega) (d+1) v0 v1 v2 hv (VT.OkL_iff.1 h5 x hx)
     exact ⟨rs,e1,.inr ⟨b,q,e,e2⟩,fun _=>e3,fun hx=>by rw [hx] at e1;exact List.length_eq_zero_iff.1 e1⟩
  refine ⟨.node f n p rs,?_,?_⟩
  ·rw [VAt];have hl2:xs.length≤35184372088832:=by
    rcases hok with ⟨_,rfl,_⟩|⟨_,_,h,_⟩
    ·simp
    ·omega
   exact ⟨rfl,⟨a,c,rfl,hrd,hp.nl,fun k hk=>by have:=hpf k hk;omega⟩,a',c',by rw [e],by omega,by omega,k3,k4,k6⟩
  ·rw [RT.Chk];rcases hok with ⟨rfl,h1,h2,_⟩|⟨rfl,rfl,h3,h4,_⟩
   ·exact .inl ⟨rfl,k8 h1,by omega,hpk⟩
   ·exact .inr ⟨rfl,hlen.symm,by omega,h4,k7 rfl⟩
theorem Ei {w:World} {B:Nat} {o:Option Nat} {v0 v1 v2:Value} {t:VT} (h:Bt w B o v0 v1 v2 t) (hok:VT.Ok 1 t):Calls Tryz.prog 24 #[.agg #[v0,v1,v2]] w (fun e w'=>e=.returned (.bool true)∧Below w.heap.size w w'):=by
 obtain ⟨r,k1,k2⟩:=tI w t.dep t (Ad _) 1 v0 v1 v2 h.read hok;refine (Sg w v0 v1 v2 r k1).mono ?_;rintro e w' ⟨b,rfl,hb,hB⟩;exact ⟨by rw [hb.2 k2],hB⟩
theorem Bt.form {w:World} {B:Nat} {o:Option Nat} {v0 v1 v2:Value} {t:VT} (h:Bt w B o v0 v1 v2 t):∃f a n c a' n' c',v0=.bool f∧v1=.slice a n c∧v2=.slice a' n' c':=by
 obtain ⟨f,l,xs⟩:=t;rw [Bt] at h;obtain ⟨h0,⟨a,n,c,h1,_⟩,a',c',h2,_⟩:=h;exact ⟨_,_,_,_,_,_,_,h0,h1,h2⟩
theorem Vd:(Tryz.prog.info? 60).map (fun i=>(i.zero,i.size,i.bytes))=some (some (.agg #[.bool false,.slice none 0 0,.slice none 0 0]),3,56):=by kernel_rfl
theorem sO (w:World) (G n cp:Nat) (hc:n≤cp) (hn:n≤1000000):Calls Tryz.prog 218 #[.slice (some ⟨G,0,none⟩) n cp] w (fun e w'=>e=.returned (.slice (some ⟨G,0,none⟩) n n)∧Below w.heap.size w w'):=by
 have HB:=Ac w.heap.size w;have hrf:(Instr.sliceAt 58 (.slice (some ⟨G,0,none⟩) n cp) none (some (.int .i64 (n:Int))) (some (.int .i64 (n:Int)))).run Tryz.prog=fun W=>.ok (.slice (some ⟨G,0,none⟩) n n) W:=by
  funext W
  have h0:(n:Int)≤(cp:Int):=by omega
  simp [Instr.sliceAt,Instr.slice,Instr.sliceBounds,Instr.sliceBound,go_sem,h0,hc]
 go_enter Tryz.func218,Tryz.ntmps218;go_wp2_with fail;go_ret;exact ⟨rfl,HB⟩
theorem bL (w:World):Calls Tryz.prog 218 #[.slice none 0 0] w (fun e w'=>e=.returned (.slice none 0 0)∧Below w.heap.size w w'):=by
 have HB:=Ac w.heap.size w;go_enter Tryz.func218,Tryz.ntmps218;go_wp2_with fail;go_ret;exact ⟨rfl,HB⟩
def I7 (w:World) (Br B:Nat) (v:Value) (ts:List VT):Prop :=
 ∃xs,w.ownsRow Br 60 3 v ts.length xs∧∀(i:Nat) (t:VT),ts[i]? = some t→∃u0 u1 u2 g,xs[i*3]? = some u0∧xs[i*3+1]? = some u1∧xs[i*3+2]? = some u2∧v.ownBlock=some g∧Bt w B (some g) u0 u1 u2 t
theorem I7.nil (w:World) (Br B:Nat):I7 w Br B (.slice none 0 0) []:=⟨[],World.ownsRow_nil _ _ _ _,fun i t ht=>by simp at ht⟩
theorem I7.next {w w':World} {Br B g:Nat} {v v':Value} {ts:List VT} {t:VT} {u0 u1 u2:Value} {cap:Nat} {xs:List Value} (h:w.ownsRow Br 60 3 v ts.length xs) (hxs:∀(i:Nat) (t:VT),ts[i]? = some t→∃u0 u1 u2 g,xs[i*3]? = some u0∧xs[i*3+1]? = some u1∧xs[i*3+2]? = some u2∧v.ownBlock=some g∧Bt w B (some g) u0 u1 u2 t)
  (ht:Bt w B (some w.heap.size) u0 u1 u2 t) (ht2:∀g,v.ownBlock=some g→Bt w B (some g) u0 u1 u2 t)
  (hv':v'=.slice (some ⟨g,0,none⟩) (ts.length+1) cap) (hown:w'.ownsRow Br 60 3 v' (ts.length+1) (xs++[u0,u1,u2])) (hg:w.grownBy w' v.ownBlock) (hgg:v.ownBlock=some g∨g=w.heap.size):I7 w' Br B v' (ts++[t]):=by
 have hlx:xs.length=ts.length*3:=h.1;have key:∀(t:VT) u0 u1 u2,(∀g,v.ownBlock=some g→Bt w B (some g) u0 u1 u2 t)→(v.ownBlock=none→Bt w B (some w.heap.size) u0 u1 u2 t)→Bt w' B (some g) u0 u1 u2 t:=fun t u0 u1 u2 k1 k2=>by
  cases hvo:v.ownBlock with
  | none =>
   have hb:Below w.heap.size w w':=by rw [hvo] at hg;exact ⟨hg.os,hg.tape,hg.output,hg.size,fun k hk=>hg.block k hk qG⟩
   have:=(k2 hvo).keep hb;rcases hgg with e|e
   ·rw [hvo] at e;cases e
   ·rw [e];exact this
  | some g0 =>
   have k:=k1 g0 hvo;obtain ⟨cur,hc⟩:=Kv h hvo;have hg0:w.grownBy w' (some g0):=by rw [←hvo];exact hg
   refine Bt.map (fun _ _=>⟨_,rfl⟩) (fun a n c l h1 h2=>?_) (fun b h1 ⟨p,v,hc⟩=>⟨fun g' e=>?_,fun p v h=>hg0.cell h (fun e=>(h1 g0 rfl).2 (Option.some.inj e))⟩) t.dep t (Ad _) k
   ·have:=Wp h1 (h2 g0 rfl) (fun cur' e=>by rw [hc] at e;simp at e) (fun cur' e=>by rw [hc] at e;simp at e) hg0;exact ⟨this.1,fun g' e=>this.2⟩
   ·cases e
    have h1':=h1 g0 rfl;have:b<w.heap.size:=Aa _ _ hc;refine ⟨h1'.1,?_⟩;rcases hgg with e|e
    ·rw [hvo] at e;cases e;exact h1'.2
    ·omega
 refine ⟨xs++[u0,u1,u2],by simpa using hown,fun i t' ht'=>?_⟩;have hvg:v'.ownBlock=some g:=by rw [hv'];rfl
 by_cases hi:i<ts.length
 ·rw [Az hi] at ht';obtain ⟨a0,a1,a2,g0,e0,e1,e2,e3,e4⟩:=hxs i t' ht';refine ⟨a0,a1,a2,g,by rw [Az qA];exact e0,by rw [Az qA];exact e1,by rw [Az qA];exact e2,hvg,key t' a0 a1 a2 (fun g' e=>?_) (fun e=>?_)⟩
  ·rw [e3] at e;cases e;exact e4
  ·rw [e3] at e;cases e
 ·obtain ⟨hlt,-⟩:=List.getElem?_eq_some_iff.1 ht';have:i=ts.length:=by simp at hlt;omega
  subst this;rw [A4 (Ad _)] at ht';simp at ht';subst ht';have e0:(xs++[u0,u1,u2])[ts.length*3]? = some u0:=by rw [A4 qA];simp [hlx]
  have e1:(xs++[u0,u1,u2])[ts.length*3+1]? = some u1:=by rw [A4 qA];simp [hlx]
  have e2:(xs++[u0,u1,u2])[ts.length*3+2]? = some u2:=by rw [A4 qA];simp [hlx]
  exact ⟨u0,u1,u2,g,e0,e1,e2,hvg,key t u0 u1 u2 ht2 (fun _=>ht)⟩
theorem Bt.set {w:World} {B g R o:Nat} {u v0 v1 v2:Value} {t:VT} (h:Bt w B (some g) v0 v1 v2 t) (hR:R<B) (hp:¬Sl w R):Bt (w.setCell ⟨R,o,none⟩ u) B (some g) v0 v1 v2 t:=by
 have hk:KpT w (w.setCell ⟨R,o,none⟩ u):=KpT.of_grown (row:=some R) (Bd _ (A6 _ _)) (fun k e=>by cases e;exact hp);exact Bt.map (fun _ h=>⟨_,rfl⟩) (fun a n c l h1 h2=>⟨(Du h1 (h2 g rfl) hk).1,fun g' e=>(Du h1 (h2 g rfl) hk).2⟩)
  (fun b h1 _=>⟨fun g' e=>by cases e;exact h1 g rfl,fun p v h=>(A5 _ _ _ _ (by have:=(h1 g rfl).1;show R≠b;omega)).trans h⟩) t.dep t (Ad _) h
theorem Blk.noPd {w:World} {R:Nat} {vs:Array Value} (h:Blk w R vs 60):¬Sl w R:=by
 have hC:w.heap[R]? = _:=h;rintro (⟨c,e⟩|⟨c,e⟩)<;>(rw [hC] at e;simp at e)
theorem I7.set {w:World} {Br B R o:Nat} {v u:Value} {ts:List VT} (h:I7 w Br B v ts) (h1:R<Br) (h2:R<B) (hp:¬Sl w R):I7 (w.setCell ⟨R,o,none⟩ u) Br B v ts:=by
 obtain ⟨xs,k1,k2⟩:=h;refine ⟨xs,Kf k1 h1,fun i t ht=>?_⟩;obtain ⟨u0,u1,u2,g,e0,e1,e2,e3,e4⟩:=k2 i t ht;exact ⟨u0,u1,u2,g,e0,e1,e2,e3,e4.set h2 hp⟩
theorem I7.vrow {w:World} {Br B g n cap:Nat} {ts:List VT} (h:I7 w Br B (.slice (some ⟨g,0,none⟩) n cap) ts):Cd w B (some g) g 0 ts:=by
 obtain ⟨xs,k1,k2⟩:=h;refine Cd.of fun i x hx=>?_
 obtain ⟨u0,u1,u2,g',e0,e1,e2,e3,e4⟩:=k2 i x hx;simp only [Value.ownBlock,Option.some.injEq] at e3;subst e3;have hc:=World.ownsRow.cells k1 (g:=g) rfl;have hadd:∀j,(⟨g,0,none⟩:Addr).add j=⟨g,j,none⟩:=fun j=>by unfold Addr.add;split<;>simp_all
 have c0:=hc _ _ e0;have c1:=hc _ _ e1;have c2:=hc _ _ e2;rw [hadd] at c0 c1 c2;exact ⟨u0,u1,u2,by rw [Nat.zero_add];exact c0,by rw [Nat.zero_add];exact c1,by rw [Nat.zero_add];exact c2,e4⟩
def eU (w:World) (t:VT) (e:Ending) (w':World):Prop:=∃u0 u1 u2,e=.returned (.agg #[u0,u1,u2])∧Bt w' w.heap.size (some w'.heap.size) u0 u1 u2 t∧Below w.heap.size w w'
def tF (w:World) (t:VT) (e:Ending) (w':World):Prop:=∃u0 u1 u2,e=.returned (.agg #[u0,u1,u2])∧Bt w' w.heap.size (some w'.heap.size) u0 u1 u2 t∧Below w.heap.size w w'∧∀a n c,u2=.slice a n c→c=n
theorem uQ:∀(k:Nat) (t:VT),t.dep≤k→∀(d:Nat) (w:World) (v0 v1 v2:Value),Bt w 0 none v0 v1 v2 t→VT.Ok d t→Calls Tryz.prog 156 #[.agg #[v0,v1,v2]] w (tF w t):=by
 intro k
 induction k with
 | zero=>intro t ht;cases t;rw [VT.dep] at ht;omega
 | succ k ih =>
  intro t ht d w v0 v1 v2 h hok;obtain ⟨f,l,xs⟩:=t;rw [VT.dep] at ht;rw [Bt] at h;rw [VT.Ok] at hok;obtain ⟨rfl,⟨a,n,c,rfl,hp,_⟩,a',c',rfl,k2,k3,k4,hrow⟩:=h;have HB:=Ac w.heap.size w;go_enter Tryz.func156,Tryz.ntmps156;cases f
  ·obtain ⟨hxs,hl2,hpw,hfw⟩:xs=[]∧l.length≤2000∧PW l∧Dd 5000 l:=by
    rcases hok with ⟨_,h1,h2,h3,h4⟩|⟨h,_⟩
    ·exact ⟨h1,h2,h3,h4⟩
    ·cases h
   subst hxs;simp only [List.length_nil] at k2 ⊢;have hln:=hp.len;clear ih hok hrow ht;go_wp2_with fail;refine Be ?_;intro w0 hw0;have b0:Below w.heap.size w w0:=by rw [hw0];go_grown
   have A0:Blk w0 w.heap.size #[.bool false,.slice a n c,.slice a' 0 c'] 60:=by rw [hw0];exact ((Bj rfl _ _).alloc _).alloc _
   have R0:Blk w0 (w.heap.size+1) #[.bool false,.slice none 0 0,.slice none 0 0] 60:=by rw [hw0];exact (Bj qG _ _).alloc _
   have O0:Blk w0 (w.heap.size+1+1) #[.bool false,.slice none 0 0,.slice none 0 0] 60:=by rw [hw0];exact Bj qG _ _
   have x2:=A0.cell 2 _ rfl;clear hw0;have HPA:=Iu w0 0 a n c l (hp.keep b0) hpw 5000 hfw 0 none 0 0 [] (Bc.nil _ _) ⟨List.Pairwise.nil,fun t ht=>(by cases ht),fun t ht=>(by cases ht)⟩ 0 (fun t ht=>(by cases ht)) qA qA qA;rw [nB] at HPA;refine HPA.mono ?_;rintro e w1 ⟨a1,n1,c1,rfl,hp1,ho1,hb1⟩;have b1:=b0.trans (hb1.mono b0.size);have hyl:w.heap.size+1+1<w0.heap.size:=O0.lt;replace A0:=A0.keep hb1;replace R0:=R0.keep hb1;replace O0:=O0.keep hb1;have y1:=O0.cell 1 _ rfl;have yf:=O0.frozen 1;replace x2:=A0.cell 2 _ rfl;have HP1:=Ae (Ay hp1 ho1);clear hp1 ho1 HPA hp;go_wp2_with fail;refine By ?_;intro w2 hw2;have b2:Below w.heap.size w w2:=by rw [hw2];exact b1.setCell (p:=⟨w.heap.size+1+1,1,none⟩) (by show w.heap.size≤w.heap.size+1+1;omega) _
   have g2:w1.grownBy w2 (some (w.heap.size+1+1)):=by rw [hw2];exact Bd _ (A6 _ _)
   have O2:=O0.set 1 (.slice a1 n1 c1);rw [←hw2] at O2;have R2:=R0.row g2 qG;have hp2:=HP1.out.1.butR g2 (fun k e=>by cases e;exact hyl);have ho2:=HP1.out.2.butR g2 (fun k e=>by cases e;exact hyl);have HP2:=Ae (Ay hp2 ho2);have z2:=O2.cell 2 _ rfl;clear hw2 g2 y1 yf x2 HP1 hp2 ho2 A0 R0 O0;refine wp_loop_rounds 1 ?_;rw [rounds_succ];go_wp2_with fail;refine (bL _).mono ?_;rintro e w3 ⟨rfl,hb3⟩;have b3:=b2.trans (hb3.mono b2.size);replace O2:=O2.keep hb3;replace R2:=R2.keep hb3;have o0:=O2.cell 0 _ rfl;have o1:=O2.cell 1 _ rfl;replace z2:=O2.cell 2 _ rfl;have of2:=O2.frozen 2;have r0:=R2.cell 0 _ rfl;have r1:=R2.cell 1 _ rfl;have r2:=R2.cell 2 _ rfl;have rf0:=R2.frozen 0;have rf1:=R2.frozen 1;have rf2:=R2.frozen 2;have ol:=O2.lt;have rl:=R2.lt;have hs3:=hb3.size;have HP3:=Ae (Ay (HP2.out.1.keep hb3) (HP2.out.2.keep hb3));clear HP2;go_wp2_with fail;obtain ⟨w4,hw4⟩:∃w4,w4=(((w3.setCell ⟨w.heap.size+1+1,2,none⟩ (.slice none 0 0)).setCell ⟨w.heap.size+1,0,none⟩ (.bool false)).setCell ⟨w.heap.size+1,1,none⟩ (.slice a1 n1 c1)).setCell ⟨w.heap.size+1,2,none⟩ (.slice none 0 0):=⟨_,rfl⟩;have R4:=(((R2.far ⟨w.heap.size+1+1,2,none⟩ (.slice none 0 0) (by show w.heap.size+1≠w.heap.size+1+1;omega)).set 0 (.bool false)).set 1 (.slice a1 n1 c1)).set 2 (.slice none 0 0);have b4:=(((b3.setCell (p:=⟨w.heap.size+1+1,2,none⟩) (by show w.heap.size≤w.heap.size+1+1;omega) (.slice none 0 0)).setCell (p:=⟨w.heap.size+1,0,none⟩) (by show w.heap.size≤w.heap.size+1;omega) (.bool false)).setCell (p:=⟨w.heap.size+1,1,none⟩) (by show w.heap.size≤w.heap.size+1;omega) (.slice a1 n1 c1)).setCell (p:=⟨w.heap.size+1,2,none⟩) (by show w.heap.size≤w.heap.size+1;omega) (.slice none 0 0);have V4:Bc w4 w.heap.size a1 n1 c1 l∧Bk w4 w.heap.size a1 n1 c1:=by
    have g1:=Bd (.slice none 0 0) (R:=w.heap.size+1+1) (o:=2) (A6 w3 (some (w.heap.size+1+1)));have g2:=Bd (.slice none 0 0) (R:=w.heap.size+1) (o:=2) (Bd (.slice a1 n1 c1) (R:=w.heap.size+1) (o:=1) (Bd (.bool false) (R:=w.heap.size+1) (o:=0) (A6 (w3.setCell ⟨w.heap.size+1+1,2,none⟩ (.slice none 0 0)) (some (w.heap.size+1)))));rw [hw4];exact ⟨((HP3.out.1.butR g1 (fun k e=>by cases e;exact hyl)).butR g2 (fun k e=>by cases e;omega)).mono b0.size,((HP3.out.2.butR g1 (fun k e=>by cases e;exact hyl)).butR g2 (fun k e=>by cases e;omega)).mono b0.size⟩
   rw [←hw4] at R4 b4 ⊢;have r0:=R4.cell 0 _ rfl;have r1:=R4.cell 1 _ rfl;have r2:=R4.cell 2 _ rfl;clear hw4;refine bodyPost_ret (v:=.agg #[.bool false,.slice a1 n1 c1,.slice none 0 0]) (by simp [results,Tryz.results156,go_sem,r0,r1,r2]) rfl ?_;refine ⟨_,_,_,rfl,?_,b4,fun a n c e=>by cases e;rfl⟩;rw [Bt];exact ⟨rfl,⟨a1,n1,c1,rfl,V4.1.mono (A9 _),fun g e=>V4.2.mono (A9 _)⟩,none,0,rfl,by simp,by omega,fun _=>rfl,.inl rfl⟩
  ·obtain ⟨rfl,hl2,hd,hxo⟩:l=[]∧xs.length≤2000∧d≤64∧VT.OkL (d+1) xs:=by
    rcases hok with ⟨h,_⟩|⟨_,h1,h2,h3,h4⟩
    ·cases h
    ·exact ⟨h1,h2,h3,h4⟩
   have HI:=Ae (fun (x:VT) (hx:x∈xs) (W:World) (v0 v1 v2:Value) (hv:Bt W 0 none v0 v1 v2 x)=>ih x (by have:=VT.depL_mem (xs:=xs) hx;omega) (d+1) W v0 v1 v2 hv (VT.OkL_iff.1 hxo x hx));have HR:=Ae hrow;obtain ⟨m,hm⟩:∃m,m=xs.length:=⟨_,rfl⟩;rw [←hm] at k2 hl2 ⊢;have HM:=Ae hm;clear ih hok hrow ht hm hp;go_wp2_with fail;refine By ?_;intro w0 hw0;have b0:Below w.heap.size w w0:=by rw [hw0];go_grown
   have R0:Blk w0 (w.heap.size+1) #[.bool false,.slice none 0 0,.slice none 0 0] 60:=by rw [hw0];exact (Bj qG _ _).alloc _
   have O0:Blk w0 (w.heap.size+1+1) #[.bool true,.slice none 0 0,.slice none 0 0] 60:=by rw [hw0];exact Bj qG _ _
   clear hw0;obtain ⟨i0,hi,hz0,hz1,hz2⟩:=info_parts Vd;go_loopw [19] (fun v19 wr=>∃(i:Nat) (v:Value),i≤m∧v19=.int .i64 i∧I7 wr w0.heap.size w0.heap.size v (xs.take i)∧Blk wr (w.heap.size+1) #[.bool false,.slice none 0 0,.slice none 0 0] 60∧Blk wr (w.heap.size+1+1) #[.bool true,.slice none 0 0,v] 60∧Below w.heap.size w wr∧w0.heap.size≤wr.heap.size) (fun v19 _=>m-(intOf v19).toNat)
   case atStart=>exact ⟨0,_,by omega,rfl,I7.nil _ _ _,R0,O0,b0,Ad _⟩
   case round =>
    have hol:=O0.lt;clear R0 O0;obtain ⟨i,v,hi2,rfl,hrow,R1,O1,HBr,h0r⟩:=hrel;by_cases hlt:i<m
    ·obtain ⟨b,p,rfl,_,hv⟩:=HR.out.resolve_left (by intro e;have:=HM.out;rw [e] at this;simp at this;omega);obtain ⟨x,hx⟩:∃x,xs[i]? = some x:=⟨_,Ai (by rw [←HM.out];exact hlt)⟩;obtain ⟨u0,u1,u2,c0,c1,c2,hva⟩:=hv.at hx;have hva1:=hva.keep HBr;obtain ⟨fx,ax,nx,cx,ay,ny,cy,rfl,rfl,rfl⟩:=hva.form;replace c0:=Bb HBr c0;replace c1:=Bb HBr c1;replace c2:=Bb HBr c2;have HX:=Ae (Ay hx hva1);obtain ⟨ys,hown,hys⟩:=hrow;have HY:=Ae (Ay hown hys);have hil:(xs.take i).length=i:=by rw [List.length_take];have:=HM.out;omega
     clear hx hva hva1 hv hown hys;go_upto_region 7 with fail
     refine By ?_;intro w1 hw1;have k1:Below wr.heap.size wr w1:=by rw [hw1];go_grown
     have X1:Blk w1 wr.heap.size #[.bool fx,.slice ax nx cx,.slice ay ny cy] 60:=by rw [hw1];exact Bj rfl _ _
     have b1:=HBr.trans (k1.mono HBr.size);replace R1:=R1.keep k1;replace O1:=O1.keep k1;have o2:=O1.cell 2 _ rfl;have t0:=X1.cell 0 _ rfl;have t1:=X1.cell 1 _ rfl;have t2:=X1.cell 2 _ rfl;have hs1:=k1.size;clear hw1 c0 c1 c2;refine Bx (fun W=>W.cell? ⟨w.heap.size+1+1,2,none⟩=some v∧W.cell? ⟨wr.heap.size,0,none⟩=some (.bool fx)∧W.cell? ⟨wr.heap.size,1,none⟩=some (.slice ax nx cx)∧W.cell? ⟨wr.heap.size,2,none⟩=some (.slice ay ny cy)) 7 qC qK (fun hHeld=>?_);(refine Bh.take 7 (i:=0) (v:=?_) rfl qC (fun _ _ _ h=>h) (Or.inl ⟨by rfl,?_⟩) qH ?_;rotate_left;(focus (intro w' hSw;(try dsimp only at hSw);go_simp;(try with_reducible rfl)));(try simp only [Act.put,Au,Av,Aw]));(refine Bh.take 7 (i:=1) (v:=?_) rfl qC (fun _ _ _ h=>h) (Or.inl ⟨by rfl,?_⟩) qH ?_;rotate_left;(focus (intro w' hSw;(try dsimp only at hSw);go_simp;(try with_reducible rfl)));(try simp only [Act.put,Au,Av,Aw]));(refine Bh.take 7 (i:=2) (v:=?_) rfl qC (fun _ _ _ h=>h) (Or.inl ⟨by rfl,?_⟩) qH ?_;rotate_left;(focus (intro w' hSw;(try dsimp only at hSw);go_simp;(try with_reducible rfl)));(try simp only [Act.put,Au,Av,Aw]));have hol1:w.heap.size+1+1<w1.heap.size:=O1.lt;have kd:Below wr.heap.size wr w1.drew:=k1.drew;have kd1:Below w1.heap.size w1 w1.drew:=Below.drew (Ac _ _);(refine Bh.one (i:=3) rfl qC (fun K hK=>?_);go_simp;(go_at_call 156;(with_reducible refine (HI.out x (A7 HX.out.1) w1.drew _ _ _ (HX.out.2.keep kd)).mono ?_);rintro e w5 ⟨q0,q1,q2,rfl,hq,hb5,_⟩;obtain ⟨gx,bx,mx,ex,bY,mY,eY,rfl,rfl,rfl⟩:=hq.form;have HQ:=Ae hq;clear hq;have hs5:=hb5.size;rw [Ak] at hs5;replace hb5:Below w1.heap.size w1 w5:=kd1.trans (by rw [Ak] at hb5;exact hb5);replace o2:=Bb hb5 o2;replace t0:=Bb hb5 t0;replace t1:=Bb hb5 t1;replace t2:=Bb hb5 t2);(try go_wp2_with fail);refine hK.out _ _ (fun _=>qK) ?_;clear hK K;(try simp only [Act.put,Au,Av,Aw]));(refine Bh.one (i:=4) rfl qC (fun K hK=>?_);go_simp;skip;(try go_wp2_with fail);refine hK.out _ _ (fun _=>qK) ?_;clear hK K;(try simp only [Act.put,Au,Av,Aw]));have hown':World.ownsRow (w5.alloc (.cells #[.bool gx,.slice bx mx ex,.slice bY mY eY] 60)) w0.heap.size 60 3 v i ys:=by
      have h:=HY.out.1;rw [hil] at h;exact Bm (Bm (Bm h k1) hb5) qF
     have hge:=Ge hown';have hltv:∀k,v.ownBlock=some k→k<wr.heap.size:=fun k e=>by obtain ⟨cur,h⟩:=Kv HY.out.1 e;exact (Ar.1 h).1
     replace X1:=(X1.keep hb5).keep (Below.alloc (Ac _ _) (Ad _) (.cells #[.bool gx,.slice bx mx ex,.slice bY mY eY] 60));have hk57:Below w5.heap.size w5 (w5.alloc (.cells #[.bool gx,.slice bx mx ex,.slice bY mY eY] 60)):=Below.alloc (Ac _ _) (Ad _) _;replace O1:=(O1.keep hb5).keep hk57;replace R1:=(R1.keep hb5).keep hk57;have p2:=O1.cell 2 _ rfl;(refine Bh.one (i:=5) rfl qC (fun K hK=>?_);refine step_append_lies _ qP _ _ _ qP w0.heap.size 60 i0 _ 3 56 Tryz.underlying58 hi hz0 hz1 hz2 rfl qJ v i ys qP hown' ⟨w5.heap.size,0,none⟩ 1 1 [.bool gx,.slice bx mx ex,.slice bY mY eY] qP qP (fun j u h=>by have:=G5 w5 _ 60 j u h;simpa using this) (by simp [Value.oneCell']) qJ qO qA qI _ rfl ?_;intro g cap w7 hown7 hgrow7 hat7 hlt7;have hne7:some (w.heap.size+1+1)≠v.ownBlock:=(fun e=>by have:=hge _ e.symm;omega);have hne8:some (w.heap.size+1)≠v.ownBlock:=(fun e=>by have:=hge _ e.symm;omega);have hne9:some wr.heap.size≠v.ownBlock:=(fun e=>by have:=hltv _ e.symm;omega);have X7:=X1.row hgrow7 hne9;have t07:=X7.cell 0 _ rfl;have t17:=X7.cell 1 _ rfl;have t27:=X7.cell 2 _ rfl;have O7:=O1.row hgrow7 hne7;have R7:=R1.row hgrow7 hne8;have o27:=O7.cell 2 _ rfl;have of7:=O7.frozen 2;have ol7:=O7.lt;refine hK.out _ _ (fun _=>qK) ?_;clear hK K;(try simp only [Act.put,Au,Av,Aw]));(refine Bh.one (i:=6) rfl qC (fun K hK=>?_);go_simp;skip;(try go_wp2_with fail);refine hK.out _ _ (fun _=>qK) ?_;clear hK K;(try simp only [Act.put,Au,Av,Aw]));(refine Bh.one (i:=7) rfl qC (fun K hK=>?_);go_simp;refine hK.out _ _ (fun h=>absurd h qJ) ?_;clear hK K;(try simp only [Act.put,Au,Av,Aw]));refine Bh.done qC ?_ _;have hz7:=hgrow7.size;simp only [Aj] at hz7;have kB:Below w.heap.size w w7:=((b1.trans (hb5.mono b1.size)).trans (hk57.mono qA)).grown hgrow7 qI (fun k hk=>by have:=hge k hk;omega);have hgs:w7.grownBy (w7.setCell ⟨w.heap.size+1+1,2,none⟩ (.slice (some ⟨g,0,none⟩) (i+1) cap)) (some (w.heap.size+1+1)):=Bd _ (A6 _ _);have htk:xs.take (i+1)=xs.take i++[x]:=by rw [List.take_add_one,HX.out.1];rfl
     have HRV:=Ae (show I7 (w7.setCell ⟨w.heap.size+1+1,2,none⟩ (.slice (some ⟨g,0,none⟩) (i+1) cap)) w0.heap.size w0.heap.size (.slice (some ⟨g,0,none⟩) (i+1) cap) (xs.take (i+1)) from by
      rw [htk];refine I7.set (I7.next (cap:=cap) (by rw [hil];exact hown') (fun j t hj=>?_) (((HQ.out.keep hk57).down (by rw [Ak];omega)).other (.inl (Ad _))) (fun g' e=>((HQ.out.keep hk57).other (.inr (by rw [Ak];have:=hltv g' e;omega))).down (by rw [Ak];omega)) (by rw [hil]) (by rw [hil];exact hown7) hgrow7 hat7) hol hol O7.noPd;obtain ⟨a0,a1,a2,g',e0,e1,e2,e3,e4⟩:=HY.out.2 j t hj;exact ⟨a0,a1,a2,g',e0,e1,e2,e3,((e4.keep k1).keep hb5).keep hk57⟩)
     clear hown7 hgrow7 hat7 hown';go_wp2_with fail;go_roundw
     case rel=>exact ⟨i+1,.slice (some ⟨g,0,none⟩) (i+1) cap,by omega,by go_num,HRV.out,R7.row hgs qG,O7.set 2 _,kB.setCell (p:=⟨w.heap.size+1+1,2,none⟩) (by show w.heap.size≤w.heap.size+1+1;omega) _,by simp;omega⟩
     case measure=>(first|(simp [intOf];omega)|(simp [intOf];done))
    ·obtain rfl:i=m:=by omega
     rw [As (by have:=HM.out;omega)] at hrow;have HRW:=Ae hrow;have o2:=O1.cell 2 _ rfl;have hcl:Calls Tryz.prog 218 #[v] wr (fun e w'=>∃a n c,e=.returned (.slice a n c)∧n=i∧c=n∧c≤2000∧(a=none→c=0)∧(xs=[]∨∃b,a=some ⟨b,0,none⟩∧w0.heap.size≤b∧b<wr.heap.size∧Cd wr w0.heap.size (some b) b 0 xs)∧Below wr.heap.size wr w'):=by
      obtain ⟨ys,hown,_⟩:=HRW.out;rcases hown.2 with ⟨rfl,h0⟩|⟨g,cap,cur,rfl,hg,hcur,hc,_⟩
      ·refine (bL wr).mono ?_;rintro e w' ⟨rfl,hb⟩;have:xs=[]:=List.length_eq_zero_iff.1 h0;exact ⟨_,_,_,rfl,by have:=HM.out;omega,by omega,by omega,fun _=>rfl,.inl this,hb⟩
      ·refine (sO wr g xs.length cap hc (by have:=HM.out;omega)).mono ?_;rintro e w' ⟨rfl,hb⟩;exact ⟨_,_,_,rfl,by have:=HM.out;omega,rfl,by have:=HM.out;omega,fun h=>(by cases h),.inr ⟨g,rfl,hg,(Ar.1 hcur).1,HRW.out.vrow⟩,hb⟩
     clear hrow;go_wp2_with fail;refine hcl.mono ?_;rintro e w3 ⟨a3,n3,c3,rfl,rfl,h31,h32,h33,h34,hb3⟩;have H4:=Ae (Ay h33 h34);have b3:=HBr.trans (hb3.mono HBr.size);have O2:=O1.keep hb3;have R2:=R1.keep hb3;have o0:=O2.cell 0 _ rfl;have o1:=O2.cell 1 _ rfl;replace o2:=O2.cell 2 _ rfl;have of2:=O2.frozen 2;have r0:=R2.cell 0 _ rfl;have r1:=R2.cell 1 _ rfl;have r2:=R2.cell 2 _ rfl;have rf0:=R2.frozen 0;have rf1:=R2.frozen 1;have rf2:=R2.frozen 2;have ol:=O2.lt;have rl:=R2.lt;have hs3:=hb3.size;have HC:=Ae h31;clear hcl h33 h34 h31;go_wp2_with fail;obtain ⟨w4,hw4⟩:∃w4,w4=(((w3.setCell ⟨w.heap.size+1+1,2,none⟩ (.slice a3 n3 c3)).setCell ⟨w.heap.size+1,0,none⟩ (.bool true)).setCell ⟨w.heap.size+1,1,none⟩ (.slice none 0 0)).setCell ⟨w.heap.size+1,2,none⟩ (.slice a3 n3 c3):=⟨_,rfl⟩;have R4:=(((R2.far ⟨w.heap.size+1+1,2,none⟩ (.slice a3 n3 c3) (by show w.heap.size+1≠w.heap.size+1+1;omega)).set 0 (.bool true)).set 1 (.slice none 0 0)).set 2 (.slice a3 n3 c3);have b4:=(((b3.setCell (p:=⟨w.heap.size+1+1,2,none⟩) (by show w.heap.size≤w.heap.size+1+1;omega) (.slice a3 n3 c3)).setCell (p:=⟨w.heap.size+1,0,none⟩) (by show w.heap.size≤w.heap.size+1;omega) (.bool true)).setCell (p:=⟨w.heap.size+1,1,none⟩) (by show w.heap.size≤w.heap.size+1;omega) (.slice none 0 0)).setCell (p:=⟨w.heap.size+1,2,none⟩) (by show w.heap.size≤w.heap.size+1;omega) (.slice a3 n3 c3);have Rf:=R2.far ⟨w.heap.size+1+1,2,none⟩ (.slice a3 n3 c3) (by show w.heap.size+1≠w.heap.size+1+1;omega);have V4:∀(b:Nat),w0.heap.size≤b→(∀p v,w3.cell? ⟨b,p,none⟩=some v→w4.cell? ⟨b,p,none⟩=some v)∧∀v0 v1 v2 t,Bt wr w0.heap.size (some b) v0 v1 v2 t→Bt w4 w.heap.size (some w4.heap.size) v0 v1 v2 t:=fun b hb=>by
      rw [hw4];refine ⟨fun p v h=>?_,fun v0 v1 v2 t h=>?_⟩
      ·exact (A5 _ _ _ _ (by show w.heap.size+1≠b;omega)).trans ((A5 _ _ _ _ (by show w.heap.size+1≠b;omega)).trans ((A5 _ _ _ _ (by show w.heap.size+1≠b;omega)).trans ((A5 _ _ _ _ (by show w.heap.size+1+1≠b;omega)).trans h)))
      ·exact ((((((h.keep hb3).set hol O2.noPd).set qA Rf.noPd).set qA (Rf.set 0 (.bool true)).noPd).set qA ((Rf.set 0 (.bool true)).set 1 (.slice none 0 0)).noPd).other (.inl (Ad _))).down b0.size
     have hz4:w4.heap.size=w3.heap.size:=by rw [hw4];simp
     rw [←hw4] at R4 b4 ⊢;have r0:=R4.cell 0 _ rfl;have r1:=R4.cell 1 _ rfl;have r2:=R4.cell 2 _ rfl;clear hw4;refine bodyPost_ret (v:=.agg #[.bool true,.slice none 0 0,.slice a3 n3 c3]) (by simp [results,Tryz.results156,go_sem,r0,r1,r2]) rfl ?_;refine ⟨_,_,_,rfl,?_,b4,fun a n c e=>by cases e;exact HC.out⟩;rw [Bt];have hm:=HM.out;have h31:=HC.out;refine ⟨rfl,⟨none,0,0,rfl,Bc.nil _ _,fun g e=>Bk.nil _ _⟩,a3,c3,by rw [←hm],by omega,by omega,H4.out.1,?_⟩;refine H4.out.2.imp id fun⟨b,e,hb,hbl,hr⟩=>⟨b,0,e,fun g' e'=>?_,Cd.of fun j x hx=>?_⟩
     ·cases e'
      have:=b0.size;exact ⟨by omega,by omega⟩
     ·obtain ⟨k1,k2⟩:=V4 b hb;obtain ⟨u0,u1,u2,c0,c1,c2,hv⟩:=hr.at hx;exact ⟨u0,u1,u2,k1 _ _ (Bb hb3 c0),k1 _ _ (Bb hb3 c1),k1 _ _ (Bb hb3 c2),k2 _ _ _ _ hv⟩
theorem U4 {w:World} {B d:Nat} {o:Option Nat} {v0 v1 v2:Value} {t:VT} (h:Bt w B o v0 v1 v2 t) (hok:VT.Ok d t):Calls Tryz.prog 156 #[.agg #[v0,v1,v2]] w (tF w t):=uQ t.dep t (Ad _) d w v0 v1 v2 h.read hok
theorem vG {w:World} {B d:Nat} {o:Option Nat} {v0 v1 v2:Value} {t:VT} (h:Bt w B o v0 v1 v2 t) (hok:VT.Ok d t):Calls Tryz.prog 156 #[.agg #[v0,v1,v2]] w (eU w t):=(U4 h hok).mono fun _ _ ⟨u0,u1,u2,h1,h2,h3,_⟩=>⟨u0,u1,u2,h1,h2,h3⟩
end Go.Proofs.YtnnhcbeiogaknaaGreatDoor
end
