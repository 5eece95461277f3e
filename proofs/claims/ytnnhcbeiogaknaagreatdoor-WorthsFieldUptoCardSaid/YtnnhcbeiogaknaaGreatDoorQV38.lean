/- Clean values as trees (VT), and how they lie in memory: read alone (o = none), or new and apart from the block. -/
import Derived.Test.YtnnhcbeiogaknaaGreatDoorQV37
set_option linter.unusedSimpArgs false
set_option linter.unusedVariables false
set_option maxRecDepth 100000
set_option maxHeartbeats 4000000
section
namespace Go.Proofs.YtnnhcbeiogaknaaGreatDoor
open Go.RowKit
inductive VT where
 | node (g:Bool) (l:Δ) (xs:List VT)
mutual
def VT.dep:VT→Nat
 | .node _ _ xs=>VT.depL xs+1
def VT.depL:List VT→Nat
 | []=>0
 | x::xs=>max x.dep (VT.depL xs)
end
theorem VT.depL_mem {xs:List VT} {x:VT} (h:x∈xs):x.dep≤VT.depL xs:=by
 induction xs with
 | nil=>cases h
 | cons y xs ih =>
  rw [VT.depL];exact qDh
mutual
def VT.Ok:Nat→VT→Prop
 | d,.node g l xs=>(g=false∧xs=[]∧l.length≤2000∧PW l∧Cj 5000 l)∨(g=true∧l=[]∧xs.length≤2000∧d≤64∧VT.OkL (d+1) xs)
def VT.OkL:Nat→List VT→Prop
 | _,[]=>True
 | d,x::xs=>VT.Ok d x∧VT.OkL d xs
end
theorem VT.OkL_iff {d:Nat} {xs:List VT}:VT.OkL d xs↔∀x∈xs,VT.Ok d x:=by
 induction xs with
 | nil=>simp [VT.OkL]
 | cons y xs ih=>simp [VT.OkL,ih]
mutual
def Bw (w:World) (B:Nat) (o:Option Nat):Value→Value→Value→VT→Prop
 | v0,v1,v2,.node f l xs=>v0=.bool f∧(∃a n c,v1=.slice a n c∧Bd w 0 a n c l∧(∀g,o=some g→Bm w 0 a n c)) ∧
  ∃a c,v2=.slice a xs.length c∧xs.length≤c∧c≤9223372036854775807∧(a=none→c=0)∧(xs=[]∨∃b p,a=some ⟨b,p,none⟩∧(∀g,o=some g→B≤b∧b≠g)∧Di w B o b p xs)
def Di (w:World) (B:Nat) (o:Option Nat) (b:Nat):Nat→List VT→Prop
 | _,[]=>True
 | p,x::xs=>(∃v0 v1 v2,w.cell? ⟨b,p,none⟩=some v0∧w.cell? ⟨b,p+1,none⟩=some v1∧w.cell? ⟨b,p+2,none⟩=some v2∧Bw w B o v0 v1 v2 x)∧Di w B o b (p+3) xs
end
theorem Di.at {w:World} {B:Nat} {o:Option Nat} {b:Nat}:∀{xs:List VT} {p i:Nat} {x:VT},Di w B o b p xs→xs[i]? = some x→∃v0 v1 v2,w.cell? ⟨b,p+i*3,none⟩=some v0∧w.cell? ⟨b,p+i*3+1,none⟩=some v1∧w.cell? ⟨b,p+i*3+2,none⟩=some v2∧Bw w B o v0 v1 v2 x:=by
 intro xs
 induction xs with
 | nil=>intro p i x _ h;simp at h
 | cons y xs ih =>
  intro p i x h hx;rw [Di] at h
  cases i with
  | zero=>simp only [List.getElem?_cons_zero,Option.some.injEq] at hx;subst hx;simpa using h.1
  | succ i =>
   simp only [List.getElem?_cons_succ] at hx;have:=ih h.2 hx;rwa [show p+3+i*3=p+(i+1)*3 by omega] at this
theorem Di.of {w:World} {B:Nat} {o:Option Nat} {b:Nat}:∀{xs:List VT} {p:Nat},(∀i x,xs[i]? = some x→∃v0 v1 v2,w.cell? ⟨b,p+i*3,none⟩=some v0∧w.cell? ⟨b,p+i*3+1,none⟩=some v1∧w.cell? ⟨b,p+i*3+2,none⟩=some v2∧Bw w B o v0 v1 v2 x)→Di w B o b p xs:=by
 intro xs
 induction xs with
 | nil=>intro p _;rw [Di];trivial
 | cons y xs ih =>
  intro p h;rw [Di];exact qCs
theorem Bw.map {w w':World} {B B':Nat} {o o':Option Nat} (ho:∀g',o'=some g'→∃g,o=some g)
  (hp:∀a n c l,Bd w 0 a n c l→(∀g,o=some g→Bm w 0 a n c)→Bd w' 0 a n c l∧(∀g,o'=some g→Bm w' 0 a n c))
  (hb:∀b,(∀g,o=some g→B≤b∧b≠g)→(∃p v,w.cell? ⟨b,p,none⟩=some v)→(∀g,o'=some g→B'≤b∧b≠g)∧∀p v,w.cell? ⟨b,p,none⟩=some v→w'.cell? ⟨b,p,none⟩=some v) :
  ∀(k:Nat) (t:VT),t.dep≤k→∀{v0 v1 v2:Value},Bw w B o v0 v1 v2 t→Bw w' B' o' v0 v1 v2 t:=by
 intro k
 induction k with
 | zero=>intro t ht;cases t;rw [VT.dep] at ht;omega
 | succ k ih =>
  intro t ht v0 v1 v2 h;obtain ⟨f,l,xs⟩:=t;rw [VT.dep] at ht;rw [Bw] at h ⊢;obtain ⟨h0,⟨a,n,c,h1,h2,h3⟩,a',c',k1,k2,k3,k4,k5⟩:=h;obtain ⟨p1,p2⟩:=hp a n c l h2 h3;refine ⟨h0,⟨a,n,c,h1,p1,p2⟩,a',c',k1,k2,k3,k4,?_⟩;rcases xs with _|⟨x,xs⟩
  ·exact .inl rfl
  ·obtain ⟨b,p,e,hbb,hr⟩:=k5.resolve_left qG;have hx0:=hr.at (i:=0) (x:=x) rfl;obtain ⟨u0,u1,u2,c0,_,_,_⟩:=hx0;obtain ⟨q1,q2⟩:=hb b hbb ⟨_,_,c0⟩;refine .inr ⟨b,p,e,q1,Di.of fun i y hy=>?_⟩;obtain ⟨u0,u1,u2,c0,c1,c2,hv⟩:=hr.at hy;exact ⟨u0,u1,u2,q2 _ _ c0,q2 _ _ c1,q2 _ _ c2,ih y (by have:=VT.depL_mem (A8 hy);omega) hv⟩
theorem Bw.keep {w w':World} {B:Nat} {o:Option Nat} {v0 v1 v2:Value} {t:VT} (h:Bw w B o v0 v1 v2 t) (hb:Below w.heap.size w w'):Bw w' B o v0 v1 v2 t :=
 Bw.map (fun g h=>⟨g,h⟩) (fun a n c l h1 h2=>⟨h1.keep hb,fun g e=>(h2 g e).keep hb⟩) (fun b h1 _=>⟨h1,fun p v h=>Bc hb h⟩) t.dep t (Ad _) h
theorem Bw.read {w:World} {B:Nat} {o:Option Nat} {v0 v1 v2:Value} {t:VT} (h:Bw w B o v0 v1 v2 t):Bw w 0 none v0 v1 v2 t :=
 Bw.map (fun g h=>by cases h) (fun a n c l h1 h2=>⟨h1,fun g e=>by cases e⟩) (fun b h1 _=>⟨fun g e=>(by cases e),fun p v h=>h⟩) t.dep t (Ad _) h
theorem Bw.down {w:World} {B B' g:Nat} {v0 v1 v2:Value} {t:VT} (h:Bw w B (some g) v0 v1 v2 t) (hB:B'≤B):Bw w B' (some g) v0 v1 v2 t :=
 Bw.map (fun g' h=>⟨g,rfl⟩) (fun a n c l h1 h2=>⟨h1,fun g' e=>h2 g rfl⟩) (fun b h1 _=>⟨fun g' e=>by cases e;have:=h1 g rfl;exact ⟨by omega,this.2⟩,fun p v h=>h⟩) t.dep t (Ad _) h
theorem Bw.other {w:World} {B g G:Nat} {v0 v1 v2:Value} {t:VT} (h:Bw w B (some g) v0 v1 v2 t) (hG:w.heap.size≤G∨G<B):Bw w B (some G) v0 v1 v2 t :=
 Bw.map (fun g' h=>⟨g,rfl⟩) (fun a n c l h1 h2=>⟨h1,fun g' e=>h2 g rfl⟩) (fun b h1 ⟨p,v,hc⟩=>⟨fun g' e=>by cases e;have:=h1 g rfl;have:b<w.heap.size:=Aa _ _ hc;exact ⟨by omega,by omega⟩,fun p v h=>h⟩) t.dep t (Ad _) h
theorem gC {w:World} {b:Nat} (d:Nat):∀{xs:List VT} {p:Nat},Di w 0 none b p xs→(∀x∈xs,∀v0 v1 v2,Bw w 0 none v0 v1 v2 x→∃r:RT,VAt w v0 v1 v2 r∧RT.Chk d r)→∃rs:List RT,rs.length=xs.length∧Fg w b p rs∧RT.ChkL d rs:=by
 intro xs
 induction xs with
 | nil=>intro p _ _;exact ⟨[],rfl,by rw [Fg];trivial,by rw [RT.ChkL];trivial⟩
 | cons x xs ih =>
  intro p h hx;rw [Di] at h;obtain ⟨⟨v0,v1,v2,c0,c1,c2,hv⟩,hr⟩:=h;obtain ⟨r,k1,k2⟩:=hx x (List.mem_cons_self ..) v0 v1 v2 hv;obtain ⟨rs,e,k3,k4⟩:=ih hr fun y hy=>hx y (List.mem_cons_of_mem _ hy)
  exact ⟨r::rs,by simp [e],by rw [Fg];exact ⟨⟨v0,v1,v2,c0,c1,c2,k1⟩,k3⟩,by rw [RT.ChkL];exact ⟨k2,k4⟩⟩
theorem yG (w:World):∀(k:Nat) (t:VT),t.dep≤k→∀(d:Nat) (v0 v1 v2:Value),Bw w 0 none v0 v1 v2 t→VT.Ok d t→∃r:RT,VAt w v0 v1 v2 r∧RT.Chk d r:=by
 intro k
 induction k with
 | zero=>intro t ht;cases t;rw [VT.dep] at ht;omega
 | succ k ih =>
  intro t ht d v0 v1 v2 h hok;obtain ⟨f,l,xs⟩:=t;rw [VT.dep] at ht;rw [Bw] at h;rw [VT.Ok] at hok;obtain ⟨rfl,⟨a,n,c,rfl,hp,_⟩,a',c',rfl,k2,k3,k4,k5⟩:=h;obtain ⟨p,hrd,hx⟩:=hp.ts;have hpw:PW l:=by
   exact qCy
  have hfew:Cj 5000 l:=by
   rcases hok with ⟨_,_,_,_,h⟩|⟨_,rfl,_⟩
   ·exact h
   ·exact fun t ht=>(by cases ht)
  have hpk:=hp.pok hpw hrd hx;have hpf:=hp.few hfew hrd hx;have hlen:=hp.len;obtain ⟨rs,e,k6,k7,k8⟩:∃rs:List RT,rs.length=xs.length∧(rs=[]∨∃b o,a'=some ⟨b,o,none⟩∧Fg w b o rs)∧(f=true→RT.ChkL (d+1) rs)∧(xs=[]→rs=[]):=by
   rcases hok with ⟨_,rfl,_⟩|⟨_,_,_,_,h5⟩
   ·exact ⟨[],rfl,.inl rfl,fun _=>by rw [RT.ChkL];trivial,fun _=>rfl⟩
   ·rcases k5 with rfl|⟨b,q,e,_,hr⟩
    ·exact ⟨[],rfl,.inl rfl,fun _=>by rw [RT.ChkL];trivial,fun _=>rfl⟩
    ·obtain ⟨rs,e1,e2,e3⟩:=gC (d+1) hr fun x hx v0 v1 v2 hv=>ih x (by have:=VT.depL_mem (xs:=xs) hx;omega) (d+1) v0 v1 v2 hv (VT.OkL_iff.1 h5 x hx)
     exact ⟨rs,e1,.inr ⟨b,q,e,e2⟩,fun _=>e3,fun hx=>by rw [hx] at e1;exact List.length_eq_zero_iff.1 e1⟩
  refine ⟨.node f n p rs,?_,?_⟩
  ·rw [VAt];have hl2:xs.length≤35184372088832:=by
    rcases hok with ⟨_,rfl,_⟩|⟨_,_,h,_⟩
    ·simp
    ·omega
   exact ⟨rfl,⟨a,c,rfl,hrd,hp.nl,fun k hk=>by have:=hpf k hk;omega⟩,a',c',by rw [e],by omega,by omega,k3,k4,k6⟩
  ·rw [RT.Chk];rcases hok with ⟨rfl,h1,h2,_⟩|⟨rfl,rfl,h3,h4,_⟩
   ·exact .inl ⟨rfl,k8 h1,by omega,hpk⟩
   ·exact .inr ⟨rfl,hlen.symm,by omega,h4,k7 rfl⟩
theorem Dc {w:World} {B:Nat} {o:Option Nat} {v0 v1 v2:Value} {t:VT} (h:Bw w B o v0 v1 v2 t) (hok:VT.Ok 1 t):Θ 24 #[.agg #[v0,v1,v2]] w (fun e w'=>e=.returned (.bool true)∧Below w.heap.size w w'):=by
 obtain ⟨r,k1,k2⟩:=yG w t.dep t (Ad _) 1 v0 v1 v2 h.read hok;refine (Ov w v0 v1 v2 r k1).mono ?_;rintro e w' ⟨b,rfl,hb,hB⟩;exact ⟨by rw [hb.2 k2],hB⟩
theorem Bw.form {w:World} {B:Nat} {o:Option Nat} {v0 v1 v2:Value} {t:VT} (h:Bw w B o v0 v1 v2 t):∃f a n c a' n' c',v0=.bool f∧v1=.slice a n c∧v2=.slice a' n' c':=by
 obtain ⟨f,l,xs⟩:=t;rw [Bw] at h;obtain ⟨h0,⟨a,n,c,h1,_⟩,a',c',h2,_⟩:=h;exact ⟨_,_,_,_,_,_,_,h0,h1,h2⟩
theorem xR {w:World} {a:Γ} {n c:Nat} {p:Nat→Tm} (hp:RdP w a n c p) (h:∀k,k<n→Xq (p k)):Lf 6 (lst p n):=fun t ht=>by
 obtain ⟨i,hi,rfl⟩:=List.mem_map.1 ht;have hi':=List.mem_range.1 hi;have hr:=hp.tm i hi';have h6:=(h i hi').1;obtain ⟨e0,e1,e2,e3⟩:=Ec (a:=(p i).m0) (b:=(p i).m1) (c:=(p i).m2) (d:=(p i).m3) hr.s1 hr.s2 hr.s3 hr.s0;show exN (Cg _ _ _ _) 0≤6∧exN (Cg _ _ _ _) 1≤6∧exN (Cg _ _ _ _) 2≤6∧exN (Cg _ _ _ _) 3≤6;rw [e0,e1,e2,e3];omega
theorem xS {w:World} {a:Γ} {n c:Nat} {p:Nat→Tm} (hp:RdP w a n c p) (hok:POk p n) (h:∀k,k<n→Xq (p k)):Cj 2 (lst p n):=xN hp hok fun k hk=>⟨(h k hk).2.1,(h k hk).2.2⟩
structure Sh (l:Δ):Prop where
 pw:PW l
 few:Cj 2 l
 deg:Lf 6 l
 len:l.length≤8
theorem Sh.sm {l:Δ} (h:Sh l):Sm l:=⟨h.pw,h.few.mono qA,by have:=h.len;omega⟩
theorem Sh.ok {l:Δ} (h:Sh l) (d:Nat):VT.Ok d (.node false l []):=by
 rw [VT.Ok];exact .inl ⟨rfl,rfl,by have:=h.len;omega,h.pw,h.few.mono qA⟩
theorem Sh.prod {a b:Δ} (ha:Sh a) (hb:Sh b):C8 a b=true:=Gv ha.deg hb.deg qA
theorem rI {a b:Δ} (ha:Sh a) (hb:Sh b) (hl:a.length+b.length≤8):Sm (Hx a b):=⟨Ra ha.pw hb.pw,(lQ ha.pw hb.pw ha.few hb.few).mono qA,Ah (Ha _) qJ⟩
theorem We {a b:Δ} (ha:Sh a) (hb:Sh b) (hl:a.length+b.length≤8):Sm (En a b):=by
 have h1:=Rs _ _ hl;exact ⟨Kk ha.pw hb.pw (ha.prod hb),(Yc ha.pw hb.pw ha.few hb.few).mono qA,Ah (Xp a b) qA⟩
theorem sR {l:Δ} (h:Sm l) (d:Nat):VT.Ok d (.node false l []):=by
 rw [VT.Ok];exact .inl ⟨rfl,rfl,by have:=h.len;omega,h.pw,h.few.mono qA⟩
theorem Aav {l:Δ} (h:Sh l) {n:Nat} (hn:n≤4) (d:Nat):VT.Ok d (.node false (Gy l n) []):=by
 have h1:=Wt h.pw h.deg h.len hn;have h2:=gI h.pw h.deg h.len h.few hn;have h3:tJ n≤2776:=by
  have hc:n=0∨n=1∨n=2∨n=3∨n=4:=by omega
  rcases hc with rfl|rfl|rfl|rfl|rfl<;>decide
 rw [VT.Ok];exact .inl ⟨rfl,rfl,by omega,(Pf h.pw h.deg n hn).pw,h2.mono qA⟩
theorem rA {w:World} {v0 v2:Value} {a:Γ} {n c:Nat} {x:RT} (h:VAt w v0 (.slice a n c) v2 x):n≤35184372088832:=by
 obtain ⟨g,n',p,xs⟩:=x;rw [VAt] at h;obtain ⟨_,⟨a',c',e1,hp,_⟩,_⟩:=h;cases e1
 exact hp.few
theorem nC {w:World} {a:Γ} {n c:Nat} {d:Γ} {m e:Nat} {x:RT} (h:VAt w (.bool false) (.slice a n c) (.slice d m e) x) (hc:RT.Chk 1 x) (ht:rK x) (h8:n≤8):∃l,Sh l∧l.length=n∧Bw w 0 none (.bool false) (.slice a n c) (.slice d m e) (.node false l []):=by
 obtain ⟨g,n',p,xs⟩:=x;rw [VAt] at h;obtain ⟨e0,⟨a',c',e1,hp,hnl,hsm⟩,a'',c'',e2,k1,k2,k3,k4,k5⟩:=h;cases e0
 cases e1
 rw [RT.Chk] at hc;rcases hc with ⟨_,rfl,h3,hok⟩|⟨h0,_⟩
 ·cases e2
  refine ⟨lst p n,⟨yX hp hok,xS hp hok ht,xR hp ht,by rw [Jq];exact h8⟩,Jq _ _,?_⟩;rw [Bw];exact ⟨rfl,⟨_,_,_,rfl,Abo hp hok hnl,fun g e=>by cases e⟩,_,_,rfl,by simp,by omega,k4,.inl rfl⟩
 ·cases h0
theorem Acf (w:World) (t:Tm) (x:PT) (hrt:Ei w t) (hti:Ey t x) (hcx:CW x.2) (q1:t.n1≤1000000000) (q2:t.n2≤1000000000) :
  Θ 38 #[t.val] w (Sf w (0,Ca x.2 (1,1))):=by
 have hx:=hti.frac hrt hcx;have HT:=Ae hti;have HRT:=Ae hrt;clear hti hrt;have HB:=Ac w.heap.size w;go_enter Tryz.func38,Tryz.ntmps38;go_wp2_with fail;go_region_held3 (fun W=>W.cell? ⟨w.heap.size,0,none⟩=some (.bool t.g1)∧W.cell? ⟨w.heap.size,1,none⟩=some (.slice t.a1 t.n1 t.c1)∧W.cell? ⟨w.heap.size,2,none⟩=some (.bool t.g2)∧W.cell? ⟨w.heap.size,3,none⟩=some (.slice t.a2 t.n2 t.c2)∧W.cell? ⟨w.heap.size,4,none⟩=some (.int .u16 t.m0)∧W.cell? ⟨w.heap.size,5,none⟩=some (.int .u16 t.m1)∧W.cell? ⟨w.heap.size,6,none⟩=some (.int .u16 t.m2)∧W.cell? ⟨w.heap.size,7,none⟩=some (.int .u16 t.m3)) (first|((try dsimp only);(repeat' apply Ay);all_goals (first|(with_reducible assumption)|(go_keep;done)|(simp [*,go_sem];done)))) (first
  | (go_at_call 10;(with_reducible refine (Fh _ 1 qA qA).mono ?_);rintro e w1 ⟨go1,ao1,no1,co1,go2,ao2,no2,co2,rfl,hone,hfo1,hfo2,_,hb⟩;obtain ⟨hc,hf⟩:=Bl hb;have hz:=hb.size;(try simp only [Aj,Ak,Am] at hz);replace HB:=zI w hb;obtain ⟨s0_0,s0_1⟩:=qZ hc (w.heap.size) (.bool t.g1) (.slice t.a1 t.n1 t.c1);obtain ⟨s0_2,s0_3⟩:=zD hc (w.heap.size) (.bool t.g2) (.slice t.a2 t.n2 t.c2);have s0_4:=qX hc (w.heap.size) 4 (.int .u16 t.m0);have s0_5:=qX hc (w.heap.size) 5 (.int .u16 t.m1);have s0_6:=qX hc (w.heap.size) 6 (.int .u16 t.m2);have s0_7:=qX hc (w.heap.size) 7 (.int .u16 t.m3);obtain ⟨s1_0,s1_1⟩:=zE hc (w.heap.size+1);obtain ⟨s1_2,s1_3⟩:=zD hc (w.heap.size+1) (.bool false) (.slice none 0 0);have s1_4:=qX hc (w.heap.size+1) 4 (.int .u16 0);have s1_5:=qX hc (w.heap.size+1) 5 (.int .u16 0);have s1_6:=qX hc (w.heap.size+1) 6 (.int .u16 0);have s1_7:=qX hc (w.heap.size+1) 7 (.int .u16 0);obtain ⟨f1_0,f1_1⟩:=zF hf (w.heap.size+1);obtain ⟨f1_2,f1_3⟩:=zG hf (w.heap.size+1);have f1_4:=qY hf (w.heap.size+1) 4;have f1_5:=qY hf (w.heap.size+1) 5;have f1_6:=qY hf (w.heap.size+1) 6;have f1_7:=qY hf (w.heap.size+1) 7;have e11:=Co hone.top qI;have e12:=Co hone.low qI)
  | (go_at_call 39;(with_reducible refine (I3 _ _ _ _ _ _ _ _ _ _ _ (hx.keep qF) _ _ _ _ _ _ _ _ _ _ (hone.keep qF) q1 q2 qA qA).mono ?_);rintro e w4 ⟨gm1,am1,nm1,cm1,gm2,am2,nm2,cm2,rfl,hmul,hfm1,hfm2,hap,hb⟩;obtain ⟨hc,hf⟩:=Bl hb;have hz:=hb.size;(try simp only [Aj,Ak,Am] at hz);replace HB:=zI w hb;obtain ⟨s0_0,s0_1⟩:=qZ hc (w.heap.size) (.bool t.g1) (.slice t.a1 t.n1 t.c1);obtain ⟨s0_2,s0_3⟩:=zD hc (w.heap.size) (.bool t.g2) (.slice t.a2 t.n2 t.c2);have s0_4:=qX hc (w.heap.size) 4 (.int .u16 t.m0);have s0_5:=qX hc (w.heap.size) 5 (.int .u16 t.m1);have s0_6:=qX hc (w.heap.size) 6 (.int .u16 t.m2);have s0_7:=qX hc (w.heap.size) 7 (.int .u16 t.m3);obtain ⟨s1_0,s1_1⟩:=zE hc (w.heap.size+1);obtain ⟨s1_2,s1_3⟩:=zD hc (w.heap.size+1) (.bool false) (.slice none 0 0);have s1_4:=qX hc (w.heap.size+1) 4 (.int .u16 0);have s1_5:=qX hc (w.heap.size+1) 5 (.int .u16 0);have s1_6:=qX hc (w.heap.size+1) 6 (.int .u16 0);have s1_7:=qX hc (w.heap.size+1) 7 (.int .u16 0);obtain ⟨f1_0,f1_1⟩:=zF hf (w.heap.size+1);obtain ⟨f1_2,f1_3⟩:=zG hf (w.heap.size+1);have f1_4:=qY hf (w.heap.size+1) 4;have f1_5:=qY hf (w.heap.size+1) 5;have f1_6:=qY hf (w.heap.size+1) 6;have f1_7:=qY hf (w.heap.size+1) 7;skip))
 go_wp2_with fail;have fe1:=hfm1.mono (show w.heap.size+1+1≤_ by go_size);have fe2:=hfm2.mono (show w.heap.size+1+1≤_ by go_size);have u:w.heap.size+1<w.heap.size+1+1:=by omega
 have hk1:w.heap.size+1<w4.heap.size:=by have:=hz;omega
 refine bodyPost_ret (v:=.agg #[.bool gm1,.slice am1 nm1 cm1,.bool gm2,.slice am2 nm2 cm2,.int .u16 0,.int .u16 0,.int .u16 0,.int .u16 0]) (by simp [results,Tryz.results38,go_sem,hk1,s1_0,s1_1,s1_2,s1_3,s1_4,s1_5,s1_6,s1_7]) rfl ?_;have hF:Bj w4 gm1 am1 nm1 cm1 (Ca x.2 (1,1)).1 gm2 am2 nm2 cm2 (Ca x.2 (1,1)).2:=hmul;refine ⟨⟨gm1,am1,nm1,cm1,dg (Ca x.2 (1,1)).1.natAbs,gm2,am2,nm2,cm2,dg (Ca x.2 (1,1)).2.natAbs,0,0,0,0⟩,rfl,⟨hF.top.neg,rfl,hF.low.neg,rfl,by simp [Cg]⟩,⟨?_,?_,by show (0:Nat)<65536;omega,by show (0:Nat)<65536;omega,by show (0:Nat)<65536;omega,by show (0:Nat)<65536;omega⟩,((fe1.set4 _ _ _ _ _ _ _ _ u u u u).set4 _ _ _ _ _ _ _ _ u u u u).mono qA,((fe2.set4 _ _ _ _ _ _ _ _ u u u u).set4 _ _ _ _ _ _ _ _ u u u u).mono qA,hap,by go_grown⟩
 ·exact Bh.rd (g:=gm1) (z:=(Ca x.2 (1,1)).1) ((hF.top.set4 fe1 _ _ _ _ _ _ _ _ u u u u).set4 (fe1.set4 _ _ _ _ _ _ _ _ u u u u) _ _ _ _ _ _ _ _ u u u u)
 ·exact Bh.rd (g:=gm2) (z:=(Ca x.2 (1,1)).2) ((hF.low.set4 fe2 _ _ _ _ _ _ _ _ u u u u).set4 (fe2.set4 _ _ _ _ _ _ _ _ u u u u) _ _ _ _ _ _ _ _ u u u u)
def Im (y:PC):Δ:=Hp [(0,Ca y (1,1))]
theorem Rt (w:World) (g1:Bool) (a1:Γ) (n1 c1:Nat) (g2:Bool) (a2:Γ) (n2 c2:Nat) (y:PC) (hy:Bj w g1 a1 n1 c1 y.1 g2 a2 n2 c2 y.2) (q1:n1≤1000000) (q2:n2≤1000000) (hw:∀k,wtk [(0,Ca y (1,1))] k≤400000) :
  Θ 9 #[.agg #[.bool g1,.slice a1 n1 c1,.bool g2,.slice a2 n2 c2]] w (Cl w (Im y)):=by
 have HY:=Ae hy;have HW:=Ae hw;have HB:=Ac w.heap.size w;clear hy hw;go_enter Tryz.func9,Tryz.ntmps9;go_wp2_with fail;refine Be ?_;intro w0 hw0;have b0:Below w.heap.size w w0:=by rw [hw0];go_grown
 have T0:Blk w0 (w.heap.size+1) #[.bool g1,.slice a1 n1 c1,.bool g2,.slice a2 n2 c2,.int .u16 0,.int .u16 0,.int .u16 0,.int .u16 0] 79:=by rw [hw0];exact Bi qG _ _
 clear hw0;have hF0:=HY.out.keep b0;have hrt:Ei w0 ⟨g1,a1,n1,c1,dg y.1.natAbs,g2,a2,n2,c2,dg y.2.natAbs,0,0,0,0⟩:=⟨hF0.top.rd,hF0.low.rd,by show (0:Nat)<65536;omega,by show (0:Nat)<65536;omega,by show (0:Nat)<65536;omega,by show (0:Nat)<65536;omega⟩;have hti:Ey ⟨g1,a1,n1,c1,dg y.1.natAbs,g2,a2,n2,c2,dg y.2.natAbs,0,0,0,0⟩ ((0,y):PT):=⟨hF0.top.neg,rfl,hF0.low.neg,rfl,by simp [Cg]⟩;have hrd:RdP w0 (some ⟨w.heap.size+1,0,none⟩) 1 1 (fun _=>⟨g1,a1,n1,c1,dg y.1.natAbs,g2,a2,n2,c2,dg y.2.natAbs,0,0,0,0⟩):=⟨Ad _,by omega,by omega,fun i hi=>hrt,.inr ⟨_,_,rfl,fun i hi=>by
  obtain rfl:i=0:=by omega
  exact ⟨T0.cell 0 _ rfl,T0.cell 1 _ rfl,T0.cell 2 _ rfl,T0.cell 3 _ rfl,T0.cell 4 _ rfl,T0.cell 5 _ rfl,T0.cell 6 _ rfl,T0.cell 7 _ rfl⟩⟩⟩
 have hcy:CW y:=⟨hF0.pos,hF0.red⟩;refine (Wh w0 _ 1 1 _ hrd [((0,y):PT)] rfl 38 #[] (fun t=>(0,Ca t.2 (1,1))) (Jf Tryz.func38 qC rfl) (Ae fun W hW k x hx=>?_) (fun x hx=>?_) (fun x hx=>by show (0:Nat)<_;omega) HW.out qA).mono ?_
 ·have hx0:x=(0,y):=by
   rcases k with _|k
   ·simpa using hx.symm
   ·simp at hx
  subst hx0;exact Acf W _ _ (hrt.keep hW) hti hcy (by show n1≤_;omega) (by show n2≤_;omega)
 ·simp only [Ao] at hx;subst hx;exact hcy.mul ⟨by decide,by decide⟩
 rintro e w1 ⟨a3,n3,c3,rfl,P3,O3,hb3⟩;go_wp2_with fail;go_ret;exact ⟨a3,n3,c3,rfl,P3.mono b0.size,O3.mono b0.size,b0.trans (hb3.mono b0.size)⟩
end Go.Proofs.YtnnhcbeiogaknaaGreatDoor
end
