/- Package polys: likes.sum. -/
import Derived.Test.YtnnhcbeiogaknaaGreatDoorQV15
set_option linter.unusedSimpArgs false
set_option linter.unusedVariables false
set_option maxRecDepth 100000
set_option maxHeartbeats 4000000
section
namespace Go.Proofs.YtnnhcbeiogaknaaGreatDoor
open Go.RowKit Go.Lib Go.Sort
theorem Q4 (w:World) (blk off n:Nat) (d:Array STm) (os:Array Obj) (hblk:blk<w.heap.size):RowKit.Below blk w (sortWorldK Hk 8 w blk off n d os):=by
 refine ⟨rfl,rfl,rfl,size_sortWorldK_c _ _ _ _ _ _ _ _,fun k hk=>?_⟩;unfold sortWorldK putRowK putRow grow mapBlock;have h:k<w.heap.size:=by omega
 have hne:blk≠k:=by omega
 simp [Array.getElem?_append,h,ahead];rw [Array.getElem_modify_of_ne hne]
theorem aH {w:World} {B:Nat} {o:Nat→Nat} {D:DataW Value} {f:Nat→Option PC} (hH:Fs w B o D f) {key v:Value} {kl:Lit} {y:DataW Value×List MemPlace} (hkey:keyOf Tryz.prog 76 key=some kl) (hat:∀zd,D.atKey kl zd=y.1) (hR:RH v=some y) :
  ∃(q0 q1 q2 q3:Nat) (x:PC),f (Cg q0 q1 q2 q3)=some x∧q0<65536∧q1<65536∧q2<65536∧q3<65536∧key=Da q0 q1 q2 q3∧Yn w B o (Cg q0 q1 q2 q3) v x:=by
 obtain ⟨q0,q1,q2,q3,h0,h1,h2,h3,rfl⟩:=uT hkey;have hhas:=Maps.has_true_of_atKey hat;obtain ⟨e1,e2⟩:=hH q0 q1 q2 q3 kl h0 h1 h2 h3 hkey
 cases hf:f (Cg q0 q1 q2 q3) with
 | none=>rw [e1 hf] at hhas;cases hhas
 | some x =>
  obtain ⟨_,u,hu,hfr⟩:=e2 x hf;simp only [RH,Option.some.injEq] at hR;subst hR;have:=hu (.held v);rw [hat] at this;simp only [DataW.held.injEq] at this;subst this;exact ⟨q0,q1,q2,q3,x,hf,h0,h1,h2,h3,rfl,hfr⟩
theorem pO {w:World} {N:Nat} {e:TypeId} {size:Nat} {v:Value} {n:Nat} {xs:List Value} (h:w.ownsRow (N+1) e size v n xs):v.ownBlock=none∨v.ownBlock≠some N:=by
 rcases h.2 with ⟨rfl,_⟩|⟨g,cap,cur,rfl,hg,_⟩
 ·exact .inl rfl
 ·right;intro e;simp only [Value.ownBlock,Option.some.injEq] at e;omega
def STm.of (t:Tm) (h0:t.m0<65536) (h1:t.m1<65536) (h2:t.m2<65536) (h3:t.m3<65536):STm:=⟨t,h0,h1,h2,h3⟩
theorem mI {w:World} {b n:Nat} {D:DataW Value} (h:w.ownsMap Tryz.prog 76 RH b n D):Maps.size D≤n:=by
 obtain ⟨es,clock,hb,F,hs,rfl⟩:=h;simpa [Maps.size,length_sorted] using hs
theorem Hd {w:World} {N:Nat} {e:TypeId} {size:Nat} {v:Value} {n:Nat} {xs:List Value} (h:w.ownsRow N e size v n xs):∀k,v.ownBlock=some k→N≤k:=by
 rcases h.2 with ⟨rfl,_⟩|⟨g,cap,cur,rfl,hg,_⟩
 ·intro k hk;cases hk
 ·intro k hk;simp only [Value.ownBlock,Option.some.injEq] at hk;omega
theorem mN {v:Value} {N k:Nat} (h:∀j,v.ownBlock=some j→N≤j) (hk:k<N):some k≠v.ownBlock:=fun e=>by have:=h k e.symm;omega
structure Rx (w:World) (B:Nat) (o:Nat→Nat) (f:Nat→Option PC) (left:Lit→Bool) (out:List STm):Prop where
 mem:∀t∈out,∃x,f t.key=some x∧x.1≠0∧Ey t.1 (t.key,x)∧Ei w t.1∧Qx w B o t.key t.1.a1 t.1.c1 t.1.a2 t.1.c2∧∀kl,keyOf Tryz.prog 76 (Da t.1.m0 t.1.m1 t.1.m2 t.1.m3)=some kl→left kl=false
 all:∀a b c d kl x,a<65536→b<65536→c<65536→d<65536→keyOf Tryz.prog 76 (Da a b c d)=some kl→f (Cg a b c d)=some x→x.1≠0→left kl=false→∃t∈out,t.key=Cg a b c d
 apart:out.Pairwise (fun s t=>s.key≠t.key)
theorem Rx.start {w:World} {B:Nat} {o:Nat→Nat} {D:DataW Value} {f:Nat→Option PC} (hH:Fs w B o D f):Rx w B o f (Maps.has D) [] :=
 ⟨by simp,fun a b c d kl x ha hb hc hd hk hf _ hl=>(by rw [((hH a b c d kl ha hb hc hd hk).2 x hf).1] at hl;cases hl),by simp⟩
theorem Vh {left:Lit→Bool} {kl kl':Lit} (h:left kl'=false):(left kl'&&!kl'.sameKey kl)=false:=by rw [h];rfl
theorem Rx.pass {w:World} {B:Nat} {o:Nat→Nat} {f:Nat→Option PC} {left:Lit→Bool} {out:List STm} (h:Rx w B o f left out) {q0 q1 q2 q3:Nat} {kl:Lit} {x:PC} (h0:q0<65536) (h1:q1<65536) (h2:q2<65536) (h3:q3<65536)
  (hk:keyOf Tryz.prog 76 (Da q0 q1 q2 q3)=some kl) (hf:f (Cg q0 q1 q2 q3)=some x) (hx:x.1=0):Rx w B o f (fun z=>left z&&!z.sameKey kl) out:=by
 refine ⟨fun t ht=>?_,fun a b c d kl' x' ha hb hc hd hk' hf' hx' hl=>?_,h.apart⟩
 ·obtain ⟨y,g1,g2,g3,g4,g5,g7⟩:=h.mem t ht;exact ⟨y,g1,g2,g3,g4,g5,fun kl' hkl'=>Vh (g7 kl' hkl')⟩
 ·by_cases e:left kl'=false
  ·exact h.all a b c d kl' x' ha hb hc hd hk' hf' hx' e
  ·have e1:left kl'=true:=by simpa using e
   rw [e1] at hl;have e2:kl'.sameKey kl=true:=by simpa using hl
   have e3:=WideAt.sameKey_eq e2;have e4:=(Wi ha hb hc hd h0 h1 h2 h3 hk' hk).1 e3;rw [e4,hf] at hf'
   cases hf'
   exact absurd hx hx'
theorem Rx.more {w:World} {B:Nat} {o:Nat→Nat} {f:Nat→Option PC} {left:Lit→Bool} {out:List STm} (h:Rx w B o f left out) {t:STm} {kl:Lit} {x:PC}
  (hk:keyOf Tryz.prog 76 (Da t.1.m0 t.1.m1 t.1.m2 t.1.m3)=some kl) (hl:left kl=true) (hf:f t.key=some x) (hx:x.1≠0) (ht:Ey t.1 (t.key,x)) (hr:Ei w t.1) (k1:Qx w B o t.key t.1.a1 t.1.c1 t.1.a2 t.1.c2) :
  Rx w B o f (fun z=>left z&&!z.sameKey kl) (out++[t]):=by
 have hkk:=Ho.key hk;refine ⟨fun s hs=>?_,fun a b c d kl' x' ha hb hc hd hk' hf' hx' hl'=>?_,?_⟩
 ·rcases List.mem_append.1 hs with hs|hs
  ·obtain ⟨y,g1,g2,g3,g4,g5,g7⟩:=h.mem s hs;exact ⟨y,g1,g2,g3,g4,g5,fun kl' hkl'=>Vh (g7 kl' hkl')⟩
  ·simp only [Ao] at hs;subst hs;refine ⟨x,hf,hx,ht,hr,k1,fun kl' hkl'=>?_⟩;rw [hk] at hkl'
   cases hkl'
   rw [WideAt.sameKey_self hkk];simp
 ·by_cases e:left kl'=false
  ·obtain ⟨s,hs,hsk⟩:=h.all a b c d kl' x' ha hb hc hd hk' hf' hx' e;exact ⟨s,by simp [hs],hsk⟩
  ·have e1:left kl'=true:=by simpa using e
   rw [e1] at hl';have e2:kl'.sameKey kl=true:=by simpa using hl'
   have e3:=WideAt.sameKey_eq e2;have e4:=(Wi ha hb hc hd t.2.1 t.2.2.1 t.2.2.2.1 t.2.2.2.2 hk' hk).1 e3;exact ⟨t,by simp,e4.symm⟩
 ·refine List.pairwise_append.2 ⟨h.apart,by simp,fun s hs u hu=>?_⟩;simp only [Ao] at hu;subst hu;obtain ⟨y,_,_,_,_,_,g7⟩:=h.mem s hs;intro e;obtain ⟨kl',hkl'⟩:=Xd s.2.1 s.2.2.1 s.2.2.2.1 s.2.2.2.2;have:=(Wi s.2.1 s.2.2.1 s.2.2.2.1 s.2.2.2.2 u.2.1 u.2.2.1 u.2.2.2.1 u.2.2.2.2 hkl' hk).2 e;subst this;rw [g7 _ hkl'] at hl;cases hl
structure Bm (w:World) (B:Nat) (a:Γ) (n c:Nat):Prop where
 row:c=0∨∃b cur,a=some ⟨b,0,none⟩∧B≤b∧w.heap[b]? = some (.cells cur 79 (0,0))∧c*8≤cur.size
 ts:∃(p:Nat→Tm) (o t:Nat→Nat),RdP w a n c p∧(∀i j,i<n→j<n→t i=t j→i=j)∧∀i,i<n→Qx w B o (t i) (p i).a1 (p i).c1 (p i).a2 (p i).c2
theorem Qx.mono {w:World} {B B':Nat} {o:Nat→Nat} {k:Nat} {a1:Γ} {c1:Nat} {a2:Γ} {c2:Nat} (h:Qx w B o k a1 c1 a2 c2) (hB:B'≤B):Qx w B' o k a1 c1 a2 c2:=⟨h.top.mono hB,h.low.mono hB,h.ap,h.m1,h.m2⟩
theorem Bm.mono {w:World} {B B':Nat} {a:Γ} {n c:Nat} (h:Bm w B a n c) (hB:B'≤B):Bm w B' a n c:=by
 obtain ⟨p,o,t,h1,h2,h3⟩:=h.ts;exact ⟨h.row.imp id fun⟨b,cur,e1,e2,e3⟩=>⟨b,cur,e1,Ah hB e2,e3⟩,p,o,t,h1,h2,fun i hi=>(h3 i hi).mono hB⟩
theorem Bm.keep {w w':World} {B:Nat} {a:Γ} {n c:Nat} (h:Bm w B a n c) (hb:RowKit.Below w.heap.size w w'):Bm w' B a n c:=by
 obtain ⟨p,o,t,h1,h2,h3⟩:=h.ts;exact ⟨h.row.imp id fun⟨b,cur,e1,e2,e3,e4⟩=>⟨b,cur,e1,e2,by rw [hb.block b (Ar.1 e3).1];exact e3,e4⟩,p,o,t,h1.keep hb,h2,fun i hi=>(h3 i hi).butR (Bt hb) qG⟩
theorem RdP.butR {w w':World} {B n c:Nat} {a:Γ} {p:Nat→Tm} {row:Option Nat} (h:RdP w a n c p) (hn:Nw B n a) (hp:∀i,i<n→Nw B (p i).n1 (p i).a1∧Nw B (p i).n2 (p i).a2) (hg:w.grownBy w' row) (hr:∀k,row=some k→k<B):RdP w' a n c p:=by
 refine ⟨h.cap,h.few,h.top,fun i hi=>?_,?_⟩
 ·have ht:=h.tm i hi;exact ⟨ht.top.butR (hp i hi).1 hg hr,ht.low.butR (hp i hi).2 hg hr,ht.s0,ht.s1,ht.s2,ht.s3⟩
 ·rcases h.cell with h0|⟨b,o,ha,hc⟩
  ·exact .inl h0
  ·rcases hn with h0|hn
   ·exact .inl h0
   ·exact qDf
theorem Bm.butR {w w':World} {B:Nat} {a:Γ} {n c:Nat} {row:Option Nat} (h:Bm w B a n c) (hg:w.grownBy w' row) (hr:∀k,row=some k→k<B):Bm w' B a n c:=by
 obtain ⟨p,o,t,h1,h2,h3⟩:=h.ts;refine ⟨h.row.imp id fun⟨b,cur,e1,e2,e3,e4⟩=>⟨b,cur,e1,e2,by rw [hg.block b (Ar.1 e3).1 (fun e=>by have:=hr _ e.symm;omega)];exact e3,e4⟩,p,o,t,h1.butR ?_ (fun i hi=>⟨(h3 i hi).top.newA (h1.tm i hi).top,(h3 i hi).low.newA (h1.tm i hi).low⟩) hg hr,h2,fun i hi=>(h3 i hi).butR hg hr⟩;rcases h.row with h0|⟨b,cur,e1,e2,_⟩
 ·have:=h1.cap;exact .inl qA
 ·exact .inr fun x hx=>by rw [e1] at hx;cases hx;exact e2
theorem Bm.nil (w:World) (B:Nat):Bm w B none 0 0 :=
 ⟨.inl rfl,fun _=>⟨false,none,0,0,[],false,none,0,0,[],0,0,0,0⟩,id,id,⟨Ad _,by omega,by omega,fun i hi=>by omega,.inl rfl⟩,fun i j hi=>by omega,fun i hi=>by omega⟩
theorem Ua (w:World) (blk m:Nat) (d:Array STm) (os:Array Obj) {cur:Array Value} (h:w.heap[blk]? = some (.cells cur 79 (0,0))):∃cur',(sortWorldK Hk 8 w blk 0 m d os).heap[blk]? = some (.cells cur' 79 (0,0))∧cur'.size=cur.size:=by
 obtain ⟨hlt,e⟩:=Ar.1 h;refine ⟨putCells id 0 (flatK Hk 8 d) cur,?_,by simp [putCells]⟩;unfold sortWorldK putRowK putRow grow mapBlock;rw [Array.getElem?_append_left (by simpa [ahead] using hlt)];show (Array.modify w.heap blk _)[blk]? = _;rw [Array.getElem?_modify,if_pos rfl,h];rfl
def Nf (f:Nat→Option PC) (l:List STm):Δ:=l.map fun t=>(t.key,(f t.key).getD (0,1))
theorem Uz {w W:World} {B g c:Nat} {o:Nat→Nat} {f:Nat→Option PC} {left:Lit→Bool} {out:List STm} (hC:Rx w B o f left out) (hl:∀kl,left kl=false) (hf:∀k x,f k=some x→k<18446744073709551616)
  {d':Array STm} (hp:PermIn 0 out.toArray.size out.toArray d') (hs:SortedIn (ltOf cfT) 0 out.toArray.size d') (hH:HoldsK Hk 8 W g 0 d') (hb:RowKit.Below w.heap.size w W) (hBg:B≤g) (hc:out.length≤c) (hc1:c≤9223372036854775807) (hn:out.length≤35184372088832) (hrow:c=0∨∃cur,W.heap[g]? = some (.cells cur 79 (0,0))∧c*8≤cur.size) :
  Bd W B (some ⟨g,0,none⟩) out.length c (Nf f d'.toList)∧Bm W B (some ⟨g,0,none⟩) out.length c∧Ct (Nf f d'.toList)∧∀t,t∈Nf f d'.toList↔f t.1=some t.2∧t.2.1≠0:=by
 have hsz:d'.size=out.length:=by have:=hp.1;simpa using this
 have hperm:d'.toList.Perm out:=by
  have h:=hp.2.2;have e1:d'.extract 0 out.toArray.size=d':=by
   apply Array.ext
   ·simp [hsz]
   ·intro i h1 h2;simp
  have e2:out.toArray.extract 0 out.toArray.size=out.toArray:=by
   apply Array.ext
   ·simp
   ·intro i h1 h2;simp
  rw [e1,e2] at h;simpa using h
 have hmem:∀t,t∈d'.toList↔t∈out:=fun t=>hperm.mem_iff
 have hap:d'.toList.Pairwise (fun s t=>s.key≠t.key):=(hperm.symm.pairwise_iff (fun {a b} (h:a.key≠b.key)=>h.symm)).1 hC.apart;have hget:∀i (h:i<d'.size),d'[i]! = d'[i]:=fun i h=>getElem!_pos d' i h
 have hval:∀t∈out,∃x,f t.key=some x∧(f t.key).getD (0,1)=x∧x.1≠0∧Ey t.1 (t.key,x)∧Ei w t.1∧Qx w B o t.key t.1.a1 t.1.c1 t.1.a2 t.1.c2:=fun t ht=>by
  obtain ⟨x,h1,h2,h3,h4,h5,_⟩:=hC.mem t ht;exact ⟨x,h1,by rw [h1];rfl,h2,h3,h4,h5⟩
 have hRd:RdP W (some ⟨g,0,none⟩) out.length c (fun i=>(d'[i]!).1):=by
  refine ⟨hc,hn,hc1,fun i hi=>?_,.inr ⟨g,0,rfl,fun i hi=>Ug hH qA⟩⟩;have hi':i<d'.size:=by omega
  show Ei W (d'[i]!).1;rw [hget i hi'];obtain ⟨x,_,_,_,_,h4,_⟩:=hval d'[i] ((hmem _).1 qG);exact h4.keep hb
 refine ⟨⟨by simp [Nf,hsz],.inr (fun x hx=>by cases hx;exact hBg),fun h=>(by cases h),fun i=>(d'[i]!).1,hRd,fun i x hx=>?_⟩,⟨hrow.imp id fun⟨cur,h1,h2⟩=>⟨g,cur,rfl,hBg,h1,h2⟩,fun i=>(d'[i]!).1,o,fun i=>(d'[i]!).key,hRd,fun i j hi hj hij=>?_,fun i hi=>?_⟩,?_,fun t=>?_⟩
 ·simp only [Nf,List.getElem?_map] at hx
  cases he:d'.toList[i]? with
  | none=>rw [he] at hx;cases hx
  | some s =>
   rw [he] at hx;have hi':i<d'.size:=by
    have:=(List.getElem?_eq_some_iff.1 he).1;simpa using this
   have es:d'[i]! = s:=by
    rw [hget i hi'];obtain ⟨_,e⟩:=List.getElem?_eq_some_iff.1 he;simpa using e
   obtain ⟨y,h1,h2,h3,h4,h5,h6⟩:=hval s ((hmem s).1 (A8 he));show Ey (d'[i]!).1 x∧Nw B (d'[i]!).1.n1 (d'[i]!).1.a1∧Nw B (d'[i]!).1.n2 (d'[i]!).1.a2;rw [es];simp only [Option.map_some,Option.some.injEq] at hx;rw [h2] at hx;subst hx;exact ⟨h4,h6.top.newA h5.top,h6.low.newA h5.low⟩
 ·have hi':i<d'.size:=by omega
  have hj':j<d'.size:=by omega
  replace hij:(d'[i]!).key=(d'[j]!).key:=hij;rw [hget i hi',hget j hj'] at hij;have h2:=List.pairwise_iff_getElem.1 hap;rcases Nat.lt_trichotomy i j with h|h|h
  ·exact absurd (by rw [Array.getElem_toList,Array.getElem_toList];exact hij) (h2 i j _ _ h)
  ·exact h
  ·exact absurd (by rw [Array.getElem_toList,Array.getElem_toList];exact hij.symm) (h2 j i _ _ h)
 ·have hi':i<d'.size:=by omega
  show Qx W B o (d'[i]!).key (d'[i]!).1.a1 (d'[i]!).1.c1 (d'[i]!).1.a2 (d'[i]!).1.c2;rw [hget i hi'];obtain ⟨x,_,_,_,_,_,h5⟩:=hval d'[i] ((hmem _).1 qG);exact h5.butR (Bt hb) qG
 ·unfold Ct Nf;rw [List.pairwise_map,List.pairwise_iff_getElem];intro i j hi hj hij;have hi':i<d'.size:=by simpa using hi
  have hj':j<d'.size:=by simpa using hj
  have h1:=hs i j (Ba _) hij qJ;rw [ltT,hget i hi',hget j hj',decide_eq_false_iff_not] at h1;have h2:=List.pairwise_iff_getElem.1 hap i j hi hj hij;simp only [Array.getElem_toList] at h2 ⊢;omega
 ·unfold Nf;rw [List.mem_map];constructor
  ·rintro ⟨s,hs',rfl⟩;obtain ⟨y,h1,h2,h3,_⟩:=hval s ((hmem s).1 hs');rw [h2];exact ⟨h1,h3⟩
  ·rintro ⟨h1,h2⟩;obtain ⟨k,x⟩:=t;obtain ⟨q0,q1,q2,q3,hq⟩:=dD k (hf k x h1);obtain ⟨kl,hkl⟩:=Xd q0 q1 q2 q3;obtain ⟨s,hs',hsk⟩:=hC.all _ _ _ _ kl x q0 q1 q2 q3 hkl (by rw [hq];exact h1) h2 (hl kl);rw [hq] at hsk;refine ⟨s,(hmem s).2 hs',?_⟩;have h1':f k=some x:=h1;rw [hsk,h1'];rfl
theorem fX (w:World) (b n B:Nat) (f:Nat→Option PC) (h:Dd w b n B f) (hn:n≤1000000) (hBw:B≤w.heap.size) (hK:∀k x,f k=some x→k<18446744073709551616∧By 1000000 x) :
  Θ 44 #[.map (some b)] w fun e w'=>∃a n' c,∃l:Δ,e=.returned (.slice a n' c)∧Bd w' B a n' c l∧Bm w' B a n' c∧Ct l∧(∀t,t∈l↔f t.1=some t.2∧t.2.1≠0)∧RowKit.Below w.heap.size w w':=by
 obtain ⟨D,o,hown,hH⟩:=h.ex;have HB:=Ac w.heap.size w;have HKK:=Ae hK;obtain ⟨i0,hi,hz0,hz1',hz2'⟩:=info_parts Ss;clear hK;go_enter Tryz.func44,Tryz.ntmps44;go_wp2_with (first|(at_range;refine wpList_range_own _ rfl _ 85 rfl 76 34 Ho Tryz.underlying85 RH b n D rfl (Em hown qF) ?_;intro w0 hrg0 hg0 hs0));go_frame;go_loopw [2] (fun v2 wr=>∃(left:Lit→Bool) (cnt:Nat) (out:List STm),wr.ranges Tryz.prog 76 RH b w.heap.size n D left cnt∧wr.ownsRow (w.heap.size+1) 79 8 v2 out.length (Ot out)∧Hid (Rx w B o f left out)∧RowKit.Below w.heap.size w wr∧out.length+cnt≤n) (fun _ wr=>wr.rangeLeft b w.heap.size)
 case atStart=>exact ⟨_,_,[],hrg0,⟨rfl,.inl ⟨rfl,rfl⟩⟩,Ae (Rx.start hH),⟨hg0.os,hg0.tape,hg0.output,hg0.size,fun k hk=>hg0.block k hk qG⟩,by simpa using mI hown⟩
 case round =>
  obtain ⟨left,cnt,out,hrg,hown2,hC,HB,hcn⟩:=hrel;go_wp2_with (first|(at_next;refine wpList_next_ranges _ rfl _ rfl 76 Ho RH (fun v=>v) (fun v=>v) (fun key _ _=>⟨key,rfl⟩) (fun v _ _=>⟨v,rfl⟩) b w.heap.size n D left cnt rfl hrg ?_ ?_))
  ·intro hc0 hl0;have hf':∀k x,f k=some x→k<18446744073709551616:=fun k x hk=>(HKK.out k x hk).1
   rcases hown2.2 with ⟨rfl,hlen⟩|⟨g,cap,cur,rfl,hgb,hblk,hnc,hcm,hsz,htk⟩
   ·have hout:out=[]:=List.length_eq_zero_iff.1 hlen;subst hout;have HP:=Ae (Uz (W:=w) (g:=B) (c:=0) (d':=#[]) hC.out hl0 hf' ⟨rfl,fun _ _=>rfl,List.Perm.refl _⟩ (fun i j _ _ hj=>by simp at hj) (fun j hj=>by simp [flatK] at hj) (Ac _ _) (Ad _) (Ad _) qA qG (.inl rfl)).2.2;clear hrg hown2 hf';go_wp2_with (first|(go_at_call 103;refine (Vs _ _ _).mono ?_;rintro e w3 ⟨rfl,rfl⟩));refine bodyPost_ret (v:=.slice none 0 0) (by simp [results,Tryz.results44,go_sem]) rfl ?_;exact ⟨none,0,0,[],rfl,Bd.nil _ _,Bm.nil _ _,HP.out.1,HP.out.2,HB⟩
   ·have hlt:g<wr.heap.size:=(Ar.1 hblk).1;have hcap:cap≤9223372036854775807:=hcm;have hS:=Abf g 0 cap out.toArray wr (Mo hown2 rfl) hlt qJ;have hHO:=Ae (Mo hown2 rfl);rw [List.size_toArray] at hS;have HRW:=Ae hblk;have HSZ:=Ae hsz;clear hrg hown2 hblk htk hsz;go_wp2_with (first|(go_at_call 103;refine hS.mono ?_;rintro e w3 ⟨rfl,d',m,os,hperm,hsrt,rfl⟩));have hbw:=Q4 wr g 0 m d' os hlt;have HB3:RowKit.Below w.heap.size w (sortWorldK Hk 8 wr g 0 m d' os):=HB.trans (hbw.mono qA);have hd:d'.size=out.toArray.size:=hperm.1;have hP:=Uz (W:=sortWorldK Hk 8 wr g 0 m d' os) (g:=g) (c:=cap) (d':=d') hC.out hl0 hf' (by simpa using hperm) (by simpa using hsrt) (holdsK_sortWorldK_c Hk 8 wr g 0 out.toArray d' m os hHO.out hlt hd) HB3 qA hnc hcap qA (by obtain ⟨cur',e1,e2⟩:=Ua wr g m d' os HRW.out;exact .inr ⟨cur',e1,by rw [e2,HSZ.out];exact Ad _⟩);refine bodyPost_ret (v:=.slice (some ⟨g,0,none⟩) out.length cap) (by simp [results,Tryz.results44,go_sem]) rfl ?_;exact ⟨_,_,_,_,rfl,hP.1,hP.2.1,hP.2.2.1,hP.2.2.2,HB3⟩
  ·intro key v kl y1 y2 w1 cnt1 hkey hlk hRv hR2 hat hrg1 hlt hg1 hs1 hen;subst hRv;obtain ⟨q0,q1,q2,q3,x,hfx,b0,b1,b2,b3,rfl,hfr⟩:=aH (y:=(.held v,[])) hH hkey hat rfl;obtain ⟨g1,a1,n1,c1,g2,a2,n2,c2,rfl,hx,k1⟩:=hfr;have HM:=Ae hrg.left_eq;clear hat hR2 hrg;have HB1:RowKit.Below w.heap.size w w1:=HB.grown hg1 HB.size (fun k hk=>by cases hk;exact Ad _);have hown3:=hown2.kept hg1 (pO hown2);have hfew:=(HKK.out _ _ hfx).2;have e1:=hx.top.rd.len;have e2:=hx.low.rd.len;obtain ⟨i1,i2⟩:=hfew;have s1:n1<35184372088829:=by omega
   have s2:n2<35184372088829:=by omega
   have hrd:Ei w ⟨g1,a1,n1,c1,dg x.1.natAbs,g2,a2,n2,c2,dg x.2.natAbs,q0,q1,q2,q3⟩:=⟨hx.top.rd,hx.low.rd,b0,b1,b2,b3⟩;have hti:Ey ⟨g1,a1,n1,c1,dg x.1.natAbs,g2,a2,n2,c2,dg x.2.natAbs,q0,q1,q2,q3⟩ (Cg q0 q1 q2 q3,x):=⟨hx.top.neg,rfl,hx.low.neg,rfl,rfl⟩;have HX:=Ae (Ay hrd hti);have HS:=Ae hs1;have hz1:=HB1.size;clear hrd hti e1 e2 i1 i2 hs1;by_cases hx0:x.1=0
   ·have hc0:Bz x.1 0=0:=by rw [hx0,Ev]
    have HC2:=Ae (hC.out.pass b0 b1 b2 b3 hkey hfx hx0);clear hx0;go_wp2_with (first|(go_at_call 98;refine (Gd _ _ _ _ _ _ _ _ _ _ _ (hx.keep qF) s2 s1).mono ?_;rintro e w2 ⟨rfl,hb⟩;rw [hc0];have d0:w2.cell? ⟨w1.heap.size,0,none⟩=some (.int .u16 q0):=Bc hb qL;have d1:w2.cell? ⟨w1.heap.size,1,none⟩=some (.int .u16 q1):=Bc hb qL;have d2:w2.cell? ⟨w1.heap.size,2,none⟩=some (.int .u16 q2):=Bc hb qL;have d3:w2.cell? ⟨w1.heap.size,3,none⟩=some (.int .u16 q3):=Bc hb qL;have k4:w2.cell? ⟨w1.heap.size+1,0,none⟩=some (.bool g1):=Bc hb qL;have k5:w2.cell? ⟨w1.heap.size+1,1,none⟩=some (.slice a1 n1 c1):=Bc hb qL;have k6:w2.cell? ⟨w1.heap.size+1,2,none⟩=some (.bool g2):=Bc hb qL;have k7:w2.cell? ⟨w1.heap.size+1,3,none⟩=some (.slice a2 n2 c2):=Bc hb qL;have HB2:RowKit.Below w.heap.size w w2:=RowKit.Below.trans qF (hb.mono qB);have HB12:RowKit.Below w1.heap.size w1 w2:=RowKit.Below.trans qF (hb.mono qB);have hz2:=hb.size;(try simp only [Aj] at hz2)));go_roundw
    case rel=>exact ⟨_,cnt1,out,hrg1.kept (row:=none) (Bt HB12) qG qG,Bo hown3 HB12,HC2,HB2,by omega⟩
    case measure=>rw [(hrg1.kept (row:=none) (Bt HB12) qG qG).left_eq,HM.out];omega
   ·have hc0:(Bz x.1 0==0)=false:=by rw [beq_eq_false_iff_ne];exact fun e=>hx0 (Ht.1 e)
    have HC2:=Ae (hC.out.more (t:=STm.of ⟨g1,a1,n1,c1,dg x.1.natAbs,g2,a2,n2,c2,dg x.2.natAbs,q0,q1,q2,q3⟩ b0 b1 b2 b3) hkey hlk hfx hx0 HX.out.2 HX.out.1 k1);clear hx0;go_wp2_with (first|(go_at_call 98;refine (Gd _ _ _ _ _ _ _ _ _ _ _ (hx.keep qF) s2 s1).mono ?_;rintro e w2 ⟨rfl,hb⟩;have d0:w2.cell? ⟨w1.heap.size,0,none⟩=some (.int .u16 q0):=Bc hb qL;have d1:w2.cell? ⟨w1.heap.size,1,none⟩=some (.int .u16 q1):=Bc hb qL;have d2:w2.cell? ⟨w1.heap.size,2,none⟩=some (.int .u16 q2):=Bc hb qL;have d3:w2.cell? ⟨w1.heap.size,3,none⟩=some (.int .u16 q3):=Bc hb qL;have k4:w2.cell? ⟨w1.heap.size+1,0,none⟩=some (.bool g1):=Bc hb qL;have k5:w2.cell? ⟨w1.heap.size+1,1,none⟩=some (.slice a1 n1 c1):=Bc hb qL;have k6:w2.cell? ⟨w1.heap.size+1,2,none⟩=some (.bool g2):=Bc hb qL;have k7:w2.cell? ⟨w1.heap.size+1,3,none⟩=some (.slice a2 n2 c2):=Bc hb qL;have HB2:RowKit.Below w.heap.size w w2:=RowKit.Below.trans qF (hb.mono qB);have HB12:RowKit.Below w1.heap.size w1 w2:=RowKit.Below.trans qF (hb.mono qB);have hz2:=hb.size;(try simp only [Aj] at hz2))|(at_builtin;refine wpList_append_own _ rfl _ _ 25 rfl (w.heap.size+1) 79 i0 (.agg #[.bool false,.slice none 0 0,.bool false,.slice none 0 0,.int .u16 0,.int .u16 0,.int .u16 0,.int .u16 0]) 8 72 Tryz.underlying25 hi hz0 hz1' hz2' rfl qI _ out.length (Ot out) rfl (Bo (Bo hown3 HB12) qF) ⟨w2.heap.size,0,none⟩ 1 1 (Tm.cells ⟨g1,a1,n1,c1,dg x.1.natAbs,g2,a2,n2,c2,dg x.2.natAbs,q0,q1,q2,q3⟩) rfl rfl (Lt _ _ _) (by simp [Tm.cells,Value.oneCell']) qO qA qB ?_;intro v3 w3 hown4 hgrow4 _));have hge:=Hd hown2;have hbl:=hown.lt;have HB3:RowKit.Below w.heap.size w w3:=(HB2.alloc HB2.size _).grown hgrow4 qJ (fun k hk=>by have:=hge k hk;omega);have hr3:=(hrg1.kept (row:=none) (Bt HB12) qG qG).alloc (.cells (Tm.cells ⟨g1,a1,n1,c1,dg x.1.natAbs,g2,a2,n2,c2,dg x.2.natAbs,q0,q1,q2,q3⟩).toArray 79) |>.kept hgrow4 (mN hge qA) (mN hge qA)
    go_roundw
    case rel=>exact ⟨_,cnt1,out++[STm.of ⟨g1,a1,n1,c1,dg x.1.natAbs,g2,a2,n2,c2,dg x.2.natAbs,q0,q1,q2,q3⟩ b0 b1 b2 b3],hr3,by rw [eD,A9];exact hown4,HC2,HB3,by rw [A9,List.length_singleton];omega⟩
    case measure=>rw [hr3.left_eq,HM.out];omega
theorem wP (w:World) :
  Θ 44 #[.map none] w fun e w'=>e=.returned (.slice none 0 0)∧RowKit.Below w.heap.size w w':=by
 have hrg:=run_range_nilMap (P:=Tryz.prog) w 85 76 34 Tryz.underlying85;have hnx:∀ty,(Instr.next (.pointer (some ⟨w.heap.size,0,none⟩)) false ty).run Tryz.prog (w.alloc (.mapIter none 0 #[] 0))=_:=fun ty=>run_next_nilMap w ty 0 0 #[]
 go_enter Tryz.func44,Tryz.ntmps44;go_wp2_with fail;refine wp_loop_rounds 1 ?_;rw [rounds_succ];go_wp2_with (first|(go_at_call 103;refine (Vs _ _ _).mono ?_;rintro e w3 ⟨rfl,rfl⟩));go_ret;exact ⟨rfl,by go_grown⟩
end Go.Proofs.YtnnhcbeiogaknaaGreatDoor
end
section
namespace Go.Proofs.YtnnhcbeiogaknaaGreatDoor
open Go.RowKit
def Cs:List UInt8→Int→Bool
 | [],_=>false
 | b::_,c=>decide ((b.toNat:Int)=c)
theorem Ju (b:UInt8) (r:List UInt8):(⟨(b::r).toArray⟩:ByteArray).extract 1 (r.length+1)=⟨r.toArray⟩:=by
 apply ByteArray.ext;simp
theorem dH (w:World) (R:Nat) (c:Int) (h0:w.cell? ⟨R,0,none⟩=some (.string ⟨([]:List UInt8).toArray⟩)) (hf:w.frozen? ⟨R,0,none⟩=false) (h1:0≤c) (h2:c<256) :
  Θ 221 #[.pointer (some ⟨R,0,none⟩),.int .u8 c] w (fun e w'=>e=.returned (.bool false)∧w'=w):=by
 go_enter Tryz.func221,Tryz.ntmps221;go_wp2;exact bodyPost_ret (v:=.bool false) (by simp [results,Tryz.results221,go_sem]) rfl ⟨rfl,rfl⟩
theorem Y6 (w:World) (R:Nat) (b:UInt8) (r:List UInt8) (c:Int) (h0:w.cell? ⟨R,0,none⟩=some (.string ⟨(b::r).toArray⟩)) (hf:w.frozen? ⟨R,0,none⟩=false) (h1:0≤c) (h2:c<256) (hr:r.length<1000000000) :
  Θ 221 #[.pointer (some ⟨R,0,none⟩),.int .u8 c] w (fun e w'=>e=.returned (.bool (decide ((b.toNat:Int)=c)))∧(if (b.toNat:Int)=c then w'=w.setCell ⟨R,0,none⟩ (.string ⟨r.toArray⟩) else w'=w)):=by
 have hx:=Ju b r;have hy:(⟨(b::r).toArray⟩:ByteArray)[0]'(by simp [ByteArray.size])=b:=by simp [ByteArray.getElem_eq_getElem_data]
 go_enter Tryz.func221,Tryz.ntmps221;go_wp2;all_goals first
  | exact bodyPost_ret (v:=.bool true) (by simp [results,Tryz.results221,go_sem]) rfl ⟨rfl,rfl⟩
  | exact bodyPost_ret (v:=.bool false) (by simp [results,Tryz.results221,go_sem]) rfl ⟨rfl,rfl⟩
  | (exfalso;simp_all;done)
theorem gW (w:World) (R:Nat) (l:List UInt8) (c:Int) (h0:w.cell? ⟨R,0,none⟩=some (.string ⟨l.toArray⟩)) (hf:w.frozen? ⟨R,0,none⟩=false) (h1:0≤c) (h2:c<256) (hr:l.length<1000000000) :
  Θ 221 #[.pointer (some ⟨R,0,none⟩),.int .u8 c] w (fun e w'=>e=.returned (.bool (Cs l c))∧w'=if Cs l c then w.setCell ⟨R,0,none⟩ (.string ⟨l.tail.toArray⟩) else w):=by
 cases l with
 | nil=>exact dH w R c h0 hf h1 h2
 | cons b r =>
  refine (Y6 w R b r c h0 hf h1 h2 (by simp at hr;omega)).mono ?_;rintro e w' ⟨rfl,h⟩;refine ⟨rfl,?_⟩;simp only [Cs,List.tail_cons,decide_eq_true_eq];by_cases hb:(b.toNat:Int)=c
  ·simpa [hb] using h
  ·simpa [hb] using h
def Dp (d:List UInt8):Nat:=d.foldl (fun n b=>10*n+(b.toNat-48)) 0
def Fm (d:List UInt8):Nat:=if 200<d.length then 0 else Dp d
def Km (L:List UInt8) (many:Bool):Option (List UInt8×List UInt8×Bool) :=
 if El (L.takeWhile Dn) then some (L.takeWhile Dn,L.dropWhile Dn,many || decide (200<(L.takeWhile Dn).length)) else none
def Ig (L:List UInt8) (many:Bool):Option (List UInt8×List UInt8×Bool) :=
 match Km L many with
 | none=>none
 | some (d,r,m)=>if d=[48] then none else some (d,r,m)
def Iy (L:List UInt8) (many:Bool):Option (Nat×List UInt8×Bool) :=
 if Cs L 94 then
  match Ig L.tail many with
  | none=>none
  | some (d,r,m)=>if 1000<Dp d then some (0,r,true) else some (Dp d,r,m)
 else some (1,L,many)
def Om (n d:Nat):PC:=if d=0 then (0,1) else (E6 n d,Fi n d)
def Fb (L:List UInt8) (many:Bool):Option (PC×List UInt8×Bool) :=
 match Km L many with
 | none=>none
 | some (t,r,m) =>
  if Cs r 47 then
   match Ig r.tail m with
   | none=>none
   | some (l,r',m')=>some (Om (Fm t) (Fm l),r',m')
  else some (Om (Fm t) 1,r,m)
def Ii (b:UInt8):Option Nat :=
 if b=120 then some 0 else if b=121 then some 1 else if b=122 then some 2 else if b=116 then some 3 else none
structure TS where
 c:PC
 o:Nat→Nat
 L:List UInt8
 many:Bool
def Ub (o:Nat→Nat) (i n:Nat):Nat→Nat:=fun k=>if k=i then o i+n else o k
def Cq (s:TS):Option TS :=
 match s.L with
 | []=>none
 | b::r =>
  match Ii b with
  | some i=>match Iy r s.many with
   | none=>none
   | some (n,r',m)=>some ⟨s.c,Ub s.o i n,r',m⟩
  | none=>match Fb (b::r) s.many with
   | none=>none
   | some (c,r',m)=>some ⟨Ca s.c c,s.o,r',m⟩
def skp (L:List UInt8):List UInt8:=L.dropWhile sO
theorem Fe (L:List UInt8):(skp L).length≤L.length:=(List.dropWhile_sublist _).length_le
theorem Ly {L:List UInt8} {many:Bool} {d r:List UInt8} {m:Bool} (h:Km L many=some (d,r,m)):d.length+r.length=L.length∧0<d.length:=by
 unfold Km at h
 split at h
 ·next hd =>
  simp only [Option.some.injEq,Prod.mk.injEq] at h;obtain ⟨rfl,rfl,_⟩:=h;refine ⟨?_,?_⟩
  ·rw [←A9,List.takeWhile_append_dropWhile]
  ·cases he:L.takeWhile Dn with
   | nil=>rw [he] at hd;simp [El] at hd
   | cons b t=>simp
 ·cases h
theorem Jl {L:List UInt8} {many:Bool} {d r:List UInt8} {m:Bool} (h:Ig L many=some (d,r,m)):d.length+r.length=L.length∧0<d.length:=by
 unfold Ig at h
 split at h
 ·cases h
 ·next d' r' m' h' =>
  split at h
  ·cases h
  ·cases h;exact Ly h'
theorem Pp {L:List UInt8} {many:Bool} {n:Nat} {r:List UInt8} {m:Bool} (h:Iy L many=some (n,r,m)):r.length≤L.length:=by
 unfold Iy at h
 split at h
 ·split at h
  ·cases h
  ·next d r' m' h' =>
   have h1:=Jl h';have h2:L.tail.length≤L.length:=by simp
   split at h<;>cases h<;>omega
 ·cases h;exact Ad _
theorem aY {L:List UInt8} {many:Bool} {c:PC} {r:List UInt8} {m:Bool} (h:Fb L many=some (c,r,m)):r.length<L.length:=by
 unfold Fb at h
 split at h
 ·cases h
 ·next t r' m' h' =>
  have h1:=Ly h'
  split at h
  ·split at h
   ·cases h
   ·next l r'' m'' h'' =>
    have h2:=Jl h'';have h3:r'.tail.length≤r'.length:=by simp
    cases h;omega
  ·cases h;omega
theorem Dk {s t:TS} (h:Cq s=some t):t.L.length<s.L.length:=by
 unfold Cq at h
 split at h
 ·cases h
 ·next b r hL =>
  rw [hL]
  split at h
  ·split at h
   ·cases h
   ·next n r' m h' =>
    have:=Pp h';cases h
    simp;omega
  ·split at h
   ·cases h
   ·next c r' m h' =>
    have:=aY h';cases h
    simpa using this
def Cr (s:TS):Option TS :=
 if Fk s.L then
  match h:Cq s with
  | none=>none
  | some t =>
   if Cs (skp t.L) 42 then Cr { t with L:=skp (skp t.L).tail }
   else if Fk (skp t.L) then Cr { t with L:=skp t.L }
   else some { t with L:=skp t.L }
 else none
termination_by s.L.length
decreasing_by
 ·have h1:=Dk h
  have h2:=Fe t.L
  have h3:=Fe (skp t.L).tail
  have h4:(skp t.L).tail.length≤(skp t.L).length:=by simp
  show (skp (skp t.L).tail).length<s.L.length
  omega
 ·have h1:=Dk h
  have h2:=Fe t.L
  show (skp t.L).length<s.L.length
  omega
def I5 (o:Nat→Nat):Bool:=decide (65535<o 0) || decide (65535<o 1) || decide (65535<o 2) || decide (65535<o 3)
def Jc (n:Nat):Nat:=min n 65535
def Qy (o:Nat→Nat):Nat:=Cg (Jc (o 0)) (Jc (o 1)) (Jc (o 2)) (Jc (o 3))
def Pw (k:Nat) (c:PC):Δ:=if c.1=0 then [] else [(k,c)]
def Fl (L:List UInt8) (many neg:Bool):Option (Δ×List UInt8×Bool) :=
 match Cr ⟨(if neg then -1 else 1,1),fun _=>0,skp L,many⟩ with
 | none=>none
 | some t=>some (Pw (Qy t.o) t.c,t.L,t.many || I5 t.o)
theorem Ij (s:TS) {t:TS} (h:Cr s=some t):t.L.length<s.L.length:=by
 induction s using Cr.induct with
 | case1 s hs hn=>rw [Cr,if_pos hs] at h;split at h<;>simp_all
 | case2 s hs u hu h42 ih =>
  rw [Cr,if_pos hs] at h
  split at h
  ·cases h
  ·next u' hu' =>
   have:u'=u:=by rw [hu'] at hu;exact Option.some.inj hu
   subst this;rw [if_pos h42] at h;have h1:=Dk hu';have h2:=Fe u'.L;have h3:=Fe (skp u'.L).tail;have h4:(skp u'.L).tail.length≤(skp u'.L).length:=by simp
   have h5:=ih h;simp only at h5;omega
 | case3 s hs u hu h42 hst ih =>
  rw [Cr,if_pos hs] at h
  split at h
  ·cases h
  ·next u' hu' =>
   have:u'=u:=by rw [hu'] at hu;exact Option.some.inj hu
   subst this;rw [if_neg h42,if_pos hst] at h;have h1:=Dk hu';have h2:=Fe u'.L;have h5:=ih h;simp only at h5;omega
 | case4 s hs u hu h42 hst =>
  rw [Cr,if_pos hs] at h
  split at h
  ·cases h
  ·next u' hu' =>
   have:u'=u:=by rw [hu'] at hu;exact Option.some.inj hu
   subst this;rw [if_neg h42,if_neg hst] at h;cases h
   have h1:=Dk hu';have h2:=Fe u'.L;simp only;omega
 | case5 s hs=>rw [Cr,if_neg hs] at h;cases h
theorem J1 {L:List UInt8} {many neg:Bool} {l:Δ} {r:List UInt8} {m:Bool} (h:Fl L many neg=some (l,r,m)):r.length<L.length:=by
 unfold Fl at h
 split at h
 ·cases h
 ·next t ht =>
  have h1:=Ij _ ht;have h2:=Fe L;cases h
  simp only at h1;omega
def Gt (p:Δ) (L:List UInt8) (many:Bool):Option (Δ×Bool) :=
 match L with
 | []=>some (p,many)
 | b::r =>
  if b=45∨b=43 then
   match h:Fl r many (b=45) with
   | none=>none
   | some (l,r',m)=>Gt (Cu p l) r' m
  else none
termination_by L.length
decreasing_by
 have:=J1 h
 simp;omega
def Hy (L:List UInt8):Option (Δ×Bool) :=
 match Fl (if Cs (skp L) 45 then (skp L).tail else skp L) false (Cs (skp L) 45) with
 | none=>none
 | some (l,r,m)=>Gt l r m
def Ek (L:List UInt8):Δ×Int :=
 if 65536<L.length then ([],3) else
  match Hy L with
  | none=>([],4)
  | some (l,m)=>if m then ([],3) else (l,0)
theorem Ru:∀(k n:Nat),n<1000000000 ^ k→(dg n).length≤k
 | 0,n,h=>by
  have:n=0:=by simpa using h
  subst this;rw [De];simp
 | k+1,n,h=>by
  by_cases h0:n=0
  ·subst h0;rw [De];simp
  ·rw [Hg qA,List.length_cons];have:n/1000000000<1000000000 ^ k:=by
    rw [Nat.div_lt_iff_lt_mul qA,←Nat.pow_succ];exact h
   have:=Ru k _ this;omega
theorem oC (d:List UInt8) (h:d.all Dn=true) (a:Nat):d.foldl (fun n b=>10*n+(b.toNat-48)) a<(a+1)*10 ^ d.length:=by
 induction d generalizing a with
 | nil=>simp
 | cons b r ih =>
  simp only [List.all_cons,Bool.and_eq_true] at h;have hb:b.toNat-48≤9:=by have:=h.1;unfold Dn at this;simp at this;omega
  refine Nat.lt_of_lt_of_le (ih h.2 _) ?_;rw [List.length_cons,Nat.pow_succ,Nat.mul_comm (10 ^ r.length) 10,←Nat.mul_assoc];exact Nat.mul_le_mul_right _ (by show 10*a+(b.toNat-48)+1≤(a+1)*10;omega)
theorem fS {d:List UInt8} (h:d.all Dn=true):Dp d<10 ^ d.length:=by
 have:=oC d h 0;simpa [Dp] using this
theorem Kt {d:List UInt8} (h:El d=true):d.all Dn=true∧0<d.length:=by
 cases d with
 | nil=>cases h
 | cons b r =>
  simp only [El,Bool.and_eq_true] at h;exact ⟨h.1,by simp⟩
theorem Ja {d:List UInt8} (h:El d=true):(dg (Fm d)).length≤d.length:=by
 unfold Fm
 split
 ·rw [De];simp
 ·apply Ru;refine Nat.lt_of_lt_of_le (fS (Kt h).1) ?_;exact Nat.pow_le_pow_left qA _
theorem fP (n d:Nat):CW (Om n d):=by
 unfold Om
 split
 ·exact ⟨by decide,by decide⟩
 ·exact CW.low qA
theorem Yw {n d K:Nat} (h1:(dg n).length≤K) (h2:(dg d).length≤K) (hK:1≤K):By K (Om n d):=by
 unfold Om
 split
 ·exact ⟨by show (dg 0).length≤K;rw [De];simp,by show (dg 1).length≤K;rw [Dg];exact hK⟩
 ·obtain ⟨a,b⟩:=Ni (n:Int) (d:Int) qA;exact ⟨by show (dg (E6 (n:Int) d).natAbs).length≤K;simp only [Int.natAbs_natCast] at a;omega,by show (dg (Fi (n:Int) d).natAbs).length≤K;simp only [Int.natAbs_natCast] at b;omega⟩
theorem Gb {L:List UInt8} {many:Bool} {d r:List UInt8} {m:Bool} (h:Km L many=some (d,r,m)):El d=true:=by
 unfold Km at h
 split at h
 ·next hd=>cases h;exact hd
 ·cases h
theorem Pe {L:List UInt8} {many:Bool} {d r:List UInt8} {m:Bool} (h:Ig L many=some (d,r,m)):Km L many=some (d,r,m)∧d≠[48]:=by
 unfold Ig at h
 split at h
 ·cases h
 ·next d' r' m' h' =>
  split at h
  ·cases h
  ·next hn=>cases h;exact ⟨h',hn⟩
theorem Lh {L:List UInt8} {many:Bool} {c:PC} {r:List UInt8} {m:Bool} (h:Fb L many=some (c,r,m)):CW c∧By (L.length-r.length) c:=by
 unfold Fb at h
 split at h
 ·cases h
 ·next t r' m' h' =>
  have h1:=Ly h';have k1:=Ja (Gb h')
  split at h
  ·split at h
   ·cases h
   ·next l r'' m'' h'' =>
    have h2:=Jl h'';have k2:=Ja (Gb (Pe h'').1);have h3:r'.tail.length≤r'.length:=by simp
    cases h
    exact ⟨fP _ _,Yw qA qA qA⟩
  ·cases h
   exact ⟨fP _ _,Yw qA (by rw [Dg];omega) qA⟩
theorem Sj {L:List UInt8} {many:Bool} {n:Nat} {r:List UInt8} {m:Bool} (h:Iy L many=some (n,r,m)):n≤1000:=by
 unfold Iy at h
 split at h
 ·split at h
  ·cases h
  ·split at h
   ·cases h;omega
   ·cases h;omega
 ·cases h;omega
theorem Mq {s t:TS} (h:Cq s=some t) (hc:CW s.c) {K:Nat} (hK:By K s.c):CW t.c∧By (K+(s.L.length-t.L.length)) t.c:=by
 unfold Cq at h
 split at h
 ·cases h
 ·next b r hL =>
  split at h
  ·next i hi =>
   split at h
   ·cases h
   ·next n r' m h' =>
    cases h
    exact ⟨hc,hK.mono qA⟩
  ·split at h
   ·cases h
   ·next c r' m h' =>
    obtain ⟨h1,h2⟩:=Lh h';cases h
    refine ⟨hc.mul h1,?_⟩;rw [hL];exact By.mul hc h1 hK h2
theorem dU {s t:TS} (h:Cq s=some t) {N:Nat} (hN:∀i,s.o i≤N):∀i,t.o i≤N+1000:=by
 unfold Cq at h
 split at h
 ·cases h
 ·next b r hL =>
  split at h
  ·next i hi =>
   split at h
   ·cases h
   ·next n r' m h' =>
    have hn:=Sj h';cases h
    intro k;show Ub s.o i n k≤_;unfold Ub;have:=hN k;have:=hN i
    split<;>omega
  ·split at h
   ·cases h
   ·next c r' m h' =>
    cases h
    intro k;have:=hN k;show s.o k≤_;omega
theorem Gr (s:TS):Cr s=if Fk s.L then (match Cq s with
  | none=>none
  | some t=>if Cs (skp t.L) 42 then Cr { t with L:=skp (skp t.L).tail } else if Fk (skp t.L) then Cr { t with L:=skp t.L } else some { t with L:=skp t.L }) else none:=by
 rw [Cr]
 split
 ·split
  ·next h=>rw [h]
  ·next t h=>rw [h]
 ·rfl
theorem Wp {s t:TS} (h:Cr s=some t):Fk s.L=true∧∃u,Cq s=some u ∧
  ((Cs (skp u.L) 42=true∧Cr { u with L:=skp (skp u.L).tail }=some t)∨(Cs (skp u.L) 42=false∧Fk (skp u.L)=true∧Cr { u with L:=skp u.L }=some t)∨(Cs (skp u.L) 42=false∧Fk (skp u.L)=false∧t={ u with L:=skp u.L })):=by
 rw [Gr] at h
 split at h
 ·next hs =>
  refine ⟨hs,?_⟩
  split at h
  ·cases h
  ·next u hu =>
   refine ⟨u,hu,?_⟩
   cases h1:Cs (skp u.L) 42
   ·rw [h1] at h
    cases h2:Fk (skp u.L)
    ·rw [h2] at h;simp only [Bool.false_eq_true,if_false,Option.some.injEq] at h;exact .inr (.inr ⟨rfl,rfl,h.symm⟩)
    ·rw [h2] at h;simp only [Bool.false_eq_true,if_false,if_true] at h;exact .inr (.inl ⟨rfl,rfl,h⟩)
   ·rw [h1] at h;simp only [if_true] at h;exact .inl ⟨rfl,h⟩
 ·cases h
theorem K8:∀(n:Nat) (s:TS) {t:TS},s.L.length≤n→Cr s=some t→CW s.c→∀{K:Nat},By K s.c→CW t.c∧By (K+(s.L.length-t.L.length)) t.c
 | 0,s,t,hn,h,_,_,_=>by have:=Ij _ h;omega
 | n+1,s,t,hn,h,hc,K,hK=>by
  obtain ⟨hs,u,hu,hh⟩:=Wp h;obtain ⟨g1,g2⟩:=Mq hu hc hK;have h1:=Dk hu;have h2:=Fe u.L;have h3:=Fe (skp u.L).tail;have h4:(skp u.L).tail.length≤(skp u.L).length:=by simp
  rcases hh with ⟨_,h5⟩|⟨_,_,h5⟩|⟨_,_,h5⟩
  ·have h6:=Ij _ h5;obtain ⟨g3,g4⟩:=K8 n _ (by show (skp (skp u.L).tail).length≤n;omega) h5 g1 g2;refine ⟨g3,g4.mono ?_⟩;simp only at h6 ⊢;omega
  ·have h6:=Ij _ h5;obtain ⟨g3,g4⟩:=K8 n _ (by show (skp u.L).length≤n;omega) h5 g1 g2;refine ⟨g3,g4.mono ?_⟩;simp only at h6 ⊢;omega
  ·subst h5;refine ⟨g1,g2.mono ?_⟩;show _≤K+(s.L.length-(skp u.L).length);omega
theorem uS (o:Nat→Nat):Qy o<18446744073709551616:=by
 unfold Qy;have:∀n,Jc n<65536:=fun n=>by unfold Jc;omega
 exact Re (this _) (this _) (this _) (this _)
theorem PW.one {k:Nat} {c:PC} (hc:CW c) (hk:k<18446744073709551616):PW (Pw k c):=by
 unfold Pw
 split
 ·exact ⟨by simp,by simp,by simp⟩
 ·next h=>exact ⟨by simp,by simpa using ⟨hc,h⟩,by simpa using hk⟩
theorem dS (neg:Bool):CW ((if neg then -1 else 1,1):PC):=by cases neg<;>exact ⟨by decide,by decide⟩
theorem Wr (neg:Bool):By 1 ((if neg then -1 else 1,1):PC):=by
 cases neg<;>exact ⟨by show (dg 1).length≤1;rw [Dg];exact Ad _,by show (dg 1).length≤1;rw [Dg];exact Ad _⟩
theorem Lo {L:List UInt8} {many neg:Bool} {l:Δ} {r:List UInt8} {m:Bool} (h:Fl L many neg=some (l,r,m)):PW l∧Cj (1+(L.length-r.length)) l∧l.length≤1:=by
 unfold Fl at h
 split at h
 ·cases h
 ·next t ht =>
  have h0:=Fe L;obtain ⟨g1,g2⟩:=K8 _ _ (Ad _) ht (dS neg) (Wr neg);have h1:=Ij _ ht;cases h
  refine ⟨PW.one g1 (uS _),?_,?_⟩
  ·unfold Pw
   split
   ·intro t ht;cases ht
   ·intro t' ht';simp only [Ao] at ht';subst ht';refine By.mono g2 ?_;simp only at h1 ⊢;omega
  ·unfold Pw;split<;>simp
theorem iN (d:List UInt8) (a:Nat):d.foldl (fun n b=>10*n+(b.toNat-48)) a=a*10 ^ d.length+Dp d:=by
 induction d generalizing a with
 | nil=>simp [Dp]
 | cons b r ih =>
  have e:Dp (b::r)=(10*0+(b.toNat-48))*10 ^ r.length+Dp r:=by rw [←ih];rfl
  rw [List.foldl_cons,ih,e,List.length_cons,Nat.pow_succ];rw [Nat.add_mul,Nat.add_mul,Nat.mul_zero,Nat.zero_mul];have:10*a*10 ^ r.length=a*(10 ^ r.length*10):=by rw [Nat.mul_comm 10 a,Nat.mul_assoc,Nat.mul_comm 10 (10 ^ r.length)]
  rw [this];omega
theorem Zq (a b:List UInt8):Dp (a++b)=Dp a*10 ^ b.length+Dp b:=by
 have:Dp (a++b)=b.foldl (fun n b=>10*n+(b.toNat-48)) (Dp a):=by simp [Dp,List.foldl_append]
 rw [this,iN]
theorem Pt {d:List UInt8} (h:d.all Dn=true) (hl:d.length≤9):Dp d<1000000000:=by
 have h1:=fS h;have h2:10 ^ d.length≤10 ^ 9:=Nat.pow_le_pow_right qA hl;omega
structure Oy (s:List UInt8) (j:Nat) (d:Ξ):Prop where
 le:j≤s.length
 small:∀x∈d,x<1000000000
 lies:j=0∨j+9*d.length=s.length
 few:d.length≤s.length
 sum:val d+1000000000 ^ d.length*Dp (s.take j)=Dp s
theorem Oy.start (s:List UInt8):Oy s s.length []:=⟨Ad _,by simp,by simp,by simp,by simp [val]⟩
theorem pJ (v P y X K:Nat):v+P*y+P*K*X=v+P*(X*K+y):=by
 rw [Nat.mul_add,Nat.mul_comm X K,Nat.mul_assoc];omega
theorem rU (v P y K q:Nat):v+P*y+P*K*0=v+P*(0*q+y):=by
 rw [Nat.mul_zero,Nat.zero_mul,Nat.zero_add,Nat.add_zero]
theorem Oy.next {s:List UInt8} {j:Nat} {d:Ξ} (h:Oy s j d) (ha:s.all Dn=true) (hj:0<j):Oy s (j-9) (d++[Dp ((s.take j).drop (j-9))]):=by
 obtain ⟨h1,h2,h3,h4,h5⟩:=h;have hl:((s.take j).drop (j-9)).length=j-(j-9):=by simp;omega
 have hall:((s.take j).drop (j-9)).all Dn=true:=by
  rw [List.all_eq_true] at ha ⊢;exact fun x hx=>ha x (List.mem_of_mem_take (List.mem_of_mem_drop hx))
 have hn:=Pt hall qA;refine ⟨by omega,?_,?_,?_,?_⟩
 ·intro x hx;rcases List.mem_append.1 hx with hx|hx
  ·exact h2 x hx
  ·simp only [Ao] at hx;omega
 ·rw [A9,List.length_singleton];omega
 ·rw [A9,List.length_singleton];omega
 ·rw [Fq,A9,List.length_singleton,Nat.pow_succ];have e1:s.take j=s.take (j-9)++(s.take j).drop (j-9):=by
   have:(s.take j).take (j-9)=s.take (j-9):=by rw [List.take_take];congr 1;omega
   rw [←this,List.take_append_drop]
  have e2:Dp (s.take j)=Dp (s.take (j-9))*10 ^ (j-(j-9))+Dp ((s.take j).drop (j-9)):=by
   conv=>lhs;rw [e1]
   rw [Zq,hl]
  have e3:val [Dp ((s.take j).drop (j-9))]=Dp ((s.take j).drop (j-9)):=by simp [val]
  rw [e3,←h5,e2];by_cases h9:9≤j
  ·have e4:(10:Nat) ^ (j-(j-9))=1000000000:=by rw [show j-(j-9)=9 by omega]
   rw [e4];exact pJ _ _ _ _ _
  ·have e5:Dp (s.take (j-9))=0:=by rw [show j-9=0 by omega];rfl
   rw [e5];exact rU _ _ _ _ _
theorem Oy.done {s:List UInt8} {d:Ξ} (h:Oy s 0 d):val d=Dp s:=by
 have:=h.sum;simpa [Dp] using this
abbrev Lm (n:Nat) (b:UInt8):Nat:=10*n+(b.toNat-48)
theorem Zm (l:List UInt8) (a:Nat):a≤l.foldl Lm a:=by
 induction l generalizing a with
 | nil=>exact Ad _
 | cons b r ih =>
  have:=ih (Lm a b);rw [List.foldl_cons];have:a≤Lm a b:=by show a≤10*a+(b.toNat-48);omega
  omega
theorem Lx {b:UInt8} (h:Dn b=true):48≤b.toNat∧b.toNat≤57:=by
 unfold Dn at h;simp at h;omega
theorem T7 (M:Nat) (hM:M<1000000000000000000) (l:List UInt8) (h:l.all Dn=true) (a:Nat) (hl:l.foldl Lm a≤M):Lib.parseUintM M a l=.ok (l.foldl Lm a):=by
 induction l generalizing a with
 | nil=>rfl
 | cons b r ih =>
  simp only [List.all_cons,Bool.and_eq_true] at h;obtain ⟨h1,h2⟩:=Lx h.1;rw [List.foldl_cons] at hl ⊢;have h3:=Zm r (Lm a b);have h4:Lm a b=a*10+(b.toNat-48):=by show 10*a+(b.toNat-48)=_;omega
  rw [Lib.parseUintM,if_pos ⟨h1,h2⟩,if_neg qA,if_neg qA,←h4];exact ih h.2 _ hl
theorem Tl {d:List UInt8} (h:d.all Dn=true) (h0:d≠[]) (hl:d.length≤9):Lib.parseUintB 32 d=.ok (Dp d):=by
 have h1:=Pt h hl;unfold Lib.parseUintB;rw [if_neg h0];exact T7 _ qI d h 0 (by show Dp d≤2 ^ 32-1;omega)
theorem St (l:List UInt8) (h:l.all Dn=true) (a:Nat) (ha:a<18446744073709551616):Lib.parseUint10 a l=if l.foldl Lm a<18446744073709551616 then .ok (l.foldl Lm a) else .range:=by
 induction l generalizing a with
 | nil=>simp [Lib.parseUint10,ha]
 | cons b r ih =>
  simp only [List.all_cons,Bool.and_eq_true] at h;obtain ⟨h1,h2⟩:=Lx h.1;rw [List.foldl_cons];have h3:=Zm r (Lm a b);have h4:Lm a b=a*10+(b.toNat-48):=by show 10*a+(b.toNat-48)=_;omega
  rw [Lib.parseUint10,if_pos ⟨h1,h2⟩];by_cases h5:1844674407370955162≤a
  ·rw [if_pos h5,if_neg qA]
  ·rw [if_neg h5];by_cases h6:18446744073709551616≤a*10+(b.toNat-48)
   ·rw [if_pos h6,if_neg qA]
   ·rw [if_neg h6,←h4];exact ih h.2 _ qA
theorem Yo {d:List UInt8} (h:El d=true):Lib.atoiAll d=if Dp d<9223372036854775808 then .ok (Dp d:Int) else .range:=by
 obtain ⟨ha,hl⟩:=Kt h
 cases d with
 | nil=>simp at hl
 | cons c r =>
  obtain ⟨h1,h2⟩:=Lx (b:=c) (by simp only [List.all_cons,Bool.and_eq_true] at ha;exact ha.1);have hp:Lib.parseMag (c::r)=if Dp (c::r)<18446744073709551616 then .ok (Dp (c::r)) else .range:=by
   unfold Lib.parseMag;rw [if_neg qG,St _ ha 0 qA];rfl
  unfold Lib.atoiAll;simp only;rw [if_neg qA,hp];have hc:¬c.toNat=45:=by omega
  by_cases h5:Dp (c::r)<18446744073709551616
  ·rw [if_pos h5];simp only [hc];by_cases h6:Dp (c::r)<9223372036854775808
   ·simp [h6]
   ·simp [h6]
  ·rw [if_neg h5,if_neg qA]
end Go.Proofs.YtnnhcbeiogaknaaGreatDoor
end
