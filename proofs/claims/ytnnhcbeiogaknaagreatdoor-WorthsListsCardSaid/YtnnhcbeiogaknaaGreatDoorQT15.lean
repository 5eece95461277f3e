/- Package polys: likes.sum. slices.Concat at two sums. -/
import Derived.Test.YtnnhcbeiogaknaaGreatDoorQT14
set_option linter.unusedSimpArgs false
set_option linter.unusedVariables false
set_option maxRecDepth 100000
set_option maxHeartbeats 4000000
section
namespace Go.Proofs.YtnnhcbeiogaknaaGreatDoor
open Go.RowKit Go.Lib Go.Sort
theorem Qb (w:World) (blk off n:Nat) (d:Array STm) (os:Array Obj) (hblk:blk<w.heap.size):RowKit.Below blk w (sortWorldK Gt 8 w blk off n d os):=by
 refine ⟨rfl,rfl,rfl,size_sortWorldK_c _ _ _ _ _ _ _ _,fun k hk=>?_⟩;unfold sortWorldK putRowK putRow grow mapBlock;have h:k<w.heap.size:=by omega
 have hne:blk≠k:=by omega
 simp [Array.getElem?_append,h,ahead];rw [Array.getElem_modify_of_ne hne]
theorem Yq {w:World} {B:Nat} {o:Nat→Nat} {D:DataW Value} {f:Nat→Option PC} (hH:Fi w B o D f) {key v:Value} {kl:Lit} {y:DataW Value×List MemPlace} (hkey:keyOf Tryz.prog 76 key=some kl) (hat:∀zd,D.atKey kl zd=y.1) (hR:RH v=some y) :
  ∃(q0 q1 q2 q3:Nat) (x:PC),f (Ch q0 q1 q2 q3)=some x∧q0<65536∧q1<65536∧q2<65536∧q3<65536∧key=C6 q0 q1 q2 q3∧W5 w B o (Ch q0 q1 q2 q3) v x:=by
 obtain ⟨q0,q1,q2,q3,h0,h1,h2,h3,rfl⟩:=pB hkey;have hhas:=Maps.has_true_of_atKey hat;obtain ⟨e1,e2⟩:=hH q0 q1 q2 q3 kl h0 h1 h2 h3 hkey
 cases hf:f (Ch q0 q1 q2 q3) with
 | none=>rw [e1 hf] at hhas;cases hhas
 | some x =>
  obtain ⟨_,u,hu,hfr⟩:=e2 x hf;simp only [RH,Option.some.injEq] at hR;subst hR;have:=hu (.held v);rw [hat] at this;simp only [DataW.held.injEq] at this;subst this;exact ⟨q0,q1,q2,q3,x,hf,h0,h1,h2,h3,rfl,hfr⟩
theorem lL {w:World} {N:Nat} {e:TypeId} {size:Nat} {v:Value} {n:Nat} {xs:List Value} (h:w.ownsRow (N+1) e size v n xs):v.ownBlock=none∨v.ownBlock≠some N:=by
 rcases h.2 with ⟨rfl,_⟩|⟨g,cap,cur,rfl,hg,_⟩
 ·exact .inl rfl
 ·right;intro e;simp only [Value.ownBlock,Option.some.injEq] at e;omega
def STm.of (t:Tm) (h0:t.m0<65536) (h1:t.m1<65536) (h2:t.m2<65536) (h3:t.m3<65536):STm:=⟨t,h0,h1,h2,h3⟩
theorem iR {w:World} {b n:Nat} {D:DataW Value} (h:w.ownsMap Tryz.prog 76 RH b n D):Maps.size D≤n:=by
 obtain ⟨es,clock,hb,F,hs,rfl⟩:=h;simpa [Maps.size,length_sorted] using hs
theorem Ge {w:World} {N:Nat} {e:TypeId} {size:Nat} {v:Value} {n:Nat} {xs:List Value} (h:w.ownsRow N e size v n xs):∀k,v.ownBlock=some k→N≤k:=by
 rcases h.2 with ⟨rfl,_⟩|⟨g,cap,cur,rfl,hg,_⟩
 ·intro k hk;cases hk
 ·intro k hk;simp only [Value.ownBlock,Option.some.injEq] at hk;omega
theorem iW {v:Value} {N k:Nat} (h:∀j,v.ownBlock=some j→N≤j) (hk:k<N):some k≠v.ownBlock:=fun e=>by have:=h k e.symm;omega
structure Qr (w:World) (B:Nat) (o:Nat→Nat) (f:Nat→Option PC) (left:Lit→Bool) (out:List STm):Prop where
 mem:∀t∈out,∃x,f t.key=some x∧x.1≠0∧Es t.1 (t.key,x)∧Eb w t.1∧Pv w B o t.key t.1.a1 t.1.c1 t.1.a2 t.1.c2∧∀kl,keyOf Tryz.prog 76 (C6 t.1.m0 t.1.m1 t.1.m2 t.1.m3)=some kl→left kl=false
 all:∀a b c d kl x,a<65536→b<65536→c<65536→d<65536→keyOf Tryz.prog 76 (C6 a b c d)=some kl→f (Ch a b c d)=some x→x.1≠0→left kl=false→∃t∈out,t.key=Ch a b c d
 apart:out.Pairwise (fun s t=>s.key≠t.key)
theorem Qr.start {w:World} {B:Nat} {o:Nat→Nat} {D:DataW Value} {f:Nat→Option PC} (hH:Fi w B o D f):Qr w B o f (Maps.has D) [] :=
 ⟨by simp,fun a b c d kl x ha hb hc hd hk hf _ hl=>(by rw [((hH a b c d kl ha hb hc hd hk).2 x hf).1] at hl;cases hl),by simp⟩
theorem Ua {left:Lit→Bool} {kl kl':Lit} (h:left kl'=false):(left kl'&&!kl'.sameKey kl)=false:=by rw [h];rfl
theorem Qr.pass {w:World} {B:Nat} {o:Nat→Nat} {f:Nat→Option PC} {left:Lit→Bool} {out:List STm} (h:Qr w B o f left out) {q0 q1 q2 q3:Nat} {kl:Lit} {x:PC} (h0:q0<65536) (h1:q1<65536) (h2:q2<65536) (h3:q3<65536)
  (hk:keyOf Tryz.prog 76 (C6 q0 q1 q2 q3)=some kl) (hf:f (Ch q0 q1 q2 q3)=some x) (hx:x.1=0):Qr w B o f (fun z=>left z&&!z.sameKey kl) out:=by
 refine ⟨fun t ht=>?_,fun a b c d kl' x' ha hb hc hd hk' hf' hx' hl=>?_,h.apart⟩
 ·obtain ⟨y,g1,g2,g3,g4,g5,g7⟩:=h.mem t ht;exact ⟨y,g1,g2,g3,g4,g5,fun kl' hkl'=>Ua (g7 kl' hkl')⟩
 ·by_cases e:left kl'=false
  ·exact h.all a b c d kl' x' ha hb hc hd hk' hf' hx' e
  ·have e1:left kl'=true:=by simpa using e
   rw [e1] at hl;have e2:kl'.sameKey kl=true:=by simpa using hl
   have e3:=WideAt.sameKey_eq e2;have e4:=(Uz ha hb hc hd h0 h1 h2 h3 hk' hk).1 e3;rw [e4,hf] at hf'
   cases hf'
   exact absurd hx hx'
theorem Qr.more {w:World} {B:Nat} {o:Nat→Nat} {f:Nat→Option PC} {left:Lit→Bool} {out:List STm} (h:Qr w B o f left out) {t:STm} {kl:Lit} {x:PC}
  (hk:keyOf Tryz.prog 76 (C6 t.1.m0 t.1.m1 t.1.m2 t.1.m3)=some kl) (hl:left kl=true) (hf:f t.key=some x) (hx:x.1≠0) (ht:Es t.1 (t.key,x)) (hr:Eb w t.1) (k1:Pv w B o t.key t.1.a1 t.1.c1 t.1.a2 t.1.c2) :
  Qr w B o f (fun z=>left z&&!z.sameKey kl) (out++[t]):=by
 have hkk:=Gw.key hk;refine ⟨fun s hs=>?_,fun a b c d kl' x' ha hb hc hd hk' hf' hx' hl'=>?_,?_⟩
 ·rcases List.mem_append.1 hs with hs|hs
  ·obtain ⟨y,g1,g2,g3,g4,g5,g7⟩:=h.mem s hs;exact ⟨y,g1,g2,g3,g4,g5,fun kl' hkl'=>Ua (g7 kl' hkl')⟩
  ·simp only [Ao] at hs;subst hs;refine ⟨x,hf,hx,ht,hr,k1,fun kl' hkl'=>?_⟩;rw [hk] at hkl'
   cases hkl'
   rw [WideAt.sameKey_self hkk];simp
 ·by_cases e:left kl'=false
  ·obtain ⟨s,hs,hsk⟩:=h.all a b c d kl' x' ha hb hc hd hk' hf' hx' e;exact ⟨s,by simp [hs],hsk⟩
  ·have e1:left kl'=true:=by simpa using e
   rw [e1] at hl';have e2:kl'.sameKey kl=true:=by simpa using hl'
   have e3:=WideAt.sameKey_eq e2;have e4:=(Uz ha hb hc hd t.2.1 t.2.2.1 t.2.2.2.1 t.2.2.2.2 hk' hk).1 e3;exact ⟨t,by simp,e4.symm⟩
 ·refine List.pairwise_append.2 ⟨h.apart,by simp,fun s hs u hu=>?_⟩;simp only [Ao] at hu;subst hu;obtain ⟨y,_,_,_,_,_,g7⟩:=h.mem s hs;intro e;obtain ⟨kl',hkl'⟩:=Vs s.2.1 s.2.2.1 s.2.2.2.1 s.2.2.2.2;have:=(Uz s.2.1 s.2.2.1 s.2.2.2.1 s.2.2.2.2 u.2.1 u.2.2.1 u.2.2.2.1 u.2.2.2.2 hkl' hk).2 e;subst this;rw [g7 _ hkl'] at hl;cases hl
structure Bk (w:World) (B:Nat) (a:Option Addr) (n c:Nat):Prop where
 row:c=0∨∃b cur,a=some ⟨b,0,none⟩∧B≤b∧w.heap[b]? = some (.cells cur 79 (0,0))∧c*8≤cur.size
 ts:∃(p:Nat→Tm) (o t:Nat→Nat),RdP w a n c p∧(∀i j,i<n→j<n→t i=t j→i=j)∧∀i,i<n→Pv w B o (t i) (p i).a1 (p i).c1 (p i).a2 (p i).c2
theorem Pv.mono {w:World} {B B':Nat} {o:Nat→Nat} {k:Nat} {a1:Option Addr} {c1:Nat} {a2:Option Addr} {c2:Nat} (h:Pv w B o k a1 c1 a2 c2) (hB:B'≤B):Pv w B' o k a1 c1 a2 c2:=⟨h.top.mono hB,h.low.mono hB,h.ap,h.m1,h.m2⟩
theorem Bk.mono {w:World} {B B':Nat} {a:Option Addr} {n c:Nat} (h:Bk w B a n c) (hB:B'≤B):Bk w B' a n c:=by
 obtain ⟨p,o,t,h1,h2,h3⟩:=h.ts;exact ⟨h.row.imp id fun⟨b,cur,e1,e2,e3⟩=>⟨b,cur,e1,Ah hB e2,e3⟩,p,o,t,h1,h2,fun i hi=>(h3 i hi).mono hB⟩
theorem Bk.keep {w w':World} {B:Nat} {a:Option Addr} {n c:Nat} (h:Bk w B a n c) (hb:RowKit.Below w.heap.size w w'):Bk w' B a n c:=by
 obtain ⟨p,o,t,h1,h2,h3⟩:=h.ts;exact ⟨h.row.imp id fun⟨b,cur,e1,e2,e3,e4⟩=>⟨b,cur,e1,e2,by rw [hb.block b (Ar.1 e3).1];exact e3,e4⟩,p,o,t,h1.keep hb,h2,fun i hi=>(h3 i hi).butR (Bq hb) qG⟩
theorem RdP.butR {w w':World} {B n c:Nat} {a:Option Addr} {p:Nat→Tm} {row:Option Nat} (h:RdP w a n c p) (hn:Nw B n a) (hp:∀i,i<n→Nw B (p i).n1 (p i).a1∧Nw B (p i).n2 (p i).a2) (hg:w.grownBy w' row) (hr:∀k,row=some k→k<B):RdP w' a n c p:=by
 refine ⟨h.cap,h.few,h.top,fun i hi=>?_,?_⟩
 ·have ht:=h.tm i hi;exact ⟨ht.top.butR (hp i hi).1 hg hr,ht.low.butR (hp i hi).2 hg hr,ht.s0,ht.s1,ht.s2,ht.s3⟩
 ·rcases h.cell with h0|⟨b,o,ha,hc⟩
  ·exact .inl h0
  ·rcases hn with h0|hn
   ·exact .inl h0
   ·exact qDc
theorem Bk.butR {w w':World} {B:Nat} {a:Option Addr} {n c:Nat} {row:Option Nat} (h:Bk w B a n c) (hg:w.grownBy w' row) (hr:∀k,row=some k→k<B):Bk w' B a n c:=by
 obtain ⟨p,o,t,h1,h2,h3⟩:=h.ts;refine ⟨h.row.imp id fun⟨b,cur,e1,e2,e3,e4⟩=>⟨b,cur,e1,e2,by rw [hg.block b (Ar.1 e3).1 (fun e=>by have:=hr _ e.symm;omega)];exact e3,e4⟩,p,o,t,h1.butR ?_ (fun i hi=>⟨(h3 i hi).top.newA (h1.tm i hi).top,(h3 i hi).low.newA (h1.tm i hi).low⟩) hg hr,h2,fun i hi=>(h3 i hi).butR hg hr⟩;rcases h.row with h0|⟨b,cur,e1,e2,_⟩
 ·have:=h1.cap;exact .inl qA
 ·exact .inr fun x hx=>by rw [e1] at hx;cases hx;exact e2
theorem Bk.nil (w:World) (B:Nat):Bk w B none 0 0 :=
 ⟨.inl rfl,fun _=>⟨false,none,0,0,[],false,none,0,0,[],0,0,0,0⟩,id,id,⟨Ad _,by omega,by omega,fun i hi=>by omega,.inl rfl⟩,fun i j hi=>by omega,fun i hi=>by omega⟩
theorem Sv (w:World) (blk m:Nat) (d:Array STm) (os:Array Obj) {cur:Array Value} (h:w.heap[blk]? = some (.cells cur 79 (0,0))):∃cur',(sortWorldK Gt 8 w blk 0 m d os).heap[blk]? = some (.cells cur' 79 (0,0))∧cur'.size=cur.size:=by
 obtain ⟨hlt,e⟩:=Ar.1 h;refine ⟨putCells id 0 (flatK Gt 8 d) cur,?_,by simp [putCells]⟩;unfold sortWorldK putRowK putRow grow mapBlock;rw [Array.getElem?_append_left (by simpa [ahead] using hlt)];show (Array.modify w.heap blk _)[blk]? = _;rw [Array.getElem?_modify,if_pos rfl,h];rfl
def Mg (f:Nat→Option PC) (l:List STm):List PT:=l.map fun t=>(t.key,(f t.key).getD (0,1))
theorem Tp {w W:World} {B g c:Nat} {o:Nat→Nat} {f:Nat→Option PC} {left:Lit→Bool} {out:List STm} (hC:Qr w B o f left out) (hl:∀kl,left kl=false) (hf:∀k x,f k=some x→k<18446744073709551616)
  {d':Array STm} (hp:PermIn 0 out.toArray.size out.toArray d') (hs:SortedIn (ltOf cfT) 0 out.toArray.size d') (hH:HoldsK Gt 8 W g 0 d') (hb:RowKit.Below w.heap.size w W) (hBg:B≤g) (hc:out.length≤c) (hc1:c≤9223372036854775807) (hn:out.length≤35184372088832) (hrow:c=0∨∃cur,W.heap[g]? = some (.cells cur 79 (0,0))∧c*8≤cur.size) :
  Bc W B (some ⟨g,0,none⟩) out.length c (Mg f d'.toList)∧Bk W B (some ⟨g,0,none⟩) out.length c∧Cx (Mg f d'.toList)∧∀t,t∈Mg f d'.toList↔f t.1=some t.2∧t.2.1≠0:=by
 have hsz:d'.size=out.length:=by have:=hp.1;simpa using this
 have hperm:d'.toList.Perm out:=by
  have h:=hp.2.2;have e1:d'.extract 0 out.toArray.size=d':=by
   apply Array.ext
   ·simp [hsz]
   ·intro i h1 h2;simp
  have e2:out.toArray.extract 0 out.toArray.size=out.toArray:=by
   apply Array.ext
   ·simp
   ·intro i h1 h2;simp
  rw [e1,e2] at h;simpa using h
 have hmem:∀t,t∈d'.toList↔t∈out:=fun t=>hperm.mem_iff
 have hap:d'.toList.Pairwise (fun s t=>s.key≠t.key):=(hperm.symm.pairwise_iff (fun {a b} (h:a.key≠b.key)=>h.symm)).1 hC.apart;have hget:∀i (h:i<d'.size),d'[i]! = d'[i]:=fun i h=>getElem!_pos d' i h
 have hval:∀t∈out,∃x,f t.key=some x∧(f t.key).getD (0,1)=x∧x.1≠0∧Es t.1 (t.key,x)∧Eb w t.1∧Pv w B o t.key t.1.a1 t.1.c1 t.1.a2 t.1.c2:=fun t ht=>by
  obtain ⟨x,h1,h2,h3,h4,h5,_⟩:=hC.mem t ht;exact ⟨x,h1,by rw [h1];rfl,h2,h3,h4,h5⟩
 have hRd:RdP W (some ⟨g,0,none⟩) out.length c (fun i=>(d'[i]!).1):=by
  refine ⟨hc,hn,hc1,fun i hi=>?_,.inr ⟨g,0,rfl,fun i hi=>S9 hH qA⟩⟩;have hi':i<d'.size:=by omega
  show Eb W (d'[i]!).1;rw [hget i hi'];obtain ⟨x,_,_,_,_,h4,_⟩:=hval d'[i] ((hmem _).1 qG);exact h4.keep hb
 refine ⟨⟨by simp [Mg,hsz],.inr (fun x hx=>by cases hx;exact hBg),fun h=>(by cases h),fun i=>(d'[i]!).1,hRd,fun i x hx=>?_⟩,⟨hrow.imp id fun⟨cur,h1,h2⟩=>⟨g,cur,rfl,hBg,h1,h2⟩,fun i=>(d'[i]!).1,o,fun i=>(d'[i]!).key,hRd,fun i j hi hj hij=>?_,fun i hi=>?_⟩,?_,fun t=>?_⟩
 ·simp only [Mg,List.getElem?_map] at hx
  cases he:d'.toList[i]? with
  | none=>rw [he] at hx;cases hx
  | some s =>
   rw [he] at hx;have hi':i<d'.size:=by
    have:=(List.getElem?_eq_some_iff.1 he).1;simpa using this
   have es:d'[i]! = s:=by
    rw [hget i hi'];obtain ⟨_,e⟩:=List.getElem?_eq_some_iff.1 he;simpa using e
   obtain ⟨y,h1,h2,h3,h4,h5,h6⟩:=hval s ((hmem s).1 (A7 he));show Es (d'[i]!).1 x∧Nw B (d'[i]!).1.n1 (d'[i]!).1.a1∧Nw B (d'[i]!).1.n2 (d'[i]!).1.a2;rw [es];simp only [Option.map_some,Option.some.injEq] at hx;rw [h2] at hx;subst hx;exact ⟨h4,h6.top.newA h5.top,h6.low.newA h5.low⟩
 ·have hi':i<d'.size:=by omega
  have hj':j<d'.size:=by omega
  replace hij:(d'[i]!).key=(d'[j]!).key:=hij;rw [hget i hi',hget j hj'] at hij;have h2:=List.pairwise_iff_getElem.1 hap;rcases Nat.lt_trichotomy i j with h|h|h
  ·exact absurd (by rw [Array.getElem_toList,Array.getElem_toList];exact hij) (h2 i j _ _ h)
  ·exact h
  ·exact absurd (by rw [Array.getElem_toList,Array.getElem_toList];exact hij.symm) (h2 j i _ _ h)
 ·have hi':i<d'.size:=by omega
  show Pv W B o (d'[i]!).key (d'[i]!).1.a1 (d'[i]!).1.c1 (d'[i]!).1.a2 (d'[i]!).1.c2;rw [hget i hi'];obtain ⟨x,_,_,_,_,_,h5⟩:=hval d'[i] ((hmem _).1 qG);exact h5.butR (Bq hb) qG
 ·unfold Cx Mg;rw [List.pairwise_map,List.pairwise_iff_getElem];intro i j hi hj hij;have hi':i<d'.size:=by simpa using hi
  have hj':j<d'.size:=by simpa using hj
  have h1:=hs i j (A9 _) hij qI;rw [ltT,hget i hi',hget j hj',decide_eq_false_iff_not] at h1;have h2:=List.pairwise_iff_getElem.1 hap i j hi hj hij;simp only [Array.getElem_toList] at h2 ⊢;omega
 ·unfold Mg;rw [List.mem_map];constructor
  ·rintro ⟨s,hs',rfl⟩;obtain ⟨y,h1,h2,h3,_⟩:=hval s ((hmem s).1 hs');rw [h2];exact ⟨h1,h3⟩
  ·rintro ⟨h1,h2⟩;obtain ⟨k,x⟩:=t;obtain ⟨q0,q1,q2,q3,hq⟩:=Zu k (hf k x h1);obtain ⟨kl,hkl⟩:=Vs q0 q1 q2 q3;obtain ⟨s,hs',hsk⟩:=hC.all _ _ _ _ kl x q0 q1 q2 q3 hkl (by rw [hq];exact h1) h2 (hl kl);rw [hq] at hsk;refine ⟨s,(hmem s).2 hs',?_⟩;have h1':f k=some x:=h1;rw [hsk,h1'];rfl
theorem dB (w:World) (b n B:Nat) (f:Nat→Option PC) (h:C8 w b n B f) (hn:n≤1000000) (hBw:B≤w.heap.size) (hK:∀k x,f k=some x→k<18446744073709551616∧Ca 1000000 x) :
  Calls Tryz.prog 44 #[.map (some b)] w fun e w'=>∃a n' c,∃l:List PT,e=.returned (.slice a n' c)∧Bc w' B a n' c l∧Bk w' B a n' c∧Cx l∧(∀t,t∈l↔f t.1=some t.2∧t.2.1≠0)∧RowKit.Below w.heap.size w w':=by
 obtain ⟨D,o,hown,hH⟩:=h.ex;have HB:=Ac w.heap.size w;have HKK:=Ae hK;obtain ⟨i0,hi,hz0,hz1',hz2'⟩:=info_parts Ri;clear hK;go_enter Tryz.func44,Tryz.ntmps44;go_wp2_with (first|(at_range;refine wpList_range_own _ rfl _ 85 rfl 76 34 Gw Tryz.underlying85 RH b n D rfl (Ef hown qF) ?_;intro w0 hrg0 hg0 hs0));go_frame;go_loopw [2] (fun v2 wr=>∃(left:Lit→Bool) (cnt:Nat) (out:List STm),wr.ranges Tryz.prog 76 RH b w.heap.size n D left cnt∧wr.ownsRow (w.heap.size+1) 79 8 v2 out.length (N0 out)∧Hid (Qr w B o f left out)∧RowKit.Below w.heap.size w wr∧out.length+cnt≤n) (fun _ wr=>wr.rangeLeft b w.heap.size)
 case atStart=>exact ⟨_,_,[],hrg0,⟨rfl,.inl ⟨rfl,rfl⟩⟩,Ae (Qr.start hH),⟨hg0.os,hg0.tape,hg0.output,hg0.size,fun k hk=>hg0.block k hk qG⟩,by simpa using iR hown⟩
 case round =>
  obtain ⟨left,cnt,out,hrg,hown2,hC,HB,hcn⟩:=hrel;go_wp2_with (first|(at_next;refine wpList_next_ranges _ rfl _ rfl 76 Gw RH (fun v=>v) (fun v=>v) (fun key _ _=>⟨key,rfl⟩) (fun v _ _=>⟨v,rfl⟩) b w.heap.size n D left cnt rfl hrg ?_ ?_))
  ·intro hc0 hl0;have hf':∀k x,f k=some x→k<18446744073709551616:=fun k x hk=>(HKK.out k x hk).1
   rcases hown2.2 with ⟨rfl,hlen⟩|⟨g,cap,cur,rfl,hgb,hblk,hnc,hcm,hsz,htk⟩
   ·have hout:out=[]:=List.length_eq_zero_iff.1 hlen;subst hout;have HP:=Ae (Tp (W:=w) (g:=B) (c:=0) (d':=#[]) hC.out hl0 hf' ⟨rfl,fun _ _=>rfl,List.Perm.refl _⟩ (fun i j _ _ hj=>by simp at hj) (fun j hj=>by simp [flatK] at hj) (Ac _ _) (Ad _) (Ad _) qA qG (.inl rfl)).2.2;clear hrg hown2 hf';go_wp2_with (first|(go_at_call 103;refine (Ui _ _ _).mono ?_;rintro e w3 ⟨rfl,rfl⟩));refine bodyPost_ret (v:=.slice none 0 0) (by simp [results,Tryz.results44,go_sem]) rfl ?_;exact ⟨none,0,0,[],rfl,Bc.nil _ _,Bk.nil _ _,HP.out.1,HP.out.2,HB⟩
   ·have hlt:g<wr.heap.size:=(Ar.1 hblk).1;have hcap:cap≤9223372036854775807:=hcm;have hS:=wG g 0 cap out.toArray wr (Lp hown2 rfl) hlt qI;have hHO:=Ae (Lp hown2 rfl);rw [List.size_toArray] at hS;have HRW:=Ae hblk;have HSZ:=Ae hsz;clear hrg hown2 hblk htk hsz;go_wp2_with (first|(go_at_call 103;refine hS.mono ?_;rintro e w3 ⟨rfl,d',m,os,hperm,hsrt,rfl⟩));have hbw:=Qb wr g 0 m d' os hlt;have HB3:RowKit.Below w.heap.size w (sortWorldK Gt 8 wr g 0 m d' os):=HB.trans (hbw.mono qA);have hd:d'.size=out.toArray.size:=hperm.1;have hP:=Tp (W:=sortWorldK Gt 8 wr g 0 m d' os) (g:=g) (c:=cap) (d':=d') hC.out hl0 hf' (by simpa using hperm) (by simpa using hsrt) (holdsK_sortWorldK_c Gt 8 wr g 0 out.toArray d' m os hHO.out hlt hd) HB3 qA hnc hcap qA (by obtain ⟨cur',e1,e2⟩:=Sv wr g m d' os HRW.out;exact .inr ⟨cur',e1,by rw [e2,HSZ.out];exact Ad _⟩);refine bodyPost_ret (v:=.slice (some ⟨g,0,none⟩) out.length cap) (by simp [results,Tryz.results44,go_sem]) rfl ?_;exact ⟨_,_,_,_,rfl,hP.1,hP.2.1,hP.2.2.1,hP.2.2.2,HB3⟩
  ·intro key v kl y1 y2 w1 cnt1 hkey hlk hRv hR2 hat hrg1 hlt hg1 hs1 hen;subst hRv;obtain ⟨q0,q1,q2,q3,x,hfx,b0,b1,b2,b3,rfl,hfr⟩:=Yq (y:=(.held v,[])) hH hkey hat rfl;obtain ⟨g1,a1,n1,c1,g2,a2,n2,c2,rfl,hx,k1⟩:=hfr;have HM:=Ae hrg.left_eq;clear hat hR2 hrg;have HB1:RowKit.Below w.heap.size w w1:=HB.grown hg1 HB.size (fun k hk=>by cases hk;exact Ad _);have hown3:=hown2.kept hg1 (lL hown2);have hfew:=(HKK.out _ _ hfx).2;have e1:=hx.top.rd.len;have e2:=hx.low.rd.len;obtain ⟨i1,i2⟩:=hfew;have s1:n1<35184372088829:=by omega
   have s2:n2<35184372088829:=by omega
   have hrd:Eb w ⟨g1,a1,n1,c1,dg x.1.natAbs,g2,a2,n2,c2,dg x.2.natAbs,q0,q1,q2,q3⟩:=⟨hx.top.rd,hx.low.rd,b0,b1,b2,b3⟩;have hti:Es ⟨g1,a1,n1,c1,dg x.1.natAbs,g2,a2,n2,c2,dg x.2.natAbs,q0,q1,q2,q3⟩ (Ch q0 q1 q2 q3,x):=⟨hx.top.neg,rfl,hx.low.neg,rfl,rfl⟩;have HX:=Ae (Ay hrd hti);have HS:=Ae hs1;have hz1:=HB1.size;clear hrd hti e1 e2 i1 i2 hs1;by_cases hx0:x.1=0
   ·have hc0:Bz x.1 0=0:=by rw [hx0,Eo]
    have HC2:=Ae (hC.out.pass b0 b1 b2 b3 hkey hfx hx0);clear hx0;go_wp2_with (first|(go_at_call 98;refine (Fx _ _ _ _ _ _ _ _ _ _ _ (hx.keep qF) s2 s1).mono ?_;rintro e w2 ⟨rfl,hb⟩;rw [hc0];have d0:w2.cell? ⟨w1.heap.size,0,none⟩=some (.int .u16 q0):=Bb hb qL;have d1:w2.cell? ⟨w1.heap.size,1,none⟩=some (.int .u16 q1):=Bb hb qL;have d2:w2.cell? ⟨w1.heap.size,2,none⟩=some (.int .u16 q2):=Bb hb qL;have d3:w2.cell? ⟨w1.heap.size,3,none⟩=some (.int .u16 q3):=Bb hb qL;have k4:w2.cell? ⟨w1.heap.size+1,0,none⟩=some (.bool g1):=Bb hb qL;have k5:w2.cell? ⟨w1.heap.size+1,1,none⟩=some (.slice a1 n1 c1):=Bb hb qL;have k6:w2.cell? ⟨w1.heap.size+1,2,none⟩=some (.bool g2):=Bb hb qL;have k7:w2.cell? ⟨w1.heap.size+1,3,none⟩=some (.slice a2 n2 c2):=Bb hb qL;have HB2:RowKit.Below w.heap.size w w2:=RowKit.Below.trans qF (hb.mono qB);have HB12:RowKit.Below w1.heap.size w1 w2:=RowKit.Below.trans qF (hb.mono qB);have hz2:=hb.size;(try simp only [Aj] at hz2)));go_roundw
    case rel=>exact ⟨_,cnt1,out,hrg1.kept (row:=none) (Bq HB12) qG qG,Bm hown3 HB12,HC2,HB2,by omega⟩
    case measure=>rw [(hrg1.kept (row:=none) (Bq HB12) qG qG).left_eq,HM.out];omega
   ·have hc0:(Bz x.1 0==0)=false:=by rw [beq_eq_false_iff_ne];exact fun e=>hx0 (G3.1 e)
    have HC2:=Ae (hC.out.more (t:=STm.of ⟨g1,a1,n1,c1,dg x.1.natAbs,g2,a2,n2,c2,dg x.2.natAbs,q0,q1,q2,q3⟩ b0 b1 b2 b3) hkey hlk hfx hx0 HX.out.2 HX.out.1 k1);clear hx0;go_wp2_with (first|(go_at_call 98;refine (Fx _ _ _ _ _ _ _ _ _ _ _ (hx.keep qF) s2 s1).mono ?_;rintro e w2 ⟨rfl,hb⟩;have d0:w2.cell? ⟨w1.heap.size,0,none⟩=some (.int .u16 q0):=Bb hb qL;have d1:w2.cell? ⟨w1.heap.size,1,none⟩=some (.int .u16 q1):=Bb hb qL;have d2:w2.cell? ⟨w1.heap.size,2,none⟩=some (.int .u16 q2):=Bb hb qL;have d3:w2.cell? ⟨w1.heap.size,3,none⟩=some (.int .u16 q3):=Bb hb qL;have k4:w2.cell? ⟨w1.heap.size+1,0,none⟩=some (.bool g1):=Bb hb qL;have k5:w2.cell? ⟨w1.heap.size+1,1,none⟩=some (.slice a1 n1 c1):=Bb hb qL;have k6:w2.cell? ⟨w1.heap.size+1,2,none⟩=some (.bool g2):=Bb hb qL;have k7:w2.cell? ⟨w1.heap.size+1,3,none⟩=some (.slice a2 n2 c2):=Bb hb qL;have HB2:RowKit.Below w.heap.size w w2:=RowKit.Below.trans qF (hb.mono qB);have HB12:RowKit.Below w1.heap.size w1 w2:=RowKit.Below.trans qF (hb.mono qB);have hz2:=hb.size;(try simp only [Aj] at hz2))|(at_builtin;refine wpList_append_own _ rfl _ _ 25 rfl (w.heap.size+1) 79 i0 (.agg #[.bool false,.slice none 0 0,.bool false,.slice none 0 0,.int .u16 0,.int .u16 0,.int .u16 0,.int .u16 0]) 8 72 Tryz.underlying25 hi hz0 hz1' hz2' rfl qJ _ out.length (N0 out) rfl (Bm (Bm hown3 HB12) qF) ⟨w2.heap.size,0,none⟩ 1 1 (Tm.cells ⟨g1,a1,n1,c1,dg x.1.natAbs,g2,a2,n2,c2,dg x.2.natAbs,q0,q1,q2,q3⟩) rfl rfl (G5 _ _ _) (by simp [Tm.cells,Value.oneCell']) qO qA qB ?_;intro v3 w3 hown4 hgrow4 _));have hge:=Ge hown2;have hbl:=hown.lt;have HB3:RowKit.Below w.heap.size w w3:=(HB2.alloc HB2.size _).grown hgrow4 qI (fun k hk=>by have:=hge k hk;omega);have hr3:=(hrg1.kept (row:=none) (Bq HB12) qG qG).alloc (.cells (Tm.cells ⟨g1,a1,n1,c1,dg x.1.natAbs,g2,a2,n2,c2,dg x.2.natAbs,q0,q1,q2,q3⟩).toArray 79) |>.kept hgrow4 (iW hge qA) (iW hge qA)
    go_roundw
    case rel=>exact ⟨_,cnt1,out++[STm.of ⟨g1,a1,n1,c1,dg x.1.natAbs,g2,a2,n2,c2,dg x.2.natAbs,q0,q1,q2,q3⟩ b0 b1 b2 b3],hr3,by rw [aV,A8];exact hown4,HC2,HB3,by rw [A8,List.length_singleton];omega⟩
    case measure=>rw [hr3.left_eq,HM.out];omega
end Go.Proofs.YtnnhcbeiogaknaaGreatDoor
end
section
namespace Go.Proofs.YtnnhcbeiogaknaaGreatDoor
open Go.RowKit
theorem Wo {w:World} {b o n c:Nat} {p:Nat→Tm} (h:RdP w (some ⟨b,o,none⟩) n c p):∀j u,(Dn p n)[j]? = some u→w.cell? ((⟨b,o,none⟩:Addr).add j)=some u:=by
 intro j u hj;have hlt:j<n*8:=by
  have:=(List.getElem?_eq_some_iff.1 hj).1;rwa [Jm] at this
 have h1:=Ti p n (j/8) (j%8) qA qA;rw [show j/8*8+j%8=j by omega,hj] at h1;have hadd:(⟨b,o,none⟩:Addr).add j=⟨b,o+j,none⟩:=by unfold Addr.add;split<;>simp_all
 rw [hadd];obtain ⟨e0,e1,e2,e3,e4,e5,e6,e7⟩:=h.at (i:=j/8) qA;have hk:o+j=o+j/8*8+j%8:=by omega
 rw [hk];have h8:j%8<8:=by omega
 generalize j%8=k at *;generalize o+j/8*8=m at *
 match k,h8 with
 | 0,_=>rw [Nat.add_zero,e0];exact h1.symm
 | 1,_=>rw [e1];exact h1.symm
 | 2,_=>rw [e2];exact h1.symm
 | 3,_=>rw [e3];exact h1.symm
 | 4,_=>rw [e4];exact h1.symm
 | 5,_=>rw [e5];exact h1.symm
 | 6,_=>rw [e6];exact h1.symm
 | 7,_=>rw [e7];exact h1.symm
theorem fZ (p:Nat→Tm) (n:Nat):∀u∈Dn p n,u.oneCell'=true:=by
 induction n with
 | zero=>simp [Dn]
 | succ n ih =>
  intro u hu;rw [Dn] at hu;rcases List.mem_append.1 hu with h|h
  ·exact ih u h
  ·simp [Tm.cells] at h;rcases h with rfl|rfl|rfl|rfl|rfl|rfl|rfl|rfl<;>rfl
theorem I0 {w:World} {ops:Array Oper} {rest:List Oper} {o:Oper} {a:Act} {Q:Exit→Act→World→Prop} (hgd:o.guard=none) (s x:Operand)
  (ho:o.op=.call { callee:=.builtin .append,args:=#[s,x],argTypes:=#[25,25] }) (base:Nat) (v:Value) (k:Nat) (xs:List Value) (hs:a.eval s=v) (hown:w.ownsRow base 79 8 v k xs)
  (ad:Option Addr) (n c:Nat) (p:Nat→Tm) (hx:a.eval x=.slice ad n c) (hp:RdP w ad n c p) (hnil:ad=none→c=0) (hk:k≤1000000) (hn:n≤1000000) (hbase:base≤w.heap.size)
  (h:∀v' w',w'.ownsRow base 79 8 v' (k+n) (xs++Dn p n)→w.grownBy w' v.ownBlock→wpList Tryz.prog ops Q rest (a.put o.dst v') w'):wpList Tryz.prog ops Q (o::rest) a w:=by
 obtain ⟨i0,hi,hz0,hz1,hz2⟩:=info_parts Ri
 cases ad with
 | none =>
  have hc:=hnil rfl;have h0:n=0:=by have:=hp.cap;omega
  subst hc h0;refine wpList_append_own_none hgd s x 25 ho base 79 i0 8 Tryz.underlying25 hi v k xs hs hown hx (h v w ?_ ⟨rfl,rfl,rfl,Ad _,fun _ _ _=>rfl⟩);simpa [Dn] using hown
 | some ad =>
  obtain ⟨b,off,sp⟩:=ad;have hsp:n=0∨sp=none:=by
   rcases hp.cell with h0|⟨b',o',e,_⟩
   ·exact .inl h0
   ·right;simp only [Option.some.injEq,Addr.mk.injEq] at e;exact e.2.2
  refine wpList_append_own _ hgd s x 25 ho base 79 i0 (.agg #[.bool false,.slice none 0 0,.bool false,.slice none 0 0,.int .u16 0,.int .u16 0,.int .u16 0,.int .u16 0]) 8 72 Tryz.underlying25 hi hz0 hz1 hz2 rfl qJ v k xs hs hown ⟨b,off,sp⟩ n c (Dn p n) hx (Jm p n) ?_ (fZ p n) qO qA hbase (fun v' w' h1 h2 _=>h v' w' h1 h2);rcases hsp with h0|h0
  ·subst h0;intro j u hj;simp [Dn] at hj
  ·subst h0;exact Wo hp
theorem vQ (w:World) (n:Nat) (hn:n≤2000000):Calls Tryz.prog 173 #[.slice none 0 0,.int .i64 n] w fun e w'=>∃v,e=.returned v∧w'.ownsRow w.heap.size 79 8 v 0 []∧Below w.heap.size w w':=by
 obtain ⟨i0,hi,hz0,hz1,hz2⟩:=info_parts Ri;by_cases h0:n=0
 ·subst h0;have h:=Any8.slices_Grow_room Tryz.laysGrow176 none 0 0 0 w qA qA qA qA;exact (show Calls Tryz.prog 173 _ _ _ from h).mono fun e w' ⟨he,hw⟩=>⟨_,he,⟨rfl,.inl ⟨rfl,rfl⟩⟩,by rw [hw];exact Ac _ _⟩
 ·have h:=Any8.slices_Grow_grow Tryz.laysGrow176 i0 _ hi hz0 qA none 0 0 n [] w qA qA (by rw [hz2];omega) qA qG qG qG;refine (show Calls Tryz.prog 173 _ _ _ from h).mono ?_;rintro e w' ⟨rfl,rfl⟩;have hg:=grownCap_ge w (0+n) 0 (Tryz.laysGrow176_ren.t 25);have hm:=grownCap_le_maxLen w (0+n) 0 (Tryz.laysGrow176_ren.t 25) qO;refine ⟨_,rfl,⟨rfl,.inr ⟨w.heap.size,_,_,rfl,Ad _,by exact World.alloc_heap_new w.drew _,by omega,hm,?_,by simp⟩⟩,(Ac _ w).drew.alloc (Ad _) _⟩;generalize grownCap w (0+n) 0 (Tryz.laysGrow176_ren.t 25)=G at *;have h8:(Value.agg #[.bool false,.slice none 0 0,.bool false,.slice none 0 0,.int .u16 0,.int .u16 0,.int .u16 0,.int .u16 0]).cells.size=8:=rfl;simp only [Array.size_append,size_zeroCells,h8,List.size_toArray,List.length_nil];omega
theorem kF (w:World) (A:Nat) (a:Option Addr) (n c:Nat) (p:Nat→Tm) (hp:RdP w a n c p) (hnl:a=none→c=0) (a':Option Addr) (n' c':Nat) (q:Nat→Tm) (hq:RdP w a' n' c' q) (hnl':a'=none→c'=0)
  (hn:n≤500000) (hn':n'≤500000) (x0:w.cell? ⟨A,0,none⟩=some (.slice a n c)) (x1:w.cell? ⟨A,1,none⟩=some (.slice a' n' c')) :
  Calls Tryz.prog 105 #[.slice (some ⟨A,0,none⟩) 2 2] w fun e w'=>∃v,e=.returned v∧w'.ownsRow w.heap.size 79 8 v (n+n') (Dn p n++Dn q n')∧Below w.heap.size w w':=by
 have HB:=Ac w.heap.size w;have hG:∀W:World,Calls Tryz.prog 173 #[.slice none 0 0,.int .i64 ((n:Int)+(n':Int))] W fun e w'=>∃v,e=.returned v∧w'.ownsRow W.heap.size 79 8 v 0 []∧Below W.heap.size W w':=fun W=>by
  have h:=vQ W (n+n') qA;rwa [Int.natCast_add] at h
 go_enter Tryz.func105,Tryz.ntmps105;go_wp2_with fail;refine wp_loop_rounds 3 ?_;rw [rounds_succ];go_wp2_with fail;rw [rounds_succ];go_wp2_with fail;rw [rounds_succ];go_wp2_with (first|(go_at_call 173;refine (hG _).mono ?_;rintro e w1 ⟨v1,rfl,hown1,hb1⟩));have hz1:=hb1.size;have y0:=Bb hb1 x0;have y1:=Bb hb1 x1;refine wp_loop_rounds 3 ?_;rw [rounds_succ];go_wp2_with (first|(at_builtin;refine I0 rfl _ _ rfl w.heap.size _ 0 [] rfl hown1 a n c p rfl (hp.keep hb1) hnl qA qA hz1 ?_;intro v2 w2 hown2 hg2));have hb2:Below w.heap.size w w2:=hb1.grown hg2 hz1 (Ge hown1);have hz2:=hb2.size;have z0:=Bb hb2 x0;have z1:=Bb hb2 x1;rw [List.nil_append,Nat.zero_add] at hown2;rw [rounds_succ];go_wp2_with (first|(at_builtin;refine I0 rfl _ _ rfl w.heap.size _ n (Dn p n) rfl hown2 a' n' c' q rfl (hq.keep hb2) hnl' qA qA hz2 ?_;intro v3 w3 hown3 hg3));have hb3:Below w.heap.size w w3:=hb2.grown hg3 hz2 (Ge hown2);rw [rounds_succ];go_wp2_with fail;refine bodyPost_ret (v:=v3) (by simp [results,Tryz.results105,go_sem]) rfl ?_;exact ⟨v3,rfl,hown3,hb3⟩
def tK (w0 w:World) (p q:Int) (m:Nat) (e:Ending) (w':World):Prop :=
 ∃g1 a1 n1 c1 g2 a2 n2 c2,e=.returned (.agg #[.bool g1,.slice a1 n1 c1,.bool g2,.slice a2 n2 c2])∧Bi w' g1 a1 n1 c1 p g2 a2 n2 c2 q∧n1≤m∧n2≤m∧(Bi w0 g1 a1 n1 c1 p g2 a2 n2 c2 q∨(Bf w.heap.size w' a1 c1∧Bf w.heap.size w' a2 c2))∧Below w.heap.size w w'
theorem nK (w:World) (g1:Bool) (a1:Option Addr) (n1 c1:Nat) (p:Int) (g2:Bool) (a2:Option Addr) (n2 c2:Nat) (q:Int) (h:Bi w g1 a1 n1 c1 p g2 a2 n2 c2 q)
  (g3:Bool) (a3:Option Addr) (n3 c3:Nat) (p':Int) (g4:Bool) (a4:Option Addr) (n4 c4:Nat) (q':Int) (m:Nat) (hof:∀W,Below w.heap.size w W→Calls Tryz.prog 91 #[.agg #[.bool g3,.slice a3 n3 c3,.bool g4,.slice a4 n4 c4]] W (tK w W p' q' m)) (hb1:n1≤1000000000) (hb2:n2≤1000000000) (hm:m≤1000000000) :
  Calls Tryz.prog 39 #[.agg #[.bool g1,.slice a1 n1 c1,.bool g2,.slice a2 n2 c2],.agg #[.bool g3,.slice a3 n3 c3,.bool g4,.slice a4 n4 c4]] w (D3 w (Fj (p*p') (q*q')) (Fr (p*p') (q*q'))):=by
 have HB:=Ac w.heap.size w;have HOF:=Ae hof;clear hof;go_enter Tryz.func39,Tryz.ntmps39;go_wp2_with fail;refine Bx (fun W=>W.cell? ⟨w.heap.size,0,none⟩=some (.bool g1)∧W.cell? ⟨w.heap.size,1,none⟩=some (.slice a1 n1 c1)∧W.cell? ⟨w.heap.size,2,none⟩=some (.bool g2)∧W.cell? ⟨w.heap.size,3,none⟩=some (.slice a2 n2 c2)∧W.cell? ⟨w.heap.size+1,0,none⟩=some (.bool g3)∧W.cell? ⟨w.heap.size+1,1,none⟩=some (.slice a3 n3 c3)∧W.cell? ⟨w.heap.size+1,2,none⟩=some (.bool g4)∧W.cell? ⟨w.heap.size+1,3,none⟩=some (.slice a4 n4 c4)) 4 qC qK (fun hHeld=>?_);(refine Bh.take 1 (i:=0) (v:=?_) rfl qC (fun _ _ _ h=>h) (Or.inl ⟨by rfl,?_⟩) qH ?_;rotate_left;(focus (intro w' hSw;(try dsimp only at hSw);go_simp;(try with_reducible rfl)));(try simp only [Act.put,Au,Av,Aw]));(refine Bh.take 3 (i:=2) (v:=?_) rfl qC (fun _ _ _ h=>h) (Or.inl ⟨by rfl,?_⟩) qH ?_;rotate_left;(focus (intro w' hSw;(try dsimp only at hSw);go_simp;(try with_reducible rfl)));(try simp only [Act.put,Au,Av,Aw]));(refine Bh.one (i:=1) rfl qC (fun K hK=>?_);go_simp;(go_at_call 91;(with_reducible refine (Se _ _ _ _ _ _ _ _ _ _ _ (h.keep qF) qA qA).mono ?_);rintro e w1 ⟨rfl,hb⟩;obtain ⟨hc,hf⟩:=Bl hb;have hz:=hb.size;(try simp only [Aj,Ak] at hz);replace HB:=zI w hb;obtain ⟨s0_0,s0_1⟩:=qZ hc (w.heap.size) (.bool g1) (.slice a1 n1 c1);obtain ⟨s0_2,s0_3⟩:=zD hc (w.heap.size) (.bool g2) (.slice a2 n2 c2);obtain ⟨s1_0,s1_1⟩:=qZ hc (w.heap.size+1) (.bool g3) (.slice a3 n3 c3);obtain ⟨s1_2,s1_3⟩:=zD hc (w.heap.size+1) (.bool g4) (.slice a4 n4 c4);obtain ⟨s2_0,s2_1⟩:=zE hc (w.heap.size+1+1);obtain ⟨s2_2,s2_3⟩:=zD hc (w.heap.size+1+1) (.bool false) (.slice none 0 0);obtain ⟨f2_0,f2_1⟩:=zF hf (w.heap.size+1+1);obtain ⟨f2_2,f2_3⟩:=zG hf (w.heap.size+1+1);obtain ⟨f0_0,f0_1⟩:=zF hf (w.heap.size);obtain ⟨f0_2,f0_3⟩:=zG hf (w.heap.size);obtain ⟨f1_0,f1_1⟩:=zF hf (w.heap.size+1);obtain ⟨f1_2,f1_3⟩:=zG hf (w.heap.size+1));(try go_wp2_with fail);refine hK.out _ _ (fun _=>qK) ?_;clear hK K;(try simp only [Act.put,Au,Av,Aw]))
 (refine Bh.one (i:=3) rfl qC (fun K hK=>?_);go_simp;(go_at_call 91;(with_reducible refine (HOF.out _ qF).mono ?_);rintro e w2 ⟨g5,a5,n5,c5,g6,a6,n6,c6,rfl,hF,hm5,hm6,hold,hb2⟩;have hb12:Below w1.heap.size w1 w2:=Al (by first|assumption|go_grown) (hb2.mono qB);have hsz2:=hb12.size;(replace f0_0:=(Ab hb12 (Aa _ _ s0_0)).trans f0_0;replace s0_0:=Bb hb12 s0_0;replace f0_1:=(Ab hb12 (Aa _ _ s0_1)).trans f0_1;replace s0_1:=Bb hb12 s0_1;replace f0_2:=(Ab hb12 (Aa _ _ s0_2)).trans f0_2;replace s0_2:=Bb hb12 s0_2;replace f0_3:=(Ab hb12 (Aa _ _ s0_3)).trans f0_3;replace s0_3:=Bb hb12 s0_3;replace f1_0:=(Ab hb12 (Aa _ _ s1_0)).trans f1_0;replace s1_0:=Bb hb12 s1_0;replace f1_1:=(Ab hb12 (Aa _ _ s1_1)).trans f1_1;replace s1_1:=Bb hb12 s1_1;replace f1_2:=(Ab hb12 (Aa _ _ s1_2)).trans f1_2;replace s1_2:=Bb hb12 s1_2;replace f1_3:=(Ab hb12 (Aa _ _ s1_3)).trans f1_3;replace s1_3:=Bb hb12 s1_3;replace f2_0:=(Ab hb12 (Aa _ _ s2_0)).trans f2_0;replace s2_0:=Bb hb12 s2_0;replace f2_1:=(Ab hb12 (Aa _ _ s2_1)).trans f2_1;replace s2_1:=Bb hb12 s2_1;replace f2_2:=(Ab hb12 (Aa _ _ s2_2)).trans f2_2;replace s2_2:=Bb hb12 s2_2;replace f2_3:=(Ab hb12 (Aa _ _ s2_3)).trans f2_3;replace s2_3:=Bb hb12 s2_3);replace HB:=HB.trans (hb12.mono HB.size));(try go_wp2_with fail);refine hK.out _ _ (fun _=>qK) ?_;clear hK K;(try simp only [Act.put,Au,Av,Aw]));(refine Bh.one (i:=4) rfl qC (fun K hK=>?_);go_simp;refine hK.out _ _ (fun h=>absurd h qJ) ?_;clear hK K;(try simp only [Act.put,Au,Av,Aw]));(refine Bh.one (i:=5) rfl qC (fun K hK=>?_);go_simp;refine hK.out _ _ (fun h=>absurd h qJ) ?_;clear hK K;(try simp only [Act.put,Au,Av,Aw]));refine Bh.done qC ?_ _;have hk2:w.heap.size+1+1<w2.heap.size:=Aa _ _ s2_0;have hk1:=HB.size;go_upto_region 2 with fail
 refine By ?_;intro w3 hw3;have HB3:Below w.heap.size w w3:=by rw [hw3];go_grown
 have A0:w3.cell? ⟨w.heap.size,0,none⟩=some (.bool g1):=by rw [hw3];simp [*,go_sem]
 have A1:w3.cell? ⟨w.heap.size,1,none⟩=some (.slice a1 n1 c1):=by rw [hw3];simp [*,go_sem]
 have A2:w3.cell? ⟨w.heap.size,2,none⟩=some (.bool g2):=by rw [hw3];simp [*,go_sem]
 have A3:w3.cell? ⟨w.heap.size,3,none⟩=some (.slice a2 n2 c2):=by rw [hw3];simp [*,go_sem]
 have B0:w3.cell? ⟨w.heap.size+1,0,none⟩=some (.bool g5):=by rw [hw3];simp [*,go_sem]
 have B1:w3.cell? ⟨w.heap.size+1,1,none⟩=some (.slice a5 n5 c5):=by rw [hw3];simp [*,go_sem]
 have B2:w3.cell? ⟨w.heap.size+1,2,none⟩=some (.bool g6):=by rw [hw3];simp [*,go_sem]
 have B3:w3.cell? ⟨w.heap.size+1,3,none⟩=some (.slice a6 n6 c6):=by rw [hw3];simp [*,go_sem]
 have R0:w3.cell? ⟨w.heap.size+1+1,0,none⟩=some (.bool false):=by rw [hw3];simp [*,go_sem]
 have R1:w3.cell? ⟨w.heap.size+1+1,1,none⟩=some (.slice none 0 0):=by rw [hw3];simp [*,go_sem]
 have R2:w3.cell? ⟨w.heap.size+1+1,2,none⟩=some (.bool false):=by rw [hw3];simp [*,go_sem]
 have R3:w3.cell? ⟨w.heap.size+1+1,3,none⟩=some (.slice none 0 0):=by rw [hw3];simp [*,go_sem]
 have Rf0:w3.frozen? ⟨w.heap.size+1+1,0,none⟩=false:=by rw [hw3];simp [*,go_sem]
 have Rf1:w3.frozen? ⟨w.heap.size+1+1,1,none⟩=false:=by rw [hw3];simp [*,go_sem]
 have Rf2:w3.frozen? ⟨w.heap.size+1+1,2,none⟩=false:=by rw [hw3];simp [*,go_sem]
 have Rf3:w3.frozen? ⟨w.heap.size+1+1,3,none⟩=false:=by rw [hw3];simp [*,go_sem]
 have hF3:Bi w3 g5 a5 n5 c5 p' g6 a6 n6 c6 q':=by
  rcases hold with ho|⟨f5,f6⟩
  ·exact ho.keep HB3
  ·have l0:w.heap.size<w1.heap.size:=by omega
   have l1:w.heap.size+1<w1.heap.size:=by omega
   rw [hw3];exact ⟨(hF.top.set4 f5 _ _ _ _ _ _ _ _ l0 l0 l0 l0).set4 (f5.set4 _ _ _ _ _ _ _ _ l0 l0 l0 l0) _ _ _ _ _ _ _ _ l1 l1 l1 l1,(hF.low.set4 f6 _ _ _ _ _ _ _ _ l0 l0 l0 l0).set4 (f6.set4 _ _ _ _ _ _ _ _ l0 l0 l0 l0) _ _ _ _ _ _ _ _ l1 l1 l1 l1,hF.pos,hF.red⟩
 have e1:=h.top.rd.len;have e3:=hF3.top.rd.len;have i1:=Ec p p';have HD:Hid ((dg (p*p').natAbs).length<35184372088829):=Ae qA;have hk3:w.heap.size+1+1+1≤w3.heap.size:=Aa _ _ R0;clear hw3 e1 e3 i1 HB hc hf hb hz hF hold hb2 hb12 hsz2 hk2 hk1 s0_0 s0_1 s0_2 s0_3 s1_0 s1_1 s1_2 s1_3 s2_0 s2_1 s2_2 s2_3 f0_0 f0_1 f0_2 f0_3 f1_0 f1_1 f1_2 f1_3 f2_0 f2_1 f2_2 f2_3;go_wp2_with fail;refine (gW _ _ _ _ _ _ _ _ _ _ _ (h.keep HB3) _ _ _ _ _ _ _ _ _ _ hF3 hb1 hb2 qA qA _ _ (p*p') HD.out (fun W gx ax nx cx gy ay ny cy hW hx hy=>oE W w.heap.size (w.heap.size+1) gx ax nx cx gy ay ny cy _ _ _ _ p ((h.keep HB3).top.keep hW) _ _ _ _ p' (hF3.top.keep hW) qA qA (Bb hW A0) (Bb hW A1) (Bb hW B0) (Bb hW B1))).mono ?_;rintro e w4 ⟨ge,ae,ne,ce,gf,af,nf,cf,rfl,hr,hfe,hff,hap,hb⟩;have HB4:=HB3.trans (hb.mono HB3.size)
 (replace Rf0:=(Ab hb (Aa _ _ R0)).trans Rf0;replace Rf1:=(Ab hb (Aa _ _ R1)).trans Rf1;replace Rf2:=(Ab hb (Aa _ _ R2)).trans Rf2;replace Rf3:=(Ab hb (Aa _ _ R3)).trans Rf3;replace R0:=Bb hb R0;replace R1:=Bb hb R1;replace R2:=Bb hb R2;replace R3:=Bb hb R3)
 have fe:Bf (w.heap.size+1+1+1) w4 ae ce:=hfe.mono hk3;have ff:Bf (w.heap.size+1+1+1) w4 af cf:=hff.mono hk3;have u2:w.heap.size+1+1<w.heap.size+1+1+1:=Ag _;clear hb HB3 hfe hff;go_wp2_with fail;refine bodyPost_ret (v:=.agg #[.bool ge,.slice ae ne ce,.bool gf,.slice af nf cf]) (by simp [results,Tryz.results39,go_sem,R0,R1,R2,R3]) rfl ?_;exact qAs
theorem Ie (w:World) (g1:Bool) (a1:Option Addr) (n1 c1:Nat) (p:Int) (g2:Bool) (a2:Option Addr) (n2 c2:Nat) (q:Int) (h:Bi w g1 a1 n1 c1 p g2 a2 n2 c2 q)
  (g3:Bool) (a3:Option Addr) (n3 c3:Nat) (p':Int) (g4:Bool) (a4:Option Addr) (n4 c4:Nat) (q':Int) (h':Bi w g3 a3 n3 c3 p' g4 a4 n4 c4 q') (hb1:n1≤1000000000) (hb2:n2≤1000000000) (hb3:n3≤1000000000) (hb4:n4≤1000000000) :
  Calls Tryz.prog 39 #[.agg #[.bool g1,.slice a1 n1 c1,.bool g2,.slice a2 n2 c2],.agg #[.bool g3,.slice a3 n3 c3,.bool g4,.slice a4 n4 c4]] w (D3 w (Fj (p*p') (q*q')) (Fr (p*p') (q*q'))) :=
 nK w g1 a1 n1 c1 p g2 a2 n2 c2 q h g3 a3 n3 c3 p' g4 a4 n4 c4 q' 1000000000 (fun W hW=>(Se W _ _ _ _ _ _ _ _ _ _ (h'.keep hW) qA qA).mono (fun e w' ⟨he,hb⟩=>⟨_,_,_,_,_,_,_,_,he,(h'.keep hW).keep hb,hb3,hb4,.inl h',hb⟩)) hb1 hb2 (Ad _)
end Go.Proofs.YtnnhcbeiogaknaaGreatDoor
end
