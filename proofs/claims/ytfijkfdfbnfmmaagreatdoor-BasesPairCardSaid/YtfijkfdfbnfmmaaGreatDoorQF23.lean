/- Package polys: likes.sum. slices.Concat at two sums. -/
import Derived.Test.YtfijkfdfbnfmmaaGreatDoorQF22
set_option linter.unusedSimpArgs false
set_option linter.unusedVariables false
set_option maxRecDepth 100000
set_option maxHeartbeats 4000000
section
namespace Go.Proofs.YtfijkfdfbnfmmaaGreatDoor
open Proofs.Tryz
open Go.RowKit Go.Lib Go.Sort
variable {xs:List Value} {B N size n k B' c:Nat} {o:Nat→Nat} {e:TypeId} {v:Value} {w w':World} {a1 a2 a:Γ}
theorem Sg (w:World) (blk off n:Nat) (d:Array STm) (os:Array Obj) (hblk:blk<w.heap.size):RowKit.Below blk w (sortWorldK Ib 8 w blk off n d os):=by
 refine ⟨rfl,rfl,rfl,size_sortWorldK_c _ _ _ _ _ _ _ _,fun k hk=>?_⟩;unfold sortWorldK putRowK putRow grow mapBlock;have h:k<w.heap.size:=qB;have di:blk≠k:=qB;simp [Array.getElem?_append,h,ahead];rw [Array.getElem_modify_of_ne di]
theorem cQ {D:DataW Value} {f:Nat→Option PC} (hH:Gj w B o D f) {key:Value} {kl:Lit} {y:DataW Value×List MemPlace} (uz:keyOf prog 56 key=some kl) (jn:∀zd,D.atKey kl zd=y.1) (hR:RH v=some y) :
  ∃(q0 q1 q2 q3:Nat) (x:PC),f (Bv q0 q1 q2 q3)=some x∧q0<65536∧q1<65536∧q2<65536∧q3<65536∧key=Cd q0 q1 q2 q3∧Z5 w B o (Bv q0 q1 q2 q3) v x:=by
 obtain ⟨q0,q1,q2,q3,h0,h1,h2,h3,rfl⟩:=tR uz;have DV:=Maps.has_true_of_atKey jn;obtain ⟨e1,e2⟩:=hH q0 q1 q2 q3 kl h0 h1 h2 h3 uz
 cases hf:f (Bv q0 q1 q2 q3) with
 | none=>rw [e1 hf] at DV;cases DV
 | some x =>
  obtain ⟨_,u,hu,eh⟩:=e2 x hf;simp only [RH,Option.some.injEq] at hR;subst hR;have:=hu (.held v);rw [jn] at this;simp only [DataW.held.injEq] at this;subst this;exact ⟨q0,q1,q2,q3,x,hf,h0,h1,h2,h3,rfl,eh⟩
theorem pH (h:w.ownsRow (N+1) e size v n xs):v.ownBlock=none∨v.ownBlock≠some N:=by
 rcases h.2 with ⟨rfl,_⟩|⟨g,cap,cur,rfl,hg,_⟩
 ·exact .inl rfl
 ·right;intro e;simp only [Value.ownBlock,Option.some.injEq] at e;omega
def STm.of (t:Tm) (h0:t.m0<65536) (h1:t.m1<65536) (h2:t.m2<65536) (h3:t.m3<65536):STm:=⟨t,h0,h1,h2,h3⟩
theorem mU {b:Nat} {D:DataW Value} (h:w.ownsMap prog 56 RH b n D):Maps.size D≤n:=by
 obtain ⟨es,clock,hb,F,hs,rfl⟩:=h;simpa [Maps.size,length_sorted] using hs
theorem Dj (h:w.ownsRow N e size v n xs):∀k,v.ownBlock=some k→N≤k:=qDz
theorem mY (h:∀j,v.ownBlock=some j→N≤j) (hk:k<N):some k≠v.ownBlock:=fun e=>by have:=h k e.symm;omega
structure Tb (w:World) (B:Nat) (o:Nat→Nat) (f:Nat→Option PC) (left:Lit→Bool) (out:List STm):Prop where
 mem:∀t∈out,∃x,f t.key=some x∧x.1≠0∧Ey t.1 (t.key,x)∧Dg w t.1∧Je w B o t.key t.1.a1 t.1.c1 t.1.a2 t.1.c2∧∀kl,keyOf prog 56 (Cd t.1.m0 t.1.m1 t.1.m2 t.1.m3)=some kl→left kl=false
 all:∀a b c d kl x,a<65536→b<65536→c<65536→d<65536→keyOf prog 56 (Cd a b c d)=some kl→f (Bv a b c d)=some x→x.1≠0→left kl=false→∃t∈out,t.key=Bv a b c d
 apart:out.Pairwise (fun s t=>s.key≠t.key)
theorem Tb.start {D:DataW Value} {f:Nat→Option PC} (hH:Gj w B o D f):Tb w B o f (Maps.has D) [] :=
 ⟨qH,fun a b c d kl x ha hb hc hd hk hf _ hl=>(by rw [((hH a b c d kl ha hb hc hd hk).2 x hf).1] at hl;cases hl),qH⟩
theorem Wd {left:Lit→Bool} {kl vo:Lit} (h:left vo=false):(left vo&&!vo.sameKey kl)=false:=by rw [h];rfl
theorem Tb.pass {f:Nat→Option PC} {left:Lit→Bool} {out:List STm} (h:Tb w B o f left out) {q0 q1 q2 q3:Nat} {kl:Lit} {x:PC} (h0:q0<65536) (h1:q1<65536) (h2:q2<65536) (h3:q3<65536)
  (hk:keyOf prog 56 (Cd q0 q1 q2 q3)=some kl) (hf:f (Bv q0 q1 q2 q3)=some x) (hx:x.1=0):Tb w B o f (fun z=>left z&&!z.sameKey kl) out:=by
 refine ⟨fun t ht=>?_,fun a b c d vo x' ha hb hc hd vn wk FL hl=>?_,h.apart⟩
 ·obtain ⟨y,g1,g2,g3,g4,g5,g7⟩:=h.mem t ht;exact ⟨y,g1,g2,g3,g4,g5,fun vo AR=>Wd (g7 vo AR)⟩
 ·by_cases e:left vo=false
  ·exact h.all a b c d vo x' ha hb hc hd vn wk FL e
  ·have e1:left vo=true:=by simpa using e
   rw [e1] at hl;have e2:vo.sameKey kl=true:=by simpa using hl
   have e3:=WideAt.sameKey_eq e2;have e4:=(Xc ha hb hc hd h0 h1 h2 h3 vn hk).1 e3;rw [e4,hf] at wk
   cases wk
   exact absurd hx FL
theorem Tb.more {f:Nat→Option PC} {left:Lit→Bool} {out:List STm} (h:Tb w B o f left out) {t:STm} {kl:Lit} {x:PC}
  (hk:keyOf prog 56 (Cd t.1.m0 t.1.m1 t.1.m2 t.1.m3)=some kl) (hl:left kl=true) (hf:f t.key=some x) (hx:x.1≠0) (ht:Ey t.1 (t.key,x)) (hr:Dg w t.1) (k1:Je w B o t.key t.1.a1 t.1.c1 t.1.a2 t.1.c2) :
  Tb w B o f (fun z=>left z&&!z.sameKey kl) (out++[t]):=by
 have rm:=If.key hk;refine ⟨fun s hs=>?_,fun a b c d vo x' ha hb hc hd vn wk FL hl'=>?_,?_⟩
 ·rcases List.mem_append.1 hs with hs|hs
  ·obtain ⟨y,g1,g2,g3,g4,g5,g7⟩:=h.mem s hs;exact ⟨y,g1,g2,g3,g4,g5,fun vo AR=>Wd (g7 vo AR)⟩
  ·simp only [Ao] at hs;subst hs;refine ⟨x,hf,hx,ht,hr,k1,fun vo AR=>?_⟩;rw [hk] at AR
   cases AR
   rw [WideAt.sameKey_self rm];simp
 ·by_cases e:left vo=false
  ·obtain ⟨s,hs,SM⟩:=h.all a b c d vo x' ha hb hc hd vn wk FL e;exact ⟨s,by simp [hs],SM⟩
  ·have e1:left vo=true:=by simpa using e
   rw [e1] at hl';have e2:vo.sameKey kl=true:=by simpa using hl'
   have e3:=WideAt.sameKey_eq e2;have e4:=(Xc ha hb hc hd t.2.1 t.2.2.1 t.2.2.2.1 t.2.2.2.2 vn hk).1 e3;exact ⟨t,qH,e4.symm⟩
 ·refine List.pairwise_append.2 ⟨h.apart,qH,fun s hs u hu=>?_⟩;simp only [Ao] at hu;subst hu;obtain ⟨y,_,_,_,_,_,g7⟩:=h.mem s hs;intro e;obtain ⟨vo,AR⟩:=Yc s.2.1 s.2.2.1 s.2.2.2.1 s.2.2.2.2;have:=(Xc s.2.1 s.2.2.1 s.2.2.2.1 s.2.2.2.2 u.2.1 u.2.2.1 u.2.2.2.1 u.2.2.2.2 AR hk).2 e;subst this;rw [g7 _ AR] at hl;cases hl
structure Ca (w:World) (B:Nat) (a:Γ) (n c:Nat):Prop where
 row:c=0∨∃b cur,a=some ⟨b,0,none⟩∧B≤b∧w.heap[b]? = some (.cells cur 58 (0,0))∧c*8≤cur.size
 ts:∃(p:Nat→Tm) (o t:Nat→Nat),RdP w a n c p∧(∀i j,i<n→j<n→t i=t j→i=j)∧∀i,i<n→Je w B o (t i) (p i).a1 (p i).c1 (p i).a2 (p i).c2
theorem Je.mono {c1:Nat} {c2:Nat} (h:Je w B o k a1 c1 a2 c2) (hB:B'≤B):Je w B' o k a1 c1 a2 c2:=⟨h.top.mono hB,h.low.mono hB,h.ap,h.m1,h.m2⟩
theorem Ca.mono (h:Ca w B a n c) (hB:B'≤B):Ca w B' a n c:=by
 obtain ⟨p,o,t,h1,h2,h3⟩:=h.ts;exact ⟨h.row.imp id fun⟨b,cur,e1,e2,e3⟩=>⟨b,cur,e1,Ah hB e2,e3⟩,p,o,t,h1,h2,fun i hi=>(h3 i hi).mono hB⟩
theorem Ca.keep (h:Ca w B a n c) (hb:RowKit.Below w w w'):Ca w' B a n c:=by
 obtain ⟨p,o,t,h1,h2,h3⟩:=h.ts;exact ⟨h.row.imp id fun⟨b,cur,e1,e2,e3,e4⟩=>⟨b,cur,e1,e2,by rw [hb.block b (Ar.1 e3).1];exact e3,e4⟩,p,o,t,h1.keep hb,h2,fun i hi=>(h3 i hi).butR (Cy hb) qH⟩
theorem RdP.butR {p:Nat→Tm} {row:Option Nat} (h:RdP w a n c p) (hn:Nw B n a) (hp:∀i,i<n→Nw B (p i).n1 (p i).a1∧Nw B (p i).n2 (p i).a2) (hg:w.grownBy w' row) (hr:∀k,row=some k→k<B):RdP w' a n c p:=by
 refine ⟨h.cap,h.few,h.top,fun i hi=>?_,?_⟩
 ·have ht:=h.tm i hi;exact ⟨ht.top.butR (hp i hi).1 hg hr,ht.low.butR (hp i hi).2 hg hr,ht.s0,ht.s1,ht.s2,ht.s3⟩
 ·rcases h.cell with h0|⟨b,o,ha,hc⟩
  ·exact .inl h0
  ·rcases hn with h0|hn
   ·exact .inl h0
   ·exact qEp
theorem Ca.butR {row:Option Nat} (h:Ca w B a n c) (hg:w.grownBy w' row) (hr:∀k,row=some k→k<B):Ca w' B a n c:=by
 obtain ⟨p,o,t,h1,h2,h3⟩:=h.ts;refine ⟨h.row.imp id fun⟨b,cur,e1,e2,e3,e4⟩=>⟨b,cur,e1,e2,by rw [hg.block b (Ar.1 e3).1 (fun e=>by have:=hr _ e.symm;omega)];exact e3,e4⟩,p,o,t,h1.butR ?_ (fun i hi=>⟨(h3 i hi).top.newA (h1.tm i hi).top,(h3 i hi).low.newA (h1.tm i hi).low⟩) hg hr,h2,fun i hi=>(h3 i hi).butR hg hr⟩;rcases h.row with h0|⟨b,cur,e1,e2,_⟩
 ·have:=h1.cap;exact .inl qB
 ·exact .inr fun x hx=>by rw [e1] at hx;cases hx;exact e2
theorem Ca.nil (w:World) (B:Nat):Ca w B none 0 0 :=
 ⟨.inl rfl,fun _=>⟨false,none,0,0,[],false,none,0,0,[],0,0,0,0⟩,id,id,⟨Ad _,qB,qB,fun i hi=>qB,.inl rfl⟩,fun i j hi=>qB,fun i hi=>qB⟩
theorem Ve (w:World) (blk m:Nat) (d:Array STm) (os:Array Obj) {cur:Array Value} (h:w.heap[blk]? = some (.cells cur 58 (0,0))):∃kj,(sortWorldK Ib 8 w blk 0 m d os).heap[blk]? = some (.cells kj 58 (0,0))∧kj.size=cur.size:=by
 obtain ⟨bj,e⟩:=Ar.1 h;refine ⟨putCells id 0 (flatK Ib 8 d) cur,?_,by simp [putCells]⟩;unfold sortWorldK putRowK putRow grow mapBlock;rw [Array.getElem?_append_left (by simpa [ahead] using bj)];show (Array.modify w.heap blk _)[blk]? = _;rw [Array.getElem?_modify,if_pos rfl,h];rfl
def Oj (f:Nat→Option PC) (l:List STm):Δ:=l.map fun t=>(t.key,(f t.key).getD (0,1))
theorem Vz {W:World} {g:Nat} {f:Nat→Option PC} {left:Lit→Bool} {out:List STm} (hC:Tb w B o f left out) (hl:∀kl,left kl=false) (hf:∀k x,f k=some x→k<18446744073709551616)
  {d':Array STm} (hp:PermIn 0 out.toArray.size out.toArray d') (hs:SortedIn (ltOf cfT) 0 out.toArray.size d') (hH:HoldsK Ib 8 W g 0 d') (hb:RowKit.Below w w W) (hBg:B≤g) (hc:out.length≤c) (VY:c≤9223372036854775807) (hn:out.length≤35184372088832) (je:c=0∨∃cur,W.heap[g]? = some (.cells cur 58 (0,0))∧c*8≤cur.size) :
  Be W B (E g) out.length c (Oj f d'.toList)∧Ca W B (E g) out.length c∧Dh (Oj f d'.toList)∧∀t,t∈Oj f d'.toList↔f t.1=some t.2∧t.2.1≠0:=by
 have fb:d'.size=out.length:=by have:=hp.1;simpa using this
 have BZ:d'.toList.Perm out:=by
  have h:=hp.2.2;have e1:d'.extract 0 out.toArray.size=d':=by
   apply Array.ext
   ·simp [fb]
   ·intro i h1 h2;simp
  have e2:out.toArray.extract 0 out.toArray.size=out.toArray:=by
   apply Array.ext
   ·simp
   ·intro i h1 h2;simp
  rw [e1,e2] at h;simpa using h
 have CC:∀t,t∈d'.toList↔t∈out:=fun t=>BZ.mem_iff
 have gw:d'.toList.Pairwise (fun s t=>s.key≠t.key):=(BZ.symm.pairwise_iff (fun {a b} (h:a.key≠b.key)=>h.symm)).1 hC.apart;have DW:∀i (h:i<d'.size),d'[i]! = d'[i]:=fun i h=>getElem!_pos d' i h
 have hval:∀t∈out,∃x,f t.key=some x∧(f t.key).getD (0,1)=x∧x.1≠0∧Ey t.1 (t.key,x)∧Dg w t.1∧Je w B o t.key t.1.a1 t.1.c1 t.1.a2 t.1.c2:=fun t ht=>by
  obtain ⟨x,h1,h2,h3,h4,h5,_⟩:=hC.mem t ht;exact ⟨x,h1,by rw [h1];rfl,h2,h3,h4,h5⟩
 have QD:RdP W (E g) out.length c (fun i=>(d'[i]!).1):=by
  refine ⟨hc,hn,VY,fun i hi=>?_,.inr ⟨g,0,rfl,fun i hi=>Vl hH qB⟩⟩;have DX:i<d'.size:=qB;show Dg W (d'[i]!).1;rw [DW i DX];obtain ⟨x,_,_,_,_,h4,_⟩:=hval d'[i] ((CC _).1 qH);exact h4.keep hb
 refine ⟨⟨by simp [Oj,fb],.inr (fun x hx=>by cases hx;exact hBg),fun h=>(by cases h),fun i=>(d'[i]!).1,QD,fun i x hx=>?_⟩,⟨je.imp id fun⟨cur,h1,h2⟩=>⟨g,cur,rfl,hBg,h1,h2⟩,fun i=>(d'[i]!).1,o,fun i=>(d'[i]!).key,QD,fun i j hi hj BC=>?_,fun i hi=>?_⟩,?_,fun t=>?_⟩
 ·simp only [Oj,List.getElem?_map] at hx
  cases he:d'.toList[i]? with
  | none=>rw [he] at hx;cases hx
  | some s =>
   rw [he] at hx;have DX:i<d'.size:=by
    have:=(List.getElem?_eq_some_iff.1 he).1;simpa using this
   have es:d'[i]! = s:=by
    rw [DW i DX];obtain ⟨_,e⟩:=List.getElem?_eq_some_iff.1 he;simpa using e
   obtain ⟨y,h1,h2,h3,h4,h5,h6⟩:=hval s ((CC s).1 (A7 he));show Ey (d'[i]!).1 x∧Nw B (d'[i]!).1.n1 (d'[i]!).1.a1∧Nw B (d'[i]!).1.n2 (d'[i]!).1.a2;rw [es];simp only [Option.map_some,Option.some.injEq] at hx;rw [h2] at hx;subst hx;exact ⟨h4,h6.top.newA h5.top,h6.low.newA h5.low⟩
 ·have DX:i<d'.size:=qB;have hj':j<d'.size:=qB;replace BC:(d'[i]!).key=(d'[j]!).key:=BC;rw [DW i DX,DW j hj'] at BC;have h2:=List.pairwise_iff_getElem.1 gw;rcases Nat.lt_trichotomy i j with h|h|h
  ·exact absurd (by rw [Array.getElem_toList,Array.getElem_toList];exact BC) (h2 i j _ _ h)
  ·exact h
  ·exact absurd (by rw [Array.getElem_toList,Array.getElem_toList];exact BC.symm) (h2 j i _ _ h)
 ·have DX:i<d'.size:=qB;show Je W B o (d'[i]!).key (d'[i]!).1.a1 (d'[i]!).1.c1 (d'[i]!).1.a2 (d'[i]!).1.c2;rw [DW i DX];obtain ⟨x,_,_,_,_,_,h5⟩:=hval d'[i] ((CC _).1 qH);exact h5.butR (Cy hb) qH
 ·unfold Dh Oj;rw [List.pairwise_map,List.pairwise_iff_getElem];intro i j hi hj BC;have DX:i<d'.size:=by simpa using hi
  have hj':j<d'.size:=by simpa using hj
  have h1:=hs i j (Ba _) BC qL;rw [ltT,DW i DX,DW j hj',decide_eq_false_iff_not] at h1;have h2:=List.pairwise_iff_getElem.1 gw i j hi hj BC;simp only [Array.getElem_toList] at h2 ⊢;omega
 ·unfold Oj;rw [List.mem_map];constructor
  ·rintro ⟨s,xw,rfl⟩;obtain ⟨y,h1,h2,h3,_⟩:=hval s ((CC s).1 xw);rw [h2];exact ⟨h1,h3⟩
  ·rintro ⟨h1,h2⟩;obtain ⟨k,x⟩:=t;obtain ⟨q0,q1,q2,q3,hq⟩:=eW k (hf k x h1);obtain ⟨kl,ky⟩:=Yc q0 q1 q2 q3;obtain ⟨s,xw,SM⟩:=hC.all _ _ _ _ kl x q0 q1 q2 q3 ky (by rw [hq];exact h1) h2 (hl kl);rw [hq] at SM;refine ⟨s,(CC s).2 xw,?_⟩;have FD:f k=some x:=h1;rw [SM,FD];rfl
theorem iR (w:World) (b n B:Nat) (f:Nat→Option PC) (h:Ew w b n B f) (hn:n≤1000000) (pd:B≤w.heap.size) (hK:∀k x,f k=some x→k<18446744073709551616∧Ch 1000000 x) :
  Θ 171 #[.map (some b)] w fun e w'=>∃a n' c,∃l:Δ,e=.returned (.slice a n' c)∧Be w' B a n' c l∧Ca w' B a n' c∧Dh l∧(∀t,t∈l↔f t.1=some t.2∧t.2.1≠0)∧RowKit.Below w w w':=by
 obtain ⟨D,o,ah,hH⟩:=h.ex;have HB:=Ac w w;have SN:=Ae hK;obtain ⟨i0,hi,dw,amm,VZ⟩:=info_parts Ls;clear hK;go_enter func171,ntmps171;go_wp2_with (first|(at_range;refine wpList_range_own _ rfl _ 223 rfl 56 53 If underlying223 RH b n D rfl (E4 ah qD) ?_;intro w0 amn LH BG));go_frame;go_loopw [2] (fun v2 wr=>∃(left:Lit→Bool) (cnt:Nat) (out:List STm),wr.ranges prog 56 RH b w n D left cnt∧wr.ownsRow (w+1) 58 8 v2 out.length (P0 out)∧Hid (Tb w B o f left out)∧RowKit.Below w w wr∧out.length+cnt≤n) (fun _ wr=>wr.rangeLeft b w)
 case atStart=>exact ⟨_,_,[],amn,⟨rfl,.inl ⟨rfl,rfl⟩⟩,Ae (Tb.start hH),⟨LH.os,LH.tape,LH.output,LH.size,fun k hk=>LH.block k hk qH⟩,by simpa using mU ah⟩
 case round =>
  obtain ⟨left,cnt,out,OV,cv,hC,HB,hcn⟩:=hrel;go_wp2_with (first|(at_next;refine wpList_next_ranges _ rfl _ rfl 56 If RH (fun v=>v) (fun v=>v) (fun key _ _=>⟨key,rfl⟩) (fun v _ _=>⟨v,rfl⟩) b w n D left cnt rfl OV ?_ ?_))
  ·intro ig sw;have wk:∀k x,f k=some x→k<18446744073709551616:=fun k x hk=>(SN.out k x hk).1
   rcases cv.2 with ⟨rfl,hlen⟩|⟨g,cap,cur,rfl,qq,hblk,ri,qd,fb,sx⟩
   ·have AS:out=[]:=List.length_eq_zero_iff.1 hlen;subst AS;have HP:=Ae (Vz (W:=w) (g:=B) (c:=0) (d':=#[]) hC.out sw wk ⟨rfl,fun _ _=>rfl,List.Perm.refl _⟩ (fun i j _ _ hj=>by simp at hj) (fun j hj=>by simp [flatK] at hj) (Ac _ _) (Ad _) (Ad _) qB qH (.inl rfl)).2.2;clear OV cv wk;go_wp2_with (first|(go_at_call 223;refine (lQ _ _ _).mono ?_;rintro e w3 ⟨rfl,rfl⟩));refine bodyPost_ret (v:=.slice none 0 0) (by simp [results,results171,go_sem]) rfl ?_;exact ⟨none,0,0,[],rfl,Be.nil _ _,Ca.nil _ _,HP.out.1,HP.out.2,HB⟩
   ·have bj:g<wr.heap.size:=(Ar.1 hblk).1;have oz:cap≤9223372036854775807:=qd;have hS:=Aak g 0 cap out.toArray wr (Ns cv rfl) bj qL;have sb:=Ae (Ns cv rfl);rw [List.size_toArray] at hS;have HRW:=Ae hblk;have HSZ:=Ae fb;clear OV cv hblk sx fb;go_wp2_with (first|(go_at_call 223;refine hS.mono ?_;rintro e w3 ⟨rfl,d',m,os,BZ,amo,rfl⟩));have SP:=Sg wr g 0 m d' os bj;have ep:RowKit.Below w w (sortWorldK Ib 8 wr g 0 m d' os):=HB.trans (SP.mono qB);have hd:d'.size=out.toArray.size:=BZ.1;have hP:=Vz (W:=sortWorldK Ib 8 wr g 0 m d' os) (g:=g) (c:=cap) (d':=d') hC.out sw wk (by simpa using BZ) (by simpa using amo) (holdsK_sortWorldK_c Ib 8 wr g 0 out.toArray d' m os sb.out bj hd) ep qB ri oz qB (by obtain ⟨kj,e1,e2⟩:=Ve wr g m d' os HRW.out;exact .inr ⟨kj,e1,by rw [e2,HSZ.out];exact Ad _⟩);refine bodyPost_ret (v:=.slice (E g) out.length cap) (by simp [results,results171,go_sem]) rfl ?_;exact ⟨_,_,_,_,rfl,hP.1,hP.2.1,hP.2.2.1,hP.2.2.2,ep⟩
  ·intro key v kl y1 y2 w1 ade uz hlk hRv hR2 jn WA bj oh jh hen;subst hRv;obtain ⟨q0,q1,q2,q3,x,iq,b0,b1,b2,b3,rfl,eh⟩:=cQ (y:=(.held v,[])) hH uz jn rfl;obtain ⟨g1,a1,n1,c1,g2,a2,n2,c2,rfl,hx,k1⟩:=eh;have HM:=Ae OV.left_eq;clear jn hR2 OV;have ir:RowKit.Below w w w1:=HB.grown oh HB.size (fun k hk=>by cases hk;exact Ad _);have dh:=cv.kept oh (pH cv);have pg:=(SN.out _ _ iq).2;have e1:=hx.top.rd.len;have e2:=hx.low.rd.len;obtain ⟨i1,i2⟩:=pg;have s1:n1<35184372088829:=qB;have s2:n2<35184372088829:=qB;have jx:Dg w ⟨g1,a1,n1,c1,dg x.1.natAbs,g2,a2,n2,c2,dg x.2.natAbs,q0,q1,q2,q3⟩:=⟨hx.top.rd,hx.low.rd,b0,b1,b2,b3⟩;have ph:Ey ⟨g1,a1,n1,c1,dg x.1.natAbs,g2,a2,n2,c2,dg x.2.natAbs,q0,q1,q2,q3⟩ (Bv q0 q1 q2 q3,x):=⟨hx.top.neg,rfl,hx.low.neg,rfl,rfl⟩;have HX:=Ae (Ax jx ph);have HS:=Ae jh;have ed:=ir.size;clear jx ph e1 e2 i1 i2 jh;by_cases tr:x.1=0
   ·have ig:Bz x.1 0=0:=by rw [tr,Du]
    have HC2:=Ae (hC.out.pass b0 b1 b2 b3 uz iq tr);clear tr;go_wp2_with (first|(go_at_call 160;refine (Ie _ _ _ _ _ _ _ _ _ _ _ (hx.keep qD) s2 s1).mono ?_;rintro e w2 ⟨rfl,hb⟩;rw [ig];have d0:Z w2 w1 0 (U q0):=Bb hb qJ;have d1:Z w2 w1 1 (U q1):=Bb hb qJ;have d2:Z w2 w1 2 (U q2):=Bb hb qJ;have d3:Z w2 w1 3 (U q3):=Bb hb qJ;have k4:Z w2 (w1+1) 0 (.bool g1):=Bb hb qJ;have k5:Z w2 (w1+1) 1 (.slice a1 n1 c1):=Bb hb qJ;have k6:Z w2 (w1+1) 2 (.bool g2):=Bb hb qJ;have k7:Z w2 (w1+1) 3 (.slice a2 n2 c2):=Bb hb qJ;have fg:RowKit.Below w w w2:=RowKit.Below.trans qD (hb.mono qA);have IB:RowKit.Below w1 w1 w2:=RowKit.Below.trans qD (hb.mono qA);have en:=hb.size;(try simp only [Aj] at en)));go_roundw
    case rel=>exact ⟨_,ade,out,WA.kept (row:=none) (Cy IB) qH qH,Bf dh IB,HC2,fg,qB⟩
    case measure=>rw [(WA.kept (row:=none) (Cy IB) qH qH).left_eq,HM.out];omega
   ·have ig:(Bz x.1 0==0)=false:=by rw [beq_eq_false_iff_ne];exact fun e=>tr (Do.1 e)
    have HC2:=Ae (hC.out.more (t:=STm.of ⟨g1,a1,n1,c1,dg x.1.natAbs,g2,a2,n2,c2,dg x.2.natAbs,q0,q1,q2,q3⟩ b0 b1 b2 b3) uz hlk iq tr HX.out.2 HX.out.1 k1);clear tr;go_wp2_with (first|(go_at_call 160;refine (Ie _ _ _ _ _ _ _ _ _ _ _ (hx.keep qD) s2 s1).mono ?_;rintro e w2 ⟨rfl,hb⟩;have d0:Z w2 w1 0 (U q0):=Bb hb qJ;have d1:Z w2 w1 1 (U q1):=Bb hb qJ;have d2:Z w2 w1 2 (U q2):=Bb hb qJ;have d3:Z w2 w1 3 (U q3):=Bb hb qJ;have k4:Z w2 (w1+1) 0 (.bool g1):=Bb hb qJ;have k5:Z w2 (w1+1) 1 (.slice a1 n1 c1):=Bb hb qJ;have k6:Z w2 (w1+1) 2 (.bool g2):=Bb hb qJ;have k7:Z w2 (w1+1) 3 (.slice a2 n2 c2):=Bb hb qJ;have fg:RowKit.Below w w w2:=RowKit.Below.trans qD (hb.mono qA);have IB:RowKit.Below w1 w1 w2:=RowKit.Below.trans qD (hb.mono qA);have en:=hb.size;(try simp only [Aj] at en))|(at_builtin;refine wpList_append_own _ rfl _ _ 24 rfl (w+1) 58 i0 (.agg #[.bool false,.slice none 0 0,.bool false,.slice none 0 0,U 0,U 0,U 0,U 0]) 8 72 underlying24 hi dw amm VZ rfl qI _ out.length (P0 out) rfl (Bf (Bf dh IB) qD) (J w2 0) 1 1 (Tm.cells ⟨g1,a1,n1,c1,dg x.1.natAbs,g2,a2,n2,c2,dg x.2.natAbs,q0,q1,q2,q3⟩) rfl rfl (Dp _ _ _) (by simp [Tm.cells,Value.oneCell']) qN qB qA ?_;intro v3 w3 jk nv _));have OC:=Dj cv;have rq:=ah.lt;have ep:RowKit.Below w w w3:=(fg.alloc fg.size _).grown nv qL (fun k hk=>by have:=OC k hk;omega);have nc:=(WA.kept (row:=none) (Cy IB) qH qH).alloc (.cells (Tm.cells ⟨g1,a1,n1,c1,dg x.1.natAbs,g2,a2,n2,c2,dg x.2.natAbs,q0,q1,q2,q3⟩).toArray 58) |>.kept nv (mY OC qB) (mY OC qB)
    go_roundw
    case rel=>exact ⟨_,ade,out++[STm.of ⟨g1,a1,n1,c1,dg x.1.natAbs,g2,a2,n2,c2,dg x.2.natAbs,q0,q1,q2,q3⟩ b0 b1 b2 b3],nc,by rw [fY,A8];exact jk,HC2,ep,by rw [A8,List.length_singleton];omega⟩
    case measure=>rw [nc.left_eq,HM.out];omega
end Go.Proofs.YtfijkfdfbnfmmaaGreatDoor
end
section
namespace Go.Proofs.YtfijkfdfbnfmmaaGreatDoor
open Go.RowKit Proofs.Tryz
variable (n:Nat) {xs:List Value} {base size:Nat} {e:TypeId} {v:Value} {w:World}
theorem Zg {b o n c:Nat} {p:Nat→Tm} (h:RdP w (some ⟨b,o,none⟩) n c p):∀j u,(Cs p n)[j]? = some u→w.cell? ((J b o:Addr).add j)=some u:=by
 intro j u hj;have bj:j<n*8:=by
  have:=(List.getElem?_eq_some_iff.1 hj).1;rwa [Ky] at this
 have h1:=Vs p n (j/8) (j%8) qB qB;rw [show j/8*8+j%8=j from qB,hj] at h1;have vu:(J b o:Addr).add j=⟨b,o+j,none⟩:=by unfold Addr.add;split<;>simp_all
 rw [vu];obtain ⟨e0,e1,e2,e3,e4,e5,e6,e7⟩:=h.at (i:=j/8) qB;have hk:o+j=o+j/8*8+j%8:=qB;rw [hk];have h8:j%8<8:=qB;generalize j%8=k at *;generalize o+j/8*8=m at *
 match k,h8 with
 | 0,_=>rw [Nat.add_zero,e0];exact h1.symm
 | 1,_=>rw [e1];exact h1.symm
 | 2,_=>rw [e2];exact h1.symm
 | 3,_=>rw [e3];exact h1.symm
 | 4,_=>rw [e4];exact h1.symm
 | 5,_=>rw [e5];exact h1.symm
 | 6,_=>rw [e6];exact h1.symm
 | 7,_=>rw [e7];exact h1.symm
theorem lM (p:Nat→Tm) (n:Nat):∀u∈Cs p n,u.oneCell'=true:=by
 induction n with
 | zero=>simp [Cs]
 | succ n ih =>
  intro u hu;rw [Cs] at hu;rcases List.mem_append.1 hu with h|h
  ·exact ih u h
  ·simp [Tm.cells] at h;rcases h with rfl|rfl|rfl|rfl|rfl|rfl|rfl|rfl<;>rfl
theorem J6 {ops:Array Oper} {rest:List Oper} {o:Oper} {a:Act} {Q:Exit→Act→World→Prop} (vx:o.guard=none) (s x:Operand)
  (ho:o.op=.call { callee:=.builtin .append,args:=#[s,x],argTypes:=#[24,24] }) (base:Nat) (v:Value) (k:Nat) (xs:List Value) (hs:a.eval s=v) (ah:w.ownsRow base 58 8 v k xs)
  (ad:Γ) (n c:Nat) (p:Nat→Tm) (hx:a.eval x=.slice ad n c) (hp:RdP w ad n c p) (nu:ad=none→c=0) (hk:k≤1000000) (hn:n≤1000000) (LI:base≤w.heap.size)
  (h:∀v' w',w'.ownsRow base 58 8 v' (k+n) (xs++Cs p n)→w.grownBy w' v.ownBlock→wpList prog ops Q rest (a.put o.dst v') w'):wpList prog ops Q (o::rest) a w:=by
 obtain ⟨i0,hi,dw,ed,en⟩:=info_parts Ls
 cases ad with
 | none =>
  have hc:=nu rfl;have h0:n=0:=by have:=hp.cap;omega
  subst hc h0;refine wpList_append_own_none vx s x 24 ho base 58 i0 8 underlying24 hi v k xs hs ah hx (h v w ?_ ⟨rfl,rfl,rfl,Ad _,fun _ _ _=>rfl⟩);simpa [Cs] using ah
 | some ad =>
  obtain ⟨b,off,sp⟩:=ad;have CD:n=0∨sp=none:=by
   rcases hp.cell with h0|⟨b',o',e,_⟩
   ·exact .inl h0
   ·right;simp only [Option.some.injEq,Addr.mk.injEq] at e;exact e.2.2
  refine wpList_append_own _ vx s x 24 ho base 58 i0 (.agg #[.bool false,.slice none 0 0,.bool false,.slice none 0 0,U 0,U 0,U 0,U 0]) 8 72 underlying24 hi dw ed en rfl qI v k xs hs ah ⟨b,off,sp⟩ n c (Cs p n) hx (Ky p n) ?_ (lM p n) qN qB LI (fun v' w' h1 h2 _=>h v' w' h1 h2);rcases CD with h0|h0
  ·subst h0;intro j u hj;simp [Cs] at hj
  ·subst h0;exact Zg hp
theorem zY (w:World) (n:Nat) (hn:n≤2000000):Θ 225 #[.slice none 0 0,M n] w fun e w'=>∃v,e=.returned v∧w'.ownsRow w 58 8 v 0 []∧xp w w':=by
 obtain ⟨i0,hi,dw,ed,en⟩:=info_parts Ls;by_cases h0:n=0
 ·subst h0;have h:=Any8.slices_Grow_room Tryz.laysGrow176 none 0 0 0 w qB qB qB qB;exact (show Θ 225 _ _ _ from h).mono fun e w' ⟨he,hw⟩=>⟨_,he,⟨rfl,.inl ⟨rfl,rfl⟩⟩,by rw [hw];exact Ac _ _⟩
 ·have h:=Any8.slices_Grow_grow Tryz.laysGrow176 i0 _ hi dw qB none 0 0 n [] w qB qB (by rw [en];omega) qB qH qH qH;refine (show Θ 225 _ _ _ from h).mono ?_;rintro e w' ⟨rfl,rfl⟩;have hg:=grownCap_ge w (0+n) 0 (Tryz.laysGrow176_ren.t 25);have hm:=grownCap_le_maxLen w (0+n) 0 (Tryz.laysGrow176_ren.t 25) qN;refine ⟨_,rfl,⟨rfl,.inr ⟨w.heap.size,_,_,rfl,Ad _,by exact World.alloc_heap_new w.drew _,qB,hm,?_,qH⟩⟩,(Ac _ w).drew.alloc (Ad _) _⟩;generalize grownCap w (0+n) 0 (Tryz.laysGrow176_ren.t 25)=G at *;have h8:(Value.agg #[.bool false,.slice none 0 0,.bool false,.slice none 0 0,U 0,U 0,U 0,U 0]).cells.size=8:=rfl;simp only [Array.size_append,size_zeroCells,h8,List.size_toArray,List.length_nil];omega
theorem oO (w:World) (A:Nat) (a:Γ) (n c:Nat) (p:Nat→Tm) (hp:RdP w a n c p) (yg:a=none→c=0) (a':Γ) (n' c':Nat) (q:Nat→Tm) (hq:RdP w a' n' c' q) (DY:a'=none→c'=0)
  (hn:n≤500000) (rk:n'≤500000) (x0:Z w A 0 (.slice a n c)) (x1:Z w A 1 (.slice a' n' c')) :
  Θ 172 #[.slice (E A) 2 2] w fun e w'=>∃v,e=.returned v∧w'.ownsRow w 58 8 v (n+n') (Cs p n++Cs q n')∧xp w w':=by
 have HB:=Ac w w;have hG:∀W:World,Θ 225 #[.slice none 0 0,M ((n:Int)+(n':Int))] W fun e w'=>∃v,e=.returned v∧w'.ownsRow W 58 8 v 0 []∧xp W w':=fun W=>by
  have h:=zY W (n+n') qB;rwa [Int.natCast_add] at h
 go_enter func172,ntmps172;go_wp2_with fail;refine wp_loop_rounds 3 ?_;rw [rounds_succ];go_wp2_with fail;rw [rounds_succ];go_wp2_with fail;rw [rounds_succ];go_wp2_with (first|(go_at_call 225;refine (hG _).mono ?_;rintro e w1 ⟨v1,rfl,du,br⟩));have ed:=br.size;have y0:=Bb br x0;have y1:=Bb br x1;refine wp_loop_rounds 3 ?_;rw [rounds_succ];go_wp2_with (first|(at_builtin;refine J6 rfl _ _ rfl w _ 0 [] rfl du a n c p rfl (hp.keep br) yg qB qB ed ?_;intro v2 w2 cv js));have bp:xp w w2:=br.grown js ed (Dj du);have en:=bp.size;have z0:=Bb bp x0;have z1:=Bb bp x1;rw [List.nil_append,Nat.zero_add] at cv;rw [rounds_succ];go_wp2_with (first|(at_builtin;refine J6 rfl _ _ rfl w _ n (Cs p n) rfl cv a' n' c' q rfl (hq.keep bp) DY qB qB en ?_;intro v3 w3 dh vd));have ea:xp w w3:=bp.grown vd en (Dj cv);rw [rounds_succ];go_wp2_with fail;refine bodyPost_ret (v:=v3) (by simp [results,results172,go_sem]) rfl ?_;exact ⟨v3,rfl,dh,ea⟩
theorem aC {a b:Δ} (ha:PW a) (hb:PW b) {K K':Nat} (hK:Cj K a) (hK':Cj K' b) (i k:Nat) (y:PC) (h:D2 ((a++b).take i) k=some y):Ch (K+K'+1) y∧k<18446744073709551616:=by
 have hf:Dh (a.take i):=ha.falls.sublist (List.take_sublist _ _);have wk:Dh (b.take (i-a.length)):=hb.falls.sublist (List.take_sublist _ _);rw [List.take_append,aX _ _ hf wk] at h;have m1:∀c,lk (a.take i) k=some c→(k,c)∈a:=fun c hc=>List.mem_of_mem_take (Jf hc)
 have m2:∀c,lk (b.take (i-a.length)) k=some c→(k,c)∈b:=fun c hc=>List.mem_of_mem_take (Jf hc)
 cases h1:lk (a.take i) k with
 | none =>
  cases h2:lk (b.take (i-a.length)) k with
  | none=>rw [h1,h2] at h;cases h
  | some d =>
   rw [h1,h2] at h;cases h;exact ⟨Ch.mono (hK' _ (m2 _ h2)) qB,hb.key _ (m2 _ h2)⟩
 | some c =>
  cases h2:lk (b.take (i-a.length)) k with
  | none =>
   rw [h1,h2] at h;cases h;exact ⟨Ch.mono (hK _ (m1 _ h1)) qB,ha.key _ (m1 _ h1)⟩
  | some d =>
   rw [h1,h2] at h;cases h;exact ⟨Ch.add (ha.good _ (m1 _ h1)).1 (hb.good _ (m2 _ h2)).1 (hK _ (m1 _ h1)) (hK' _ (m2 _ h2)),ha.key _ (m1 _ h1)⟩
def Lk (n:Nat) (p q:Nat→Tm):Nat→Tm:=fun i=>if i<n then p i else q (i-n)
theorem cG (p q:Nat→Tm) (k:Nat):Cs (Lk n p q) (n+k)=Cs p n++Cs q k:=by
 induction k with
 | zero =>
  rw [Nat.add_zero];have:Cs (Lk n p q) n=Cs p n:=Lp fun j hj=>by simp [Lk,hj]
  simp [this,Cs]
 | succ k ih =>
  rw [←Nat.add_assoc,Cs,ih,Cs,List.append_assoc];have:Lk n p q (n+k)=q k:=by unfold Lk;rw [if_neg qB];congr 1;omega
  rw [this]
def Ya (w:World) (l:Δ) (e:Ending) (w':World):Prop:=∃a n c,e=.returned (.slice a n c)∧Be w' w a n c l∧xp w w'
def Fy (w:World) (l:Δ) (e:Ending) (w':World):Prop:=∃a n c,e=.returned (.slice a n c)∧Be w' w a n c l∧Ca w' w a n c∧xp w w'
theorem Tj {base':Nat} {n:Nat} (h:w.ownsRow base e size v n xs) (hb:base'≤base):w.ownsRow base' e size v n xs :=
 ⟨h.1,h.2.imp id fun⟨g,cap,cur,h1,h2,h3⟩=>⟨g,cap,cur,h1,Ah hb h2,h3⟩⟩
theorem V1 {n:Nat} (h:w.ownsRow base e size v n xs):∃ao co,v=.slice ao n co∧(n=0∨∃g,ao=some ⟨g,0,none⟩):=by
 rcases h.2 with ⟨rfl,h0⟩|⟨g,cap,cur,rfl,_⟩
 ·subst h0;exact ⟨none,0,rfl,.inl rfl⟩
 ·exact ⟨_,_,rfl,.inr ⟨g,rfl⟩⟩
theorem M8 (wo:World) (B:Nat) (a:Γ) (n c:Nat) (l:Δ) (h:Be wo B a n c l) (hl:PW l) (K:Nat) (hK:Cj K l) (B':Nat) (a':Γ) (n' c':Nat) (l':Δ) (h':Be wo B' a' n' c' l') (hl':PW l') (K':Nat) (hK':Cj K' l')
  (CZ:K+K'<1000000) (hn:n≤500000) (rk:n'≤500000) :
  Θ 101 #[.slice a n c,.slice a' n' c'] wo (Fy wo (Cf l l')):=by
 have HB:=Ac wo wo;obtain ⟨p,hp,jv⟩:=h.ts;obtain ⟨q,hq,xz⟩:=h'.ts;have adf:=h.pok hl hp jv;have adg:=h'.pok hl' hq xz;have LJ:=h.few hK hp jv;have hqf:=h'.few hK' hq xz;have P1:=Ae adf;have P2:=Ae adg;have P3:Hid (∀k,k<n→(p k).n1≤1000000∧(p k).n2≤1000000):=Ae fun k hk=>by have:=LJ k hk;omega
 have P4:Hid (∀k,k<n'→(q k).n1≤1000000∧(q k).n2≤1000000):=Ae fun k hk=>by have:=hqf k hk;omega
 have P5:=Ae jv;have P6:=Ae xz;clear adf adg LJ hqf jv xz;have xy:=@run_makeMap prog;go_enter func101,ntmps101;have LK:Ew (wo.alloc (.map #[] 0)) wo 0 (wo+1) (fun _=>none):=⟨.map [],id,World.ownsMap_made wo prog 56 RH,Gj.empty _ _ _⟩;go_wp2_with (first
  | (go_at_call 91;(first|(refine (aQ _ a n c p (hp.keep qD) P3.out true ⟨fun _=>rfl,fun _=>P1.out⟩).mono ?_;rintro e w1 ⟨rfl,br⟩;have FF:=LK.keep br;have ir:=zP wo br;have ed:=br.size;(try simp only [Aj] at ed))|(refine (aQ _ a' n' c' q (hq.keep qD) P4.out true ⟨fun _=>rfl,fun _=>P2.out⟩).mono ?_;rintro e w2 ⟨rfl,bp⟩;have HM2:=FF.keep bp;have fg:=zP wo bp;have en:=bp.size)))
  | (go_at_call 172;refine (oO _ _ a n c p (hp.keep qD) h.nl a' n' c' q (hq.keep qD) h'.nl hn rk qJ qJ).mono ?_;rintro e w3 ⟨v3,rfl,dh,ea⟩;have HM3:=(HM2.keep ((Ac _ _).alloc (Ad _) _)).keep ea;have ep:=zP wo ea;have BD:=ea.size;(try simp only [Aj] at BD);obtain ⟨ao,co,rfl,hao⟩:=V1 dh))
 have SQ:w3.ownsRow (wo+1) 58 8 (.slice ao (n+n') co) (n+n') (Cs (Lk n p q) (n+n')):=by
  rw [cG];exact Tj dh qL
 have j8:Hid (∀i x,(l++l')[i]? = some x→Ey (Lk n p q i) x∧Dg wo (Lk n p q i)∧CW x.2∧Ch (K+K'+1) x.2):=Ae fun i x hx=>by
  have AN:=h.len;have WB:=h'.len;by_cases bj:i<n
  ·rw [Ay qB] at hx;have hb:Lk n p q i=p i:=by simp [Lk,bj]
   have hm:=A7 hx;rw [hb];exact ⟨(P5.out i x hx).1,hp.tm i bj,(hl.good x hm).1,Ch.mono (hK x hm) qB⟩
  ·rw [Az qB,AN] at hx;have hb:Lk n p q i=q (i-n):=by simp [Lk,bj]
   have hm:=A7 hx;have hi:i-n<n':=by rw [←WB];exact (List.getElem?_eq_some_iff.1 hx).1
   rw [hb];exact ⟨(P6.out _ x hx).1,hq.tm _ hi,(hl'.good x hm).1,Ch.mono (hK' x hm) qB⟩
 have hlen:(l++l').length=n+n':=by rw [A8,h.len,h'.len]
 have HL:=Ae hlen;have BB:=Ae (Ax hl hl');have HKL:=Ae (Ax hK hK');clear dh ea br bp LK FF HM2 hlen;go_loopw [16] (fun v16 wr=>∃i:Nat,i≤n+n'∧v16=M i∧Ew wr wo i (wo+1) (D2 ((l++l').take i))∧wr.ownsRow (wo+1) 58 8 (.slice ao (n+n') co) (n+n') (Cs (Lk n p q) (n+n'))∧xp wo wr) (fun v16 _=>n+n'-(intOf v16).toNat)
 case atStart=>exact ⟨0,qB,rfl,by simpa [D2] using HM3,SQ,ep⟩
 case round =>
  obtain ⟨k,hk,rfl,hM,ah,dm⟩:=hrel;have hzr:=dm.size;clear HM3 SQ ep ed en BD;by_cases bj:k<n+n'
  ·obtain ⟨g,rfl⟩:=hao.resolve_left qB;have ky:k<(l++l').length:=by rw [HL.out];exact bj
   obtain ⟨x,hx⟩:∃x,(l++l')[k]? = some x:=⟨_,Ai ky⟩;obtain ⟨ph,kz,IC,y9⟩:=j8.out k x hx;have jn:=Ig ah bj;generalize Lk n p q k=t at *;obtain ⟨e0,e1,e2,e3,e4,e5,e6,e7⟩:=jn;simp only [Nat.zero_add] at e0 e1 e2 e3 e4 e5 e6 e7;obtain ⟨w,rfl⟩:∃w:World,w=wr:=⟨_,rfl⟩;have HB:=Ac w w;have eh:=(ph.frac kz IC).keep dm;have zt:g<w.heap.size:=Aa _ _ e0;have rq:wo.heap.size<w:=by obtain ⟨D,_,hD,_⟩:=hM.ex;exact hD.lt
   have e8:(dg (1:Int).natAbs).length=1:=Gf;have e9:=eh.top.rd.len;have e10:=eh.low.rd.len;obtain ⟨i1,i2⟩:=y9;have q1:t.n1≤1000000000:=qB;have q2:t.n2≤1000000000:=qB;have E1:Fh (x.2.1*1) (x.2.2*1)=x.2.1:=congrArg Prod.fst (Pk IC);have E2:E5 (x.2.1*1) (x.2.2*1)=x.2.2:=congrArg Prod.snd (Pk IC);have NY:Ch 1000000000 x.2:=⟨qB,qB⟩;have hyk:∀y,D2 ((l++l').take k) (Bv t.m0 t.m1 t.m2 t.m3)=some y→Ch 1000000000 y:=fun y hy=>Ch.mono (aC BB.out.1 BB.out.2 HKL.out.1 HKL.out.2 k _ y hy).1 qB
   have HN:=Ae (show D2 ((l++l').take (k+1))=I4 (D2 ((l++l').take k)) (Bv t.m0 t.m1 t.m2 t.m3,x.2) by
    have e:(l++l').take (k+1)=(l++l').take k++[x]:=by
     rw [List.take_add_one,hx];rfl
    rw [e,Qy,ph.key])
   have HT:=Ae ph;clear ph hx i1 i2 e9 e10;go_wp2_with fail;go_region_held3 (fun W=>Z W w 0 (.bool t.g1)∧Z W w 1 (.slice t.a1 t.n1 t.c1)∧Z W w 2 (.bool t.g2)∧Z W w 3 (.slice t.a2 t.n2 t.c2)∧Z W w 4 (U t.m0)∧Z W w 5 (U t.m1)∧Z W w 6 (U t.m2)∧Z W w 7 (U t.m3)) (exact qK) (first
    | (go_at_call 95;(with_reducible refine (Nx _ 1 qB qB).mono ?_);rintro e w1 ⟨go1,ao1,no1,co1,go2,ao2,no2,co2,rfl,j7,a00,a01,_,hb⟩;obtain ⟨hc,hf⟩:=Bg hb;have hz:=hb.size;(try simp only [Aj,Ak,Am] at hz);replace HB:=zP w hb;obtain ⟨aw,bh,ei,ej⟩:=xe hc w t.g1 t.a1 t.n1 t.c1 t.g2 t.a2 t.n2 t.c2;have CE:=zE hc (w) 4 (U t.m0);have CF:=zE hc (w) 5 (U t.m1);have CG:=zE hc (w) 6 (U t.m2);have CH:=zE hc (w) 7 (U t.m3);have e11:=j7.top.rd.len;have SK:=j7.low.rd.len)
    | (go_at_call 94;(with_reducible refine (Qx _ _ _ _ _ _ _ _ _ _ _ (eh.keep qD) _ _ _ _ _ _ _ _ _ _ (j7.keep qD) q1 q2 qB qB).mono ?_);rintro e w4 ⟨DA,zu,DZ,zw,DB,AA,EA,AB,rfl,hmul,EB,EC,gw,hb⟩;obtain ⟨hc,hf⟩:=Bg hb;have hz:=hb.size;(try simp only [Aj,Ak,Am] at hz);replace HB:=zP w hb;obtain ⟨aw,bh,ei,ej⟩:=xe hc w t.g1 t.a1 t.n1 t.c1 t.g2 t.a2 t.n2 t.c2;have CE:=zE hc (w) 4 (U t.m0);have CF:=zE hc (w) 5 (U t.m1);have CG:=zE hc (w) 6 (U t.m2);have CH:=zE hc (w) 7 (U t.m3);rw [E1,E2] at hmul;have OD:Bc w w4 zu zw:=EB.mono qA;have OE:Bc w w4 AA AB:=EC.mono qA)
    | (go_at_call 170;(with_reducible refine (gU w _ wo k (wo+1) (D2 ((l++l').take k)) hM qD (Ag _) qB qB _ _ _ _ _ _ _ _ x.2 (hmul.keep qD) (OD.keep qD) (OE.keep qD) gw t.m0 t.m1 t.m2 t.m3 kz.s0 kz.s1 kz.s2 kz.s3 NY hyk).mono ?_);rintro e w5 ⟨rfl,hM5,yl⟩;have aw:Z w5 w 0 (.bool t.g1):=yl.cell qC qL;have bh:Z w5 w 1 (.slice t.a1 t.n1 t.c1):=yl.cell qC qL;have ei:Z w5 w 2 (.bool t.g2):=yl.cell qC qL;have ej:Z w5 w 3 (.slice t.a2 t.n2 t.c2):=yl.cell qC qL;have CE:Z w5 w 4 (U t.m0):=yl.cell qC qL;have CF:Z w5 w 5 (U t.m1):=yl.cell qC qL;have CG:Z w5 w 6 (U t.m2):=yl.cell qC qL;have CH:Z w5 w 7 (U t.m3):=yl.cell qC qL;have pj:=(Bf ah (by go_grown:xp w _)).kept yl (pH ah);have oq:xp wo w5:=Below.grown (dm.trans (Below.mono (by go_grown:xp w _) dm.size)) yl qA (fun j hj=>by cases hj;exact Ad _)))
   go_wp2_with fail;go_roundw
   case rel=>exact ⟨k+1,qB,by go_num,by rw [HN.out];exact hM5,pj,oq⟩
   case measure=>(first|(simp [intOf];omega)|(simp [intOf];done))
  ·obtain rfl:k=n+n':=qB;have hM6:Ew wr wo (n+n') (wo+1) (D2 (l++l')):=by
    have:=hM;rwa [As (by rw [HL.out];exact Ad _)] at this
   have rq:wo.heap.size<wr:=by obtain ⟨D,_,hD,_⟩:=hM.ex;exact hD.lt
   have rm:∀k x,D2 (l++l') k=some x→k<18446744073709551616∧Ch 1000000 x:=fun k x hx=>by
    have:=aC BB.out.1 BB.out.2 HKL.out.1 HKL.out.2 (l++l').length k x (by rw [As (Ad _)];exact hx);exact ⟨this.2,Ch.mono this.1 qB⟩
   clear hM ah;go_wp2_with (first|(go_at_call 171;refine (iR _ wo (n+n') (wo+1) (D2 (l++l')) hM6 qB qB rm).mono ?_;rintro e w6 ⟨a6,n6,c6,r,rfl,hr,JO,eh,JE,ee⟩));refine bodyPost_ret (v:=.slice a6 n6 c6) (by simp [results,results101,go_sem]) rfl ?_;have:=Sx BB.out.1 BB.out.2 eh JE;subst this;exact qEd
end Go.Proofs.YtfijkfdfbnfmmaaGreatDoor
end
