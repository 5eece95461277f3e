/- Package limbs: divide: an amount by another one of more than one part. -/
import Derived.Test.YtfijkfdfbnfmmaaGreatDoorQF4
set_option linter.unusedSimpArgs false
set_option linter.unusedVariables false
set_option maxRecDepth 100000
set_option maxHeartbeats 4000000
section
namespace Go.Proofs.YtfijkfdfbnfmmaaGreatDoor
open Go.RowKit Proofs.Tryz
variable (k:Nat) {a:Act} {g n c bu Vb bv H n' i f:Nat} {v:Value} {w w' wx wy:World} {l lu lq lv iz:Ξ}
theorem eI (w:World) (zh:Int) (m:Nat) (hM:zh=m) (c1 c2 c3:Value) (D:Nat→Int) (hm:m≤35184372088832)
  (hD:∀i,i<m→-4000000000000000000≤D i∧D i≤4000000000000000000)
  (ko:∀(i:Nat) (W:World),i<m→xp w W→Θ 320 #[M i,c1,c2,c3] W fun e W'=>e=.returned (M (D i))∧xp W W') :
  Θ 290 #[M zh,.func (.func 320) #[] #[c1,c2,c3]] w (Jr w m D):=by
 subst hM;exact jU w m c1 c2 c3 D hm hD ko
theorem kF (w:World) (H G V:Nat) (a:Γ) (n c:Nat) (d:Ξ) (a':Γ) (n' c':Nat) (d':Ξ) (k:Nat) (hk:k<1000000000) (i:Nat) (hi:i<n) (hd:RdL w a n c d) (ik:RdL w a' n' c' d') (bj:lim d' i<1000000000)
  (h1:Z w H 0 (.slice a n c)) (h2:Z w G 0 (.int .u64 k)) (h3:Z w V 0 (.slice a' n' c')) :
  Θ 320 #[M i,.pointer (E H),.pointer (E G),.pointer (E V)] w fun e w'=>e=.returned (M (lim d i-k*lim d' i))∧xp w w':=by
 have hs:=hd.small i;have xw:=ik.small i;have hn:=hd.few;have h0:0≤(k:Int)*lim d' i:=Int.mul_nonneg qB xw.1;have FD:(k:Int)*lim d' i≤999999999*999999999:=Int.mul_le_mul qB qB qB qB;obtain ⟨b,o,rfl,c1⟩:=hd.at' hi;go_enter func320,ntmps320;go_wp2;go_quiet ((first|(go_at_call 292;first|exact Gi (H8 _ _ _ _ d' i (ik.keep (Bj _ (Ac _ _))))|exact Fj (H8 _ _ _ _ d' i (ik.keep (Bj _ (Ac _ _)))))));exact qFe
def Row (w:World) (g n:Nat) (l:Ξ):Prop:=∃cur:List Value,w.heap[g]? = some (.cells cur.toArray 129 (0,0))∧l.length=n∧n≤cur.length∧cur.take n=Cg l
theorem Row.block (h:Row w g n l) (e:w'.heap[g]? = w.heap[g]?):Row w' g n l:=by
 obtain ⟨cur,h1,h2⟩:=h;exact ⟨cur,e.trans h1,h2⟩
theorem Row.lt (h:Row w g n l):g<w.heap.size:=by
 obtain ⟨cur,h1,_⟩:=h;exact (Ar.1 h1).1
theorem Row.keep (h:Row w g n l) (hb:xp w w'):Row w' g n l:=h.block (hb.block g h.lt)
theorem Row.setCell (h:Row w g n l) (p:Addr) (u:Value) (hp:p.block≠g):Row (w.setCell p u) g n l:=h.block (Below.heap_setCell _ _ _ _ (Ne.symm hp))
theorem Row.rdl (h:Row w g n l) (bj:∀x∈l,x<1000000000) (c:Nat) (hc:n≤c) (hn:n≤35184372088832) (FP:c≤9223372036854775807):RdL w (E g) n c l:=by
 obtain ⟨cur,h1,h2,h3,h4⟩:=h;refine ⟨h2,hc,hn,FP,By (fun x hx=>by have:=bj x hx;omega),.inr ⟨g,0,rfl,fun i hi=>?_⟩⟩;rw [Nat.zero_add,cell_of_row w g i cur.toArray 129 (0,0) h1];have h5:(cur.take n)[i]? = cur[i]?:=by rw [List.getElem?_take,if_pos hi]
 rw [List.getElem?_toArray,←h5,h4,Ih qB];rfl
theorem Row.of_rdl {cur:Array Value} (h:RdL w (E g) n c l) (hg:w.heap[g]? = some (.cells cur 129 (0,0))) (hc:n≤cur.size):Row w g n l:=by
 refine ⟨cur.toList,by simpa using hg,h.len,by simpa using hc,?_⟩;apply List.ext_getElem?;intro i;have hl:=h.len;rcases Nat.lt_or_ge i n with h1|h1
 ·have h2:=h.at h1;rw [Nat.zero_add,cell_of_row w g i cur 129 (0,0) hg] at h2;rw [List.getElem?_take,if_pos h1,Ih qB,Array.getElem?_toList];exact h2
 ·rw [List.getElem?_eq_none qL,List.getElem?_eq_none (by rw [C5];omega)]
theorem RdL.blk {b o:Nat} {d:Ξ} (h:RdL w (some ⟨b,o,none⟩) n c d) (e:w'.heap[b]? = w.heap[b]?):RdL w' (some ⟨b,o,none⟩) n c d:=qDe
theorem Uc {base:Nat} {xs:List Value} (h:w.ownsRow base 129 1 (.slice (E g) n c) n xs) (e:w'.heap[g]? = w.heap[g]?):w'.ownsRow base 129 1 (.slice (E g) n c) n xs:=qCl
structure I2 (w wx:World) (bu Vb bv Q H n n' m g:Nat) (lu lq lv iz:Ξ):Prop where
 ru:Row wx bu (n+1) lu
 own:wx.ownsRow Q 129 1 (.slice (E Q) m m) m (Cg lq)
 cV:Z wx Vb 0 (.slice (E bv) n' (n'+1))
 rv:RdL wx (E bv) n' (n'+1) lv
 cH:Z wx H 0 (.slice (some ⟨bu,g,none⟩) (n'+1) (n+1-g))
 rH:RdL wx (some ⟨bu,g,none⟩) (n'+1) (n+1-g) iz
 hb:xp w wx
theorem I2.turn {Q m:Nat} (h:I2 w wx bu Vb bv Q H n n' m g lu lq lv iz) (e:∀k,(k=bu∨k=Vb∨k=bv∨k=Q∨k=H)→wy.heap[k]? = wx.heap[k]?) (hB:xp w wy) :
  I2 w wy bu Vb bv Q H n n' m g lu lq lv iz :=
 ⟨h.ru.block (e _ (.inl rfl)),Uc h.own (e _ (.inr (.inr (.inr (.inl rfl))))),(Af (e Vb (.inr (.inl rfl)))).trans h.cV,h.rv.blk (e _ (.inr (.inr (.inl rfl)))),(Af (e H (.inr (.inr (.inr (.inr rfl)))))).trans h.cH,h.rH.blk (e _ (.inl rfl)),hB⟩
theorem I2.lt {Q m:Nat} (h:I2 w wx bu Vb bv Q H n n' m g lu lq lv iz) (hn:0<n'):∀k,(k=bu∨k=Vb∨k=bv∨k=Q∨k=H)→k<wx.heap.size:=by
 rintro k (rfl|rfl|rfl|rfl|rfl)
 ·exact h.ru.lt
 ·exact Aa _ _ h.cV
 ·exact Aa _ _ (h.rv.at hn)
 ·exact (h.own.lt k rfl).2
 ·exact Aa _ _ h.cH
theorem I2.keep {Q m:Nat} (h:I2 w wx bu Vb bv Q H n n' m g lu lq lv iz) (hn:0<n') (hb:xp wx wy):I2 w wy bu Vb bv Q H n n' m g lu lq lv iz :=
 h.turn (fun k hk=>hb.block k (h.lt hn k hk)) (xo h.hb hb)
theorem I2.set {Q m G:Nat} (h:I2 w wx bu Vb bv Q H n n' m g lu lq lv iz) (hG:∀k,(k=bu∨k=Vb∨k=bv∨k=Q∨k=H)→k≠G) (hw:w.heap.size≤G) (o:Nat) (u:Value):I2 w (wx.setCell (J G o) u) bu Vb bv Q H n n' m g lu lq lv iz :=
 h.turn (fun k hk=>Below.heap_setCell _ _ _ _ (hG k hk)) (h.hb.trans ⟨rfl,rfl,rfl,qH,fun k hk=>Below.heap_setCell _ _ _ _ (by show k≠G;omega)⟩)
theorem wP (hd lv:Ξ) (gs m:Nat) (h:hd.length≤m) (h':lv.length≤m) (hv:gs*val lv≤val hd):Dc (fun i=>lim hd i-gs*lim lv i) m=((val hd-gs*val lv:Nat):Int):=by
 have e:Dc (fun i=>lim hd i-gs*lim lv i) m=Dc (fun i=>lim hd i+(fun i=>(-(gs:Int))*lim lv i) i) m:=Oo (fun i _=>by show lim hd i-gs*lim lv i=lim hd i+(-(gs:Int))*lim lv i;rw [Int.neg_mul,Int.sub_eq_add_neg]);rw [e,Tp (fun i=>lim hd i) (fun i=>(-(gs:Int))*lim lv i),St (fun i=>lim lv i),show Dc (fun i=>lim hd i) m=val hd from Hg hd m h,show Dc (fun i=>lim lv i) m=val lv from Hg lv m h',Int.neg_mul];rw [Int.natCast_sub hv,Int.natCast_mul];rfl
theorem sW (q:Nat) (h:q<1000000000000000000):(if 999999999<IntKind.u64.wrap (q:Int) then (999999999:Int) else IntKind.u64.wrap (q:Int))=((min q 999999999:Nat):Int):=by
 simp only [IntKind.wrap_u64]
 split<;>omega
theorem mQ {T ov gs y:Nat} (h:T=ov+gs*y):(T:Int)-(gs:Int)*(y:Int)=(ov:Int)∧(gs:Int)*(y:Int)≤(T:Int)∧0≤(gs:Int)*(y:Int):=by
 subst h;have:(0:Int)≤(gs:Int)*(y:Int):=Int.mul_nonneg qB qB;rw [Int.natCast_add,Int.natCast_mul];omega
theorem Xa {X V gq gs:Nat} (hle:gq≤gs) (BO:0<V) (hg:gq=X/V):(X<V*gs→gq≤gs-1∧1≤gs)∧(¬X<V*gs→gs=gq):=by
 constructor
 ·intro hb;have:gq<gs:=by rw [hg,Nat.div_lt_iff_lt_mul BO,Nat.mul_comm];exact hb
  omega
 ·intro hb;have:gs≤gq:=by rw [hg,Nat.le_div_iff_mul_le BO,Nat.mul_comm];omega
  omega
theorem Pr {P:Program} {ops:Array Oper} {rest:List Oper} {o:Oper} {Q:Exit→Act→World→Prop} (vx:o.guard=none) (d s:Operand) (dT sT:TypeId)
  (ho:o.op=.call { callee:=.builtin .copy,args:=#[d,s],argTypes:=#[dT,sT] }) (elem:TypeId) (hu:P.underlying dT=some (.slice elem)) (fb:(P.info? elem).map (·.size)=some 1)
  (g off ZD ag6:Nat) (ad:Addr) (ZE ag7:Nat) (hd:a.eval d=.slice (some ⟨g,off,none⟩) ZD ag6) (hs:a.eval s=.slice (some ad) ZE ag7)
  (cur:List Value) (t:TypeId) (hg:w.heap[g]? = some (.cells cur.toArray t (0,0))) (cs:List Value) (hn:cs.length=Nat.min ZE ZD)
  (aq2:∀j v,cs[j]? = some v→w.cell? (ad.add j)=some v) (oo:off+cs.length≤cur.length) (h1:∀v∈cs,v.oneCell'=true)
  (h:∀w',Hid (w'.heap[g]? = some (.cells (splice cur off cs).toArray t (0,0)))→Hid (∀k,k≠g→w'.heap[k]? = w.heap[k]?)→(∀B,B≤g→Below B w w')→w'.heap.size=w.heap.size→wpList P ops Q rest (a.put o.dst (goInt cs.length)) w') :
  wpList P ops Q (o::rest) a w:=by
 refine wpList_copy_own vx d s dT sT ho elem hu fb g off ZD ag6 ad ZE ag7 hd hs cur.toArray t hg cs hn aq2 (by simpa using oo) h1 ?_;refine h _ ?_ ?_ ?_ ?_
 ·exact Ae (by simpa [splice] using setRow_heap w g _ _ t _ hg)
 ·exact Ae (fun k hk=>setRow_other w g k _ hk)
 ·exact fun B hB=>below_setRow (Ac _ _) hB _
 ·simp [World.setRow]
theorem kK (l:Ξ) (k:Nat):Cg (l.take k)=(Cg l).take k:=by simp [Cg,List.map_take]
theorem kX (l:Ξ) (k:Nat):Cg (l.drop k)=(Cg l).drop k:=by simp [Cg,List.map_drop]
theorem Row.spliced {off:Nat} {less:Ξ} {cur:List Value} (hc:cur.take n=Cg l) (hl:l.length=n) (ij:n≤cur.length) (oo:off+less.length≤n) (h:w'.heap[g]? = some (.cells (splice cur off (Cg less)).toArray 129 (0,0))) :
  Row w' g n (l.take off++(less++l.drop (off+less.length))):=by
 have IV:(Cg less).length=less.length:=C5 less;refine ⟨_,h,?_,?_,?_⟩
 ·simp;omega
 ·rw [length_splice _ _ _ (by rw [IV];omega)];exact ij
 ·rw [splice,IV,List.take_append,List.take_append,Cv,Cv,kK,kX,←hc];rw [List.take_take,List.take_take,List.drop_take];simp only [List.length_take,IV]
  congr 1
  ·congr 1;omega
  ·congr 1
   ·rw [As (by rw [IV];omega)]
   ·congr 1;omega
def DivW (w wc:World) (zg V n n':Nat) (v8 v9:Value):Prop :=
 ∃bu Vb bv,v8=.slice (E bu) (n+1) (n+1)∧v9=.pointer (E Vb)∧w.heap.size≤bu∧w.heap.size≤Vb∧w.heap.size≤bv∧bu≠Vb∧bu≠bv∧Vb≠bv ∧
  Z wc Vb 0 (.slice (E bv) n' (n'+1))∧RdL wc (E bv) n' (n'+1) (fx n' V)∧Row wc bu (n+1) (fx (n+1) zg)∧xp w wc
theorem vG {w1 w2 X:World} {zg V:Nat} (hu:Row w1 bu (n+1) (fx (n+1) zg)) (hk:w2.heap[bu]? = w1.heap[bu]?) (bj:bu<w2.heap.size) (hv:RdL w2 (E bv) (n'+1) (n'+1) (fx (n'+1) V)) (IV:bv<w2.heap.size)
  (hX:∀k,k<w2.heap.size→k≠Vb→X.heap[k]? = w2.heap[k]?) (gz:Z X Vb 0 (.slice (E bv) n' (n'+1))) (h1:w.heap.size≤bu) (h2:w.heap.size≤Vb) (h3:w.heap.size≤bv) (h4:bu≠Vb) (h5:bu≠bv) (h6:Vb≠bv) (hB:xp w X) :
  DivW w X zg V n n' (.slice (E bu) (n+1) (n+1)) (.pointer (E Vb)):=by
 refine ⟨bu,Vb,bv,rfl,rfl,h1,h2,h3,h4,h5,h6,gz,?_,hu.block ((hX bu bj h4).trans hk),hB⟩;have hf:=hv.front (k:=n') qB;rw [uM] at hf;refine ⟨hf.len,hf.cap,hf.few,hf.top,hf.small,?_⟩;rcases Aq n' with h0|h0
 ·exact .inl h0
 ·refine .inr ⟨bv,0,rfl,fun i hi=>?_⟩;rw [Af (w:=w2) (hX bv IV (Ne.symm h6))];exact hf.at hi
def jS (w:World) (X zb:Nat) (e:Ending) (w':World):Prop :=
 ∃aq nq cq lq ar nr cr lr,e=.returned (.tuple #[.slice aq nq cq,.slice ar nr cr])∧RdL w' aq nq cq lq∧(∀x∈lq,x<1000000000)∧val lq=X/zb∧RdL w' ar nr cr lr∧(∀x∈lr,x<1000000000)∧val lr=X%zb ∧
  Bc w w' aq cq∧Bc w w' ar cr∧xp w w'
theorem rP (w:World) (a:Γ) (n c:Nat) (d:Ξ) (a':Γ) (n' c':Nat) (d':Ξ) (hd:RdL w a n c d) (ik:RdL w a' n' c' d') (hc:Dy d) (jf:Dy d')
  (h2:2≤n') (hle:n'≤n) (hn:n<35184372088830) :
  Θ 289 #[.slice a n c,.slice a' n' c'] w (jS w (val d) (val d')):=by
 obtain ⟨i0,hi,dw,ed,en⟩:=info_parts Dl;have HB:=Ac w w;have NW:=Ae hd.len;have HLY:=Ae ik.len;obtain ⟨t,ht⟩:∃t:Nat,t=d'.getD (n'-1) 0:=⟨_,rfl⟩;have ht1:0<t:=by rw [ht];exact Yk jf HLY.out qB
 have ht2:t<1000000000:=by rw [ht];exact Cx jf.lt _
 obtain ⟨b',o',rfl,c1⟩:=ik.at' (i:=n'-1) qB;rw [Em,←ht] at c1;obtain ⟨s,hs⟩:∃s:Nat,s=1000000000/(t+1):=⟨_,rfl⟩;have jh:0<s:=by rw [hs];exact Nat.div_pos qB qB
 have ki:s<1000000000:=by rw [hs];exact Nat.div_lt_self qB qB
 have hs3:(1000000000:Int)/((t:Int)+1)=(s:Int):=by rw [hs];simp
 have qv:((n':Int)-1).toNat=n'-1:=qB;have HS:=Ae hs;have HT:=Ae ht;have HC:=Ae hc;have ZV:=Ae jf;clear hs ht hc jf;go_enter func289,ntmps289;go_wp2_with fail;go_step3;go_upto_region 3 with fail
 rw [hs3];have HL:=Ae (HC.out.lt);have SB:=Ae (ZV.out.lt);go_cut [8,9] (fun v8 v9 wc=>DivW w wc (val d*s) (val d'*s) n n' v8 v9)
 case first =>
  have c0:=c1;have MA:=fun (W:World) (g:Nat)=>Wy W g 0 (n'+1) (n'+1) n' qB
  go_region_held3 (fun W=>Z W b' (o'+(n'-1)) (.int .u32 t)) ((first|(with_reducible assumption)|(go_keep;done)|(simp [*,go_sem];done))) (first
   | (go_at_call 319;(refine (eX _ _ _ _ d s (hd.keep qD) HL.out ki qB).mono ?_);rintro e w1 ⟨au,rfl,hu,hNu,WO,br⟩;obtain ⟨bu,a5y,rfl,hbu,hgu,hcu⟩:=WO.resolve_left qB;replace HB:=zP w br;have ed:=HB.size;have c1:=Bb HB c0;obtain ⟨VY,ln⟩:=Bg br;have jy:w.heap.size<w1:=Nat.lt_of_le_of_lt (Ah qA hbu) (Ar.1 hgu).1)
   | (go_at_call 319;(refine (eX _ _ _ _ d' s (ik.keep qD) SB.out ki qB).mono ?_);rintro e w2 ⟨av,rfl,hv,hNv,hfv,bp⟩;obtain ⟨bv,a56,rfl,hbv,hgv,hcv⟩:=hfv.resolve_left qB;replace HB:=zP w bp;have en:=HB.size;have c1:=Bb HB c0;obtain ⟨FP,nk⟩:=Bg bp;have l9:w.heap.size<w2:=Nat.lt_of_le_of_lt (Ah qA hbv) (Ar.1 hgv).1))
  all_goals
   go_wp2_with fail;go_meet
   case rel =>
    have q1:=(Ar.1 hgu).1;have q2:=(Ar.1 hgv).1;try simp only [Aj,Ak] at hbu
    try simp only [Aj,Ak] at hbv
    refine vG (Row.of_rdl hu hgu hcu) (by first|exact bp.block _ qB|exact (bp.block _ (by simp only [Aj];omega)).trans (heap_alloc_old _ _ qB)) qB hv q2
     (fun k hk di=>(by first|exact heap_alloc_old _ _ hk|exact Below.heap_setCell _ _ _ _ di)) (by first|(simp [go_sem];done)|(simp [*,go_sem];done)) qB qB qB qB qB qB qD
 case rest =>
  clear c1;obtain ⟨bu,Vb,bv,rfl,rfl,hbu,hVb,hbv,huV,huv,UG,hcV,BQ,OT,HB⟩:=hcut;have ag8:=HB.size;have aq5:=Aa _ _ hcV;have aq6:=OT.lt;have KC:=Ae (jL HC.out.lt ZV.out.lt NW.out HLY.out h2 hle HT.out ht1 HS.out jh ki);obtain ⟨zg,hU⟩:∃zg,zg=val d*s:=⟨_,rfl⟩;obtain ⟨V,hV⟩:∃V,V=val d'*s:=⟨_,rfl⟩;rw [←hU] at OT;rw [←hV] at BQ;have HU:=Ae hU;have HV:=Ae hV;clear hU hV;obtain ⟨m,hm⟩:∃m,n+1-n'=m:=⟨_,rfl⟩;have KD:0<n':=qB;have aq7:bv<wc.heap.size:=Aa _ _ (BQ.at KD);have HNE:=Ae (Ax huV (Ax huv UG));clear huV huv UG;have hmI:(n:Int)+1-(n':Int)=(m:Int):=qB;have yf:1≤m:=qB;go_wp2_with (refine wpList_make_full _ rfl _ _ 49 rfl wc 129 i0 (.int .u32 0) 1 underlying49 hi dw ed .i64 .i64 _ _ m rfl rfl rfl qZ (by rw [en];omega) qN (Ad _) ?_;intro w3 dh er);have ep:xp wc w3:=(Ac _ _).grown er (Ad _) (fun k h=>by cases h);rw [Nat.mul_one,show Value.cells (.int .u32 0)=#[.int .u32 0] from rfl,toList_madeCells_one,←Fo] at dh;clear er;obtain ⟨Q,hQ⟩:∃Q,Q=wc.heap.size:=⟨_,rfl⟩;rw [←hQ] at dh;simp only [←hQ];have HQN:Hid (bu<Q∧Vb<Q∧bv<Q∧w.heap.size≤Q):=Ae (by rw [hQ];exact ⟨aq6,aq5,aq7,ag8⟩);have HQ:=Ae hQ;clear hQ;go_step3;go_wp2_with fail;go_loopg [10] m (fun g v10 wr=>∃lu lq,v10=M ((g:Int)-1)∧g≤m∧Hid (Hc zg V n' m g lu lq)∧Row wr bu (n+1) lu∧wr.ownsRow Q 129 1 (.slice (E Q) m m) m (Cg lq)∧Z wr Vb 0 (.slice (E bv) n' (n'+1))∧RdL wr (E bv) n' (n'+1) (fx n' V)∧xp w wr)
  case atStart =>
   refine ⟨fx (n+1) zg,List.replicate m 0,rfl,Ad _,Ae ?_,OT.keep ep,dh,Bb ep hcV,BQ.keep ep,HB.trans (ep.mono ag8)⟩;have h1:=Hc.start (V:=V) (n:=n') (m:=m) (u:=fx (n+1) zg) (by rw [Mw];omega) (pX _ _) (by
    have:=KC.out.top (fx (n+1) zg) (Mw _ _) (by rw [←HU.out];exact Qw _ _ (by rw [HU.out];exact KC.out.ult));rw [hm,←HV.out] at this;exact this)
   rw [Qw (n+1) zg (by rw [HU.out];exact KC.out.ult)] at h1;exact h1
  case round =>
   clear dh ep OT BQ hcV HB;obtain ⟨lu,lq,AM,hgm,HD,OT,ah,hcV,BQ,HB⟩:=hrel
   cases gk with
   | zero =>
    have vr:=HD.out.done (by rw [HV.out];exact KC.out.vpos);have ZF:=HD.out.ult;have ju:=HD.out.qlt;have CV:=HD.out.ulen;have hVn:V≤1000000000 ^ n':=by rw [HV.out];exact Nat.le_of_lt KC.out.vlt
    have KS:0<V:=by rw [HV.out];exact KC.out.vpos
    have sx:val (lu.take n')=zg%V:=by
     rw [Uo (V:=V) (by rw [vr.2];exact Nat.mod_lt _ KS) hVn qB];exact vr.2
    have DH:=(OT.rdl ZF (n+1) (Ad _) qB qB).front (k:=n') qB;have a6b:∀W:World,(Instr.sliceAt 49 (.slice (E bu) (n+1) (n+1)) none (some (M (n':Int))) none).run prog W=.ok (.slice (E bu) n' (n+1)) W:=fun W=>Wy W bu 0 (n+1) (n+1) n' qB
    have ZG:=eU (x:=val d) (y:=val d') jh;have od:val lq=val d/val d':=by rw [vr.1,HU.out,HV.out];exact ZG.1
    have lg:val (lu.take n')/s=val d%val d':=by rw [sx,HU.out,HV.out];exact ZG.2
    have UX:=Ae od;have HR1:=Ae lg;have yu:=Ae ju;have ag9:∀x∈lu.take n',x<1000000000:=fun x hx=>ZF x (List.mem_of_mem_take hx)
    have HUT:=Ae ag9;rw [show ((0:Nat):Int)-1=-1 from rfl] at AM;subst AM;clear vr ZF ju CV ZG od lg sx ag9;go_wp2_with fail;refine (jB _ _ _ _ _ s DH HUT.out jh qB).mono ?_;rintro e w6 ⟨ar,lr,rfl,hrr,hvr,rp,eh,ee⟩;have HVR:=Ae hvr;have HRL:=Ae rp;clear hvr rp;go_wp2_with fail;try rw [Exit.noGoto_ret]
    go_ret2;have hQB:=HQN.out;have NA:xp w w6:=xo HB ee;have hqr:=(Da ah qB (By (fun x hx=>by have:=yu.out x hx;omega))).keep ee;have rj:Bc w w6 (E Q) m:=((Bc.of_owns ah).mono hQB.2.2.2).keep ee;exact ⟨_,m,m,lq,ar,n',n',lr,rfl,hqr,yu.out,UX.out,hrr,HRL.out,by rw [HVR.out];exact HR1.out,rj,eh.mono HB.size,NA⟩
   | succ g =>
    rw [show ((g+1:Nat):Int)-1=(g:Int) from qB] at AM;subst AM;have hgI:(g:Int)+(n':Int)≤35184372088831:=qB;have oh:(g:Int)+(n':Int)+1≤(n:Int)+1:=qB;have aq9:∀W:World,(Instr.sliceAt 49 (.slice (E bu) (n+1) (n+1)) (some (M (g:Int))) (some (M ((g:Int)+(n':Int)+1))) none).run prog W=.ok (.slice (some ⟨bu,g,none⟩) (n'+1) (n+1-g)) W:=by
     intro W;have:=tK W bu 0 (n+1) (n+1) g (g+n'+1) qB qB qB;rw [show ((g+n'+1:Nat):Int)=(g:Int)+(n':Int)+1 from qB,show g+n'+1-g=n'+1 from qB,Nat.zero_add] at this;exact this
    have CV:=HD.out.ulen;have GD:=(OT.rdl HD.out.ult (n+1) (Ad _) qB qB).mid (i:=g) (k:=n'+1) qB;rw [Nat.zero_add] at GD;obtain ⟨iz,hhd⟩:∃iz,iz=(lu.drop g).take (n'+1):=⟨_,rfl⟩;rw [←hhd] at GD;have IW:∀x∈iz,x<1000000000:=by rw [hhd];exact yX HD.out.ult g (n'+1)
    have ZH:=Ae IW;have HH:=Ae hhd;clear IW hhd;go_upto_region 9 with fail
    obtain ⟨wa,hwa⟩:∃wa,wa=wr.alloc (Obj.cells #[Value.slice (some ⟨bu,g,none⟩) (n'+1) (n+1-g)] 49):=⟨_,rfl⟩;rw [←hwa];obtain ⟨H,hH⟩:∃H,H=wr.heap.size:=⟨_,rfl⟩;rw [←hH];have ZI:xp wr wa:=by rw [hwa];go_grown
    have hR:I2 w wa bu Vb bv Q H n n' m g lu lq (fx n' V) iz:=⟨OT.keep ZI,Uc ah (ZI.block _ (ah.lt Q rfl).2),Bb ZI hcV,BQ.keep ZI,by rw [hwa,hH];simp [go_sem],GD.keep ZI,(xo HB ZI)⟩;have UH:∀k,(k=bu∨k=Vb∨k=bv∨k=Q∨k=H)→k<wa.heap.size:=hR.lt KD;have HDJ:=Ae UH;have HEH:=Ae hH;have HHU:Hid (H≠bu):=Ae (by have:=OT.lt;rw [hH];exact Nat.ne_of_gt this);clear OT ah hcV BQ GD HB ZI hwa UH hH;obtain ⟨lv,hlv⟩:∃lv,lv=fx n' V:=⟨_,rfl⟩;rw [←hlv] at hR;have HLV:=Ae hlv;clear hlv;have FR:(n':Int)<(n':Int)+1:=qB;have qg:(n':Int)-1<(n':Int)+1:=qB;have alm:(n':Int)-1<(n':Int):=qB;have alj:0≤(n':Int)-1:=qB;have alk:1≤(n':Int):=qB;have vh:((n':Int)-2).toNat=n'-2:=qB;have a6i:(n':Int)-2<(n':Int)+1:=qB;have a6j:(n':Int)-2<(n':Int):=qB;have a6k:0≤(n':Int)-2:=qB;have a6l:2≤(n':Int):=qB;obtain ⟨x2,NO⟩:∃x,x=iz.getD n' 0:=⟨_,rfl⟩;obtain ⟨x1,SD⟩:∃x,x=iz.getD (n'-1) 0:=⟨_,rfl⟩;obtain ⟨x0,tr⟩:∃x,x=iz.getD (n'-2) 0:=⟨_,rfl⟩;obtain ⟨y1,GK⟩:∃x,x=lv.getD (n'-1) 0:=⟨_,rfl⟩;obtain ⟨y0,ss⟩:∃x,x=lv.getD (n'-2) 0:=⟨_,rfl⟩;have PX:Hid (∀x∈lv,x<1000000000):=Ae (by rw [HLV.out];exact pX _ _);have bx2:x2<1000000000:=by rw [NO];exact Cx ZH.out _
    have bx1:x1<1000000000:=by rw [SD];exact Cx ZH.out _
    have bx0:x0<1000000000:=by rw [tr];exact Cx ZH.out _
    have by1:y1<1000000000:=by rw [GK];exact Cx PX.out _
    have by0:y0<1000000000:=by rw [ss];exact Cx PX.out _
    have WI:=Ae NO;have ZT:=Ae SD;have HX0:=Ae tr;have NR:=Ae GK;have HY0:=Ae ss;have eX2:∀W,I2 w W bu Vb bv Q H n n' m g lu lq lv iz→Z W bu (g+n') (.int .u32 x2):=fun W h=>by have:=h.rH.at (i:=n') qB;rw [Em,←NO] at this;exact this
    have eX1:∀W,I2 w W bu Vb bv Q H n n' m g lu lq lv iz→Z W bu (g+(n'-1)) (.int .u32 x1):=fun W h=>by have:=h.rH.at (i:=n'-1) qB;rw [Em,←SD] at this;exact this
    have eX0:∀W,I2 w W bu Vb bv Q H n n' m g lu lq lv iz→Z W bu (g+(n'-2)) (.int .u32 x0):=fun W h=>by have:=h.rH.at (i:=n'-2) qB;rw [Em,←tr] at this;exact this
    have eY1:∀W,I2 w W bu Vb bv Q H n n' m g lu lq lv iz→Z W bv (n'-1) (.int .u32 y1):=fun W h=>by have:=h.rv.at (i:=n'-1) qB;rw [Em,←GK,Nat.zero_add] at this;exact this
    have eY0:∀W,I2 w W bu Vb bv Q H n n' m g lu lq lv iz→Z W bv (n'-2) (.int .u32 y0):=fun W h=>by have:=h.rv.at (i:=n'-2) qB;rw [Em,←ss,Nat.zero_add] at this;exact this
    have EX2:=Ae eX2;have EX1:=Ae eX1;have EX0:=Ae eX0;have EY1:=Ae eY1;have EY0:=Ae eY0;clear NO SD tr GK ss eX2 eX1 eX0 eY1 eY0;obtain ⟨T,hT⟩:∃T:Nat,T=x2*1000000000+x1:=⟨_,rfl⟩;go_cut [12] (fun v12 wb=>v12=.int .u64 (T:Int)∧I2 w wb bu Vb bv Q H n n' m g lu lq lv iz)
    case first =>
     have k1:=Bk hR.cH;have k2:=Bk (EX2.out _ hR);have k3:=Bk (EX1.out _ hR);have QK:(x2:Int)*1000000000+(x1:Int)=(T:Int):=by rw [hT];simp
     have HTI:=Ae QK;clear QK hT;(refine Bi qE qE ?_;(repeat (go_big_quiet_step (fail)));refine wpQuiet_nil ?_;intro _ cw;obtain ⟨nq,cw⟩:=cw;subst cw);rw [HTI.out];replace hR:=hR.keep KD nq.2;generalize nq.val=wb at *;clear k1 k2 k3;go_wp2_with fail;go_meet
     case rel=>exact ⟨rfl,hR⟩
    case rest =>
    obtain ⟨wb,rfl⟩:∃x:World,x=wc:=⟨_,rfl⟩;clear hR;obtain ⟨rfl,hR⟩:=hcut;have DE:=Ae hT;have hTb:T<1000000000000000000:=qB;have hyp:0<y1:=by
     have:=KC.out.v1 lv (by rw [HLV.out];exact Mw _ _) PX.out (by rw [HLV.out,←HV.out];exact Qw _ _ (by rw [HV.out];exact KC.out.vlt));rw [←NR.out] at this;exact this
    have a6u:(1:Int)≤(y1:Int):=qB;have a6v:¬(y1:Int)=0:=qB;clear hT;have k1:=hR.cV;have k2:=EY1.out _ hR;have hHb:H<wb.heap.size:=hR.lt KD H qH;go_upto_region 11 with fail
    clear k1 k2;obtain ⟨gs,SH⟩:∃gs:Nat,gs=min (T/y1) 999999999:=⟨_,rfl⟩;have ZJ:(if 999999999<IntKind.u64.wrap ((T:Int)/(y1:Int)) then (999999999:Int) else IntKind.u64.wrap ((T:Int)/(y1:Int)))=(gs:Int):=by
     rw [SH,←Int.natCast_ediv];exact sW _ (Nat.lt_of_le_of_lt (Nat.div_le_self _ _) hTb)
    have ahb:min (IntKind.u64.wrap ((T:Int)/(y1:Int))) 999999999=(gs:Int):=by rw [←ZJ];split<;>omega
    first|rw [ZJ]|rw [ahb]
    clear ahb;obtain ⟨we,hwe⟩:∃we,we=wb.alloc (Obj.cells #[Value.int IntKind.u64 (gs:Int)] 235):=⟨_,rfl⟩;rw [←hwe];obtain ⟨G,hG⟩:∃G,G=wb.heap.size:=⟨_,rfl⟩;rw [←hG];have hBe:xp wb we:=by rw [hwe];go_grown
    have qf:Z we G 0 (.int .u64 (gs:Int)):=by rw [hwe,hG];simp [go_sem]
    have vq:Y we G 0:=by rw [hwe,hG];simp [go_sem]
    have hGd:Hid (∀k,(k=bu∨k=Vb∨k=bv∨k=Q∨k=H)→k≠G):=Ae (fun k hk=>Nat.ne_of_lt (by rw [hG];exact hR.lt KD k hk));have hGw:w.heap.size≤G:=by have:=hR.hb.size;omega
    replace hR:=hR.keep KD hBe;have hgq:Hid (val iz=val (lu.drop g)):=Ae (by rw [HH.out];exact HD.out.head (by rw [HV.out];exact Nat.le_of_lt KC.out.vlt));have UG:Hid (val lv=V):=Ae (by rw [HLV.out];exact Qw _ _ (by rw [HV.out];exact KC.out.vlt));have KS:0<V:=by rw [HV.out];exact KC.out.vpos
    obtain ⟨gq,RZ⟩:∃gq,gq=val iz/V:=⟨_,rfl⟩;have arc:gq<1000000000:=by rw [RZ,hgq.out];exact (Nat.div_lt_iff_lt_mul KS).2 HD.out.head_lt
    have l9:n'-2+1=n'-1:=qB;have nw:n'-2+2=n':=qB;have hGS:Zd lv iz V gq (n'-2) T (T-gs*y1) gs:=by
     have:=aB (v:=lv) (head:=iz) (V:=V) (g:=gq) (k:=n'-2) (two:=T) (by rw [hR.rv.len];omega) (by rw [hR.rH.len];omega) PX.out ZH.out UG.out (by rw [l9,←NR.out];exact hyp) RZ arc (by rw [l9,nw,←WI.out,←ZT.out];exact DE.out);rw [l9,←NR.out,←SH] at this;exact this
    have CK:=hGS.two;rw [l9,←NR.out] at CK;obtain ⟨ov,hov⟩:∃ov,ov=T-gs*y1:=⟨_,rfl⟩;rw [←hov] at hGS CK;obtain ⟨ahf,ard,arf⟩:=mQ CK;have HGQ:=Ae RZ;have HGS:=Ae hGS;have HOV:=Ae ahf;have HGE:=Ae hG;have SN:=Ae (Ax l9 nw);have xt:=hGS.small;clear SH ZJ hwe hG hBe hGS CK hov ahf RZ l9 nw hHb;go_cut [14] (fun v14 wf=>v14=.int .u64 (ov:Int)∧Z wf G 0 (.int .u64 (gs:Int))∧Y wf G 0∧I2 w wf bu Vb bv Q H n n' m g lu lq lv iz)
    case first =>
     have k0:=Bk qf;have k1:=Bk hR.cV;have k2:=Bk (EY1.out _ hR);(refine Bi qE qE ?_;(repeat (go_big_quiet_step (fail)));refine wpQuiet_nil ?_;intro _ cw;obtain ⟨nq,cw⟩:=cw;subst cw);rw [HOV.out];clear k0 k1 k2;have uh:=nq.2;replace vq:=(uh.frozen (Aa _ _ qf)).trans vq;replace qf:=Bb uh qf;replace hR:=hR.keep KD uh;generalize nq.val=wf at *;clear nq uh;go_wp2_with fail;go_meet
     case rel=>exact ⟨rfl,qf,vq,hR⟩
    case rest =>
    obtain ⟨wf,rfl⟩:∃x:World,x=wc:=⟨_,rfl⟩;clear hR qf vq arf ard;obtain ⟨rfl,qf,vq,hR⟩:=hcut;go_upto_block 2 with fail
    go_cut [] (fun wx=>∃gs:Nat,gs≤999999999∧gq≤gs∧Z wx G 0 (.int .u64 (gs:Int))∧Y wx G 0∧I2 w wx bu Vb bv Q H n n' m g lu lq lv iz)
    case first =>
     go_wp2_with fail;go_loopg [14] gs (fun gg v14 wx=>∃(ov gs:Nat),v14=.int .u64 (ov:Int)∧gg=gs∧Hid (Zd lv iz V gq (n'-2) T ov gs)∧Z wx G 0 (.int .u64 (gs:Int))∧Y wx G 0∧I2 w wx bu Vb bv Q H n n' m g lu lq lv iz)
     case atStart=>exact ⟨ov,gs,rfl,rfl,HGS,qf,vq,hR⟩
     case round =>
      clear qf vq hR HGS HOV xt;obtain ⟨UI,JB,rfl,hgg,ZK,qf,vq,hR⟩:=hrel;have xt:=ZK.out.small;have uy:JB*y0≤999999999*999999999:=Nat.mul_le_mul xt (Nat.le_of_lt_succ by0);have arj:(JB:Int)*(y0:Int)≤999999998000000001:=by have:=Int.ofNat_le.2 uy;rw [Int.natCast_mul] at this;exact this
      have ark:(0:Int)≤(JB:Int)*(y0:Int):=Int.mul_nonneg (Int.natCast_nonneg _) (Int.natCast_nonneg _);clear uy;have k0:=Bk qf;have k1:=Bk hR.cV;have k2:=Bk (EY0.out _ hR);have k3:=Bk hR.cH;have k4:=Bk (EX0.out _ hR);by_cases h1:UI<1000000000
      ·have h1I:(UI:Int)<1000000000:=qB;by_cases h2:UI*1000000000+x0<JB*y0
       ·have h2I:(UI:Int)*1000000000+(x0:Int)<(JB:Int)*(y0:Int):=by have:=Int.ofNat_lt.2 h2;rw [Int.natCast_add,Int.natCast_mul,Int.natCast_mul] at this;exact this
        have iv:=Zb ZK.out (by rw [hR.rv.len];omega) (by rw [hR.rH.len];omega) ZH.out UG.out HGQ.out (by rw [SN.out.1,SN.out.2,←WI.out,←ZT.out];exact DE.out) (by rw [←HX0.out,←HY0.out];exact h2);rw [SN.out.1,←NR.out] at iv;have qe:=Ae iv.2;have oh:=iv.1;have arl:(1:Int)≤(JB:Int):=qB;clear iv h2;go_upto_region 12 with fail
        (refine Bi qE qE ?_;(repeat (go_big_quiet_step (fail)));refine wpQuiet_nil ?_;intro _ cw;obtain ⟨nq,cw⟩:=cw;subst cw);clear k0 k1 k2 k3 k4;have uh:=nq.2;replace vq:=(uh.frozen (Aa _ _ qf)).trans vq;replace qf:=Bb uh qf;replace hR:=hR.keep KD uh;generalize nq.val=wy at *;clear nq uh;clear h2I ark arj h1 oh aq9 hmI;have n1:¬Vb=G:=hGd.out Vb qH;have n2:¬bv=G:=hGd.out bv qH;have n3:¬G=Vb:=fun e=>n1 e.symm
        have n4:¬G=bv:=fun e=>n2 e.symm
        have k1:=hR.cV;have k2:=EY1.out _ hR;go_upto_region 14 with fail
        go_upto_region 13 with fail
        go_wp2_with fail;go_roundg (JB-1)
        case measure=>omega
        case rel =>
         refine ⟨UI+y1,JB-1,qZ,rfl,qe,?_,?_,hR.set hGd.out hGw _ _⟩
         ·have e:((JB-1:Nat):Int)=(JB:Int)-1:=qB;rw [e];simp [qf,go_sem]
         ·simp [vq,go_sem]
       ·have h2I:¬(UI:Int)*1000000000+(x0:Int)<(JB:Int)*(y0:Int):=fun h=>h2 (Int.ofNat_lt.1 (by rw [Int.natCast_add,Int.natCast_mul,Int.natCast_mul];exact h))
        have h2D:decide ((UI:Int)*1000000000+(x0:Int)<(JB:Int)*(y0:Int))=false:=decide_eq_false h2I;clear h2 h2I;exact qBn
      ·have h1D:decide ((UI:Int)<1000000000)=false:=decide_eq_false qB;clear h1;exact qBn
    case rest =>
    obtain ⟨wx,rfl⟩:∃x:World,x=wc:=⟨_,rfl⟩;clear hR qf vq xt HGS HOV;obtain ⟨gx,xt,NL,qf,vq,hR⟩:=hcut;by_cases LH:gx=0
    ·have hz:val iz<V:=by
      have h1:gq=0:=qB;have h2:=HGQ.out;rw [h1] at h2;exact (Nat.div_eq_zero_iff_lt KS).1 h2.symm
     have iv:=Ae (HD.out.skip (by rw [←hgq.out];exact hz));rw [LH] at qf;clear hz NL xt;go_wp2_with fail;go_roundg g
     case measure=>omega
     case rel=>exact ⟨lu,lq,qZ,Nat.le_of_succ_le hgm,iv,hR.ru,hR.own,hR.cV,(by rw [←HLV.out];exact hR.rv),hR.hb⟩
    ·have arn:((gx:Int)==0)=false:=by rw [beq_eq_false_iff_ne];omega
     clear LH;go_wp2_with fail;go_loopg [] gx (fun gg wx=>∃gs:Nat,gg=gs∧gs≤999999999∧gq≤gs∧Z wx G 0 (.int .u64 (gs:Int))∧Y wx G 0∧I2 w wx bu Vb bv Q H n n' m g lu lq lv iz)
     case atStart=>exact ⟨gx,rfl,xt,NL,qf,vq,hR⟩
     case round =>
      clear qf vq hR xt NL arn;obtain ⟨gs,hgg,xt,NL,qf,vq,hR⟩:=hrel;have qq:=Xa (X:=val iz) NL KS HGQ.out;have HGB:=Ae qq;have hdd:∀i,i<n'+1→-4000000000000000000≤lim iz i-(gs:Int)*lim lv i∧lim iz i-(gs:Int)*lim lv i≤4000000000000000000:=by
       intro i _;have a1:=hR.rH.small i;have a2:=hR.rv.small i;have a3:=Hi PX.out i;have a4:0≤(gs:Int)*lim lv i:=Int.mul_nonneg (Int.natCast_nonneg _) a2.1;have a5:(gs:Int)*lim lv i≤999999999*999999999:=Int.mul_le_mul (Int.ofNat_le.2 xt) qB a2.1 qB;omega
      have LC:=Ae hdd;clear qq hdd;go_wp2_with fail;refine (eI _ _ (n'+1) qB _ _ _ (fun i=>lim iz i-(gs:Int)*lim lv i) qB LC.out (fun i W hi hW=>kF W H G Vb _ _ _ iz _ _ _ lv gs qB i hi (hR.rH.keep hW) (hR.rv.keep hW) (by have:=Hi PX.out i;omega) (Bb hW hR.cH) (Bb hW qf) (Bb hW hR.cV))).mono ?_;rintro e w4 ⟨ac,rfl,rp,vk,ec⟩;obtain ⟨bl,a6x,rfl,rq,zt,ij⟩:=vk.resolve_left qB;replace vq:=(ec.frozen (Aa _ _ qf)).trans vq;replace qf:=Bb ec qf;have aro:bu<bl:=Nat.lt_of_lt_of_le (hR.lt KD bu qH) rq;replace hR:=hR.keep KD ec;clear ec;have c1:=hR.cH;have c2:=hR.cV;go_wp2_with fail;refine (vS _ _ _ _ iz _ _ _ lv gs hR.rH hR.rv ZH.out PX.out qB qB).mono ?_;rintro e w5 ⟨rfl,dx⟩;replace vq:=(dx.frozen (Aa _ _ qf)).trans vq;replace qf:=Bb dx qf;replace hR:=hR.keep KD dx;replace rp:=rp.keep dx;clear dx c1 c2 vk zt ij;rw [UG.out];by_cases rq:val iz<V*gs
      ·rw [decide_eq_true rq];have AO:=HGB.out.1 rq;have arl:(1:Int)≤(gs:Int):=qB;clear rq;go_wp2_with fail;go_roundg (gs-1)
       case measure=>omega
       case rel =>
        refine ⟨gs-1,rfl,qB,AO.1,?_,?_,hR.set hGd.out hGw _ _⟩
        ·have e:((gs-1:Nat):Int)=(gs:Int)-1:=qB;rw [e];simp [qf,go_sem]
        ·simp [vq,go_sem]
      ·rw [decide_eq_false rq];have AO:=HGB.out.2 rq;obtain ⟨less,GF⟩:∃less,less=fxI (n'+1) (Dc (fun i=>lim iz i-(gs:Int)*lim lv i) (n'+1)):=⟨_,rfl⟩;rw [←GF] at rp;have AN:less.length=n'+1:=rp.len;have ahg:gs*V≤val iz:=by rw [Nat.mul_comm];exact Nat.le_of_not_lt rq
       have ZL:∀x∈less,x<1000000000:=by rw [GF];exact Ql _ _
       have IV:val less=val (lu.drop g)-gs*V:=by
        rw [GF,wP iz lv gs (n'+1) (by rw [hR.rH.len];omega) (by rw [hR.rv.len];omega) (by rw [UG.out];exact ahg),UG.out,←hgq.out];refine Qb _ _ (Nat.lt_of_le_of_lt (Nat.sub_le _ _) ?_);have:=Ep iz ZH.out;rw [hR.rH.len] at this;exact this
       have iv:=HD.out.step (by rw [HV.out];exact Nat.le_of_lt KC.out.vlt) KS gs (by rw [AO,HGQ.out,hgq.out]) AN ZL IV;obtain ⟨cur,arp,arq,ars,ahh⟩:=hR.ru;have qe:=Ae iv;have HCU:=Ae ahh;have ahi:(Cg less).length=n'+1:=by rw [C5,AN]
       have BB:=Ae AN;have a6z:bl≠bu:=Nat.ne_of_gt aro;have c1:=hR.cH;have oo:g+(n'+1)≤n+1:=qB;clear rq AO GF ahg ZL IV iv ahh AN;have ahj:∀k,(k=Vb∨k=bv∨k=H∨k=Q∨k=G)→k≠bu:=by
        have e1:=HNE.out;have e2:=HQN.out;have e3:=hGd.out bu qH;rintro k (rfl|rfl|rfl|rfl|rfl)
        ·exact Ne.symm e1.1
        ·exact Ne.symm e1.2.1
        ·exact HHU.out
        ·exact Nat.ne_of_gt e2.1
        ·exact Ne.symm e3
       have HNQ:=Ae ahj;have art:g<lq.length:=by have:=HD.out.qlen;omega
       clear ahj;go_wp2_with (with_reducible refine Pr rfl (.tmp 129) (.tmp 130) 49 49 rfl 129 underlying49 qE bu g (n'+1) (n+1-g) (J bl 0) (n'+1) (n'+1) rfl rfl cur 129 arp (Cg less) (by rw [ahi];simp) (Jy rp) (by rw [ahi];omega) (Mf less) ?_;intro wz GK JC hy3 hy4;have cG2:Z wz G 0 (.int .u64 (gs:Int)):=(Af (JC.out G (HNQ.out G qH))).trans qf;have cv:=Uc hR.own (JC.out Q (HNQ.out Q qH));have hcQ:=cv.cellAt g qB;rw [Ih art] at hcQ;have hfQ:=cv.frozenAt g;have GL:=Ae (cv.stored g (.int .u32 (gs:Int))).1;clear cv);go_roundg g
       case measure=>omega
       case rel =>
        have hQu:Q≠bu:=HNQ.out Q qH;have hQB:=HQN.out;have je:=(Row.spliced (g:=bu) (off:=g) (less:=less) HCU.out arq ars (by rw [BB.out];omega) GK.out);refine ⟨_,lq.set g gs,qZ,Nat.le_of_succ_le hgm,qe,je.setCell _ _ hQu,?_,?_,?_,?_⟩
        ·rw [Lo];exact GL.out
        ·rw [World.cell?_setCell_far _ _ _ _ (Nat.ne_of_gt hQB.2.1)];exact (Af (JC.out Vb (HNQ.out Vb qH))).trans hR.cV
        ·rw [←HLV.out];exact (hR.rv.blk (JC.out bv (HNQ.out bv qH))).blk (Below.heap_setCell _ _ _ _ (Nat.ne_of_lt hQB.2.2.1))
        ·exact (hR.hb.trans (hy3 _ hbu)).trans ⟨rfl,rfl,rfl,qH,fun k hk=>Below.heap_setCell _ _ _ _ (Nat.ne_of_lt (Nat.lt_of_lt_of_le hk hQB.2.2.2))⟩
section
variable {P:Program} {ops:Array Oper} {Q:Exit→Act→World→Prop} {md:Region.Mode} {C:World→Prop} {s:Nat}
def Bd (P:Program) (md:Region.Mode) (ops:Array Oper) (Q:Exit→Act→World→Prop) (C:World→Prop) (s:Nat):Nat→Array Bool→Act→World→Prop
 | 0,l,a,w=>Region.ready md ops l=[]∧Q .normal a w
 | f+1,l,a,w=>(Region.ready md ops l=[]→Q .normal a w) ∧
   ∀i∈Region.ready md ops l,wpOp P ops Q i (fun a' w'=>((l.setIfInBounds i true).getD s true=false→C w')∧Bd P md ops Q C s f (l.setIfInBounds i true) a' w') a w
theorem Bd.any:∀(f:Nat) (l:Array Bool) (a:Act) (w:World),Bd P md ops Q C s f l a w→wpAny P md ops Q f l a w
 | 0,_,_,_,h=>h
 | f+1,_,_,_,h=>⟨h.1,fun i hi=>wpOp_mono (fun a' w' h'=>Bd.any f _ a' w' h'.2) (h.2 i hi)⟩
def Gv (md:Region.Mode) (ops:Array Oper) (s i:Nat):Bool :=
 match ops[s]? with
 | none=>false
 | some o=>o.after.any fun e=>Region.binds md e&&e.on==i
theorem Ng {s:Nat} {l:Array Bool} (hw:Gv md ops s i=true) (h0:l.getD i true=false):s∉Region.ready md ops l:=by
 intro hs;obtain ⟨_,o,ho,fh⟩:=mem_ready.1 hs;rw [Gv,ho] at hw;obtain ⟨e,he,hb⟩:=Array.any_eq_true'.1 hw;rw [Bool.and_eq_true,beq_iff_eq] at hb;have h1:=fh e he hb.1;rw [hb.2] at h1;rcases Nat.lt_or_ge i l.size with h'|h'
 ·simp [h'] at h0 h1;rw [h0] at h1;cases h1
 ·simp [Array.getElem?_eq_none h'] at h1
theorem Bd.first {oi:Oper} (hi:ops[i]? = some oi) (MN:∀(j:Nat) (o:Oper) cs b,ops[j]? = some o→o.op≠.select cs b)
  (hQ:∀c a w,Q (.panic c) (a.put oi.dst v) w→Q (.panic c) a w) {k:Nat} (hwk:Gv md ops k i=true) (hws:k=s∨Gv md ops s k=true) (VD:i≠k) (his:i≠s) :
  ∀(f:Nat) (l:Array Bool) (a:Act) (w:World),
   (∀j oj,ops[j]? = some oj→j≠i→l.getD j true=false→(∀e∈oj.after,Region.binds md e=true→e.on≠i)→oi.apart ops oj=true) →
   i∈Region.ready md ops l→l.getD k true=false→l.getD s true=false→YieldsIf P ops C oi v a→C w →
   Bd P md ops Q C s f (l.setIfInBounds i true) (a.put oi.dst v) w→Bd P md ops Q C s (f+1) l a w:=by
 intro f
 induction f with
 | zero =>
  intro l a w _ hr _ _ hy hC H;exact qCx
 | succ f ih =>
  intro l a w FU hr hk hs hy hC H;refine ⟨fun h=>(by rw [h] at hr;cases hr),fun j hj=>?_⟩;rcases Decidable.em (j=i) with rfl|BK
  ·exact hy.wpOp hi hC ⟨fun _=>hC,H⟩
  ·have sy:=(mem_ready.1 hr).1;have MO:j≠k:=fun h=>Ng hwk sy (h▸hj)
   have hjs:j≠s:=fun h=>hws.elim (fun e=>MO (h.trans e.symm)) (fun e=>Ng e hk (h▸hj))
   obtain ⟨RF,oj,TP,fh⟩:=mem_ready.1 hj;have YA:∀e∈oj.after,Region.binds md e=true→e.on≠i:=fun e he hb heq=>qDj
   have h2:=wpOp_putIf TP (FU j oj TP BK RF YA) (fun cs b=>MN i oi cs b hi) (fun cs b=>MN j oj cs b TP) hQ hy (H.2 j (ready_mono hj BK));have vn:(l.setIfInBounds j true).getD k true=false:=by rw [getD_set_ne true MO];exact hk
   have xw:(l.setIfInBounds j true).getD s true=false:=by rw [getD_set_ne true hjs];exact hs
   have hsi:((l.setIfInBounds i true).setIfInBounds j true).getD s true=false:=by rw [getD_set_ne true hjs,getD_set_ne true his];exact hs
   have ES:∀k ok,ops[k]? = some ok→k≠i→(l.setIfInBounds j true).getD k true=false →
     (∀e∈ok.after,Region.binds md e=true→e.on≠i)→oi.apart ops ok=true:=fun m om hm hmi hun JW=>qEl
   refine wpOp_mono (fun a' w' h3=>⟨fun _=>h3.2.1 hsi,ih (l.setIfInBounds j true) a' w' ES (ready_mono hr (Ne.symm BK)) vn xw h3.1 (h3.2.1 hsi) ?_⟩) h2;rw [Array.setIfInBounds_comm _ _ BK];exact h3.2.2
theorem Bd.take {oi:Oper} {l:Array Bool} (hi:ops[i]? = some oi)
  (hk:(Region.noSelect ops&&Region.free md ops l i&&(Region.ready md ops l).contains i&&Gv md ops k i&&(k==s || Gv md ops s k)&&!(i==k)&&!(i==s)&&!(l.getD k true)&&!(l.getD s true))=true)
  (hQ:∀c a w,Q (.panic c) (a.put oi.dst v) w→Q (.panic c) a w) (hy:YieldsIf P ops C oi v a) (hC:C w)
  (h:Bd P md ops Q C s f (l.setIfInBounds i true) (a.put oi.dst v) w):Bd P md ops Q C s (f+1) l a w:=by
 simp only [Bool.and_eq_true,Bool.or_eq_true,Bool.not_eq_true',beq_eq_false_iff_ne,beq_iff_eq] at hk;obtain ⟨⟨⟨⟨⟨⟨⟨⟨h1,h2⟩,h3⟩,h4⟩,h5⟩,h6⟩,h7⟩,h8⟩,h9⟩:=hk;exact Bd.first hi (Region.noSelect_spec h1) hQ h4 h5 h6 h7 f l a w (Region.free_spec hi h2) (by simpa using h3) h8 h9 hy hC h
theorem xc (i:Nat) {oi:Oper} {l:Array Bool} (h:Bd P md ops Q C s f (l.setIfInBounds i true) (a.put oi.dst v) w) (hi:ops[i]? = some oi:=by rfl) (hk:(Region.noSelect ops&&Region.free md ops l i&&(Region.ready md ops l).contains i&&Gv md ops k i&&(k==s || Gv md ops s k)&&!(i==k)&&!(i==s)&&!(l.getD k true)&&!(l.getD s true))=true:=by kernel_rfl) (hQ:∀c a w,Q (.panic c) (a.put oi.dst v) w→Q (.panic c) a w:=by exact fun _ _ _ h=>h) (hA:Region.wanted oi (yielded ops a.tmps)=true:=by rfl) (hB:∀w,C w→(execOp a.eval oi).run P w=.ok (.value v) w:=by (intro w' vp;(try dsimp only at vp);go_simp;(try with_reducible rfl))) (hC:C w:=by assumption):Bd P md ops Q C s (f+1) l a w:=Bd.take k hi hk hQ (.inl ⟨hA,hB⟩) hC h
theorem Bd.one {o:Oper} {l:Array Bool} (ho:ops[i]? = some o) (hr:Region.ready md ops l=[i])
  (h:∀K':Act→World→Prop,Shut (∀a w,((l.setIfInBounds i true).getD s true=false→C w)→Bd P md ops Q C s f (l.setIfInBounds i true) a w→K' a w)→if Region.wanted o (yielded ops a.tmps)=true then Oper.wp P o a w K' Q else K' (a.put o.dst undef) w) :
  Bd P md ops Q C s (f+1) l a w:=by
 refine ⟨fun h0=>(by rw [hr] at h0;cases h0),?_⟩;rw [hr];intro j hj;rw [Ao] at hj;subst hj;exact wpOp_step ho (fun K' hK=>h K' (fun a w h1 h2=>hK a w ⟨h1,h2⟩))
theorem Bd.done {l:Array Bool} {a:Act} {w:World} (hr:Region.ready md ops l=[]) (h:Q .normal a w):∀f,Bd P md ops Q C s f l a w
 | 0=>⟨hr,h⟩
 | _+1=>⟨fun _=>h,by rw [hr];simp⟩
theorem Bw {id:Nat} (C:World→Prop) (s:Nat) (hm:P.follows .mixedOrders=true) (hC:C w.drew)
  (h:C w.drew→Bd P .any ops Q C s ops.size (Array.replicate ops.size false) a w.drew):(Code.region id ops true).wp P Q a w :=
 wp_region_any hm (Bd.any _ _ _ _ (h hC))
end
end Go.Proofs.YtfijkfdfbnfmmaaGreatDoor
end
