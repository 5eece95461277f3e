/- Package limbs: divide: an amount by another one of more than one part. -/
import Derived.Test.YtnnhcbeiogaknaaGreatDoorQV4
set_option linter.unusedSimpArgs false
set_option linter.unusedVariables false
set_option maxRecDepth 100000
set_option maxHeartbeats 4000000
section
namespace Go.Proofs.YtnnhcbeiogaknaaGreatDoor
open Go.RowKit
theorem cK (w:World) (M:Int) (m:Nat) (hM:M=m) (c1 c2 c3:Value) (D:Nat→Int) (hm:m≤35184372088832)
  (hD:∀i,i<m→-4000000000000000000≤D i∧D i≤4000000000000000000)
  (hcall:∀(i:Nat) (W:World),i<m→Below w.heap.size w W→Θ 262 #[.int .i64 i,c1,c2,c3] W fun e W'=>e=.returned (.int .i64 (D i))∧Below W.heap.size W W') :
  Θ 230 #[.int .i64 M,.func (.func 262) #[] #[c1,c2,c3]] w (Je w m D):=by
 subst hM;exact iT w m c1 c2 c3 D hm hD hcall
theorem jJ (w:World) (H G V:Nat) (a:Γ) (n c:Nat) (d:Ξ) (a':Γ) (n' c':Nat) (d':Ξ) (k:Nat) (hk:k<1000000000) (i:Nat) (hi:i<n) (hd:RdL w a n c d) (hd':RdL w a' n' c' d') (hlt:lim d' i<1000000000)
  (h1:w.cell? ⟨H,0,none⟩=some (.slice a n c)) (h2:w.cell? ⟨G,0,none⟩=some (.int .u64 k)) (h3:w.cell? ⟨V,0,none⟩=some (.slice a' n' c')) :
  Θ 262 #[.int .i64 i,.pointer (some ⟨H,0,none⟩),.pointer (some ⟨G,0,none⟩),.pointer (some ⟨V,0,none⟩)] w fun e w'=>e=.returned (.int .i64 (lim d i-k*lim d' i))∧Below w.heap.size w w':=by
 have hs:=hd.small i;have hs':=hd'.small i;have hn:=hd.few;have h0:0≤(k:Int)*lim d' i:=Int.mul_nonneg qA hs'.1;have h1':(k:Int)*lim d' i≤999999999*999999999:=Int.mul_le_mul qA qA qA qA;obtain ⟨b,o,rfl,c1⟩:=hd.at' hi;go_enter Tryz.func262,Tryz.ntmps262;go_wp2;go_quiet ((first|(go_at_call 232;first|exact Ga (He _ _ _ _ d' i (hd'.keep (Bu _ (Ac _ _))))|exact E8 (He _ _ _ _ d' i (hd'.keep (Bu _ (Ac _ _)))))));exact qDm
def Row (w:World) (g n:Nat) (l:Ξ):Prop:=∃cur:List Value,w.heap[g]? = some (.cells cur.toArray 147 (0,0))∧l.length=n∧n≤cur.length∧cur.take n=C7 l
theorem Row.block {w w':World} {g n:Nat} {l:Ξ} (h:Row w g n l) (e:w'.heap[g]? = w.heap[g]?):Row w' g n l:=by
 obtain ⟨cur,h1,h2⟩:=h;exact ⟨cur,e.trans h1,h2⟩
theorem Row.lt {w:World} {g n:Nat} {l:Ξ} (h:Row w g n l):g<w.heap.size:=by
 obtain ⟨cur,h1,_⟩:=h;exact (Ar.1 h1).1
theorem Row.keep {w w':World} {g n:Nat} {l:Ξ} (h:Row w g n l) (hb:Below w.heap.size w w'):Row w' g n l:=h.block (hb.block g h.lt)
theorem Row.setCell {w:World} {g n:Nat} {l:Ξ} (h:Row w g n l) (p:Addr) (u:Value) (hp:p.block≠g):Row (w.setCell p u) g n l:=h.block (Below.heap_setCell _ _ _ _ (Ne.symm hp))
theorem Row.rdl {w:World} {g n:Nat} {l:Ξ} (h:Row w g n l) (hlt:∀x∈l,x<1000000000) (c:Nat) (hc:n≤c) (hn:n≤35184372088832) (hc2:c≤9223372036854775807):RdL w (some ⟨g,0,none⟩) n c l:=by
 obtain ⟨cur,h1,h2,h3,h4⟩:=h;refine ⟨h2,hc,hn,hc2,Dw (fun x hx=>by have:=hlt x hx;omega),.inr ⟨g,0,rfl,fun i hi=>?_⟩⟩;rw [Nat.zero_add,cell_of_row w g i cur.toArray 147 (0,0) h1];have h5:(cur.take n)[i]? = cur[i]?:=by rw [List.getElem?_take,if_pos hi]
 rw [List.getElem?_toArray,←h5,h4,Oz qA];rfl
theorem Row.of_rdl {w:World} {g n c:Nat} {l:Ξ} {cur:Array Value} (h:RdL w (some ⟨g,0,none⟩) n c l) (hg:w.heap[g]? = some (.cells cur 147 (0,0))) (hc:n≤cur.size):Row w g n l:=by
 refine ⟨cur.toList,by simpa using hg,h.len,by simpa using hc,?_⟩;apply List.ext_getElem?;intro i;have hl:=h.len;rcases Nat.lt_or_ge i n with h1|h1
 ·have h2:=h.at h1;rw [Nat.zero_add,cell_of_row w g i cur 147 (0,0) hg] at h2;rw [List.getElem?_take,if_pos h1,Oz qA,Array.getElem?_toList];exact h2
 ·rw [List.getElem?_eq_none qJ,List.getElem?_eq_none (by rw [Dm];omega)]
theorem RdL.blk {w w':World} {b o n c:Nat} {d:Ξ} (h:RdL w (some ⟨b,o,none⟩) n c d) (e:w'.heap[b]? = w.heap[b]?):RdL w' (some ⟨b,o,none⟩) n c d:=by
 refine ⟨h.len,h.cap,h.few,h.top,h.small,?_⟩;rcases Aq n with h0|h0
 ·exact .inl h0
 ·exact .inr ⟨b,o,rfl,fun i hi=>(Af (w:=w) e).trans (h.at hi)⟩
theorem S3 {w w':World} {base g n c:Nat} {xs:List Value} (h:w.ownsRow base 147 1 (.slice (some ⟨g,0,none⟩) n c) n xs) (e:w'.heap[g]? = w.heap[g]?):w'.ownsRow base 147 1 (.slice (some ⟨g,0,none⟩) n c) n xs:=by
 refine ⟨h.1,?_⟩;rcases h.2 with ⟨hn,_⟩|⟨g',cap,cur,hv,hb,hg,rest⟩
 ·cases hn
 ·simp only [Value.slice.injEq,Option.some.injEq,Addr.mk.injEq,and_true,true_and] at hv;obtain ⟨rfl,rfl⟩:=hv;exact .inr ⟨g,c,cur,rfl,hb,e.trans hg,rest⟩
structure Io (w wx:World) (bu Vb bv Q H n n' m g:Nat) (lu lq lv hd0:Ξ):Prop where
 ru:Row wx bu (n+1) lu
 own:wx.ownsRow Q 147 1 (.slice (some ⟨Q,0,none⟩) m m) m (C7 lq)
 cV:wx.cell? ⟨Vb,0,none⟩=some (.slice (some ⟨bv,0,none⟩) n' (n'+1))
 rv:RdL wx (some ⟨bv,0,none⟩) n' (n'+1) lv
 cH:wx.cell? ⟨H,0,none⟩=some (.slice (some ⟨bu,g,none⟩) (n'+1) (n+1-g))
 rH:RdL wx (some ⟨bu,g,none⟩) (n'+1) (n+1-g) hd0
 hb:Below w.heap.size w wx
theorem Io.turn {w wx wy:World} {bu Vb bv Q H n n' m g:Nat} {lu lq lv hd0:Ξ} (h:Io w wx bu Vb bv Q H n n' m g lu lq lv hd0) (e:∀k,(k=bu∨k=Vb∨k=bv∨k=Q∨k=H)→wy.heap[k]? = wx.heap[k]?) (hB:Below w.heap.size w wy) :
  Io w wy bu Vb bv Q H n n' m g lu lq lv hd0 :=
 ⟨h.ru.block (e _ (.inl rfl)),S3 h.own (e _ (.inr (.inr (.inr (.inl rfl))))),(Af (e Vb (.inr (.inl rfl)))).trans h.cV,h.rv.blk (e _ (.inr (.inr (.inl rfl)))),(Af (e H (.inr (.inr (.inr (.inr rfl)))))).trans h.cH,h.rH.blk (e _ (.inl rfl)),hB⟩
theorem Io.lt {w wx:World} {bu Vb bv Q H n n' m g:Nat} {lu lq lv hd0:Ξ} (h:Io w wx bu Vb bv Q H n n' m g lu lq lv hd0) (hn:0<n'):∀k,(k=bu∨k=Vb∨k=bv∨k=Q∨k=H)→k<wx.heap.size:=by
 rintro k (rfl|rfl|rfl|rfl|rfl)
 ·exact h.ru.lt
 ·exact Aa _ _ h.cV
 ·exact Aa _ _ (h.rv.at hn)
 ·exact (h.own.lt k rfl).2
 ·exact Aa _ _ h.cH
theorem Io.keep {w wx wy:World} {bu Vb bv Q H n n' m g:Nat} {lu lq lv hd0:Ξ} (h:Io w wx bu Vb bv Q H n n' m g lu lq lv hd0) (hn:0<n') (hb:Below wx.heap.size wx wy):Io w wy bu Vb bv Q H n n' m g lu lq lv hd0 :=
 h.turn (fun k hk=>hb.block k (h.lt hn k hk)) (h.hb.trans (hb.mono h.hb.size))
theorem Io.set {w wx:World} {bu Vb bv Q H n n' m g G:Nat} {lu lq lv hd0:Ξ} (h:Io w wx bu Vb bv Q H n n' m g lu lq lv hd0) (hG:∀k,(k=bu∨k=Vb∨k=bv∨k=Q∨k=H)→k≠G) (hw:w.heap.size≤G) (o:Nat) (u:Value):Io w (wx.setCell ⟨G,o,none⟩ u) bu Vb bv Q H n n' m g lu lq lv hd0 :=
 h.turn (fun k hk=>Below.heap_setCell _ _ _ _ (hG k hk)) (h.hb.trans ⟨rfl,rfl,rfl,by simp,fun k hk=>Below.heap_setCell _ _ _ _ (by show k≠G;omega)⟩)
theorem xZ (hd lv:Ξ) (gs m:Nat) (h:hd.length≤m) (h':lv.length≤m) (hv:gs*val lv≤val hd):Cz (fun i=>lim hd i-gs*lim lv i) m=((val hd-gs*val lv:Nat):Int):=by
 have e:Cz (fun i=>lim hd i-gs*lim lv i) m=Cz (fun i=>lim hd i+(fun i=>(-(gs:Int))*lim lv i) i) m:=Nk (fun i _=>by show lim hd i-gs*lim lv i=lim hd i+(-(gs:Int))*lim lv i;rw [Int.neg_mul,Int.sub_eq_add_neg]);rw [e,Si (fun i=>lim hd i) (fun i=>(-(gs:Int))*lim lv i),Rn (fun i=>lim lv i),show Cz (fun i=>lim hd i) m=val hd from Gm hd m h,show Cz (fun i=>lim lv i) m=val lv from Gm lv m h',Int.neg_mul];rw [Int.natCast_sub hv,Int.natCast_mul];rfl
theorem tW (q:Nat) (h:q<1000000000000000000):(if 999999999<IntKind.u64.wrap (q:Int) then (999999999:Int) else IntKind.u64.wrap (q:Int))=((min q 999999999:Nat):Int):=by
 simp only [IntKind.wrap_u64]
 split<;>omega
theorem lW {T ov gs y:Nat} (h:T=ov+gs*y):(T:Int)-(gs:Int)*(y:Int)=(ov:Int)∧(gs:Int)*(y:Int)≤(T:Int)∧0≤(gs:Int)*(y:Int):=by
 subst h;have:(0:Int)≤(gs:Int)*(y:Int):=Int.mul_nonneg qA qA;rw [Int.natCast_add,Int.natCast_mul];omega
theorem Wd {X V gq gs:Nat} (hle:gq≤gs) (hV0:0<V) (hg:gq=X/V):(X<V*gs→gq≤gs-1∧1≤gs)∧(¬X<V*gs→gs=gq):=by
 constructor
 ·intro hb;have:gq<gs:=by rw [hg,Nat.div_lt_iff_lt_mul hV0,Nat.mul_comm];exact hb
  omega
 ·intro hb;have:gs≤gq:=by rw [hg,Nat.le_div_iff_mul_le hV0,Nat.mul_comm];omega
  omega
theorem Ol {P:Program} {w:World} {ops:Array Oper} {rest:List Oper} {o:Oper} {a:Act} {Q:Exit→Act→World→Prop} (hgd:o.guard=none) (d s:Operand) (dT sT:TypeId)
  (ho:o.op=.call { callee:=.builtin .copy,args:=#[d,s],argTypes:=#[dT,sT] }) (elem:TypeId) (hu:P.underlying dT=some (.slice elem)) (hsz:(P.info? elem).map (·.size)=some 1)
  (g off dLen dCap:Nat) (ad:Addr) (sLen sCap:Nat) (hd:a.eval d=.slice (some ⟨g,off,none⟩) dLen dCap) (hs:a.eval s=.slice (some ad) sLen sCap)
  (cur:List Value) (t:TypeId) (hg:w.heap[g]? = some (.cells cur.toArray t (0,0))) (cs:List Value) (hn:cs.length=Nat.min sLen dLen)
  (hsrc:∀j v,cs[j]? = some v→w.cell? (ad.add j)=some v) (hfit:off+cs.length≤cur.length) (h1:∀v∈cs,v.oneCell'=true)
  (h:∀w',Hid (w'.heap[g]? = some (.cells (splice cur off cs).toArray t (0,0)))→Hid (∀k,k≠g→w'.heap[k]? = w.heap[k]?)→(∀B,B≤g→Below B w w')→w'.heap.size=w.heap.size→wpList P ops Q rest (a.put o.dst (goInt cs.length)) w') :
  wpList P ops Q (o::rest) a w:=by
 refine wpList_copy_own hgd d s dT sT ho elem hu hsz g off dLen dCap ad sLen sCap hd hs cur.toArray t hg cs hn hsrc (by simpa using hfit) h1 ?_;refine h _ ?_ ?_ ?_ ?_
 ·exact Ae (by simpa [splice] using setRow_heap w g _ _ t _ hg)
 ·exact Ae (fun k hk=>setRow_other w g k _ hk)
 ·exact fun B hB=>below_setRow (Ac _ _) hB _
 ·simp [World.setRow]
theorem jN (l:Ξ) (k:Nat):C7 (l.take k)=(C7 l).take k:=by simp [C7,List.map_take]
theorem jW (l:Ξ) (k:Nat):C7 (l.drop k)=(C7 l).drop k:=by simp [C7,List.map_drop]
theorem Row.spliced {w':World} {g n off:Nat} {l less:Ξ} {cur:List Value} (hc:cur.take n=C7 l) (hl:l.length=n) (hcl:n≤cur.length) (hfit:off+less.length≤n) (h:w'.heap[g]? = some (.cells (splice cur off (C7 less)).toArray 147 (0,0))) :
  Row w' g n (l.take off++(less++l.drop (off+less.length))):=by
 have hvl:(C7 less).length=less.length:=Dm less;refine ⟨_,h,?_,?_,?_⟩
 ·simp;omega
 ·rw [length_splice _ _ _ (by rw [hvl];omega)];exact hcl
 ·rw [splice,hvl,List.take_append,List.take_append,E5,E5,jN,jW,←hc];rw [List.take_take,List.take_take,List.drop_take];simp only [List.length_take,hvl]
  congr 1
  ·congr 1;omega
  ·congr 1
   ·rw [As (by rw [hvl];omega)]
   ·congr 1;omega
def DivW (w wc:World) (U V n n':Nat) (v8 v9:Value):Prop :=
 ∃bu Vb bv,v8=.slice (some ⟨bu,0,none⟩) (n+1) (n+1)∧v9=.pointer (some ⟨Vb,0,none⟩)∧w.heap.size≤bu∧w.heap.size≤Vb∧w.heap.size≤bv∧bu≠Vb∧bu≠bv∧Vb≠bv ∧
  wc.cell? ⟨Vb,0,none⟩=some (.slice (some ⟨bv,0,none⟩) n' (n'+1))∧RdL wc (some ⟨bv,0,none⟩) n' (n'+1) (fx n' V)∧Row wc bu (n+1) (fx (n+1) U)∧Below w.heap.size w wc
theorem wK {w w1 w2 X:World} {U V n n' bu bv Vb:Nat} (hu:Row w1 bu (n+1) (fx (n+1) U)) (hk:w2.heap[bu]? = w1.heap[bu]?) (hlt:bu<w2.heap.size) (hv:RdL w2 (some ⟨bv,0,none⟩) (n'+1) (n'+1) (fx (n'+1) V)) (hvl:bv<w2.heap.size)
  (hX:∀k,k<w2.heap.size→k≠Vb→X.heap[k]? = w2.heap[k]?) (hcell:X.cell? ⟨Vb,0,none⟩=some (.slice (some ⟨bv,0,none⟩) n' (n'+1))) (h1:w.heap.size≤bu) (h2:w.heap.size≤Vb) (h3:w.heap.size≤bv) (h4:bu≠Vb) (h5:bu≠bv) (h6:Vb≠bv) (hB:Below w.heap.size w X) :
  DivW w X U V n n' (.slice (some ⟨bu,0,none⟩) (n+1) (n+1)) (.pointer (some ⟨Vb,0,none⟩)):=by
 refine ⟨bu,Vb,bv,rfl,rfl,h1,h2,h3,h4,h5,h6,hcell,?_,hu.block ((hX bu hlt h4).trans hk),hB⟩;have hf:=hv.front (k:=n') qA;rw [vT] at hf;refine ⟨hf.len,hf.cap,hf.few,hf.top,hf.small,?_⟩;rcases Aq n' with h0|h0
 ·exact .inl h0
 ·refine .inr ⟨bv,0,rfl,fun i hi=>?_⟩;rw [Af (w:=w2) (hX bv hvl (Ne.symm h6))];exact hf.at hi
def iP (w:World) (X Y:Nat) (e:Ending) (w':World):Prop :=
 ∃aq nq cq lq ar nr cr lr,e=.returned (.tuple #[.slice aq nq cq,.slice ar nr cr])∧RdL w' aq nq cq lq∧(∀x∈lq,x<1000000000)∧val lq=X/Y∧RdL w' ar nr cr lr∧(∀x∈lr,x<1000000000)∧val lr=X%Y ∧
  Bg w.heap.size w' aq cq∧Bg w.heap.size w' ar cr∧Below w.heap.size w w'
theorem sK (w:World) (a:Γ) (n c:Nat) (d:Ξ) (a':Γ) (n' c':Nat) (d':Ξ) (hd:RdL w a n c d) (hd':RdL w a' n' c' d') (hc:Er d) (hc':Er d')
  (h2:2≤n') (hle:n'≤n) (hn:n<35184372088830) :
  Θ 209 #[.slice a n c,.slice a' n' c'] w (iP w (val d) (val d')):=by
 obtain ⟨i0,hi,hz0,hz1,hz2⟩:=info_parts I1;have HB:=Ac w.heap.size w;have HLX:=Ae hd.len;have HLY:=Ae hd'.len;obtain ⟨t,ht⟩:∃t:Nat,t=d'.getD (n'-1) 0:=⟨_,rfl⟩;have ht1:0<t:=by rw [ht];exact gL hc' HLY.out qA
 have ht2:t<1000000000:=by rw [ht];exact E7 hc'.lt _
 obtain ⟨b',o',rfl,c1⟩:=hd'.at' (i:=n'-1) qA;rw [Fr,←ht] at c1;obtain ⟨s,hs⟩:∃s:Nat,s=1000000000/(t+1):=⟨_,rfl⟩;have hs1:0<s:=by rw [hs];exact Nat.div_pos qA qA
 have hs2:s<1000000000:=by rw [hs];exact Nat.div_lt_self qA qA
 have hs3:(1000000000:Int)/((t:Int)+1)=(s:Int):=by rw [hs];simp
 have hn1:((n':Int)-1).toNat=n'-1:=by omega
 have HS:=Ae hs;have HT:=Ae ht;have HC:=Ae hc;have HC':=Ae hc';clear hs ht hc hc';go_enter Tryz.func209,Tryz.ntmps209;go_wp2_with fail;go_step3;go_upto_region 3 with fail
 rw [hs3];have HL:=Ae (HC.out.lt);have HL':=Ae (HC'.out.lt);go_cut [8,9] (fun v8 v9 wc=>DivW w wc (val d*s) (val d'*s) n n' v8 v9)
 case first =>
  have c0:=c1;have hsl:=fun (W:World) (g:Nat)=>Vx W g 0 (n'+1) (n'+1) n' qA
  go_region_held3 (fun W=>W.cell? ⟨b',o'+(n'-1),none⟩=some (.int .u32 t)) ((first|(with_reducible assumption)|(go_keep;done)|(simp [*,go_sem];done))) (first
   | (go_at_call 261;(refine (dE _ _ _ _ d s (hd.keep qF) HL.out hs2 qA).mono ?_);rintro e w1 ⟨au,rfl,hu,hNu,hfu,hb1⟩;obtain ⟨bu,curu,rfl,hbu,hgu,hcu⟩:=hfu.resolve_left qA;replace HB:=zI w hb1;have hz1:=HB.size;have c1:=Bc HB c0;obtain ⟨hc1,hf1⟩:=Bl hb1;have hk1:w.heap.size<w1.heap.size:=Nat.lt_of_le_of_lt (Ah qB hbu) (Ar.1 hgu).1)
   | (go_at_call 261;(refine (dE _ _ _ _ d' s (hd'.keep qF) HL'.out hs2 qA).mono ?_);rintro e w2 ⟨av,rfl,hv,hNv,hfv,hb2⟩;obtain ⟨bv,curv,rfl,hbv,hgv,hcv⟩:=hfv.resolve_left qA;replace HB:=zI w hb2;have hz2:=HB.size;have c1:=Bc HB c0;obtain ⟨hc2,hf2⟩:=Bl hb2;have hk2:w.heap.size<w2.heap.size:=Nat.lt_of_le_of_lt (Ah qB hbv) (Ar.1 hgv).1))
  all_goals
   go_wp2_with fail;go_meet
   case rel =>
    have q1:=(Ar.1 hgu).1;have q2:=(Ar.1 hgv).1;try simp only [Aj,Ak] at hbu
    try simp only [Aj,Ak] at hbv
    refine wK (Row.of_rdl hu hgu hcu) (by first|exact hb2.block _ qA|exact (hb2.block _ (by simp only [Aj];omega)).trans (heap_alloc_old _ _ qA)) qA hv q2
     (fun k hk hne=>(by first|exact heap_alloc_old _ _ hk|exact Below.heap_setCell _ _ _ _ hne)) (by first|(simp [go_sem];done)|(simp [*,go_sem];done)) qA qA qA qA qA qA qF
 case rest =>
  clear c1;obtain ⟨bu,Vb,bv,rfl,rfl,hbu,hVb,hbv,huV,huv,hVv,hcV,hrv,hRu,HB⟩:=hcut;have hs2':=HB.size;have hltV:=Aa _ _ hcV;have hltu:=hRu.lt;have HSC:=Ae (iB HC.out.lt HC'.out.lt HLX.out HLY.out h2 hle HT.out ht1 HS.out hs1 hs2);obtain ⟨U,hU⟩:∃U,U=val d*s:=⟨_,rfl⟩;obtain ⟨V,hV⟩:∃V,V=val d'*s:=⟨_,rfl⟩;rw [←hU] at hRu;rw [←hV] at hrv;have HU:=Ae hU;have HV:=Ae hV;clear hU hV;obtain ⟨m,hm⟩:∃m,n+1-n'=m:=⟨_,rfl⟩;have hnp:0<n':=by omega
  have hltv:bv<wc.heap.size:=Aa _ _ (hrv.at hnp);have HNE:=Ae (Ay huV (Ay huv hVv));clear huV huv hVv;have hmI:(n:Int)+1-(n':Int)=(m:Int):=by omega
  have hm1:1≤m:=by omega
  go_wp2_with (refine wpList_make_full _ rfl _ _ 30 rfl wc.heap.size 147 i0 (.int .u32 0) 1 Tryz.underlying30 hi hz0 hz1 .i64 .i64 _ _ m rfl rfl rfl (by first|rfl|simp) (by rw [hz2];omega) qO (Ad _) ?_;intro w3 hown3 hgrow3);have HB3:Below wc.heap.size wc w3:=(Ac _ _).grown hgrow3 (Ad _) (fun k h=>by cases h);rw [Nat.mul_one,show Value.cells (.int .u32 0)=#[.int .u32 0] from rfl,toList_madeCells_one,←Kx] at hown3;clear hgrow3;obtain ⟨Q,hQ⟩:∃Q,Q=wc.heap.size:=⟨_,rfl⟩;rw [←hQ] at hown3;simp only [←hQ];have HQN:Hid (bu<Q∧Vb<Q∧bv<Q∧w.heap.size≤Q):=Ae (by rw [hQ];exact ⟨hltu,hltV,hltv,hs2'⟩);have HQ:=Ae hQ;clear hQ;go_step3;go_wp2_with fail;go_loopg [10] m (fun g v10 wr=>∃lu lq,v10=.int .i64 ((g:Int)-1)∧g≤m∧Hid (Gk U V n' m g lu lq)∧Row wr bu (n+1) lu∧wr.ownsRow Q 147 1 (.slice (some ⟨Q,0,none⟩) m m) m (C7 lq)∧wr.cell? ⟨Vb,0,none⟩=some (.slice (some ⟨bv,0,none⟩) n' (n'+1))∧RdL wr (some ⟨bv,0,none⟩) n' (n'+1) (fx n' V)∧Below w.heap.size w wr)
  case atStart =>
   refine ⟨fx (n+1) U,List.replicate m 0,rfl,Ad _,Ae ?_,hRu.keep HB3,hown3,Bc HB3 hcV,hrv.keep HB3,HB.trans (HB3.mono hs2')⟩;have h1:=Gk.start (V:=V) (n:=n') (m:=m) (u:=fx (n+1) U) (by rw [Mb];omega) (rL _ _) (by
    have:=HSC.out.top (fx (n+1) U) (Mb _ _) (by rw [←HU.out];exact Pq _ _ (by rw [HU.out];exact HSC.out.ult));rw [hm,←HV.out] at this;exact this)
   rw [Pq (n+1) U (by rw [HU.out];exact HSC.out.ult)] at h1;exact h1
  case round =>
   clear hown3 HB3 hRu hrv hcV HB;obtain ⟨lu,lq,hv10,hgm,HD,hRu,hown,hcV,hrv,HB⟩:=hrel
   cases gk with
   | zero =>
    have hlast:=HD.out.done (by rw [HV.out];exact HSC.out.vpos);have hult:=HD.out.ult;have hqlt:=HD.out.qlt;have hdl:=HD.out.ulen;have hVn:V≤1000000000 ^ n':=by rw [HV.out];exact Nat.le_of_lt HSC.out.vlt
    have hVp:0<V:=by rw [HV.out];exact HSC.out.vpos
    have htk:val (lu.take n')=U%V:=by
     rw [Ti (V:=V) (by rw [hlast.2];exact Nat.mod_lt _ hVp) hVn qA];exact hlast.2
    have hru:=(hRu.rdl hult (n+1) (Ad _) qA qA).front (k:=n') qA;have hslu:∀W:World,(Instr.sliceAt 30 (.slice (some ⟨bu,0,none⟩) (n+1) (n+1)) none (some (.int .i64 (n':Int))) none).run Tryz.prog W=.ok (.slice (some ⟨bu,0,none⟩) n' (n+1)) W:=fun W=>Vx W bu 0 (n+1) (n+1) n' qA
    have hend:=dB (x:=val d) (y:=val d') hs1;have hq1:val lq=val d/val d':=by rw [hlast.1,HU.out,HV.out];exact hend.1
    have hr1:val (lu.take n')/s=val d%val d':=by rw [htk,HU.out,HV.out];exact hend.2
    have HQ1:=Ae hq1;have HR1:=Ae hr1;have HQL:=Ae hqlt;have hutl:∀x∈lu.take n',x<1000000000:=fun x hx=>hult x (List.mem_of_mem_take hx)
    have HUT:=Ae hutl;rw [show ((0:Nat):Int)-1=-1 from rfl] at hv10;subst hv10;clear hlast hult hqlt hdl hend hq1 hr1 htk hutl;go_wp2_with fail;refine (gN _ _ _ _ _ s hru HUT.out hs1 qA).mono ?_;rintro e w6 ⟨ar,lr,rfl,hrr,hvr,hrl,hfr,hb6⟩;have HVR:=Ae hvr;have HRL:=Ae hrl;clear hvr hrl;go_wp2_with fail;try rw [Exit.noGoto_ret]
    go_ret2;have hQB:=HQN.out;have hB6:Below w.heap.size w w6:=HB.trans (hb6.mono HB.size);have hqr:=(Fz hown qA (Dw (fun x hx=>by have:=HQL.out x hx;omega))).keep hb6;have hfq:Bg w.heap.size w6 (some ⟨Q,0,none⟩) m:=((Bg.of_owns hown).mono hQB.2.2.2).keep hb6;exact ⟨_,m,m,lq,ar,n',n',lr,rfl,hqr,HQL.out,HQ1.out,hrr,HRL.out,by rw [HVR.out];exact HR1.out,hfq,hfr.mono HB.size,hB6⟩
   | succ g =>
    rw [show ((g+1:Nat):Int)-1=(g:Int) by omega] at hv10;subst hv10;have hgI:(g:Int)+(n':Int)≤35184372088831:=by omega
    have hg1:(g:Int)+(n':Int)+1≤(n:Int)+1:=by omega
    have hsl2:∀W:World,(Instr.sliceAt 30 (.slice (some ⟨bu,0,none⟩) (n+1) (n+1)) (some (.int .i64 (g:Int))) (some (.int .i64 ((g:Int)+(n':Int)+1))) none).run Tryz.prog W=.ok (.slice (some ⟨bu,g,none⟩) (n'+1) (n+1-g)) W:=by
     intro W;have:=uK W bu 0 (n+1) (n+1) g (g+n'+1) qA qA qA;rw [show ((g+n'+1:Nat):Int)=(g:Int)+(n':Int)+1 by omega,show g+n'+1-g=n'+1 by omega,Nat.zero_add] at this;exact this
    have hdl:=HD.out.ulen;have hhead:=(hRu.rdl HD.out.ult (n+1) (Ad _) qA qA).mid (i:=g) (k:=n'+1) qA;rw [Nat.zero_add] at hhead;obtain ⟨hd0,hhd⟩:∃hd0,hd0=(lu.drop g).take (n'+1):=⟨_,rfl⟩;rw [←hhd] at hhead;have hhlt:∀x∈hd0,x<1000000000:=by rw [hhd];exact Aar HD.out.ult g (n'+1)
    have HHL:=Ae hhlt;have HH:=Ae hhd;clear hhlt hhd;go_upto_region 9 with fail
    obtain ⟨wa,hwa⟩:∃wa,wa=wr.alloc (Obj.cells #[Value.slice (some ⟨bu,g,none⟩) (n'+1) (n+1-g)] 30):=⟨_,rfl⟩;rw [←hwa];obtain ⟨H,hH⟩:∃H,H=wr.heap.size:=⟨_,rfl⟩;rw [←hH];have hBa:Below wr.heap.size wr wa:=by rw [hwa];go_grown
    have hR:Io w wa bu Vb bv Q H n n' m g lu lq (fx n' V) hd0:=⟨hRu.keep hBa,S3 hown (hBa.block _ (hown.lt Q rfl).2),Bc hBa hcV,hrv.keep hBa,by rw [hwa,hH];simp [go_sem],hhead.keep hBa,HB.trans (hBa.mono HB.size)⟩;have hdisj:∀k,(k=bu∨k=Vb∨k=bv∨k=Q∨k=H)→k<wa.heap.size:=hR.lt hnp;have HDJ:=Ae hdisj;have HEH:=Ae hH;have HHU:Hid (H≠bu):=Ae (by have:=hRu.lt;rw [hH];exact Nat.ne_of_gt this);clear hRu hown hcV hrv hhead HB hBa hwa hdisj hH;obtain ⟨lv,hlv⟩:∃lv,lv=fx n' V:=⟨_,rfl⟩;rw [←hlv] at hR;have HLV:=Ae hlv;clear hlv;have hn0:(n':Int)<(n':Int)+1:=by omega
    have hn1':(n':Int)-1<(n':Int)+1:=by omega
    have hn1a:(n':Int)-1<(n':Int):=by omega
    have hn1b:0≤(n':Int)-1:=by omega
    have hn1c:1≤(n':Int):=by omega
    have hn2:((n':Int)-2).toNat=n'-2:=by omega
    have hn2':(n':Int)-2<(n':Int)+1:=by omega
    have hn2a:(n':Int)-2<(n':Int):=by omega
    have hn2b:0≤(n':Int)-2:=by omega
    have hn2c:2≤(n':Int):=by omega
    obtain ⟨x2,hx2⟩:∃x,x=hd0.getD n' 0:=⟨_,rfl⟩;obtain ⟨x1,hx1⟩:∃x,x=hd0.getD (n'-1) 0:=⟨_,rfl⟩;obtain ⟨x0,hx0⟩:∃x,x=hd0.getD (n'-2) 0:=⟨_,rfl⟩;obtain ⟨y1,hy1⟩:∃x,x=lv.getD (n'-1) 0:=⟨_,rfl⟩;obtain ⟨y0,hy0⟩:∃x,x=lv.getD (n'-2) 0:=⟨_,rfl⟩;have HVL:Hid (∀x∈lv,x<1000000000):=Ae (by rw [HLV.out];exact rL _ _);have bx2:x2<1000000000:=by rw [hx2];exact E7 HHL.out _
    have bx1:x1<1000000000:=by rw [hx1];exact E7 HHL.out _
    have bx0:x0<1000000000:=by rw [hx0];exact E7 HHL.out _
    have by1:y1<1000000000:=by rw [hy1];exact E7 HVL.out _
    have by0:y0<1000000000:=by rw [hy0];exact E7 HVL.out _
    have HX2:=Ae hx2;have HX1:=Ae hx1;have HX0:=Ae hx0;have HY1:=Ae hy1;have HY0:=Ae hy0;have eX2:∀W,Io w W bu Vb bv Q H n n' m g lu lq lv hd0→W.cell? ⟨bu,g+n',none⟩=some (.int .u32 x2):=fun W h=>by have:=h.rH.at (i:=n') qA;rw [Fr,←hx2] at this;exact this
    have eX1:∀W,Io w W bu Vb bv Q H n n' m g lu lq lv hd0→W.cell? ⟨bu,g+(n'-1),none⟩=some (.int .u32 x1):=fun W h=>by have:=h.rH.at (i:=n'-1) qA;rw [Fr,←hx1] at this;exact this
    have eX0:∀W,Io w W bu Vb bv Q H n n' m g lu lq lv hd0→W.cell? ⟨bu,g+(n'-2),none⟩=some (.int .u32 x0):=fun W h=>by have:=h.rH.at (i:=n'-2) qA;rw [Fr,←hx0] at this;exact this
    have eY1:∀W,Io w W bu Vb bv Q H n n' m g lu lq lv hd0→W.cell? ⟨bv,n'-1,none⟩=some (.int .u32 y1):=fun W h=>by have:=h.rv.at (i:=n'-1) qA;rw [Fr,←hy1,Nat.zero_add] at this;exact this
    have eY0:∀W,Io w W bu Vb bv Q H n n' m g lu lq lv hd0→W.cell? ⟨bv,n'-2,none⟩=some (.int .u32 y0):=fun W h=>by have:=h.rv.at (i:=n'-2) qA;rw [Fr,←hy0,Nat.zero_add] at this;exact this
    have EX2:=Ae eX2;have EX1:=Ae eX1;have EX0:=Ae eX0;have EY1:=Ae eY1;have EY0:=Ae eY0;clear hx2 hx1 hx0 hy1 hy0 eX2 eX1 eX0 eY1 eY0;obtain ⟨T,hT⟩:∃T:Nat,T=x2*1000000000+x1:=⟨_,rfl⟩;go_cut [12] (fun v12 wb=>v12=.int .u64 (T:Int)∧Io w wb bu Vb bv Q H n n' m g lu lq lv hd0)
    case first =>
     have k1:=Cn hR.cH;have k2:=Cn (EX2.out _ hR);have k3:=Cn (EX1.out _ hR);have hTI:(x2:Int)*1000000000+(x1:Int)=(T:Int):=by rw [hT];simp
     have HTI:=Ae hTI;clear hTI hT;(refine Ci qC qC ?_;(repeat (go_big_quiet_step (fail)));refine wpQuiet_nil ?_;intro _ hw0;obtain ⟨nq,hw0⟩:=hw0;subst hw0);rw [HTI.out];replace hR:=hR.keep hnp nq.2;generalize nq.val=wb at *;clear k1 k2 k3;go_wp2_with fail;go_meet
     case rel=>exact ⟨rfl,hR⟩
    case rest =>
    obtain ⟨wb,rfl⟩:∃x:World,x=wc:=⟨_,rfl⟩;clear hR;obtain ⟨rfl,hR⟩:=hcut;have HT2:=Ae hT;have hTb:T<1000000000000000000:=by omega
    have hyp:0<y1:=by
     have:=HSC.out.v1 lv (by rw [HLV.out];exact Mb _ _) HVL.out (by rw [HLV.out,←HV.out];exact Pq _ _ (by rw [HV.out];exact HSC.out.vlt));rw [←HY1.out] at this;exact this
    have hypI:(1:Int)≤(y1:Int):=by omega
    have hyne:¬(y1:Int)=0:=by omega
    clear hT;have k1:=hR.cV;have k2:=EY1.out _ hR;have hHb:H<wb.heap.size:=hR.lt hnp H qG;go_upto_region 11 with fail
    clear k1 k2;obtain ⟨gs,hgs⟩:∃gs:Nat,gs=min (T/y1) 999999999:=⟨_,rfl⟩;have hgsI:(if 999999999<IntKind.u64.wrap ((T:Int)/(y1:Int)) then (999999999:Int) else IntKind.u64.wrap ((T:Int)/(y1:Int)))=(gs:Int):=by
     rw [hgs,←Int.natCast_ediv];exact tW _ (Nat.lt_of_le_of_lt (Nat.div_le_self _ _) hTb)
    have hgsJ:min (IntKind.u64.wrap ((T:Int)/(y1:Int))) 999999999=(gs:Int):=by rw [←hgsI];split<;>omega
    first|rw [hgsI]|rw [hgsJ]
    clear hgsJ;obtain ⟨we,hwe⟩:∃we,we=wb.alloc (Obj.cells #[Value.int IntKind.u64 (gs:Int)] 146):=⟨_,rfl⟩;rw [←hwe];obtain ⟨G,hG⟩:∃G,G=wb.heap.size:=⟨_,rfl⟩;rw [←hG];have hBe:Below wb.heap.size wb we:=by rw [hwe];go_grown
    have hcG:we.cell? ⟨G,0,none⟩=some (.int .u64 (gs:Int)):=by rw [hwe,hG];simp [go_sem]
    have hfG:we.frozen? ⟨G,0,none⟩=false:=by rw [hwe,hG];simp [go_sem]
    have hGd:Hid (∀k,(k=bu∨k=Vb∨k=bv∨k=Q∨k=H)→k≠G):=Ae (fun k hk=>Nat.ne_of_lt (by rw [hG];exact hR.lt hnp k hk));have hGw:w.heap.size≤G:=by have:=hR.hb.size;omega
    replace hR:=hR.keep hnp hBe;have hgq:Hid (val hd0=val (lu.drop g)):=Ae (by rw [HH.out];exact HD.out.head (by rw [HV.out];exact Nat.le_of_lt HSC.out.vlt));have hVv:Hid (val lv=V):=Ae (by rw [HLV.out];exact Pq _ _ (by rw [HV.out];exact HSC.out.vlt));have hVp:0<V:=by rw [HV.out];exact HSC.out.vpos
    obtain ⟨gq,hgqe⟩:∃gq,gq=val hd0/V:=⟨_,rfl⟩;have hgqs:gq<1000000000:=by rw [hgqe,hgq.out];exact (Nat.div_lt_iff_lt_mul hVp).2 HD.out.head_lt
    have hk2:n'-2+1=n'-1:=by omega
    have hk3:n'-2+2=n':=by omega
    have hGS:Xy lv hd0 V gq (n'-2) T (T-gs*y1) gs:=by
     have:=Ys (v:=lv) (head:=hd0) (V:=V) (g:=gq) (k:=n'-2) (two:=T) (by rw [hR.rv.len];omega) (by rw [hR.rH.len];omega) HVL.out HHL.out hVv.out (by rw [hk2,←HY1.out];exact hyp) hgqe hgqs (by rw [hk2,hk3,←HX2.out,←HX1.out];exact HT2.out);rw [hk2,←HY1.out,←hgs] at this;exact this
    have hgy:=hGS.two;rw [hk2,←HY1.out] at hgy;obtain ⟨ov,hov⟩:∃ov,ov=T-gs*y1:=⟨_,rfl⟩;rw [←hov] at hGS hgy;obtain ⟨hovI,hgy1,hgy0⟩:=lW hgy;have HGQ:=Ae hgqe;have HGS:=Ae hGS;have HOV:=Ae hovI;have HGE:=Ae hG;have HKK:=Ae (Ay hk2 hk3);have hgsb:=hGS.small;clear hgs hgsI hwe hG hBe hGS hgy hov hovI hgqe hk2 hk3 hHb;go_cut [14] (fun v14 wf=>v14=.int .u64 (ov:Int)∧wf.cell? ⟨G,0,none⟩=some (.int .u64 (gs:Int))∧wf.frozen? ⟨G,0,none⟩=false∧Io w wf bu Vb bv Q H n n' m g lu lq lv hd0)
    case first =>
     have k0:=Cn hcG;have k1:=Cn hR.cV;have k2:=Cn (EY1.out _ hR);(refine Ci qC qC ?_;(repeat (go_big_quiet_step (fail)));refine wpQuiet_nil ?_;intro _ hw0;obtain ⟨nq,hw0⟩:=hw0;subst hw0);rw [HOV.out];clear k0 k1 k2;have hnb:=nq.2;replace hfG:=(hnb.frozen (Aa _ _ hcG)).trans hfG;replace hcG:=Bc hnb hcG;replace hR:=hR.keep hnp hnb;generalize nq.val=wf at *;clear nq hnb;go_wp2_with fail;go_meet
     case rel=>exact ⟨rfl,hcG,hfG,hR⟩
    case rest =>
    obtain ⟨wf,rfl⟩:∃x:World,x=wc:=⟨_,rfl⟩;clear hR hcG hfG hgy0 hgy1;obtain ⟨rfl,hcG,hfG,hR⟩:=hcut;go_upto_block 2 with fail
    go_cut [] (fun wx=>∃gs:Nat,gs≤999999999∧gq≤gs∧wx.cell? ⟨G,0,none⟩=some (.int .u64 (gs:Int))∧wx.frozen? ⟨G,0,none⟩=false∧Io w wx bu Vb bv Q H n n' m g lu lq lv hd0)
    case first =>
     go_wp2_with fail;go_loopg [14] gs (fun gg v14 wx=>∃(ov gs:Nat),v14=.int .u64 (ov:Int)∧gg=gs∧Hid (Xy lv hd0 V gq (n'-2) T ov gs)∧wx.cell? ⟨G,0,none⟩=some (.int .u64 (gs:Int))∧wx.frozen? ⟨G,0,none⟩=false∧Io w wx bu Vb bv Q H n n' m g lu lq lv hd0)
     case atStart=>exact ⟨ov,gs,rfl,rfl,HGS,hcG,hfG,hR⟩
     case round =>
      clear hcG hfG hR HGS HOV hgsb;obtain ⟨ov',gs',rfl,hgg,HG2,hcG,hfG,hR⟩:=hrel;have hgsb:=HG2.out.small;have hpr:gs'*y0≤999999999*999999999:=Nat.mul_le_mul hgsb (Nat.le_of_lt_succ by0);have hpr1:(gs':Int)*(y0:Int)≤999999998000000001:=by have:=Int.ofNat_le.2 hpr;rw [Int.natCast_mul] at this;exact this
      have hpr0:(0:Int)≤(gs':Int)*(y0:Int):=Int.mul_nonneg (Int.natCast_nonneg _) (Int.natCast_nonneg _);clear hpr;have k0:=Cn hcG;have k1:=Cn hR.cV;have k2:=Cn (EY0.out _ hR);have k3:=Cn hR.cH;have k4:=Cn (EX0.out _ hR);by_cases h1:ov'<1000000000
      ·have h1I:(ov':Int)<1000000000:=by omega
       by_cases h2:ov'*1000000000+x0<gs'*y0
       ·have h2I:(ov':Int)*1000000000+(x0:Int)<(gs':Int)*(y0:Int):=by have:=Int.ofNat_lt.2 h2;rw [Int.natCast_add,Int.natCast_mul,Int.natCast_mul] at this;exact this
        have hst:=Xu HG2.out (by rw [hR.rv.len];omega) (by rw [hR.rH.len];omega) HHL.out hVv.out HGQ.out (by rw [HKK.out.1,HKK.out.2,←HX2.out,←HX1.out];exact HT2.out) (by rw [←HX0.out,←HY0.out];exact h2);rw [HKK.out.1,←HY1.out] at hst;have HST:=Ae hst.2;have hg1:=hst.1;have hg1I:(1:Int)≤(gs':Int):=by omega
        clear hst h2;go_upto_region 12 with fail
        (refine Ci qC qC ?_;(repeat (go_big_quiet_step (fail)));refine wpQuiet_nil ?_;intro _ hw0;obtain ⟨nq,hw0⟩:=hw0;subst hw0);clear k0 k1 k2 k3 k4;have hnb:=nq.2;replace hfG:=(hnb.frozen (Aa _ _ hcG)).trans hfG;replace hcG:=Bc hnb hcG;replace hR:=hR.keep hnp hnb;generalize nq.val=wy at *;clear nq hnb;clear h2I hpr0 hpr1 h1 hg1 hsl2 hmI;have n1:¬Vb=G:=hGd.out Vb qG;have n2:¬bv=G:=hGd.out bv qG;have n3:¬G=Vb:=fun e=>n1 e.symm
        have n4:¬G=bv:=fun e=>n2 e.symm
        have k1:=hR.cV;have k2:=EY1.out _ hR;go_upto_region 14 with fail
        go_upto_region 13 with fail
        go_wp2_with fail;go_roundg (gs'-1)
        case measure=>omega
        case rel =>
         refine ⟨ov'+y1,gs'-1,by first|rfl|simp,rfl,HST,?_,?_,hR.set hGd.out hGw _ _⟩
         ·have e:((gs'-1:Nat):Int)=(gs':Int)-1:=by omega
          rw [e];simp [hcG,go_sem]
         ·simp [hfG,go_sem]
       ·have h2I:¬(ov':Int)*1000000000+(x0:Int)<(gs':Int)*(y0:Int):=fun h=>h2 (Int.ofNat_lt.1 (by rw [Int.natCast_add,Int.natCast_mul,Int.natCast_mul];exact h))
        have h2D:decide ((ov':Int)*1000000000+(x0:Int)<(gs':Int)*(y0:Int))=false:=decide_eq_false h2I;clear h2 h2I;exact qBc
      ·have h1D:decide ((ov':Int)<1000000000)=false:=decide_eq_false qA;clear h1;exact qBc
    case rest =>
    obtain ⟨wx,rfl⟩:∃x:World,x=wc:=⟨_,rfl⟩;clear hR hcG hfG hgsb HGS HOV;obtain ⟨gx,hgsb,hgle,hcG,hfG,hR⟩:=hcut;by_cases hg0:gx=0
    ·have hz:val hd0<V:=by
      have h1:gq=0:=by omega
      have h2:=HGQ.out;rw [h1] at h2;exact (Nat.div_eq_zero_iff_lt hVp).1 h2.symm
     have hst:=Ae (HD.out.skip (by rw [←hgq.out];exact hz));rw [hg0] at hcG;clear hz hgle hgsb;go_wp2_with fail;go_roundg g
     case measure=>omega
     case rel=>exact ⟨lu,lq,by first|rfl|simp,Nat.le_of_succ_le hgm,hst,hR.ru,hR.own,hR.cV,(by rw [←HLV.out];exact hR.rv),hR.hb⟩
    ·have hg0I:((gx:Int)==0)=false:=by rw [beq_eq_false_iff_ne];omega
     clear hg0;go_wp2_with fail;go_loopg [] gx (fun gg wx=>∃gs:Nat,gg=gs∧gs≤999999999∧gq≤gs∧wx.cell? ⟨G,0,none⟩=some (.int .u64 (gs:Int))∧wx.frozen? ⟨G,0,none⟩=false∧Io w wx bu Vb bv Q H n n' m g lu lq lv hd0)
     case atStart=>exact ⟨gx,rfl,hgsb,hgle,hcG,hfG,hR⟩
     case round =>
      clear hcG hfG hR hgsb hgle hg0I;obtain ⟨gs,hgg,hgsb,hgle,hcG,hfG,hR⟩:=hrel;have hgb:=Wd (X:=val hd0) hgle hVp HGQ.out;have HGB:=Ae hgb;have hdd:∀i,i<n'+1→-4000000000000000000≤lim hd0 i-(gs:Int)*lim lv i∧lim hd0 i-(gs:Int)*lim lv i≤4000000000000000000:=by
       intro i _;have a1:=hR.rH.small i;have a2:=hR.rv.small i;have a3:=Ma HVL.out i;have a4:0≤(gs:Int)*lim lv i:=Int.mul_nonneg (Int.natCast_nonneg _) a2.1;have a5:(gs:Int)*lim lv i≤999999999*999999999:=Int.mul_le_mul (Int.ofNat_le.2 hgsb) qA a2.1 qA;omega
      have HDD:=Ae hdd;clear hgb hdd;go_wp2_with fail;refine (cK _ _ (n'+1) qA _ _ _ (fun i=>lim hd0 i-(gs:Int)*lim lv i) qA HDD.out (fun i W hi hW=>jJ W H G Vb _ _ _ hd0 _ _ _ lv gs qA i hi (hR.rH.keep hW) (hR.rv.keep hW) (by have:=Ma HVL.out i;omega) (Bc hW hR.cH) (Bc hW hcG) (Bc hW hR.cV))).mono ?_;rintro e w4 ⟨ac,rfl,hrl,hfl,hb4⟩;obtain ⟨bl,curl,rfl,hbl,hgl,hcl⟩:=hfl.resolve_left qA;replace hfG:=(hb4.frozen (Aa _ _ hcG)).trans hfG;replace hcG:=Bc hb4 hcG;have hblu:bu<bl:=Nat.lt_of_lt_of_le (hR.lt hnp bu qG) hbl;replace hR:=hR.keep hnp hb4;clear hb4;have c1:=hR.cH;have c2:=hR.cV;go_wp2_with fail;refine (wY _ _ _ _ hd0 _ _ _ lv gs hR.rH hR.rv HHL.out HVL.out qA qA).mono ?_;rintro e w5 ⟨rfl,hb5⟩;replace hfG:=(hb5.frozen (Aa _ _ hcG)).trans hfG;replace hcG:=Bc hb5 hcG;replace hR:=hR.keep hnp hb5;replace hrl:=hrl.keep hb5;clear hb5 c1 c2 hfl hgl hcl;rw [hVv.out];by_cases hbl:val hd0<V*gs
      ·rw [decide_eq_true hbl];have hnx:=HGB.out.1 hbl;have hg1I:(1:Int)≤(gs:Int):=by omega
       clear hbl;go_wp2_with fail;go_roundg (gs-1)
       case measure=>omega
       case rel =>
        refine ⟨gs-1,rfl,by omega,hnx.1,?_,?_,hR.set hGd.out hGw _ _⟩
        ·have e:((gs-1:Nat):Int)=(gs:Int)-1:=by omega
         rw [e];simp [hcG,go_sem]
        ·simp [hfG,go_sem]
      ·rw [decide_eq_false hbl];have hnx:=HGB.out.2 hbl;obtain ⟨less,hless⟩:∃less,less=fxI (n'+1) (Cz (fun i=>lim hd0 i-(gs:Int)*lim lv i) (n'+1)):=⟨_,rfl⟩;rw [←hless] at hrl;have hll:less.length=n'+1:=hrl.len;have hlv0:gs*V≤val hd0:=by rw [Nat.mul_comm];exact Nat.le_of_not_lt hbl
       have hlt0:∀x∈less,x<1000000000:=by rw [hless];exact Pj _ _
       have hvl:val less=val (lu.drop g)-gs*V:=by
        rw [hless,xZ hd0 lv gs (n'+1) (by rw [hR.rH.len];omega) (by rw [hR.rv.len];omega) (by rw [hVv.out];exact hlv0),hVv.out,←hgq.out];refine Ox _ _ (Nat.lt_of_le_of_lt (Nat.sub_le _ _) ?_);have:=Ez hd0 HHL.out;rw [hR.rH.len] at this;exact this
       have hst:=HD.out.step (by rw [HV.out];exact Nat.le_of_lt HSC.out.vlt) hVp gs (by rw [hnx,HGQ.out,hgq.out]) hll hlt0 hvl;obtain ⟨cur,hcu1,hcu2,hcu3,hcu4⟩:=hR.ru;have HST:=Ae hst;have HCU:=Ae hcu4;have hvll:(C7 less).length=n'+1:=by rw [Dm,hll]
       have HLL:=Ae hll;have hbl':bl≠bu:=Nat.ne_of_gt hblu;have c1:=hR.cH;have hfit:g+(n'+1)≤n+1:=by omega
       clear hbl hnx hless hlv0 hlt0 hvl hst hcu4 hll;have hneQ:∀k,(k=Vb∨k=bv∨k=H∨k=Q∨k=G)→k≠bu:=by
        have e1:=HNE.out;have e2:=HQN.out;have e3:=hGd.out bu qG;rintro k (rfl|rfl|rfl|rfl|rfl)
        ·exact Ne.symm e1.1
        ·exact Ne.symm e1.2.1
        ·exact HHU.out
        ·exact Nat.ne_of_gt e2.1
        ·exact Ne.symm e3
       have HNQ:=Ae hneQ;have hgl2:g<lq.length:=by have:=HD.out.qlen;omega
       clear hneQ;go_wp2_with (with_reducible refine Ol rfl (.tmp 129) (.tmp 130) 30 30 rfl 147 Tryz.underlying30 qC bu g (n'+1) (n+1-g) ⟨bl,0,none⟩ (n'+1) (n'+1) rfl rfl cur 147 hcu1 (C7 less) (by rw [hvll];simp) (Vk hrl) (by rw [hvll];omega) (Y8 less) ?_;intro wz hy1 hy2 hy3 hy4;have cG2:wz.cell? ⟨G,0,none⟩=some (.int .u64 (gs:Int)):=(Af (hy2.out G (HNQ.out G qG))).trans hcG;have hown2:=S3 hR.own (hy2.out Q (HNQ.out Q qG));have hcQ:=hown2.cellAt g qA;rw [Oz hgl2] at hcQ;have hfQ:=hown2.frozenAt g;have HO2:=Ae (hown2.stored g (.int .u32 (gs:Int))).1;clear hown2);go_roundg g
       case measure=>omega
       case rel =>
        have hQu:Q≠bu:=HNQ.out Q qG;have hQB:=HQN.out;have hrow:=(Row.spliced (g:=bu) (off:=g) (less:=less) HCU.out hcu2 hcu3 (by rw [HLL.out];omega) hy1.out);refine ⟨_,lq.set g gs,by first|rfl|simp,Nat.le_of_succ_le hgm,HST,hrow.setCell _ _ hQu,?_,?_,?_,?_⟩
        ·rw [Rz];exact HO2.out
        ·rw [A6 _ _ _ _ (Nat.ne_of_gt hQB.2.1)];exact (Af (hy2.out Vb (HNQ.out Vb qG))).trans hR.cV
        ·rw [←HLV.out];exact (hR.rv.blk (hy2.out bv (HNQ.out bv qG))).blk (Below.heap_setCell _ _ _ _ (Nat.ne_of_lt hQB.2.2.1))
        ·exact (hR.hb.trans (hy3 _ hbu)).trans ⟨rfl,rfl,rfl,by simp,fun k hk=>Below.heap_setCell _ _ _ _ (Nat.ne_of_lt (Nat.lt_of_lt_of_le hk hQB.2.2.2))⟩
section
variable {P:Program} {ops:Array Oper} {Q:Exit→Act→World→Prop} {md:Region.Mode} {C:World→Prop} {s:Nat}
def Bk (P:Program) (md:Region.Mode) (ops:Array Oper) (Q:Exit→Act→World→Prop) (C:World→Prop) (s:Nat):Nat→Array Bool→Act→World→Prop
 | 0,l,a,w=>Region.ready md ops l=[]∧Q .normal a w
 | f+1,l,a,w=>(Region.ready md ops l=[]→Q .normal a w) ∧
   ∀i∈Region.ready md ops l,wpOp P ops Q i (fun a' w'=>((l.setIfInBounds i true).getD s true=false→C w')∧Bk P md ops Q C s f (l.setIfInBounds i true) a' w') a w
theorem Bk.any:∀(f:Nat) (l:Array Bool) (a:Act) (w:World),Bk P md ops Q C s f l a w→wpAny P md ops Q f l a w
 | 0,_,_,_,h=>h
 | f+1,_,_,_,h=>⟨h.1,fun i hi=>wpOp_mono (fun a' w' h'=>Bk.any f _ a' w' h'.2) (h.2 i hi)⟩
def G5 (md:Region.Mode) (ops:Array Oper) (s i:Nat):Bool :=
 match ops[s]? with
 | none=>false
 | some o=>o.after.any fun e=>Region.binds md e&&e.on==i
theorem Px {s i:Nat} {l:Array Bool} (hw:G5 md ops s i=true) (h0:l.getD i true=false):s∉Region.ready md ops l:=by
 intro hs;obtain ⟨_,o,ho,hall⟩:=mem_ready.1 hs;rw [G5,ho] at hw;obtain ⟨e,he,hb⟩:=Array.any_eq_true'.1 hw;rw [Bool.and_eq_true,beq_iff_eq] at hb;have h1:=hall e he hb.1;rw [hb.2] at h1;rcases Nat.lt_or_ge i l.size with h'|h'
 ·simp [h'] at h0 h1;rw [h0] at h1;cases h1
 ·simp [Array.getElem?_eq_none h'] at h1
theorem Bk.first {i:Nat} {oi:Oper} {v:Value} (hi:ops[i]? = some oi) (hsel:∀(j:Nat) (o:Oper) cs b,ops[j]? = some o→o.op≠.select cs b)
  (hQ:∀c a w,Q (.panic c) (a.put oi.dst v) w→Q (.panic c) a w) {k:Nat} (hwk:G5 md ops k i=true) (hws:k=s∨G5 md ops s k=true) (hik:i≠k) (his:i≠s) :
  ∀(f:Nat) (l:Array Bool) (a:Act) (w:World),
   (∀j oj,ops[j]? = some oj→j≠i→l.getD j true=false→(∀e∈oj.after,Region.binds md e=true→e.on≠i)→oi.apart ops oj=true) →
   i∈Region.ready md ops l→l.getD k true=false→l.getD s true=false→YieldsIf P ops C oi v a→C w →
   Bk P md ops Q C s f (l.setIfInBounds i true) (a.put oi.dst v) w→Bk P md ops Q C s (f+1) l a w:=by
 intro f
 induction f with
 | zero =>
  intro l a w _ hr _ _ hy hC H;refine ⟨fun h=>(by rw [h] at hr;cases hr),fun j hj=>?_⟩;rcases Decidable.em (j=i) with rfl|hji
  ·exact hy.wpOp hi hC ⟨fun _=>hC,H⟩
  ·have:=ready_mono hj hji;rw [H.1] at this;cases this
 | succ f ih =>
  intro l a w hfree hr hk hs hy hC H;refine ⟨fun h=>(by rw [h] at hr;cases hr),fun j hj=>?_⟩;rcases Decidable.em (j=i) with rfl|hji
  ·exact hy.wpOp hi hC ⟨fun _=>hC,H⟩
  ·have hi0:=(mem_ready.1 hr).1;have hjk:j≠k:=fun h=>Px hwk hi0 (h▸hj)
   have hjs:j≠s:=fun h=>hws.elim (fun e=>hjk (h.trans e.symm)) (fun e=>Px e hk (h▸hj))
   obtain ⟨hjun,oj,hoj,hall⟩:=mem_ready.1 hj;have hnot:∀e∈oj.after,Region.binds md e=true→e.on≠i:=fun e he hb heq=>by
    have hw2:G5 md ops j i=true:=by
     rw [G5,hoj];exact Array.any_eq_true'.2 ⟨e,he,by rw [Bool.and_eq_true,beq_iff_eq];exact ⟨hb,heq⟩⟩
    exact Px hw2 hi0 hj
   have h2:=wpOp_putIf hoj (hfree j oj hoj hji hjun hnot) (fun cs b=>hsel i oi cs b hi) (fun cs b=>hsel j oj cs b hoj) hQ hy (H.2 j (ready_mono hj hji));have hk':(l.setIfInBounds j true).getD k true=false:=by rw [getD_set_ne true hjk];exact hk
   have hs':(l.setIfInBounds j true).getD s true=false:=by rw [getD_set_ne true hjs];exact hs
   have hsi:((l.setIfInBounds i true).setIfInBounds j true).getD s true=false:=by rw [getD_set_ne true hjs,getD_set_ne true his];exact hs
   have hfree':∀k ok,ops[k]? = some ok→k≠i→(l.setIfInBounds j true).getD k true=false →
     (∀e∈ok.after,Region.binds md e=true→e.on≠i)→oi.apart ops ok=true:=fun m om hm hmi hun hno=>by
    refine hfree m om hm hmi ?_ hno;rcases Decidable.em (j=m) with rfl|hjm
    ·exact hjun
    ·rw [getD_set_ne true hjm] at hun;exact hun
   refine wpOp_mono (fun a' w' h3=>⟨fun _=>h3.2.1 hsi,ih (l.setIfInBounds j true) a' w' hfree' (ready_mono hr (Ne.symm hji)) hk' hs' h3.1 (h3.2.1 hsi) ?_⟩) h2;rw [Array.setIfInBounds_comm _ _ hji];exact h3.2.2
theorem Bk.take {i:Nat} (k:Nat) {oi:Oper} {v:Value} {f:Nat} {l:Array Bool} {a:Act} {w:World} (hi:ops[i]? = some oi)
  (hk:(Region.noSelect ops&&Region.free md ops l i&&(Region.ready md ops l).contains i&&G5 md ops k i&&(k==s || G5 md ops s k)&&!(i==k)&&!(i==s)&&!(l.getD k true)&&!(l.getD s true))=true)
  (hQ:∀c a w,Q (.panic c) (a.put oi.dst v) w→Q (.panic c) a w) (hy:YieldsIf P ops C oi v a) (hC:C w)
  (h:Bk P md ops Q C s f (l.setIfInBounds i true) (a.put oi.dst v) w):Bk P md ops Q C s (f+1) l a w:=by
 simp only [Bool.and_eq_true,Bool.or_eq_true,Bool.not_eq_true',beq_eq_false_iff_ne,beq_iff_eq] at hk;obtain ⟨⟨⟨⟨⟨⟨⟨⟨h1,h2⟩,h3⟩,h4⟩,h5⟩,h6⟩,h7⟩,h8⟩,h9⟩:=hk;exact Bk.first hi (Region.noSelect_spec h1) hQ h4 h5 h6 h7 f l a w (Region.free_spec hi h2) (by simpa using h3) h8 h9 hy hC h
theorem Bk.one {i:Nat} {o:Oper} {f:Nat} {l:Array Bool} {a:Act} {w:World} (ho:ops[i]? = some o) (hr:Region.ready md ops l=[i])
  (h:∀K':Act→World→Prop,Shut (∀a w,((l.setIfInBounds i true).getD s true=false→C w)→Bk P md ops Q C s f (l.setIfInBounds i true) a w→K' a w)→if Region.wanted o (yielded ops a.tmps)=true then Oper.wp P o a w K' Q else K' (a.put o.dst undef) w) :
  Bk P md ops Q C s (f+1) l a w:=by
 refine ⟨fun h0=>(by rw [hr] at h0;cases h0),?_⟩;rw [hr];intro j hj;rw [Ao] at hj;subst hj;exact wpOp_step ho (fun K' hK=>h K' (fun a w h1 h2=>hK a w ⟨h1,h2⟩))
theorem Bk.done {l:Array Bool} {a:Act} {w:World} (hr:Region.ready md ops l=[]) (h:Q .normal a w):∀f,Bk P md ops Q C s f l a w
 | 0=>⟨hr,h⟩
 | _+1=>⟨fun _=>h,by rw [hr];simp⟩
theorem Cf {id:Nat} {a:Act} {w:World} (C:World→Prop) (s:Nat) (hm:P.follows .mixedOrders=true) (hC:C w.drew)
  (h:C w.drew→Bk P .any ops Q C s ops.size (Array.replicate ops.size false) a w.drew):(Code.region id ops true).wp P Q a w :=
 wp_region_any hm (Bk.any _ _ _ _ (h hC))
end
end Go.Proofs.YtnnhcbeiogaknaaGreatDoor
end
