/- A range over a function whose values lie in memory: the iterator says of each value, at its yield, what holds . -/
import Derived.Test.YtnnhcbeiogaknaaGreatDoorQT15
set_option linter.unusedSimpArgs false
set_option linter.unusedVariables false
set_option maxRecDepth 100000
set_option maxHeartbeats 4000000
section
namespace Go.Proofs.YtnnhcbeiogaknaaGreatDoor
open Go.RowKit
section
variable {α:Type} {F:Fence} {n:Nat} {P:Program}
def yS (F:Fence) (n:Nat) (P:Program) (g:Nat) (lb:Array Value) (encs:α→Array Value) (Ok:List α→α→World→Prop) (Kp:World→World→Prop) (S:List α→World→Prop) (w:World):Prop :=
 ∀(l:Nat) (J:List α→World→Prop) (W:World),Below w.heap.size w W→AbidesFrom W.heap.size J →
  (∀pre x W1,J pre W1→Ok pre x W1→YieldAt F (n-1) P l (encs x) W1 fun e W'=>e=.returned (.bool true)∧J (pre++[x]) W'∧Kp W1 W') →
  J [] W→CallsIn F n P g (#[.func (.yield l) #[] #[]]++lb) W fun e W'=>(∃v,e=.returned v)∧∃xs,S xs W'∧J xs W'
def jU (B:Nat) (Kp:World→World→Prop) (I:List α→World→Prop) (xs:List α) (W:World) (e:Exit) (_:Act) (W':World):Prop:=e=.normal∧KeepsFrom B W W'∧Kp W W'∧I xs W'
theorem Pd {g:Operand} {ps:Array Tmp} {assign body:Code} {Q:Exit→Act→World→Prop} {a:Act} {w:World} (hro:F.round=none) (h1:1≤n) {gf:Nat} {lb:Array Value} (hg:a.eval g=.func (.func gf) #[] lb) (hFg:F.fn gf) (eg:∀args w,(callFunc gf args).run P w=.ok (.enter gf args) w)
  {encs:α→Array Value} {Ok:List α→α→World→Prop} {Kp:World→World→Prop} {S:List α→World→Prop} (hseq:yS F (n-1) P gf lb encs Ok Kp S w) (hps:∀x,(encs x).size=ps.size)
  (hKt:∀{A B C:World},Kp A B→Kp B C→Kp A C) (hKb:∀(W:World) (l:Nat) (o o':Obj),w.heap.size≤l→W.heap[l]? = some o→o.isCells=false→o.isWalk=false→Kp W (W.putObj l o'))
  (hOk:∀pre x (W:World) (l:Nat) (o o':Obj),w.heap.size≤l→W.heap[l]? = some o→o.isCells=false→Ok pre x W→Ok pre x (W.putObj l o')) (hS:∀xs (W:World) (l:Nat) (o o':Obj),w.heap.size≤l→W.heap[l]? = some o→o.isCells=false→S xs W→S xs (W.putObj l o'))
  (I:List α→World→Prop) (hI:OwnFrom w.heap.size I) (h0:I [] w) (a₁:α→Act)
  (hassign:∀(l:Nat) (x:α) (W:World) (K:Act→World→Prop),K (a₁ x) W→assign.wpIn (F.inRound l) (n-1-1) P (Exit.then K (fun _ _ _=>False)) { tmps:=(ps.zip (encs x)).foldl (fun t (p,v)=>t.setIfInBounds p v) a.tmps,defers:=[] } W)
  (hbody:∀(l:Nat) (pre:List α) (x:α) (W:World),I pre W→Ok pre x W→body.wpIn (F.inRound l) (n-1-1) P (jU w.heap.size Kp I (pre++[x]) W) (a₁ x) W)
  (hdone:∀(D:Nat) (xs:List α) (W:World),w.heap.size≤D→S xs W→I xs W→W.heap[D]? = some (.deferred (some []))→Q .normal { a with defers:={ target:=.collected D,args:=#[] }::a.defers } W) :
  (Code.rangeFunc g ps assign body).wpIn F n P Q a w:=by
 refine wpIn_rangeFunc ?_;intro fn hfn;rw [hro]
 -- the loop's own record, in the state it is in, and the two blocks that are laid for it
 let D:=w.heap.size
 let L:=w.heap.size+1
 let rec':LoopState→Option Code→Loop:=fun st pe=>{ state:=st,pending:=pe,fn,tmps:=a.tmps,params:=ps,assign,body,defers:=D }
 let V:=(w.alloc (.deferred (some []))).alloc (.loop (rec' .ready none))
 have vL:V.heap[L]? = some (.loop (rec' .ready none)):=by
  exact qDf
 have vD:V.heap[D]? = some (.deferred (some [])):=(Below.heap_alloc _ _ _ (by simp [D])).trans (World.alloc_heap_new w _);have vB:Below w.heap.size w V:=((Ac _ w).alloc (Ad _) _).alloc qG _;refine ⟨L,[{ target:=.collected D,args:=#[] }],V,{ target:=.fn (.func gf) lb,args:=#[.func (.yield L) #[] #[]] },V,gf,#[.func (.yield L) #[] #[]]++lb,V,run_enterLoop_outer _ _ _ _ _,?_,?_,?_,fun _=>h1,?_⟩
 ·simp only [resolve,hg];simp [go_sem]
 ·intro f' hf';simp [Target.leads] at hf';subst hf';exact hFg
 ·simp [invoke,go_sem,eg]
 refine (hseq L (fun pre W=>I pre W∧W.heap[L]? = some (.loop (rec' .ready none))∧W.heap[D]? = some (.deferred (some []))) V vB ?_ ?_ ⟨hI.alloc _ (hI.alloc _ h0),vL,vD⟩).mono ?_
 · -- the three facts abide what the iterator does
  intro s A B row hs hgr hr;have hc:∀r,row=some r→∃o:Obj,A.heap[r]? = some o∧o.isCells=false:=fun r e=>by
   obtain ⟨_,o,ho,hw⟩:=hr r e;exact ⟨o,ho,Obj.not_cells_of_walk hw⟩
  have hw:∀r,row=some r→∃o:Obj,A.heap[r]? = some o∧o.isWalk=true:=fun r e=>(hr r e).2
  exact ⟨hI s A B row hs.1 hgr (fun r e=>⟨by have:=(hr r e).1;have:=vB.size;omega,hc r e⟩),(grownBy_keeps hgr hw hs.2.1 rfl).trans hs.2.1,(grownBy_keeps hgr hw hs.2.2 rfl).trans hs.2.2⟩
 · -- a round
  rintro pre x W ⟨hi,hl,hd⟩ hok;have hlt:L<W.heap.size:=(Ar.1 hl).1;refine ⟨fn,_,assign,body,run_yield (P:=P) (args:=encs x) hl (hps x),roundIn_of_wpIn hfn (hassign _ x W _ ⟨_,run_beginRound hl rfl,?_⟩)⟩;generalize hX:W.putObj L (.loop { rec' .ready none with state:=.busy })=X;have xL:X.heap[L]? = some (.loop { rec' .ready none with state:=.busy }):=by rw [←hX];exact Ba hlt
  have xD:X.heap[D]? = some (.deferred (some [])):=by rw [←hX];exact (World.putObj_heap_other (by show D≠L;simp [L,D])).trans hd
  have xK:Kp W X:=by rw [←hX];exact hKb _ _ _ _ (by simp [L]) hl rfl rfl
  have xI:I pre X:=by rw [←hX];exact hI.putObj _ hi (by simp [L]) hl rfl
  have xO:Ok pre x X:=by rw [←hX];exact hOk _ _ _ _ _ _ (by simp [L]) hl rfl hok
  clear hX;refine wpIn_mono (hbody _ pre x X xI xO) ?_;rintro e b Y ⟨rfl,hkf,hkp,hi'⟩;have yL:=hkf.same _ _ (by simp [L]) xL rfl;have yD:=hkf.same _ _ (Ad _) xD rfl;have hr:=run_endRound (P:=P) none yL;exact ⟨_,_,hr,rfl,⟨hI.putObj _ hi' (by simp [L]) yL rfl,Ba (Ar.1 yL).1,(World.putObj_heap_other (by show D≠L;simp [L,D])).trans yD⟩,hKt (hKt xK hkp) (hKb _ _ _ _ (by simp [L]) yL rfl rfl)⟩
 · -- behind the iterator
  rintro e Y ⟨⟨v,rfl⟩,xs,hs,hi,hl,hd⟩;exact ⟨none,_,run_endLoop (P:=P) hl (by simp [rec']),hdone _ xs _ (Ad _) (hS _ _ _ _ _ (by simp [L]) hl rfl hs) (hI.putObj _ hi (by simp [L]) hl rfl) ((World.putObj_heap_other (by show D≠L;simp [L,D])).trans hd)⟩
end
section
variable {F:Fence} {n:Nat} {P:Program}
def nF (F:Fence) (n:Nat) (P:Program) (g:Nat) (lb:Array Value) (enc:Array Value) (T:World→World→Prop) (w:World):Prop :=
 ∀(l:Nat) (J:World→Prop) (W:World),Below w.heap.size w W →
  (∀W1,T W W1→YieldAt F (n-1) P l enc W1 fun e W'=>e=.returned (.bool false)∧J W') →
  CallsIn F n P g (#[.func (.yield l) #[] #[]]++lb) W fun e W'=>(∃v,e=.returned v)∧∃W0,Below W0.heap.size W0 W'∧J W0
def cF (B:Nat) (Ix:World→Prop) (W:World) (e:Exit) (_:Act) (W':World):Prop:=e=.ret∧KeepsFrom B W W'∧Ix W'
theorem Ln {g:Operand} {ps:Array Tmp} {assign body:Code} {Q:Exit→Act→World→Prop} {a:Act} {w:World} (hro:F.round=none) (h1:1≤n) {gf:Nat} {lb:Array Value} (hg:a.eval g=.func (.func gf) #[] lb) (hFg:F.fn gf) (eg:∀args w,(callFunc gf args).run P w=.ok (.enter gf args) w)
  {enc:Array Value} {T:World→World→Prop} (hseq:nF F (n-1) P gf lb enc T w) (hps:enc.size=ps.size) (hT:∀W W1,T W W1→KeepsFrom w.heap.size W W1)
  (Ax:Act→World→Prop) (Ix:World→Prop) (hAx:∀a',OwnFrom w.heap.size (fun (_:Unit) W=>Ax a' W)) (hIx:OwnFrom w.heap.size (fun (_:Unit) W=>Ix W)) (hIb:∀A B:World,Below A.heap.size A B→Ix A→Ix B)
  (hassign:∀(l:Nat) (W W1:World) (K:Act→World→Prop),Below w.heap.size w W→T W W1→(∀a' W2,KeepsFrom w.heap.size W1 W2→Ax a' W2→K a' W2) →
   assign.wpIn (F.inRound l) (n-1-1) P (Exit.then K (fun _ _ _=>False)) { tmps:=(ps.zip enc).foldl (fun t (p,v)=>t.setIfInBounds p v) a.tmps,defers:=[] } W1)
  (hbody:∀(l:Nat) (a':Act) (W:World),w.heap.size≤l→(∃r,W.heap[l]? = some (.loop r))→Ax a' W→body.wpIn (F.inRound l) (n-1-1) P (cF w.heap.size Ix W) a' W)
  (hstop:∀(D:Nat) (W:World),w.heap.size≤D→Ix W→W.heap[D]? = some (.deferred (some []))→Code.ret.wpIn F n P Q { a with defers:={ target:=.collected D,args:=#[] }::a.defers } W) :
  (Code.rangeFunc g ps assign body).wpIn F n P Q a w:=by
 refine wpIn_rangeFunc ?_;intro fn hfn;rw [hro]
 let D:=w.heap.size
 let L:=w.heap.size+1
 let rec':LoopState→Option Code→Loop:=fun st pe=>{ state:=st,pending:=pe,fn,tmps:=a.tmps,params:=ps,assign,body,defers:=D }
 let V:=(w.alloc (.deferred (some []))).alloc (.loop (rec' .ready none))
 have vL:V.heap[L]? = some (.loop (rec' .ready none)):=by
  exact qDf
 have vD:V.heap[D]? = some (.deferred (some [])):=(Below.heap_alloc _ _ _ (by simp [D])).trans (World.alloc_heap_new w _);have vB:Below w.heap.size w V:=((Ac _ w).alloc (Ad _) _).alloc qG _;refine ⟨L,[{ target:=.collected D,args:=#[] }],V,{ target:=.fn (.func gf) lb,args:=#[.func (.yield L) #[] #[]] },V,gf,#[.func (.yield L) #[] #[]]++lb,V,run_enterLoop_outer _ _ _ _ _,?_,?_,?_,fun _=>h1,?_⟩
 ·simp only [resolve,hg];simp [go_sem]
 ·intro f' hf';simp [Target.leads] at hf';subst hf';exact hFg
 ·simp [invoke,go_sem,eg]
 refine (hseq L (fun W=>Ix W∧W.heap[L]? = some (.loop (rec' .done (some .ret)))∧W.heap[D]? = some (.deferred (some []))) V vB ?_).mono ?_
 · -- the round
  intro W hTW;have hkT:=hT _ _ hTW;have hl:=hkT.same _ _ (by simp [L]) vL rfl;have hd:=hkT.same _ _ (Ad _) vD rfl;refine ⟨fn,_,assign,body,run_yield (P:=P) (args:=enc) hl hps,roundIn_of_wpIn hfn (hassign _ V W _ vB hTW ?_)⟩;intro a' W2 hk2 hax;have hl2:=hk2.same _ _ (by simp [L]) hl rfl;have hd2:=hk2.same _ _ (Ad _) hd rfl;have hlt:L<W2.heap.size:=(Ar.1 hl2).1;refine ⟨_,run_beginRound hl2 rfl,?_⟩;generalize hX:W2.putObj L (.loop { rec' .ready none with state:=.busy })=X;have xL:X.heap[L]? = some (.loop { rec' .ready none with state:=.busy }):=by rw [←hX];exact Ba hlt
  have xD:X.heap[D]? = some (.deferred (some [])):=by rw [←hX];exact (World.putObj_heap_other (by show D≠L;simp [L,D])).trans hd2
  have xA:Ax a' X:=by rw [←hX];exact (hAx a').putObj (s:=()) _ hax (by simp [L]) hl2 rfl
  clear hX;refine wpIn_mono (hbody _ a' X (by simp [L]) ⟨_,xL⟩ xA) ?_;rintro e b Y ⟨rfl,hkf,hi'⟩;have yL:=hkf.same _ _ (by simp [L]) xL rfl;have yD:=hkf.same _ _ (Ad _) xD rfl;have hr:=run_endRound (P:=P) (some .ret) yL;exact ⟨_,_,hr,rfl,hIx.putObj (s:=()) _ hi' (by simp [L]) yL rfl,Ba (Ar.1 yL).1,(World.putObj_heap_other (by show D≠L;simp [L,D])).trans yD⟩
 ·rintro e Y ⟨⟨v,rfl⟩,W0,hb,hi,hl,hd⟩;have hl':Y.heap[L]? = some (.loop (rec' .done (some .ret))):=(hb.block L (Ar.1 hl).1).trans hl;have hd':Y.heap[D]? = some (.deferred (some [])):=(hb.block D (Ar.1 hd).1).trans hd;exact ⟨some .ret,_,run_endLoop (P:=P) hl' (by simp [rec']),hstop D _ (Ad _) (hIx.putObj (s:=()) _ (hIb _ _ hb hi) (by simp [L]) hl' rfl) ((World.putObj_heap_other (by show D≠L;simp [L,D])).trans hd')⟩
theorem Kc {g:Operand} {ps:Array Tmp} {assign body:Code} {Q:Exit→Act→World→Prop} {a:Act} {w:World} {l₀:Nat} {r₀:Loop} (hro:F.round=some l₀) (hl₀:w.heap[l₀]? = some (.loop r₀)) (h1:1≤n) {gf:Nat} {lb:Array Value} (hg:a.eval g=.func (.func gf) #[] lb) (hFg:F.fn gf) (eg:∀args w,(callFunc gf args).run P w=.ok (.enter gf args) w)
  {enc:Array Value} {T:World→World→Prop} (hseq:nF F (n-1) P gf lb enc T w) (hps:enc.size=ps.size) (hT:∀W W1,T W W1→KeepsFrom w.heap.size W W1)
  (Ax:Act→World→Prop) (Ix:World→Prop) (hAx:∀a',OwnFrom w.heap.size (fun (_:Unit) W=>Ax a' W)) (hIx:OwnFrom w.heap.size (fun (_:Unit) W=>Ix W)) (hIb:∀A B:World,Below A.heap.size A B→Ix A→Ix B)
  (hassign:∀(l:Nat) (W W1:World) (K:Act→World→Prop),Below w.heap.size w W→T W W1→(∀a' W2,KeepsFrom w.heap.size W1 W2→Ax a' W2→K a' W2) →
   assign.wpIn (F.inRound l) (n-1-1) P (Exit.then K (fun _ _ _=>False)) { tmps:=(ps.zip enc).foldl (fun t (p,v)=>t.setIfInBounds p v) a.tmps,defers:=[] } W1)
  (hbody:∀(l:Nat) (a':Act) (W:World),w.heap.size≤l→(∃r,W.heap[l]? = some (.loop r))→Ax a' W→body.wpIn (F.inRound l) (n-1-1) P (cF w.heap.size Ix W) a' W)
  (hstop:∀(W:World),Ix W→Code.ret.wpIn F n P Q a W) :
  (Code.rangeFunc g ps assign body).wpIn F n P Q a w:=by
 refine wpIn_rangeFunc ?_;intro fn hfn;rw [hro]
 let L:=w.heap.size
 let rec':LoopState→Option Code→Loop:=fun st pe=>{ state:=st,pending:=pe,fn,tmps:=a.tmps,params:=ps,assign,body,defers:=r₀.defers }
 let V:=w.alloc (.loop (rec' .ready none))
 have vL:V.heap[L]? = some (.loop (rec' .ready none)):=World.alloc_heap_new w _;have vB:Below w.heap.size w V:=(Ac _ w).alloc (Ad _) _;refine ⟨L,[],V,{ target:=.fn (.func gf) lb,args:=#[.func (.yield L) #[] #[]] },V,gf,#[.func (.yield L) #[] #[]]++lb,V,run_enterLoop_inner hl₀ _ _ _ _ _,?_,?_,?_,fun _=>h1,?_⟩
 ·simp only [resolve,hg];simp [go_sem]
 ·intro f' hf';simp [Target.leads] at hf';subst hf';exact hFg
 ·simp [invoke,go_sem,eg]
 refine (hseq L (fun W=>Ix W∧W.heap[L]? = some (.loop (rec' .done (some .ret)))) V vB ?_).mono ?_
 · -- the round
  intro W hTW;have hkT:=hT _ _ hTW;have hl:=hkT.same _ _ (Ad _) vL rfl;refine ⟨fn,_,assign,body,run_yield (P:=P) (args:=enc) hl hps,roundIn_of_wpIn hfn (hassign _ V W _ vB hTW ?_)⟩;intro a' W2 hk2 hax;have hl2:=hk2.same _ _ (Ad _) hl rfl;have hlt:L<W2.heap.size:=(Ar.1 hl2).1;refine ⟨_,run_beginRound hl2 rfl,?_⟩;generalize hX:W2.putObj L (.loop { rec' .ready none with state:=.busy })=X;have xL:X.heap[L]? = some (.loop { rec' .ready none with state:=.busy }):=by rw [←hX];exact Ba hlt
  have xA:Ax a' X:=by rw [←hX];exact (hAx a').putObj (s:=()) _ hax (Ad _) hl2 rfl
  clear hX;refine wpIn_mono (hbody _ a' X (Ad _) ⟨_,xL⟩ xA) ?_;rintro e b Y ⟨rfl,hkf,hi'⟩;have yL:=hkf.same _ _ (Ad _) xL rfl;have hr:=run_endRound (P:=P) (some .ret) yL;exact ⟨_,_,hr,rfl,hIx.putObj (s:=()) _ hi' (Ad _) yL rfl,Ba (Ar.1 yL).1⟩
 ·rintro e Y ⟨⟨v,rfl⟩,W0,hb,hi,hl⟩;have hl':Y.heap[L]? = some (.loop (rec' .done (some .ret))):=(hb.block L (Ar.1 hl).1).trans hl;exact ⟨some .ret,_,run_endLoop (P:=P) hl' (by simp [rec']),hstop _ (hIx.putObj (s:=()) _ (hIb _ _ hb hi) (Ad _) hl' rfl)⟩
end
end Go.Proofs.YtnnhcbeiogaknaaGreatDoor
end
section
namespace Go.Proofs.YtnnhcbeiogaknaaGreatDoor
open Go.RowKit Go.Shelf
attribute [local go_sem] Oper.semAt_some
theorem kT (w:World) (g:Bool) (a:Option Addr) (n c:Nat) (z:Int) (h:Bg w g a n c z) (h0:z<0) (h2:n≤2) :
  Calls Tryz.prog 108 #[.agg #[.bool g,.slice a n c]] w (Vp w z):=by
 have HB:=Ac w.heap.size w;have ho:=Ae h.okay;refine (callsIn_wide (n:=3)).1 ?_;refine callsIn_of_wp_marks Tryz.func108 rfl trivial ?_ rfl;refine wpIn_wide.2 ?_;simp only [Tryz.ntmps108,List.size_toArray,List.length_cons,List.length_nil,Nat.reduceAdd,Nat.reduceSub,Array.replicate_succ,Array.replicate_zero,List.push_toArray,List.append_toArray,List.nil_append,List.cons_append];have hzb:-1000000000000000000<z:=by
  exact qCh
 have hg:g=true:=by rw [h.neg];simp;omega
 subst hg;have hcm1:Bz z (-9223372036854775808)=1:=Dy qA;have hcm2:Bz z 9223372036854775807=-1:=Ds qA;go_wp2_with fail;refine (Cv _ _ _ _ _ (dg z.natAbs) (h.rd.keep qF) true ⟨fun _=>rfl,fun _=>ho.out⟩).mono ?_;rintro e w1 ⟨rfl,hb⟩;obtain ⟨hc,hf⟩:=Bl hb;have hz:=hb.size;(try simp only [Aj,Ak] at hz);replace HB:=zI w hb;obtain ⟨s0_0,s0_1⟩:=qZ hc (w.heap.size) (.bool true) (.slice a n c);clear hc hf hb;go_wp2_with fail;go_region_held3 (fun W=>W.cell? ⟨w.heap.size,0,none⟩=some (.bool true)∧W.cell? ⟨w.heap.size,1,none⟩=some (.slice a n c)) (first|((try dsimp only);(repeat' apply Ay);all_goals (first|(with_reducible assumption)|(go_keep;done)|(simp [*,go_sem];done)))) (first
  | (go_at_call 40;(with_reducible refine (Pr _ (-9223372036854775808) qA qA).mono ?_);rintro e w2 ⟨g2,a2,n2,c2,rfl,hm,_,hb⟩;have hB2:=Al (by go_grown:Below w1.heap.size w1 _) (hb.mono qB);have s0_0:=Bb hB2 s0_0;have s0_1:=Bb hB2 s0_1;replace HB:=Al HB (hB2.mono HB.size);have hz2:=hB2.size)
  | (go_at_call 40;(with_reducible refine (Pr _ 9223372036854775807 qA qA).mono ?_);rintro e w2 ⟨g2,a2,n2,c2,rfl,hm2,_,hb⟩;have hB2:=Al (by go_grown:Below w3.heap.size w3 _) (hb.mono qB);have s0_0:=Bb hB2 s0_0;have s0_1:=Bb hB2 s0_1;replace HB:=Al HB (hB2.mono HB.size);have hz2:=hB2.size)
  | (go_at_call 63;(with_reducible refine (Rt _ _ _ _ _ _ (h.keep qF) _ _ _ _ (-9223372036854775808) (hm.keep qF)).mono ?_);rintro e w3 ⟨rfl,hb⟩;clear hm;rw [hcm1];have hB2:=Al (by go_grown:Below w2.heap.size w2 _) (hb.mono qB);have s0_0:=Bb hB2 s0_0;have s0_1:=Bb hB2 s0_1;replace HB:=Al HB (hB2.mono HB.size);have hz3:=hB2.size)
  | (go_at_call 63;(with_reducible refine (Rt _ _ _ _ _ _ (h.keep qF) _ _ _ _ 9223372036854775807 (hm2.keep qF)).mono ?_);rintro e w4 ⟨rfl,hb⟩;rw [hcm2];have hB2:=Al (by go_grown:Below w2.heap.size w2 _) (hb.mono qB);have s0_0:=Bb hB2 s0_0;have s0_1:=Bb hB2 s0_1;replace HB:=Al HB (hB2.mono HB.size);have hz3:=hB2.size))
 have hk0:w.heap.size<w4.heap.size:=by omega
 go_wp2_with fail;refine (Sn _ _ _ _).mono ?_;rintro e w5 ⟨rfl,rfl⟩;go_wp2_with fail;have hlow:n=0∨∃b o,a=some ⟨b,o,none⟩∧b<w4.heap.size:=by
  exact qBu
 have bP:=Boxed.new w4 2 (.int .i64 0);have bS:=Boxed.new (w4.alloc (.cells #[.int .i64 0] 2)) 30 (.slice a n c);rw [Aj] at bS;have hB0:Below w4.heap.size w4 ((w4.alloc (.cells #[.int .i64 0] 2)).alloc (.cells #[.slice a n c] 30)):=((Ac _ w4).alloc (Ad _) _).alloc qG _;have hrd:=h.rd.keep (HB.trans (hB0.mono HB.size));have bPc:((w4.alloc (.cells #[.int .i64 0] 2)).alloc (.cells #[.slice a n c] 30)).cell? ⟨w4.heap.size,0,none⟩=some (.int .i64 0):=(bP.alloc _).cell;have bPf:((w4.alloc (.cells #[.int .i64 0] 2)).alloc (.cells #[.slice a n c] 30)).frozen? ⟨w4.heap.size,0,none⟩=false:=(bP.alloc _).frozen;have bSc:=bS.cell;have hsz0:((w4.alloc (.cells #[.int .i64 0] 2)).alloc (.cells #[.slice a n c] 30)).heap.size=w4.heap.size+2:=by simp
 generalize ((w4.alloc (.cells #[.int .i64 0] 2)).alloc (.cells #[.slice a n c] 30))=w5 at *;clear bP bS;refine (wpIn_wide (n:=3)).1 ?_;refine wpIn_rangeFunc_ownG (F:=Fence.wide) rfl qA (gf:=241) (lb:=#[.pointer (some ⟨w4.heap.size+1,0,none⟩)]) rfl trivial (enters_of Tryz.func241 qC rfl)
  (Ko Fence.wide 2 trivial rfl qA (w4.heap.size+1) w4.heap.size a n c (dg z.natAbs) w5 qA qA bSc hrd hlow)
  (fun h1 h2=>KpB.trans h1 h2)
  (fun W l o o' hl ho hc1 hc2=>⟨belowK_b qA W l o o' hl ho hc1 hc2,Af (World.putObj_heap_other (fun e=>by have e:w4.heap.size+1=l:=e;omega))⟩)
  (Ac _ _) (fun _=>rfl)
  (fun pre W=>(W.cell? ⟨w4.heap.size,0,none⟩=some (.int .i64 (bk pre))∧W.frozen? ⟨w4.heap.size,0,none⟩=false)∧Below w4.heap.size w4 W)
  (fun _ _ _=>False)
  (OwnFrom.and (Own.from (fun s A B row hs hg hr=>⟨cell_kept hs.1 hg hr,(frozen_kept hs.1 hg hr).trans hs.2⟩) _) (ownFrom_below qA qA))
  (fun _ _ _ _ _ hs _ _=>hs)
  ⟨⟨bPc,bPf⟩,hB0⟩ ?a1 ?assign ?body ?done ?stop
 case assign =>
  intro l x W K hK
  gi_wp2
  exact hK
 case body =>
  exact qBb
 case done =>
  rintro D ys W hD rfl ⟨⟨hc,hf⟩,hB⟩ hK;rw [nL _ (Ep _) h.rd.len h2,Bo] at hc;have hneg:-((z.natAbs:Nat):Int)=z:=by omega
  rw [hneg] at hc;have hnw:IntKind.i64.wrap z=z:=IntWalk.i64_in _ qA;have s0:=Bb hB s0_0;go_wp2_with fail;refine ⟨by simp,.inl ⟨_,_,rfl,run_takeDeferred hK,?_⟩⟩;refine ⟨.tuple #[.int .i64 z,.int .i64 0],?_,rfl,?_⟩
  ·simp [results,Tryz.results108,go_sem]
  ·exact (HB.trans (hB.mono HB.size)).trans (belowK_b (w:=w) (Ad _) _ D _ _ qA hK rfl rfl)
 case stop =>
  rintro D c pre W _ _ h _;exact h.elim
end Go.Proofs.YtnnhcbeiogaknaaGreatDoor
end
section
namespace Go.Proofs.YtnnhcbeiogaknaaGreatDoor
open Go.RowKit Go.Lib Go.Sort
theorem rU (w:World) :
  Calls Tryz.prog 44 #[.map none] w fun e w'=>e=.returned (.slice none 0 0)∧RowKit.Below w.heap.size w w':=by
 have hrg:=run_range_nilMap (P:=Tryz.prog) w 85 76 34 Tryz.underlying85;have hnx:∀ty,(Instr.next (.pointer (some ⟨w.heap.size,0,none⟩)) false ty).run Tryz.prog (w.alloc (.mapIter none 0 #[] 0))=_:=fun ty=>run_next_nilMap w ty 0 0 #[]
 go_enter Tryz.func44,Tryz.ntmps44;go_wp2_with fail;refine wp_loop_rounds 1 ?_;rw [rounds_succ];go_wp2_with (first|(go_at_call 103;refine (Ui _ _ _).mono ?_;rintro e w3 ⟨rfl,rfl⟩));go_ret;exact ⟨rfl,by go_grown⟩
end Go.Proofs.YtnnhcbeiogaknaaGreatDoor
end
section
namespace Go.Proofs.YtnnhcbeiogaknaaGreatDoor
open Go.RowKit
def Co:List UInt8→Int→Bool
 | [],_=>false
 | b::_,c=>decide ((b.toNat:Int)=c)
theorem I5 (b:UInt8) (r:List UInt8):(⟨(b::r).toArray⟩:ByteArray).extract 1 (r.length+1)=⟨r.toArray⟩:=by
 apply ByteArray.ext;simp
theorem Zx (w:World) (R:Nat) (c:Int) (h0:w.cell? ⟨R,0,none⟩=some (.string ⟨([]:List UInt8).toArray⟩)) (hf:w.frozen? ⟨R,0,none⟩=false) (h1:0≤c) (h2:c<256) :
  Calls Tryz.prog 221 #[.pointer (some ⟨R,0,none⟩),.int .u8 c] w (fun e w'=>e=.returned (.bool false)∧w'=w):=by
 go_enter Tryz.func221,Tryz.ntmps221;go_wp2;exact bodyPost_ret (v:=.bool false) (by simp [results,Tryz.results221,go_sem]) rfl ⟨rfl,rfl⟩
theorem Xn (w:World) (R:Nat) (b:UInt8) (r:List UInt8) (c:Int) (h0:w.cell? ⟨R,0,none⟩=some (.string ⟨(b::r).toArray⟩)) (hf:w.frozen? ⟨R,0,none⟩=false) (h1:0≤c) (h2:c<256) (hr:r.length<1000000000) :
  Calls Tryz.prog 221 #[.pointer (some ⟨R,0,none⟩),.int .u8 c] w (fun e w'=>e=.returned (.bool (decide ((b.toNat:Int)=c)))∧(if (b.toNat:Int)=c then w'=w.setCell ⟨R,0,none⟩ (.string ⟨r.toArray⟩) else w'=w)):=by
 have hx:=I5 b r;have hy:(⟨(b::r).toArray⟩:ByteArray)[0]'(by simp [ByteArray.size])=b:=by simp [ByteArray.getElem_eq_getElem_data]
 go_enter Tryz.func221,Tryz.ntmps221;go_wp2;all_goals first
  | exact bodyPost_ret (v:=.bool true) (by simp [results,Tryz.results221,go_sem]) rfl ⟨rfl,rfl⟩
  | exact bodyPost_ret (v:=.bool false) (by simp [results,Tryz.results221,go_sem]) rfl ⟨rfl,rfl⟩
  | (exfalso;simp_all;done)
theorem dQ (w:World) (R:Nat) (l:List UInt8) (c:Int) (h0:w.cell? ⟨R,0,none⟩=some (.string ⟨l.toArray⟩)) (hf:w.frozen? ⟨R,0,none⟩=false) (h1:0≤c) (h2:c<256) (hr:l.length<1000000000) :
  Calls Tryz.prog 221 #[.pointer (some ⟨R,0,none⟩),.int .u8 c] w (fun e w'=>e=.returned (.bool (Co l c))∧w'=if Co l c then w.setCell ⟨R,0,none⟩ (.string ⟨l.tail.toArray⟩) else w):=by
 cases l with
 | nil=>exact Zx w R c h0 hf h1 h2
 | cons b r =>
  refine (Xn w R b r c h0 hf h1 h2 (by simp at hr;omega)).mono ?_;rintro e w' ⟨rfl,h⟩;refine ⟨rfl,?_⟩;simp only [Co,List.tail_cons,decide_eq_true_eq];by_cases hb:(b.toNat:Int)=c
  ·simpa [hb] using h
  ·simpa [hb] using h
def Di (d:List UInt8):Nat:=d.foldl (fun n b=>10*n+(b.toNat-48)) 0
def Fd (d:List UInt8):Nat:=if 200<d.length then 0 else Di d
def Jr (L:List UInt8) (many:Bool):Option (List UInt8×List UInt8×Bool) :=
 if Ee (L.takeWhile Dg) then some (L.takeWhile Dg,L.dropWhile Dg,many || decide (200<(L.takeWhile Dg).length)) else none
def Hj (L:List UInt8) (many:Bool):Option (List UInt8×List UInt8×Bool) :=
 match Jr L many with
 | none=>none
 | some (d,r,m)=>if d=[48] then none else some (d,r,m)
def H6 (L:List UInt8) (many:Bool):Option (Nat×List UInt8×Bool) :=
 if Co L 94 then
  match Hj L.tail many with
  | none=>none
  | some (d,r,m)=>if 1000<Di d then some (0,r,true) else some (Di d,r,m)
 else some (1,L,many)
def Nu (n d:Nat):PC:=if d=0 then (0,1) else (Fj n d,Fr n d)
def E5 (L:List UInt8) (many:Bool):Option (PC×List UInt8×Bool) :=
 match Jr L many with
 | none=>none
 | some (t,r,m) =>
  if Co r 47 then
   match Hj r.tail m with
   | none=>none
   | some (l,r',m')=>some (Nu (Fd t) (Fd l),r',m')
  else some (Nu (Fd t) 1,r,m)
def Hm (b:UInt8):Option Nat :=
 if b=120 then some 0 else if b=121 then some 1 else if b=122 then some 2 else if b=116 then some 3 else none
structure TS where
 c:PC
 o:Nat→Nat
 L:List UInt8
 many:Bool
def Sw (o:Nat→Nat) (i n:Nat):Nat→Nat:=fun k=>if k=i then o i+n else o k
def Cm (s:TS):Option TS :=
 match s.L with
 | []=>none
 | b::r =>
  match Hm b with
  | some i=>match H6 r s.many with
   | none=>none
   | some (n,r',m)=>some ⟨s.c,Sw s.o i n,r',m⟩
  | none=>match E5 (b::r) s.many with
   | none=>none
   | some (c,r',m)=>some ⟨Ct s.c c,s.o,r',m⟩
def skp (L:List UInt8):List UInt8:=L.dropWhile mX
theorem E7 (L:List UInt8):(skp L).length≤L.length:=(List.dropWhile_sublist _).length_le
theorem K4 {L:List UInt8} {many:Bool} {d r:List UInt8} {m:Bool} (h:Jr L many=some (d,r,m)):d.length+r.length=L.length∧0<d.length:=by
 unfold Jr at h
 split at h
 ·next hd =>
  simp only [Option.some.injEq,Prod.mk.injEq] at h;obtain ⟨rfl,rfl,_⟩:=h;refine ⟨?_,?_⟩
  ·rw [←A8,List.takeWhile_append_dropWhile]
  ·cases he:L.takeWhile Dg with
   | nil=>rw [he] at hd;simp [Ee] at hd
   | cons b t=>simp
 ·cases h
theorem Iy {L:List UInt8} {many:Bool} {d r:List UInt8} {m:Bool} (h:Hj L many=some (d,r,m)):d.length+r.length=L.length∧0<d.length:=by
 unfold Hj at h
 split at h
 ·cases h
 ·next d' r' m' h' =>
  split at h
  ·cases h
  ·cases h;exact K4 h'
theorem Oq {L:List UInt8} {many:Bool} {n:Nat} {r:List UInt8} {m:Bool} (h:H6 L many=some (n,r,m)):r.length≤L.length:=by
 unfold H6 at h
 split at h
 ·split at h
  ·cases h
  ·next d r' m' h' =>
   have h1:=Iy h';have h2:L.tail.length≤L.length:=by simp
   split at h<;>cases h<;>omega
 ·cases h;exact Ad _
theorem Y0 {L:List UInt8} {many:Bool} {c:PC} {r:List UInt8} {m:Bool} (h:E5 L many=some (c,r,m)):r.length<L.length:=by
 unfold E5 at h
 split at h
 ·cases h
 ·next t r' m' h' =>
  have h1:=K4 h'
  split at h
  ·split at h
   ·cases h
   ·next l r'' m'' h'' =>
    have h2:=Iy h'';have h3:r'.tail.length≤r'.length:=by simp
    cases h;omega
  ·cases h;omega
theorem Dc {s t:TS} (h:Cm s=some t):t.L.length<s.L.length:=by
 unfold Cm at h
 split at h
 ·cases h
 ·next b r hL =>
  rw [hL]
  split at h
  ·split at h
   ·cases h
   ·next n r' m h' =>
    have:=Oq h';cases h
    simp;omega
  ·split at h
   ·cases h
   ·next c r' m h' =>
    have:=Y0 h';cases h
    simpa using this
def Cn (s:TS):Option TS :=
 if Fb s.L then
  match h:Cm s with
  | none=>none
  | some t =>
   if Co (skp t.L) 42 then Cn { t with L:=skp (skp t.L).tail }
   else if Fb (skp t.L) then Cn { t with L:=skp t.L }
   else some { t with L:=skp t.L }
 else none
termination_by s.L.length
decreasing_by
 ·have h1:=Dc h
  have h2:=E7 t.L
  have h3:=E7 (skp t.L).tail
  have h4:(skp t.L).tail.length≤(skp t.L).length:=by simp
  show (skp (skp t.L).tail).length<s.L.length
  omega
 ·have h1:=Dc h
  have h2:=E7 t.L
  show (skp t.L).length<s.L.length
  omega
def Ig (o:Nat→Nat):Bool:=decide (65535<o 0) || decide (65535<o 1) || decide (65535<o 2) || decide (65535<o 3)
def Im (n:Nat):Nat:=min n 65535
def Pw (o:Nat→Nat):Nat:=Ch (Im (o 0)) (Im (o 1)) (Im (o 2)) (Im (o 3))
def Ow (k:Nat) (c:PC):List PT:=if c.1=0 then [] else [(k,c)]
def Fc (L:List UInt8) (many neg:Bool):Option (List PT×List UInt8×Bool) :=
 match Cn ⟨(if neg then -1 else 1,1),fun _=>0,skp L,many⟩ with
 | none=>none
 | some t=>some (Ow (Pw t.o) t.c,t.L,t.many || Ig t.o)
theorem Hn (s:TS) {t:TS} (h:Cn s=some t):t.L.length<s.L.length:=by
 induction s using Cn.induct with
 | case1 s hs hn=>rw [Cn,if_pos hs] at h;split at h<;>simp_all
 | case2 s hs u hu h42 ih =>
  rw [Cn,if_pos hs] at h
  split at h
  ·cases h
  ·next u' hu' =>
   have:u'=u:=by rw [hu'] at hu;exact Option.some.inj hu
   subst this;rw [if_pos h42] at h;have h1:=Dc hu';have h2:=E7 u'.L;have h3:=E7 (skp u'.L).tail;have h4:(skp u'.L).tail.length≤(skp u'.L).length:=by simp
   have h5:=ih h;simp only at h5;omega
 | case3 s hs u hu h42 hst ih =>
  rw [Cn,if_pos hs] at h
  split at h
  ·cases h
  ·next u' hu' =>
   have:u'=u:=by rw [hu'] at hu;exact Option.some.inj hu
   subst this;rw [if_neg h42,if_pos hst] at h;have h1:=Dc hu';have h2:=E7 u'.L;have h5:=ih h;simp only at h5;omega
 | case4 s hs u hu h42 hst =>
  rw [Cn,if_pos hs] at h
  split at h
  ·cases h
  ·next u' hu' =>
   have:u'=u:=by rw [hu'] at hu;exact Option.some.inj hu
   subst this;rw [if_neg h42,if_neg hst] at h;cases h
   have h1:=Dc hu';have h2:=E7 u'.L;simp only;omega
 | case5 s hs=>rw [Cn,if_neg hs] at h;cases h
theorem Jb {L:List UInt8} {many neg:Bool} {l:List PT} {r:List UInt8} {m:Bool} (h:Fc L many neg=some (l,r,m)):r.length<L.length:=by
 unfold Fc at h
 split at h
 ·cases h
 ·next t ht =>
  have h1:=Hn _ ht;have h2:=E7 L;cases h
  simp only at h1;omega
def Gg (p:List PT) (L:List UInt8) (many:Bool):Option (List PT×Bool) :=
 match L with
 | []=>some (p,many)
 | b::r =>
  if b=45∨b=43 then
   match h:Fc r many (b=45) with
   | none=>none
   | some (l,r',m)=>Gg (Cr p l) r' m
  else none
termination_by L.length
decreasing_by
 have:=Jb h
 simp;omega
def Hc (L:List UInt8):Option (List PT×Bool) :=
 match Fc (if Co (skp L) 45 then (skp L).tail else skp L) false (Co (skp L) 45) with
 | none=>none
 | some (l,r,m)=>Gg l r m
def Ed (L:List UInt8):List PT×Int :=
 if 65536<L.length then ([],3) else
  match Hc L with
  | none=>([],4)
  | some (l,m)=>if m then ([],3) else (l,0)
theorem Qn:∀(k n:Nat),n<1000000000 ^ k→(dg n).length≤k
 | 0,n,h=>by
  have:n=0:=by simpa using h
  subst this;rw [C9];simp
 | k+1,n,h=>by
  by_cases h0:n=0
  ·subst h0;rw [C9];simp
  ·rw [Ij qA,List.length_cons];have:n/1000000000<1000000000 ^ k:=by
    rw [Nat.div_lt_iff_lt_mul qA,←Nat.pow_succ];exact h
   have:=Qn k _ this;omega
theorem jZ (d:List UInt8) (h:d.all Dg=true) (a:Nat):d.foldl (fun n b=>10*n+(b.toNat-48)) a<(a+1)*10 ^ d.length:=by
 induction d generalizing a with
 | nil=>simp
 | cons b r ih =>
  simp only [List.all_cons,Bool.and_eq_true] at h;have hb:b.toNat-48≤9:=by have:=h.1;unfold Dg at this;simp at this;omega
  refine Nat.lt_of_lt_of_le (ih h.2 _) ?_;rw [List.length_cons,Nat.pow_succ,Nat.mul_comm (10 ^ r.length) 10,←Nat.mul_assoc];exact Nat.mul_le_mul_right _ (by show 10*a+(b.toNat-48)+1≤(a+1)*10;omega)
theorem cT {d:List UInt8} (h:d.all Dg=true):Di d<10 ^ d.length:=by
 have:=jZ d h 0;simpa [Di] using this
theorem Jy {d:List UInt8} (h:Ee d=true):d.all Dg=true∧0<d.length:=by
 cases d with
 | nil=>cases h
 | cons b r =>
  simp only [Ee,Bool.and_eq_true] at h;exact ⟨h.1,by simp⟩
theorem Il {d:List UInt8} (h:Ee d=true):(dg (Fd d)).length≤d.length:=by
 unfold Fd
 split
 ·rw [C9];simp
 ·apply Qn;refine Nat.lt_of_lt_of_le (cT (Jy h).1) ?_;exact Nat.pow_le_pow_left qA _
theorem cN (n d:Nat):CW (Nu n d):=by
 unfold Nu
 split
 ·exact ⟨by decide,by decide⟩
 ·exact CW.low qA
theorem Xg {n d K:Nat} (h1:(dg n).length≤K) (h2:(dg d).length≤K) (hK:1≤K):Ca K (Nu n d):=by
 unfold Nu
 split
 ·exact ⟨by show (dg 0).length≤K;rw [C9];simp,by show (dg 1).length≤K;rw [Dj];exact hK⟩
 ·obtain ⟨a,b⟩:=Mj (n:Int) (d:Int) qA;exact ⟨by show (dg (Fj (n:Int) d).natAbs).length≤K;simp only [Int.natAbs_natCast] at a;omega,by show (dg (Fr (n:Int) d).natAbs).length≤K;simp only [Int.natAbs_natCast] at b;omega⟩
theorem Fv {L:List UInt8} {many:Bool} {d r:List UInt8} {m:Bool} (h:Jr L many=some (d,r,m)):Ee d=true:=by
 unfold Jr at h
 split at h
 ·next hd=>cases h;exact hd
 ·cases h
theorem Oc {L:List UInt8} {many:Bool} {d r:List UInt8} {m:Bool} (h:Hj L many=some (d,r,m)):Jr L many=some (d,r,m)∧d≠[48]:=by
 unfold Hj at h
 split at h
 ·cases h
 ·next d' r' m' h' =>
  split at h
  ·cases h
  ·next hn=>cases h;exact ⟨h',hn⟩
theorem Ki {L:List UInt8} {many:Bool} {c:PC} {r:List UInt8} {m:Bool} (h:E5 L many=some (c,r,m)):CW c∧Ca (L.length-r.length) c:=by
 unfold E5 at h
 split at h
 ·cases h
 ·next t r' m' h' =>
  have h1:=K4 h';have k1:=Il (Fv h')
  split at h
  ·split at h
   ·cases h
   ·next l r'' m'' h'' =>
    have h2:=Iy h'';have k2:=Il (Fv (Oc h'').1);have h3:r'.tail.length≤r'.length:=by simp
    cases h
    exact ⟨cN _ _,Xg qA qA qA⟩
  ·cases h
   exact ⟨cN _ _,Xg qA (by rw [Dj];omega) qA⟩
theorem Q4 {L:List UInt8} {many:Bool} {n:Nat} {r:List UInt8} {m:Bool} (h:H6 L many=some (n,r,m)):n≤1000:=by
 unfold H6 at h
 split at h
 ·split at h
  ·cases h
  ·split at h
   ·cases h;omega
   ·cases h;omega
 ·cases h;omega
theorem Lr {s t:TS} (h:Cm s=some t) (hc:CW s.c) {K:Nat} (hK:Ca K s.c):CW t.c∧Ca (K+(s.L.length-t.L.length)) t.c:=by
 unfold Cm at h
 split at h
 ·cases h
 ·next b r hL =>
  split at h
  ·next i hi =>
   split at h
   ·cases h
   ·next n r' m h' =>
    cases h
    exact ⟨hc,hK.mono qA⟩
  ·split at h
   ·cases h
   ·next c r' m h' =>
    obtain ⟨h1,h2⟩:=Ki h';cases h
    refine ⟨hc.mul h1,?_⟩;rw [hL];exact Ca.mul hc h1 hK h2
theorem aN {s t:TS} (h:Cm s=some t) {N:Nat} (hN:∀i,s.o i≤N):∀i,t.o i≤N+1000:=by
 unfold Cm at h
 split at h
 ·cases h
 ·next b r hL =>
  split at h
  ·next i hi =>
   split at h
   ·cases h
   ·next n r' m h' =>
    have hn:=Q4 h';cases h
    intro k;show Sw s.o i n k≤_;unfold Sw;have:=hN k;have:=hN i
    split<;>omega
  ·split at h
   ·cases h
   ·next c r' m h' =>
    cases h
    intro k;have:=hN k;show s.o k≤_;omega
theorem Gf (s:TS):Cn s=if Fb s.L then (match Cm s with
  | none=>none
  | some t=>if Co (skp t.L) 42 then Cn { t with L:=skp (skp t.L).tail } else if Fb (skp t.L) then Cn { t with L:=skp t.L } else some { t with L:=skp t.L }) else none:=by
 rw [Cn]
 split
 ·split
  ·next h=>rw [h]
  ·next t h=>rw [h]
 ·rfl
theorem U6 {s t:TS} (h:Cn s=some t):Fb s.L=true∧∃u,Cm s=some u ∧
  ((Co (skp u.L) 42=true∧Cn { u with L:=skp (skp u.L).tail }=some t)∨(Co (skp u.L) 42=false∧Fb (skp u.L)=true∧Cn { u with L:=skp u.L }=some t)∨(Co (skp u.L) 42=false∧Fb (skp u.L)=false∧t={ u with L:=skp u.L })):=by
 rw [Gf] at h
 split at h
 ·next hs =>
  refine ⟨hs,?_⟩
  split at h
  ·cases h
  ·next u hu =>
   refine ⟨u,hu,?_⟩
   cases h1:Co (skp u.L) 42
   ·rw [h1] at h
    cases h2:Fb (skp u.L)
    ·rw [h2] at h;simp only [Bool.false_eq_true,if_false,Option.some.injEq] at h;exact .inr (.inr ⟨rfl,rfl,h.symm⟩)
    ·rw [h2] at h;simp only [Bool.false_eq_true,if_false,if_true] at h;exact .inr (.inl ⟨rfl,rfl,h⟩)
   ·rw [h1] at h;simp only [if_true] at h;exact .inl ⟨rfl,h⟩
 ·cases h
theorem Ka:∀(n:Nat) (s:TS) {t:TS},s.L.length≤n→Cn s=some t→CW s.c→∀{K:Nat},Ca K s.c→CW t.c∧Ca (K+(s.L.length-t.L.length)) t.c
 | 0,s,t,hn,h,_,_,_=>by have:=Hn _ h;omega
 | n+1,s,t,hn,h,hc,K,hK=>by
  obtain ⟨hs,u,hu,hh⟩:=U6 h;obtain ⟨g1,g2⟩:=Lr hu hc hK;have h1:=Dc hu;have h2:=E7 u.L;have h3:=E7 (skp u.L).tail;have h4:(skp u.L).tail.length≤(skp u.L).length:=by simp
  rcases hh with ⟨_,h5⟩|⟨_,_,h5⟩|⟨_,_,h5⟩
  ·have h6:=Hn _ h5;obtain ⟨g3,g4⟩:=Ka n _ (by show (skp (skp u.L).tail).length≤n;omega) h5 g1 g2;refine ⟨g3,g4.mono ?_⟩;simp only at h6 ⊢;omega
  ·have h6:=Hn _ h5;obtain ⟨g3,g4⟩:=Ka n _ (by show (skp u.L).length≤n;omega) h5 g1 g2;refine ⟨g3,g4.mono ?_⟩;simp only at h6 ⊢;omega
  ·subst h5;refine ⟨g1,g2.mono ?_⟩;show _≤K+(s.L.length-(skp u.L).length);omega
theorem oZ (o:Nat→Nat):Pw o<18446744073709551616:=by
 unfold Pw;have:∀n,Im n<65536:=fun n=>by unfold Im;omega
 exact Uw (this _) (this _) (this _) (this _)
theorem PW.one {k:Nat} {c:PC} (hc:CW c) (hk:k<18446744073709551616):PW (Ow k c):=by
 unfold Ow
 split
 ·exact ⟨by simp,by simp,by simp⟩
 ·next h=>exact ⟨by simp,by simpa using ⟨hc,h⟩,by simpa using hk⟩
theorem aK (neg:Bool):CW ((if neg then -1 else 1,1):PC):=by cases neg<;>exact ⟨by decide,by decide⟩
theorem U9 (neg:Bool):Ca 1 ((if neg then -1 else 1,1):PC):=by
 cases neg<;>exact ⟨by show (dg 1).length≤1;rw [Dj];exact Ad _,by show (dg 1).length≤1;rw [Dj];exact Ad _⟩
theorem Kq {L:List UInt8} {many neg:Bool} {l:List PT} {r:List UInt8} {m:Bool} (h:Fc L many neg=some (l,r,m)):PW l∧Dd (1+(L.length-r.length)) l∧l.length≤1:=by
 unfold Fc at h
 split at h
 ·cases h
 ·next t ht =>
  have h0:=E7 L;obtain ⟨g1,g2⟩:=Ka _ _ (Ad _) ht (aK neg) (U9 neg);have h1:=Hn _ ht;cases h
  refine ⟨PW.one g1 (oZ _),?_,?_⟩
  ·unfold Ow
   split
   ·intro t ht;cases ht
   ·intro t' ht';simp only [Ao] at ht';subst ht';refine Ca.mono g2 ?_;simp only at h1 ⊢;omega
  ·unfold Ow;split<;>simp
theorem eG (d:List UInt8) (a:Nat):d.foldl (fun n b=>10*n+(b.toNat-48)) a=a*10 ^ d.length+Di d:=by
 induction d generalizing a with
 | nil=>simp [Di]
 | cons b r ih =>
  have e:Di (b::r)=(10*0+(b.toNat-48))*10 ^ r.length+Di r:=by rw [←ih];rfl
  rw [List.foldl_cons,ih,e,List.length_cons,Nat.pow_succ];rw [Nat.add_mul,Nat.add_mul,Nat.mul_zero,Nat.zero_mul];have:10*a*10 ^ r.length=a*(10 ^ r.length*10):=by rw [Nat.mul_comm 10 a,Nat.mul_assoc,Nat.mul_comm 10 (10 ^ r.length)]
  rw [this];omega
theorem Ya (a b:List UInt8):Di (a++b)=Di a*10 ^ b.length+Di b:=by
 have:Di (a++b)=b.foldl (fun n b=>10*n+(b.toNat-48)) (Di a):=by simp [Di,List.foldl_append]
 rw [this,eG]
theorem Ou {d:List UInt8} (h:d.all Dg=true) (hl:d.length≤9):Di d<1000000000:=by
 have h1:=cT h;have h2:10 ^ d.length≤10 ^ 9:=Nat.pow_le_pow_right qA hl;omega
structure N5 (s:List UInt8) (j:Nat) (d:List Nat):Prop where
 le:j≤s.length
 small:∀x∈d,x<1000000000
 lies:j=0∨j+9*d.length=s.length
 few:d.length≤s.length
 sum:val d+1000000000 ^ d.length*Di (s.take j)=Di s
theorem N5.start (s:List UInt8):N5 s s.length []:=⟨Ad _,by simp,by simp,by simp,by simp [val]⟩
theorem lH (v P y X K:Nat):v+P*y+P*K*X=v+P*(X*K+y):=by
 rw [Nat.mul_add,Nat.mul_comm X K,Nat.mul_assoc];omega
theorem mH (v P y K q:Nat):v+P*y+P*K*0=v+P*(0*q+y):=by
 rw [Nat.mul_zero,Nat.zero_mul,Nat.zero_add,Nat.add_zero]
theorem N5.next {s:List UInt8} {j:Nat} {d:List Nat} (h:N5 s j d) (ha:s.all Dg=true) (hj:0<j):N5 s (j-9) (d++[Di ((s.take j).drop (j-9))]):=by
 obtain ⟨h1,h2,h3,h4,h5⟩:=h;have hl:((s.take j).drop (j-9)).length=j-(j-9):=by simp;omega
 have hall:((s.take j).drop (j-9)).all Dg=true:=by
  rw [List.all_eq_true] at ha ⊢;exact fun x hx=>ha x (List.mem_of_mem_take (List.mem_of_mem_drop hx))
 have hn:=Ou hall qA;refine ⟨by omega,?_,?_,?_,?_⟩
 ·intro x hx;rcases List.mem_append.1 hx with hx|hx
  ·exact h2 x hx
  ·simp only [Ao] at hx;omega
 ·rw [A8,List.length_singleton];omega
 ·rw [A8,List.length_singleton];omega
 ·rw [Ff,A8,List.length_singleton,Nat.pow_succ];have e1:s.take j=s.take (j-9)++(s.take j).drop (j-9):=by
   have:(s.take j).take (j-9)=s.take (j-9):=by rw [List.take_take];congr 1;omega
   rw [←this,List.take_append_drop]
  have e2:Di (s.take j)=Di (s.take (j-9))*10 ^ (j-(j-9))+Di ((s.take j).drop (j-9)):=by
   conv=>lhs;rw [e1]
   rw [Ya,hl]
  have e3:val [Di ((s.take j).drop (j-9))]=Di ((s.take j).drop (j-9)):=by simp [val]
  rw [e3,←h5,e2];by_cases h9:9≤j
  ·have e4:(10:Nat) ^ (j-(j-9))=1000000000:=by rw [show j-(j-9)=9 by omega]
   rw [e4];exact lH _ _ _ _ _
  ·have e5:Di (s.take (j-9))=0:=by rw [show j-9=0 by omega];rfl
   rw [e5];exact mH _ _ _ _ _
theorem N5.done {s:List UInt8} {d:List Nat} (h:N5 s 0 d):val d=Di s:=by
 have:=h.sum;simpa [Di] using this
abbrev Kn (n:Nat) (b:UInt8):Nat:=10*n+(b.toNat-48)
theorem X5 (l:List UInt8) (a:Nat):a≤l.foldl Kn a:=by
 induction l generalizing a with
 | nil=>exact Ad _
 | cons b r ih =>
  have:=ih (Kn a b);rw [List.foldl_cons];have:a≤Kn a b:=by show a≤10*a+(b.toNat-48);omega
  omega
theorem K0 {b:UInt8} (h:Dg b=true):48≤b.toNat∧b.toNat≤57:=by
 unfold Dg at h;simp at h;omega
theorem Su (M:Nat) (hM:M<1000000000000000000) (l:List UInt8) (h:l.all Dg=true) (a:Nat) (hl:l.foldl Kn a≤M):Lib.parseUintM M a l=.ok (l.foldl Kn a):=by
 induction l generalizing a with
 | nil=>rfl
 | cons b r ih =>
  simp only [List.all_cons,Bool.and_eq_true] at h;obtain ⟨h1,h2⟩:=K0 h.1;rw [List.foldl_cons] at hl ⊢;have h3:=X5 r (Kn a b);have h4:Kn a b=a*10+(b.toNat-48):=by show 10*a+(b.toNat-48)=_;omega
  rw [Lib.parseUintM,if_pos ⟨h1,h2⟩,if_neg qA,if_neg qA,←h4];exact ih h.2 _ hl
theorem Sf {d:List UInt8} (h:d.all Dg=true) (h0:d≠[]) (hl:d.length≤9):Lib.parseUintB 32 d=.ok (Di d):=by
 have h1:=Ou h hl;unfold Lib.parseUintB;rw [if_neg h0];exact Su _ qJ d h 0 (by show Di d≤2 ^ 32-1;omega)
theorem Rj (l:List UInt8) (h:l.all Dg=true) (a:Nat) (ha:a<18446744073709551616):Lib.parseUint10 a l=if l.foldl Kn a<18446744073709551616 then .ok (l.foldl Kn a) else .range:=by
 induction l generalizing a with
 | nil=>simp [Lib.parseUint10,ha]
 | cons b r ih =>
  simp only [List.all_cons,Bool.and_eq_true] at h;obtain ⟨h1,h2⟩:=K0 h.1;rw [List.foldl_cons];have h3:=X5 r (Kn a b);have h4:Kn a b=a*10+(b.toNat-48):=by show 10*a+(b.toNat-48)=_;omega
  rw [Lib.parseUint10,if_pos ⟨h1,h2⟩];by_cases h5:1844674407370955162≤a
  ·rw [if_pos h5,if_neg qA]
  ·rw [if_neg h5];by_cases h6:18446744073709551616≤a*10+(b.toNat-48)
   ·rw [if_pos h6,if_neg qA]
   ·rw [if_neg h6,←h4];exact ih h.2 _ qA
theorem W7 {d:List UInt8} (h:Ee d=true):Lib.atoiAll d=if Di d<9223372036854775808 then .ok (Di d:Int) else .range:=by
 obtain ⟨ha,hl⟩:=Jy h
 cases d with
 | nil=>simp at hl
 | cons c r =>
  obtain ⟨h1,h2⟩:=K0 (b:=c) (by simp only [List.all_cons,Bool.and_eq_true] at ha;exact ha.1);have hp:Lib.parseMag (c::r)=if Di (c::r)<18446744073709551616 then .ok (Di (c::r)) else .range:=by
   unfold Lib.parseMag;rw [if_neg qG,Rj _ ha 0 qA];rfl
  unfold Lib.atoiAll;simp only;rw [if_neg qA,hp];have hc:¬c.toNat=45:=by omega
  by_cases h5:Di (c::r)<18446744073709551616
  ·rw [if_pos h5];simp only [hc];by_cases h6:Di (c::r)<9223372036854775808
   ·simp [h6]
   ·simp [h6]
  ·rw [if_neg h5,if_neg qA]
end Go.Proofs.YtnnhcbeiogaknaaGreatDoor
end
