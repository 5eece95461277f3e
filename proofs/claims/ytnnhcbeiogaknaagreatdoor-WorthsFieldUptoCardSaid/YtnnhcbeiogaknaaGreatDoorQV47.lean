/- A value, or a list of values, that came in, read as data, is one in memory. -/
import Derived.Test.YtnnhcbeiogaknaaGreatDoorQV46
set_option linter.unusedSimpArgs false
set_option linter.unusedVariables false
set_option maxRecDepth 100000
set_option maxHeartbeats 4000000
section
namespace Go.Proofs.YtnnhcbeiogaknaaGreatDoor
open Go.ChangeShapes Go.WideShapes Go.RowKit Go.Deep
variable {H:Type} {enc:TypeId×Value→H} {W:World} {sp:Nat→Bool} {held:Bool}
def Nj (t:TypeId) (d:DataW H):Prop:=∀x∈d.weights Tryz.prog t,x≤reachBytes
theorem Tf {e:TypeId}:∀{l:List (DataW H)} {d:DataW H},d∈l→∀n∈d.weights Tryz.prog e,n∈DataW.weightsAll Tryz.prog e l:=by
 intro l
 induction l with
 | nil=>intro d hd;cases hd
 | cons x l ih =>
  intro d hd n hn;rw [DataW.weightsAll,List.mem_append];rcases List.mem_cons.1 hd with rfl|hd
  ·exact .inl hn
  ·exact .inr (ih hd n hn)
theorem Hu {t:TypeId} {fs:Array Field} {parts:List (DataW H)} (ht:Tryz.prog.underlying t=some (.struct fs)) (h:Nj t (.agg parts)) {j:Nat} {f:Field} {d:DataW H} (hf:fs[j]? = some f) (hd:parts[j]? = some d):Nj f.type d:=by
 intro x hx;refine h x ?_;rw [DataW.weights,ht];refine DataW.weights_mem_each (j:=j) (t:=f.type) ?_ hd x hx;rw [List.getElem?_map,Array.getElem?_toList,hf];rfl
theorem U3 {t e:TypeId} {elems spare:List (DataW H)} (ht:Tryz.prog.underlying t=some (.slice e)) (h:Nj t (.slice elems spare)) {d:DataW H} (hd:d∈elems):Nj e d:=by
 intro x hx;refine h x ?_;rw [DataW.weights,ht];exact List.mem_cons_of_mem _ (List.mem_append_left _ (Tf hd x hx))
theorem Qb {t e:TypeId} {elems spare:List (DataW H)} (ht:Tryz.prog.underlying t=some (.slice e)) (h:Nj t (.slice elems spare)):(elems.length+spare.length)*Tryz.prog.bytesOf e≤140737488351232:=by
 refine h _ ?_;rw [DataW.weights,ht];exact List.mem_cons_self ..
theorem Qj {a:Addr} {v:Value} (h:W.cell? a=some v):∃b o,a=⟨b,o,none⟩:=by
 obtain ⟨b,o,s⟩:=a
 cases s with
 | none=>exact ⟨b,o,rfl⟩
 | some i =>
  simp only [World.cell?] at h
  split at h<;>cases h
theorem dC:Tryz.prog.cellsOf 147=1:=by kernel_rfl
theorem dR:Tryz.prog.bytesOf 147=4:=by kernel_rfl
theorem Uw:Tryz.prog.cellsOf 79=8:=by kernel_rfl
theorem iE:Tryz.prog.bytesOf 79=72:=by kernel_rfl
theorem dQ {fuel:Nat} {cs:List Value} {x:DataW H×List MemPlace} (h:DataW.trod enc Tryz.prog W 0 (fun _=>true) held fuel 30 cs=some x) (hw:Nj 30 x.1) :
  ∃a n c d,cs=[.slice a n c]∧RdL W a n c d∧n≤35184372087808:=by
 rcases open_ints (k:=.u32) Tryz.underlying30 qC dC h with ⟨rfl,_⟩|⟨a,len,cap,zs,rfl,_,hl,hm,hzl,rfl,hcell,hwf⟩
 ·exact ⟨none,0,0,[],rfl,⟨rfl,Ad _,by omega,by omega,fun i=>by simp [lim],.inl rfl⟩,by omega⟩
 ·simp only [if_true] at hzl;have hsz:=Qb Tryz.underlying30 hw;rw [dR] at hsz;have hcl:cap*4≤140737488351232:=by
   simp only [lits,List.length_map,List.length_take,List.length_drop] at hsz;omega
  have hr:∀z∈zs,0≤z∧z<4294967296:=fun z hz=>by
   have:=hwf z hz;simp [Lit.wf,IntKind.min,IntKind.max,IntKind.signed,IntKind.bits] at this;omega
  have hgd:∀i,0≤zs.getD i 0∧zs.getD i 0<4294967296:=fun i=>by
   by_cases hi:i<zs.length
   ·simp only [List.getD,Ai hi,Option.getD_some];exact hr _ (List.getElem_mem hi)
   ·simp [List.getD,List.getElem?_eq_none (Nat.le_of_not_lt hi)]
  have hlim:∀i,i<len→lim ((zs.take len).map Int.toNat) i=zs.getD i 0:=fun i hi=>by
   have h1:=hgd i;simp only [lim,List.getD,List.getElem?_map,List.getElem?_take_of_lt hi,Ai (show i<zs.length by omega),Option.map_some,Option.getD_some] at h1 ⊢;omega
  refine ⟨some a,len,cap,(zs.take len).map Int.toNat,rfl,⟨?_,hl,by omega,by unfold maxLen at hm;omega,fun i=>?_,?_⟩,by omega⟩
  ·rw [List.length_map,List.length_take];omega
  ·by_cases hi:i<len
   ·rw [hlim i hi];exact hgd i
   ·rw [show lim ((zs.take len).map Int.toNat) i=0 by simp only [lim,List.getD];rw [List.getElem?_eq_none (by rw [List.length_map,List.length_take];omega)];rfl];omega
  ·rcases Aq len with h0|h0
   ·exact .inl h0
   ·right;have h1:=hcell 0 qA;rw [show a.add 0=a from rfl] at h1;obtain ⟨b,o,rfl⟩:=Qj h1;refine ⟨b,o,rfl,fun i hi=>?_⟩;have h2:=hcell i qA;have hadd:(⟨b,o,none⟩:Addr).add i=⟨b,o+i,none⟩:=by unfold Addr.add;split<;>simp_all
    rw [hadd] at h2;rw [h2,hlim i hi]
theorem Yg {fuel:Nat} {c0 c1:Value} {x:DataW H×List MemPlace} (h:DataW.trod enc Tryz.prog W 0 (fun _=>true) held fuel 32 [c0,c1]=some x) (hw:Nj 32 x.1) :
  ∃g a n c d,c0=.bool g∧c1=.slice a n c∧RdL W a n c d∧n≤35184372087808:=by
 obtain ⟨xs,n,_,rfl,_,hlen,hf⟩:=DataW.trod_struct Tryz.underlying32 h
 match xs,hlen with
 | [y0,y1],_ =>
  have h0:=hf 0 _ rfl;have h1:=hf 1 _ rfl;have f1:=Hu Tryz.underlying32 hw (j:=1) (d:=y1.1) rfl rfl;obtain ⟨g,hg,_⟩:=DataW.trod_bool (P:=Tryz.prog) (t:=4) qC (show DataW.trod enc Tryz.prog W 0 (fun _=>true) held n 4 [c0]=some y0 from h0);obtain ⟨a,m,c,d,hc,hr⟩:=dQ (show DataW.trod enc Tryz.prog W 0 (fun _=>true) held n 30 [c1]=some y1 from h1) f1;simp only [List.cons.injEq,and_true] at hg hc;exact ⟨g,a,m,c,d,hg,hc,hr⟩
theorem Oo {fuel:Nat} {c0:Value} {x:DataW H×List MemPlace} (h:DataW.trod enc Tryz.prog W 0 (fun _=>true) held fuel 74 [c0]=some x):∃m:Nat,c0=.int .u16 m∧m<65536:=by
 obtain ⟨z,hz,_,hwf⟩:=DataW.trod_int (k:=.u16) u55 h;simp only [List.cons.injEq,and_true] at hz;have hr:0≤z∧z<65536:=by
  simp [Lit.wf,IntKind.min,IntKind.max,IntKind.signed,IntKind.bits] at hwf;omega
 exact ⟨z.toNat,by rw [hz,Int.toNat_of_nonneg hr.1],by omega⟩
theorem lO {fuel:Nat} {cs:List Value} {x:DataW H×List MemPlace} (h:DataW.trod enc Tryz.prog W 0 (fun _=>true) held fuel 79 cs=some x) (hw:Nj 79 x.1) :
  ∃t:Tm,cs=[.bool t.g1,.slice t.a1 t.n1 t.c1,.bool t.g2,.slice t.a2 t.n2 t.c2,.int .u16 t.m0,.int .u16 t.m1,.int .u16 t.m2,.int .u16 t.m3]∧Ei W t∧t.n1≤35184372087808∧t.n2≤35184372087808:=by
 obtain ⟨xs,n,_,rfl,hcl,hlen,hf⟩:=DataW.trod_struct Tryz.underlying79 h;rw [Uw] at hcl
 match cs,hcl,xs,hlen with
 | [c0,c1,c2,c3,c4,c5,c6,c7],_,[y0,y1],_ =>
  have h0:=hf 0 _ rfl;have h1:=hf 1 _ rfl;have f0:=Hu Tryz.underlying79 hw (j:=0) (d:=y0.1) rfl rfl;replace h0:DataW.trod enc Tryz.prog W 0 (fun _=>true) held n 34 [c0,c1,c2,c3]=some y0:=h0;replace h1:DataW.trod enc Tryz.prog W 0 (fun _=>true) held n 76 [c4,c5,c6,c7]=some y1:=h1;obtain ⟨ys,n',_,rfl,_,hylen,hg⟩:=DataW.trod_struct Tryz.underlying34 h0
  match ys,hylen with
  | [z0,z1],_ =>
   have g0:=hg 0 _ rfl;have g1:=hg 1 _ rfl;have e0:=Hu Tryz.underlying34 f0 (j:=0) (d:=z0.1) rfl rfl;have e1:=Hu Tryz.underlying34 f0 (j:=1) (d:=z1.1) rfl rfl;replace g0:DataW.trod enc Tryz.prog W 0 (fun _=>true) held n' 32 [c0,c1]=some z0:=g0;replace g1:DataW.trod enc Tryz.prog W 0 (fun _=>true) held n' 32 [c2,c3]=some z1:=g1;obtain ⟨q1,a1,n1,k1,d1,rfl,rfl,r1,z1⟩:=Yg g0 e0;obtain ⟨q2,a2,n2,k2,d2,rfl,rfl,r2,z2⟩:=Yg g1 e1;obtain ⟨u0,u1,u2,u3,n3,_,t0,t1,t2,t3⟩:=trod_array4 Tryz.underlying76 c55 h1;obtain ⟨m0,rfl,b0⟩:=Oo t0;obtain ⟨m1,rfl,b1⟩:=Oo t1;obtain ⟨m2,rfl,b2⟩:=Oo t2;obtain ⟨m3,rfl,b3⟩:=Oo t3;exact ⟨⟨q1,a1,n1,k1,d1,q2,a2,n2,k2,d2,m0,m1,m2,m3⟩,rfl,⟨r1,r2,b0,b1,b2,b3⟩,z1,z2⟩
instance:Inhabited Tm:=⟨⟨false,none,0,0,[],false,none,0,0,[],0,0,0,0⟩⟩
theorem lC {fuel:Nat} {cs:List Value} {x:DataW H×List MemPlace} (h:DataW.trod enc Tryz.prog W 0 (fun _=>true) held fuel 25 cs=some x) (hw:Nj 25 x.1) :
  ∃a n c p,cs=[.slice a n c]∧RdP W a n c p∧(a=none→c=0)∧∀k,k<n→(p k).n1≤35184372087808∧(p k).n2≤35184372087808:=by
 rcases open_slice Tryz.underlying25 h with ⟨rfl,_⟩|⟨a,len,cap,m,n,D,Pl,rfl,_,hl,hm,hmm,rfl,hx⟩
 ·exact ⟨none,0,0,fun _=>⟨false,none,0,0,[],false,none,0,0,[],0,0,0,0⟩,rfl,⟨Ad _,by omega,by omega,fun i hi=>absurd hi (Nat.not_lt_zero _),.inl rfl⟩,fun _=>rfl,fun k hk=>absurd hk (Nat.not_lt_zero _)⟩
 ·simp only [if_true] at hmm;have hsz:=Qb Tryz.underlying25 hw;rw [iE] at hsz;simp only [List.length_map,List.length_range] at hsz;rw [Uw] at hx;have key:∀i,i<len→∃t:Tm,(Ei W t∧t.n1≤35184372087808∧t.n2≤35184372087808)∧∀j u,[Value.bool t.g1,.slice t.a1 t.n1 t.c1,.bool t.g2,.slice t.a2 t.n2 t.c2,.int .u16 t.m0,.int .u16 t.m1,.int .u16 t.m2,.int .u16 t.m3][j]? = some u→W.cell? ((a.add (i*8)).add j)=some u:=fun i hi=>by
   obtain ⟨cs',hc,ht⟩:=hx i qA;have hd:Nj 79 (D i):=U3 Tryz.underlying25 hw (List.mem_map.2 ⟨i,List.mem_range.2 hi,rfl⟩);obtain ⟨t,rfl,hr⟩:=lO ht hd;obtain ⟨_,_,hat⟩:=World.cells?_some hc;refine ⟨t,hr,fun j u hu=>?_⟩;have hj:j<8:=by
    rcases Nat.lt_or_ge j 8 with h1|h1
    ·exact h1
    ·rw [List.getElem?_eq_none (by simpa using h1)] at hu;cases hu
   rw [hat j hj];exact hu
  obtain ⟨p,hp⟩:=choose_lt (α:=Tm) (p:=fun i t=>(Ei W t∧t.n1≤35184372087808∧t.n2≤35184372087808)∧∀j u,[Value.bool t.g1,.slice t.a1 t.n1 t.c1,.bool t.g2,.slice t.a2 t.n2 t.c2,.int .u16 t.m0,.int .u16 t.m1,.int .u16 t.m2,.int .u16 t.m3][j]? = some u→W.cell? ((a.add (i*8)).add j)=some u) key;refine ⟨some a,len,cap,p,rfl,⟨hl,by omega,by unfold maxLen at hm;omega,fun i hi=>(hp i hi).1.1,?_⟩,fun e=>(by cases e),fun k hk=>(hp k hk).1.2⟩;rcases Aq len with h0|h0
  ·exact .inl h0
  ·right;have h1:=(hp 0 h0).2 0 _ rfl;obtain ⟨b,o,rfl⟩:=Qj (a:=a) h1;refine ⟨b,o,rfl,fun i hi=>?_⟩;have h2:=(hp i hi).2;have hadd:∀j,((⟨b,o,none⟩:Addr).add (i*8)).add j=⟨b,o+i*8+j,none⟩:=fun j=>by
    unfold Addr.add;split<;>split<;>simp_all
   simp only [hadd] at h2;exact ⟨h2 0 _ rfl,h2 1 _ rfl,h2 2 _ rfl,h2 3 _ rfl,h2 4 _ rfl,h2 5 _ rfl,h2 6 _ rfl,h2 7 _ rfl⟩
/-! ### Values -/
theorem Xo:Tryz.prog.cellsOf 60=3:=by kernel_rfl
theorem oQ:Tryz.prog.bytesOf 60=56:=by kernel_rfl
instance:Inhabited RT:=⟨.node false 0 (fun _=>default) []⟩
theorem Fg.of {w:World} {b:Nat}:∀{xs:List RT} {p:Nat},(∀i x,xs[i]? = some x→∃v0 v1 v2,w.cell? ⟨b,p+i*3,none⟩=some v0∧w.cell? ⟨b,p+i*3+1,none⟩=some v1∧w.cell? ⟨b,p+i*3+2,none⟩=some v2∧VAt w v0 v1 v2 x)→Fg w b p xs:=by
 intro xs
 induction xs with
 | nil=>intro p _;rw [Fg];trivial
 | cons y xs ih =>
  intro p h;rw [Fg];exact qCs
end Go.Proofs.YtnnhcbeiogaknaaGreatDoor
end
section
namespace Go.Proofs.YtnnhcbeiogaknaaGreatDoor
open Go.ChangeShapes Go.WideShapes Go.ChangeAt Go.RowKit Go.Deep
theorem Acg:ownKnob Tryz.prog.godebug=none:=by kernel_rfl
theorem Adf:Tryz.prog.globalNamed "internal/strconv.uint64pow10" = some 0:=by kernel_rfl
theorem jR:(Tryz.prog.globals[0]?).map (·.type)=some 373:=by kernel_rfl
theorem bG:Tryz.prog.cellsOf 373=20:=by kernel_rfl
theorem Zx:Tryz.prog.cellsOf 146=1:=by kernel_rfl
theorem Aau:(Rows.laid_internal_strconv_uint64pow10:DataW Unit)=Lib.tabData .u64 Lib.pow10Tab:=by kernel_rfl
theorem Wy {P:Program} {W:World} {x1 x2:String×DataW Unit} {r:List (String×DataW Unit)} {name:String} {k:IntKind} {zs:List Int} {g:Nat} {t e:TypeId} {n:Nat}
  (hg:P.globalNamed name=some g) (hty:(P.globals[g]?).map (·.type)=some t) (ht:P.underlying t=some (.array n e)) (he:P.underlying e=some (.int k)) (hce:P.cellsOf e=1) (hct:P.cellsOf t=n)
  (h:laidMet P (x1::x2::(name,Lib.tabData k zs)::r) W):Lib.TabIs P W name k zs:=by
 obtain ⟨ps,⟨_,_,_,_,_,_,_,_,_,_,⟨_,_,_,_,_,_,_,_,_,_,⟨g',t',cs,fuel,p,q,hg',ht',hvar,hd,_,_⟩,_⟩,_⟩,_⟩:=h;obtain rfl:=Option.some.inj (hg.symm.trans hg');obtain rfl:=Option.some.inj (hty.symm.trans ht');unfold Lib.TabIs;rw [hvar,←Lib.cells_of_tab ht he hce hct hd]
theorem Ya {W:World} {x1 x2:String×DataW Unit} {r:List (String×DataW Unit)} (h:laidMet Tryz.prog (x1::x2::("internal/strconv.uint64pow10",(Rows.laid_internal_strconv_uint64pow10:DataW Unit))::r) W):Tab W:=by
 rw [Aau] at h;exact Wy Adf jR Tryz.underlying373 Tryz.underlying146 Zx bG h
section
variable {H:Type} {enc:TypeId×Value→H} {P:Program}
theorem Xk {f:Func} {s:ChangeSpec} {apart fresh handsOn again:Bool} {W W':World} {args:Array Value} {v:Value} {ds gs:List (DataW H)} {before pa pv:List MemPlace}
  (hW:DataW.Whole enc P f.params.toList s.vars apart W args.toList ds gs before)
  (hres:∀(b:Nat) (sp:Nat→Bool) (hd:Bool),DataW.TrodAll enc P W' b sp hd f.resultTypes.toList (v.resultList f.resultTypes.size) (s.fn H (ds++gs)).results [])
  (hargs:∀sp:Nat→Bool,(∀p∈before,sp p.block=true)→DataW.TrodAll enc P W' 0 sp true f.params.toList args.toList (s.fn H (ds++gs)).args pa)
  (hvars:∀sp:Nat→Bool,(∀p∈before,sp p.block=true)→DataW.TrodVars enc P W' sp s.vars (s.fn H (ds++gs)).vars pv)
  (hps:before=pa++pv) (hb:Below W.heap.size W W')
  (hok:∀(j:Nat) (t:TypeId) (r:Value),f.resultTypes[j]? = some t→(v.resultList f.resultTypes.size)[j]? = some r→Value.okWide P W' .any 0 t r) :
  s.post enc P f apart fresh handsOn again W args v W':=by
 have hlt:∀p∈before,p.block<W.heap.size:=fun p hp=>hW.lt p hp
 have hold:∀p∈before,(fun b=>decide (b<W.heap.size)) p.block=true:=fun p hp=>by simpa using hlt p hp
 refine ⟨ds,gs,before,[],pa,pv,hW,hres _ _ _,hargs _ hold,hvars _ hold,World.keptBut_mono (fun p hp=>⟨hp,?_⟩) (hb.frame (·∈before)),fun _=>?_⟩
 ·rw [hps,List.mem_append] at hp;exact Or.inr hp
 ·obtain ⟨_,_,_,_,_,hz,hn⟩:=hW;refine ⟨hok,_,_,([]++pa)++pv,⟨[]++pa,pv,trodAll_append (hargs _ (fun _ _=>rfl)) (hres _ _ _),hvars _ (fun _ _=>rfl),rfl,?_,?_⟩,?_⟩
  ·intro b off hp;have hin:MemPlace.cell b off∈before:=by rw [hps];simpa using hp
   rw [hb.frozen (hlt _ hin)];exact hz b off hin
  ·intro ha;have:=hn ha;rw [hps] at this;simpa using this
  ·intro p hp _;rw [hps];simpa using hp
end
theorem Pk:laidOutB Tryz.prog=true:=by kernel_rfl
def Aa8:Obj→Obj
 | .cells _ t frozen=>.cells #[.int .u64 1,.int .u64 10,.int .u64 100,.int .u64 1000,.int .u64 10000,.int .u64 100000,.int .u64 1000000,.int .u64 10000000,.int .u64 100000000,.int .u64 1000000000,.int .u64 10000000000,.int .u64 100000000000,.int .u64 1000000000000,.int .u64 10000000000000,.int .u64 100000000000000,.int .u64 1000000000000000,.int .u64 10000000000000000,.int .u64 100000000000000000,.int .u64 1000000000000000000,.int .u64 10000000000000000000] t frozen
 | o=>o
def Aas:Obj→Obj
 | .cells _ t frozen=>.cells #[.int .u8 0,.int .u8 1,.int .u8 28,.int .u8 2,.int .u8 29,.int .u8 14,.int .u8 24,.int .u8 3,.int .u8 30,.int .u8 22,.int .u8 20,.int .u8 15,.int .u8 25,.int .u8 17,.int .u8 4,.int .u8 8,.int .u8 31,.int .u8 27,.int .u8 13,.int .u8 23,.int .u8 21,.int .u8 19,.int .u8 16,.int .u8 7,.int .u8 26,.int .u8 12,.int .u8 18,.int .u8 6,.int .u8 11,.int .u8 5,.int .u8 10,.int .u8 9] t frozen
 | o=>o
def Abd:Obj→Obj
 | .cells _ t frozen=>.cells #[.int .u8 0,.int .u8 1,.int .u8 56,.int .u8 2,.int .u8 57,.int .u8 49,.int .u8 28,.int .u8 3,.int .u8 61,.int .u8 58,.int .u8 42,.int .u8 50,.int .u8 38,.int .u8 29,.int .u8 17,.int .u8 4,.int .u8 62,.int .u8 47,.int .u8 59,.int .u8 36,.int .u8 45,.int .u8 43,.int .u8 51,.int .u8 22,.int .u8 53,.int .u8 39,.int .u8 33,.int .u8 30,.int .u8 24,.int .u8 18,.int .u8 12,.int .u8 5,.int .u8 63,.int .u8 55,.int .u8 48,.int .u8 27,.int .u8 60,.int .u8 41,.int .u8 37,.int .u8 16,.int .u8 46,.int .u8 35,.int .u8 44,.int .u8 21,.int .u8 52,.int .u8 32,.int .u8 23,.int .u8 11,.int .u8 54,.int .u8 26,.int .u8 40,.int .u8 15,.int .u8 34,.int .u8 20,.int .u8 31,.int .u8 10,.int .u8 25,.int .u8 14,.int .u8 19,.int .u8 9,.int .u8 13,.int .u8 8,.int .u8 7,.int .u8 6] t frozen
 | o=>o
def Aby:Obj→Obj
 | .cells _ t frozen=>.cells (Pinned.utf8FirstZ.map fun (n:Nat)=>Value.int .u8 (n:Int)).toArray t frozen
 | o=>o
def Aa2:Obj→Obj
 | .cells _ t frozen=>.cells #[.int .u8 128,.int .u8 191,.int .u8 160,.int .u8 191,.int .u8 128,.int .u8 159,.int .u8 144,.int .u8 191,.int .u8 128,.int .u8 143,.int .u8 0,.int .u8 0,.int .u8 0,.int .u8 0,.int .u8 0,.int .u8 0,.int .u8 0,.int .u8 0,.int .u8 0,.int .u8 0,.int .u8 0,.int .u8 0,.int .u8 0,.int .u8 0,.int .u8 0,.int .u8 0,.int .u8 0,.int .u8 0,.int .u8 0,.int .u8 0,.int .u8 0,.int .u8 0] t frozen
 | o=>o
def oV (b:Nat):Obj→Obj
 | .cells _ t frozen=>.cells #[.iface 415 (.pointer (some ⟨b,0,none⟩))] t frozen
 | o=>o
noncomputable def W7 (os:Os):World :=
  { World.holding Tryz.prog os ⟨#[],#[],[]⟩ with heap:=((((((((((World.holding Tryz.prog os ⟨#[],#[],[]⟩).heap.modify 0 Aa8).modify 2 Aas).modify 3 Abd).modify 4 Aby).modify 5 Aa2).modify 6 (oV (World.holding Tryz.prog os ⟨#[],#[],[]⟩).heap.size)).modify 7 (oV ((World.holding Tryz.prog os ⟨#[],#[],[]⟩).heap.size+1))).push (.cells #[.string ⟨#[105,110,118,97,108,105,100,32,115,121,110,116,97,120]⟩] 417)).push (.cells #[.string ⟨#[118,97,108,117,101,32,111,117,116,32,111,102,32,114,97,110,103,101]⟩] 417)) }
theorem gER:Tryz.prog.globalNamed "strconv.ErrRange" = some 7:=by kernel_rfl
theorem uI:(Tryz.prog.globals[7]?).map (·.type)=some 189:=by kernel_rfl
theorem gG : "*" ++ "errors.errorString" = "*errors.errorString" := by decide
theorem Abz (u:TypeId) (h:Tryz.prog.typeName? 3 u=some "*errors.errorString"):u=415 :=
 typeName_ptr_named (nm := "errors.errorString") (by rw [gG];kernel_rfl) qC qI u (by rw [gG];exact h)
theorem c349:Tryz.prog.cellsOf 417=1:=by kernel_rfl
theorem c9:Tryz.prog.cellsOf 9=1:=by kernel_rfl
theorem Yd {W:World} {x1 x2 x3 x4:String×DataW Unit} {r:List (String×DataW Unit)} (h:laidMet Tryz.prog (x1::x2::x3::x4::("strconv.ErrRange",(Rows.laid_strconv_ErrRange:DataW Unit))::r) W):If W∧7<W.heap.size:=by
 obtain ⟨a1,s1,hv1,-,-,-⟩:=laid_sentinel h.tail.tail.tail.tail gER uI Tryz.underlying189 Abz Tryz.underlying415 Tryz.underlying417 rfl rfl Tryz.underlying9 c349 c9;have hc:W.cell? ⟨7,0,none⟩=some (.iface 415 (.pointer (some a1))):=by have h0:=World.var?_cell gER hv1 0;simpa using h0
 exact ⟨⟨_,hc,.inr ⟨_,_,rfl⟩⟩,Aa _ _ hc⟩
end Go.Proofs.YtnnhcbeiogaknaaGreatDoor
end
section
namespace Go.Proofs.YtnnhcbeiogaknaaGreatDoor
open Go.ChangeShapes Go.WideShapes Go.RowKit Go.Deep
variable {H:Type} {enc:TypeId×Value→H} {W:World} {sp:Nat→Bool} {held:Bool}
theorem Yh {H:Type} (d:DataW H):1≤Rows.uptoBulk d:=by
 cases d with
 | lit l=>cases l<;>simp [Rows.uptoBulk]
 | nil=>simp [Rows.uptoBulk]
 | ptr d=>simp [Rows.uptoBulk]
 | slice elems spare=>simp [Rows.uptoBulk]
 | agg parts=>simp [Rows.uptoBulk]
 | iface t d=>simp [Rows.uptoBulk]
 | map entries=>simp [Rows.uptoBulk]
 | held h=>simp [Rows.uptoBulk]
theorem lY {H:Type} (l:List (DataW H)):l.length≤Rows.uptoBulkAll l:=by
 induction l with
 | nil=>simp [Rows.uptoBulkAll]
 | cons x r ih=>have:=Yh x;simp only [Rows.uptoBulkAll,List.length_cons];omega
theorem Yy {f:Nat→RT} {D:Nat→DataW H}:∀(l:Ξ),(∀i∈l,(f i).cnt+(f i).trm≤Rows.uptoBulk (D i))→RT.cntL (l.map f)+RT.trmL (l.map f)≤Rows.uptoBulkAll (l.map D)
 | [],_=>by simp [RT.cntL,RT.trmL]
 | i::l,h=>by
  have h1:=h i (List.mem_cons_self ..);have h2:=Yy l fun j hj=>h j (List.mem_cons_of_mem _ hj)
  simp only [List.map_cons,RT.cntL,RT.trmL,Rows.uptoBulkAll];omega
theorem jU {fuel:Nat} {a:Γ} {n c:Nat} {x:DataW H×List MemPlace} (h:DataW.trod enc Tryz.prog W 0 (fun _=>true) held fuel 25 [.slice a n c]=some x):n≤Rows.uptoBulk x.1:=by
 rcases open_slice Tryz.underlying25 h with ⟨hcs,_⟩|⟨a',len,cap,m,k,D,Pl,hcs,_,hl,hm,hmm,rfl,hx⟩
 ·simp only [List.cons.injEq,Value.slice.injEq,and_true] at hcs;omega
 ·simp only [List.cons.injEq,Value.slice.injEq,and_true] at hcs;obtain ⟨rfl,rfl,rfl⟩:=hcs;have h1:=lY ((List.range n).map D);simp only [List.length_map,List.length_range] at h1;simp only [Rows.uptoBulk];omega
theorem aS {fuel:Nat} {cs:List Value} {x:DataW H×List MemPlace}
  (ih:∀{f:Nat} {c0 c1 c2:Value} {y:DataW H×List MemPlace},SizeOf.sizeOf y.1<SizeOf.sizeOf x.1→DataW.trod enc Tryz.prog W 0 (fun _=>true) held f 60 [c0,c1,c2]=some y→Nj 60 y.1→∃t,VAt W c0 c1 c2 t∧t.cnt+t.trm≤Rows.uptoBulk y.1)
  (h:DataW.trod enc Tryz.prog W 0 (fun _=>true) held fuel 58 cs=some x) (hw:Nj 58 x.1) :
  ∃a n c ts,cs=[.slice a n c]∧ts.length=n∧n≤c∧c≤4398046511104∧(a=none→c=0)∧(ts=[]∨∃b o,a=some ⟨b,o,none⟩∧Fg W b o ts)∧RT.cntL ts+RT.trmL ts+1≤Rows.uptoBulk x.1:=by
 rcases open_slice Tryz.underlying58 h with ⟨rfl,_⟩|⟨a,len,cap,m,n,D,Pl,rfl,_,hl,hm,hmm,rfl,hx⟩
 ·exact ⟨none,0,0,[],rfl,rfl,Ad _,by omega,fun _=>rfl,.inl rfl,by have:=Yh x.1;simp only [RT.cntL,RT.trmL];omega⟩
 ·simp only [if_true] at hmm;have hsz:=Qb Tryz.underlying58 hw;rw [oQ] at hsz;simp only [List.length_map,List.length_range] at hsz;rw [Xo] at hx;have key:∀i,i<len→∃t:RT,(∃v0 v1 v2,VAt W v0 v1 v2 t∧∀j u,[v0,v1,v2][j]? = some u→W.cell? ((a.add (i*3)).add j)=some u)∧t.cnt+t.trm≤Rows.uptoBulk (D i):=fun i hi=>by
   obtain ⟨cs',hc,ht⟩:=hx i qA;have hmem:D i∈(List.range len).map D:=List.mem_map.2 ⟨i,List.mem_range.2 hi,rfl⟩;have hd:Nj 60 (D i):=U3 Tryz.underlying58 hw hmem;obtain ⟨hlen,_,hat⟩:=World.cells?_some hc
   match cs',hlen with
   | [c0,c1,c2],_ =>
    obtain ⟨t,hv,hb⟩:=ih (y:=(D i,Pl i)) (by have:=List.sizeOf_lt_of_mem hmem;simp only [DataW.slice.sizeOf_spec];omega) ht hd;refine ⟨t,⟨c0,c1,c2,hv,fun j u hu=>?_⟩,hb⟩;have hj:j<3:=by
     rcases Nat.lt_or_ge j 3 with h1|h1
     ·exact h1
     ·rw [List.getElem?_eq_none (by simpa using h1)] at hu;cases hu
    rw [hat j hj];exact hu
  obtain ⟨p,hp⟩:=choose_lt (α:=RT) (p:=fun i t=>(∃v0 v1 v2,VAt W v0 v1 v2 t∧∀j u,[v0,v1,v2][j]? = some u→W.cell? ((a.add (i*3)).add j)=some u)∧t.cnt+t.trm≤Rows.uptoBulk (D i)) key;have hbk:=Yy (H:=H) (f:=p) (D:=D) (List.range len) fun i hi=>(hp i (List.mem_range.1 hi)).2
  refine ⟨some a,len,cap,(List.range len).map p,rfl,by simp,hl,by omega,fun e=>(by cases e),?_,by simp only [Rows.uptoBulk];omega⟩;rcases Aq len with h0|h0
  ·exact .inl (by simp [h0])
  ·right;obtain ⟨⟨_,_,_,_,h1⟩,_⟩:=hp 0 h0;obtain ⟨b,o,rfl⟩:=Qj (a:=a) (h1 0 _ rfl);refine ⟨b,o,rfl,Fg.of fun i t ht=>?_⟩;rw [List.getElem?_map] at ht;obtain ⟨j,hj,rfl⟩:=Option.map_eq_some_iff.1 ht;have hil:i<len:=by
    rcases Nat.lt_or_ge i len with h|h
    ·exact h
    ·rw [List.getElem?_eq_none (by simpa using h)] at hj;cases hj
   rw [List.getElem?_range hil] at hj;obtain rfl:=Option.some.inj hj;obtain ⟨⟨v0,v1,v2,hv,h2⟩,_⟩:=hp i hil;have hadd:∀j,((⟨b,o,none⟩:Addr).add (i*3)).add j=⟨b,o+i*3+j,none⟩:=fun j=>by
    unfold Addr.add;split<;>split<;>simp_all
   simp only [hadd] at h2;exact ⟨v0,v1,v2,h2 0 _ rfl,h2 1 _ rfl,h2 2 _ rfl,hv⟩
theorem jQ:∀(k:Nat) {fuel:Nat} {c0 c1 c2:Value} {x:DataW H×List MemPlace},SizeOf.sizeOf x.1≤k→DataW.trod enc Tryz.prog W 0 (fun _=>true) held fuel 60 [c0,c1,c2]=some x→Nj 60 x.1→∃t,VAt W c0 c1 c2 t∧t.cnt+t.trm≤Rows.uptoBulk x.1:=by
 intro k
 induction k with
 | zero =>
  intro fuel c0 c1 c2 x hk h hw;obtain ⟨xs,n,_,rfl,_,hlen,hf⟩:=DataW.trod_struct Tryz.underlying60 h;simp only [DataW.agg.sizeOf_spec] at hk;omega
 | succ k ih =>
  intro fuel c0 c1 c2 x hk h hw;obtain ⟨xs,n,_,rfl,_,hlen,hf⟩:=DataW.trod_struct Tryz.underlying60 h
  match xs,hlen with
  | [y0,y1,y2],_ =>
   have h0:=hf 0 _ rfl;have h1:=hf 1 _ rfl;have h2:=hf 2 _ rfl;have f1:=Hu Tryz.underlying60 hw (j:=1) (d:=y1.1) rfl rfl;have f2:=Hu Tryz.underlying60 hw (j:=2) (d:=y2.1) rfl rfl;obtain ⟨g,hg,_⟩:=DataW.trod_bool (P:=Tryz.prog) (t:=4) qC (show DataW.trod enc Tryz.prog W 0 (fun _=>true) held n 4 [c0]=some y0 from h0);replace h1:DataW.trod enc Tryz.prog W 0 (fun _=>true) held n 25 [c1]=some y1:=h1;obtain ⟨a,m,c,p,hc,hr,hnl,hsm⟩:=lC h1 f1;have hk2:SizeOf.sizeOf y2.1≤k:=by
    simp only [List.map_cons,List.map_nil,DataW.agg.sizeOf_spec,List.cons.sizeOf_spec] at hk;omega
   obtain ⟨a',n',c',ts,hc',k1,k2,k3,k4,k5,k6⟩:=aS (x:=y2) (fun hlt ht hd=>ih qA ht hd) (show DataW.trod enc Tryz.prog W 0 (fun _=>true) held n 58 [c2]=some y2 from h2) f2;simp only [List.cons.injEq,and_true] at hg hc hc';rw [hc] at h1;have hb:=jU h1;refine ⟨.node g m p ts,?_,?_⟩
   ·rw [VAt];exact ⟨hg,⟨a,c,hc,hr,hnl,hsm⟩,a',c',by rw [k1];exact hc',by omega,by omega,by omega,k4,k5⟩
   ·simp only [List.map_cons,List.map_nil,Rows.uptoBulk,Rows.uptoBulkAll,RT.cnt,RT.trm];omega
theorem Vn {fuel:Nat} {cs:List Value} {x:DataW H×List MemPlace} (h:DataW.trod enc Tryz.prog W 0 (fun _=>true) held fuel 60 cs=some x) (hw:Nj 60 x.1) :
  ∃f a n c d m e t,cs=[.bool f,.slice a n c,.slice d m e]∧VAt W (.bool f) (.slice a n c) (.slice d m e) t∧t.cnt+t.trm≤Rows.uptoBulk x.1:=by
 obtain ⟨xs,n,_,_,hcl,hlen,hf⟩:=DataW.trod_struct Tryz.underlying60 h;rw [Xo] at hcl
 match cs,hcl with
 | [c0,c1,c2],_ =>
  obtain ⟨t,hv,hb⟩:=jQ _ (Ad _) h hw;obtain ⟨g,n',p,ys⟩:=t;have hv':=hv;rw [VAt] at hv';obtain ⟨rfl,⟨a,c,rfl,_⟩,a',c',rfl,_⟩:=hv';exact ⟨g,a,n',c,a',ys.length,c',_,rfl,hv,hb⟩
end Go.Proofs.YtnnhcbeiogaknaaGreatDoor
end
section
namespace Go.Proofs.YtnnhcbeiogaknaaGreatDoor
open Go.ChangeShapes Go.WideShapes Go.ChangeAt Go.RowKit
theorem bJ (H:Type) (enc:TypeId×Value→H) (W:World) (base:Nat) (args:Array Value) (ds gs:List (DataW H)) (before:List MemPlace)
  (hval:∀(j:Nat) t v,Tryz.f5.params[j]? = some t→args[j]? = some v→Value.okWide Tryz.prog W .any base t v)
  (hW:DataW.Whole enc Tryz.prog Tryz.f5.params.toList Rows.worthsFieldSpec.vars false W args.toList ds gs before)
  (hk:Rows.uptoSmall H (ds++gs)=true)
  (hreach:(DataW.weightsEach Tryz.prog (Tryz.f5.params.toList++(Rows.OpenSpec.upto Rows.worthsFieldSpec).bare.plain.varTypes Tryz.prog) (ds++gs)).all (·≤reachBytes)=true)
  (hL:laidMetH Tryz.prog Rows.worthsFieldUptoRow.laid W) :
  Θ 5 args W fun e W'=>∃v,e=.returned v∧Rows.worthsFieldSpec.post enc Tryz.prog Tryz.f5 false true false false W args v W':=by
 have hW':=hW;obtain ⟨p,q,hA0,hV,rfl,hfz,hnd⟩:=hW;have hA:DataW.TrodAll enc Tryz.prog W 0 (fun _=>true) true Tryz.f5.params.toList args.toList ds p:=hA0;rw [Tryz.params5] at hA hval hreach;obtain ⟨v0,vs0,d0,ds0,p0,q0,hargs,rfl,rfl,t0,r0⟩:=trodAll_cons hA;obtain ⟨v1,vs1,d1,ds1,p1,q1,rfl,rfl,rfl,t1,r1⟩:=trodAll_cons r0;obtain ⟨v2,vs2,d2,ds2,p2,q2,rfl,rfl,rfl,t2,r2⟩:=trodAll_cons r1;obtain ⟨rfl,rfl,rfl⟩:=trodAll_nil r2;obtain rfl:args=#[v0,v1,v2]:=by cases args;simp_all
 obtain ⟨rfl,rfl⟩:=trodVars_none hV;clear hA0;have fit0:∀x∈d0.weights Tryz.prog 60,x≤reachBytes:=fun x hx=>by
  have:=List.all_eq_true.1 hreach x (DataW.weights_mem_each (j:=0) (t:=60) rfl rfl x hx);simpa using this
 have fit1:∀x∈d1.weights Tryz.prog 60,x≤reachBytes:=fun x hx=>by
  have:=List.all_eq_true.1 hreach x (DataW.weights_mem_each (j:=1) (t:=60) rfl rfl x hx);simpa using this
 have hbd:Rows.uptoBulkAll [d0,d1,d2]≤1048576:=of_decide_eq_true (show decide (Rows.uptoBulkAll [d0,d1,d2]≤1048576)=true from (by rw [List.append_nil] at hk;exact hk));simp only [Rows.uptoBulkAll] at hbd;obtain ⟨cs0,rfl,hz0⟩:=okWide_struct Tryz.underlying60 (hval 0 60 v0 rfl rfl);have s0:=t0;obtain ⟨f0,hf0⟩:=t0;obtain ⟨b0,a0,n0,c0,e0,m0,k0,x0,hcs,h0,u0⟩:=Vn (show DataW.trod enc Tryz.prog W 0 (fun _=>true) true f0 60 cs0.toList=some (d0,p0) from hf0) fit0;obtain rfl:cs0=#[.bool b0,.slice a0 n0 c0,.slice e0 m0 k0]:=by rw [←Array.toArray_toList (xs:=cs0),hcs]
 clear hcs;obtain ⟨cs1,rfl,hz1⟩:=okWide_struct Tryz.underlying60 (hval 1 60 v1 rfl rfl);have s1:=t1;obtain ⟨f1,hf1⟩:=t1;obtain ⟨b1,a1,n1,c1,e1,m1,k1,x1,hcs,h1,u1⟩:=Vn (show DataW.trod enc Tryz.prog W 0 (fun _=>true) true f1 60 cs1.toList=some (d1,p1) from hf1) fit1;obtain rfl:cs1=#[.bool b1,.slice a1 n1 c1,.slice e1 m1 k1]:=by rw [←Array.toArray_toList (xs:=cs1),hcs]
 clear hcs;obtain ⟨z2,rfl⟩:=okWide_int Tryz.underlying5 (hval 2 5 v2 rfl rfl);have s2:=t2;obtain ⟨f2,hf2⟩:=t2;obtain ⟨z',hcs,_,hwf⟩:=DataW.trod_int Tryz.underlying5 hf2;have hcs':[Value.int .u8 z2]=[Value.int .u8 z']:=hcs;simp only [List.cons.injEq,Value.int.injEq,true_and,and_true] at hcs';subst hcs';clear hcs;have hz2:0≤z2∧z2<256:=by
  simp [Lit.wf,IntKind.min,IntKind.max,IntKind.signed,IntKind.bits] at hwf;omega
 obtain ⟨x2,rfl⟩:∃x:Nat,z2=x:=⟨z2.toNat,by omega⟩;have h2:x2<256:=by omega
 replace u0:x0.cnt+x0.trm≤Rows.uptoBulk d0:=u0;replace u1:x1.cnt+x1.trm≤Rows.uptoBulk d1:=u1;have hT:=Ya (r:=[("unicode/utf8.acceptRanges",Rows.laid_unicode_utf8_acceptRanges),("strconv.ErrRange",Rows.laid_strconv_ErrRange),("strconv.ErrSyntax",Rows.laid_strconv_ErrSyntax),("unicode/utf8.first",Rows.laid_unicode_utf8_first)]) hL;obtain ⟨hV,h7⟩:=Yd (r:=[("strconv.ErrSyntax",Rows.laid_strconv_ErrSyntax),("unicode/utf8.first",Rows.laid_unicode_utf8_first)]) hL;simp only [List.append_nil] at hW';refine (kQ W b0 a0 n0 c0 e0 m0 k0 b1 a1 n1 c1 e1 m1 k1 x0 x1 h0 h1 (by simp only [RT.cntL];omega) (by simp only [RT.trmL];omega) x2 h2 hT hV h7).mono fun e W' ⟨he,hb⟩=>?_
 subst he;refine ⟨_,rfl,Xk (pa:=p0++(p1++(p2))) (pv:=[]) hW' (fun _ _ _=>trodAll_cons_mk (shut_bool Tryz.underlying4 _) trodAll_mk0) (fun sp hsp=>?_) (fun _ _=>rfl) qG hb (ok_one qC rfl (okWide_bool_mk Tryz.underlying4 _))⟩;have hlt:∀x∈p0++(p1++(p2)),x.block<W.heap.size:=fun x hx=>hW'.lt x (by simpa using hx)
 have j0:=WideElems.Trod_stays (P:=Tryz.prog) Pk qC (of_decide_eq_true qC) s0 (fun x hx=>hb.same (hlt x (by simp [hx]))) (fun x hx=>hsp x (by simp [hx]));have j1:=WideElems.Trod_stays (P:=Tryz.prog) Pk qC (of_decide_eq_true qC) s1 (fun x hx=>hb.same (hlt x (by simp [hx]))) (fun x hx=>hsp x (by simp [hx]));have j2:=WideElems.Trod_stays (P:=Tryz.prog) Pk qC (of_decide_eq_true qC) s2 (fun x hx=>hb.same (hlt x (by simp [hx]))) (fun x hx=>hsp x (by simp [hx]));have:=trodAll_cons_mk j0 (trodAll_cons_mk j1 (trodAll_cons_mk j2 (trodAll_mk0)));rw [List.append_nil] at this;exact this
theorem Abr (os:Os):laidMet Tryz.prog Rows.worthsFieldUptoRow.laid ((W7 os).forCall (fun _ _=>0) ⟨#[],#[.agg #[.bool false,.slice none 0 0,.slice none 0 0],.agg #[.bool false,.slice none 0 0,.slice none 0 0],.int .u8 0],[]⟩).memory :=
 laidMet_of_run' 8 qC qC
theorem wZ (os:Os) {H:Type} (enc:TypeId×Value→H):∃places,DataW.whole enc Tryz.prog ((W7 os).forCall (fun _ _=>0) ⟨#[],#[.agg #[.bool false,.slice none 0 0,.slice none 0 0],.agg #[.bool false,.slice none 0 0,.slice none 0 0],.int .u8 0],[]⟩).memory Tryz.f5.params.toList Rows.worthsFieldSpec.vars false #[Value.agg #[.bool false,.slice none 0 0,.slice none 0 0],.agg #[.bool false,.slice none 0 0,.slice none 0 0],.int .u8 0].toList 8=some ([.agg [.lit (.bool false),.nil,.nil],.agg [.lit (.bool false),.nil,.nil],.lit (.int .u8 0)],[],places) :=
 ⟨[],by kernel_rfl⟩
theorem nW (os:Os) (started:os.Started) (H:Type) (enc:TypeId×Value→H) (F:Stop.Interp) :
  ReturnsInHanded {} Tryz.checked os 5 .any ((Rows.OpenSpec.upto Rows.worthsFieldSpec).preRow enc Tryz.prog Tryz.f5 Rows.worthsFieldUptoRow.domain false Rows.worthsFieldUptoRow.laid) (((Rows.OpenSpec.upto Rows.worthsFieldSpec).at F).post enc Tryz.prog Tryz.f5 false true false false):=by
 obtain ⟨places,hx⟩:=wZ os enc;refine returnsInHanded_of_row (C:=Tryz.checked) (s:=Rows.OpenSpec.upto Rows.worthsFieldSpec) Acg started qC Tryz.func5
  (witness_row_at (enc:=enc) (C:=Tryz.checked) false (W7 os) #[.agg #[.bool false,.slice none 0 0,.slice none 0 0],.agg #[.bool false,.slice none 0 0,.slice none 0 0],.int .u8 0] rfl qC qC qC
   (OpenSpec.preRow_of_cond 8 hx qC (fun k hk=>by cases hk;kernel_rfl) qC (Abr os))) ?_
 intro W base args ds gs before hval hW _ hcond hreach hL _ _;exact bJ H enc W base args ds gs before hval hW (hcond _ rfl) hreach hL
end Go.Proofs.YtnnhcbeiogaknaaGreatDoor
end
