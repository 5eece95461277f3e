/- Package worths: Check; and the law's depth. Condition of depth: not deeper than 100. -/
import Derived.Test.YtnnhcbeiogaknaaGreatDoorQV10
set_option linter.unusedSimpArgs false
set_option linter.unusedVariables false
set_option maxRecDepth 100000
set_option maxHeartbeats 4000000
section
namespace Go.Proofs.YtnnhcbeiogaknaaGreatDoor
open Go.RowKit
theorem Adi:∀(d:Nat),d≤100→∀(t:RT),t.dep≤d→∀(w:World) (v0 v1 v2:Value),VAt w v0 v1 v2 t→Θ 30 #[.agg #[v0,v1,v2]] w (fun e w'=>e=.returned (.int .i64 t.dep)∧Below w.heap.size w w'):=by
 intro d
 induction d with
 | zero=>intro _ t ht;cases t;rw [RT.dep] at ht;omega
 | succ d ih =>
  intro hd t ht w v0 v1 v2 h;obtain ⟨g,n,p,xs⟩:=t;rw [RT.dep] at ht ⊢;rw [VAt] at h;obtain ⟨rfl,⟨a,c,rfl,hp,hnl,hsm⟩,a',c',rfl,k1,k2,k3,k4,hrow⟩:=h;have HB:=Ac w.heap.size w;have IH:=fun (x:RT) (hx:x∈xs)=>ih qA x (by have:=RT.depL_mem (xs:=xs) hx;omega)
  have HI:=Ae IH;have HR:=Ae hrow;clear ih IH hrow hp;obtain ⟨m,hm⟩:∃m,m=xs.length:=⟨_,rfl⟩;rw [←hm] at k1 k2;have HD:∀i,RT.depL (xs.take i)≤d:=fun i=>by
   have:∀(l:List RT) (i:Nat),RT.depL (l.take i)≤RT.depL l:=fun l=>by
    induction l with
    | nil=>intro i;simp
    | cons y l ih=>intro i;cases i with
     | zero=>simp [RT.depL]
     | succ i=>simp only [List.take_succ_cons,RT.depL];have:=ih i;omega
   have:=this xs i;omega
  have HDD:=Ae HD;clear HD;rw [show RT.depL xs=RT.depL (xs.take m) by rw [As qA],←hm];have HM:=Ae hm;clear hm;go_enter Tryz.func30,Tryz.ntmps30;go_wp2_with fail;have b0:Below w.heap.size w (w.alloc (.cells #[.bool g,.slice a n c,.slice a' m c'] 60)):=Below.alloc (Ac _ _) (Ad _) _;have x2:(w.alloc (.cells #[.bool g,.slice a n c,.slice a' m c'] 60)).cell? ⟨w.heap.size,2,none⟩=some (.slice a' m c'):=by simp [go_sem]
  generalize w.alloc (.cells #[.bool g,.slice a n c,.slice a' m c'] 60)=w1 at *;clear HB;go_loopw [3,4] (fun v3 v4 wr=>∃(i:Nat),i≤m∧v4=.int .i64 i∧v3=.int .i64 (RT.depL (xs.take i))∧wr.cell? ⟨w.heap.size,2,none⟩=some (.slice a' m c')∧Below w.heap.size w wr) (fun _ v4 _=>m-(intOf v4).toNat)
  case atStart=>exact ⟨0,by omega,rfl,by rw [List.take_zero,RT.depL];rfl,x2,b0⟩
  case round =>
   clear x2 b0;obtain ⟨i,hi,rfl,rfl,x2,HBr⟩:=hrel;have hdi:=HDD.out i;by_cases hlt:i<m
   ·obtain ⟨b,o,rfl,hv⟩:=HR.out.resolve_left (by intro e;have:=HM.out;rw [e] at this;simp at this;omega);obtain ⟨x,hx⟩:∃x,xs[i]? = some x:=⟨_,Ai (by rw [←HM.out];exact hlt)⟩;obtain ⟨v0,v1,v2,c0,c1,c2,hva⟩:=(Fg.keep HBr hv).at hx;have hdx:RT.depL (xs.take (i+1))=max (RT.depL (xs.take i)) x.dep:=by
     rw [List.take_add_one,hx];exact RT.depL_snoc _ _
    have hd1:=HDD.out (i+1);have HX:=Ae (Ay hx hva);clear hx hva hv;go_wp2_with fail;refine (HI.out x (A8 HX.out.1) wr v0 v1 v2 HX.out.2).mono ?_;rintro e w1 ⟨rfl,hb1⟩;have b1:=HBr.trans (hb1.mono HBr.size)
    (replace x2:=Bc hb1 x2)
    rw [hdx] at hd1;have hmx:max ((RT.depL (xs.take i):Nat):Int) (x.dep:Int)=((RT.depL (xs.take (i+1)):Nat):Int):=by rw [hdx];omega
    have HMX:=Ae hmx;clear hmx;go_wp2_with fail;go_roundw
    case rel=>exact ⟨i+1,by omega,by go_num,by first|(rw [←HMX.out];done)|(rw [←HMX.out];go_num),x2,b1⟩
    case measure=>(first|(simp [intOf];omega)|(simp [intOf];done))
   ·obtain rfl:i=m:=by omega
    go_wp2_with fail;go_ret;exact ⟨by go_num,HBr⟩
theorem gD (w:World) (a:Γ) (c:Nat) (xs:List RT) (hc:xs.length≤c) (hn:xs.length≤35184372088832) (hrow:xs=[]∨∃b o,a=some ⟨b,o,none⟩∧Fg w b o xs) (F:Nat) (capv:Array Value) (hE:∀args W,(callFunc F args).run Tryz.prog W=.ok (.enter F args) W) (P:RT→Prop)
  (IH:∀x∈xs,∀(W:World) (v0 v1 v2:Value),Below w.heap.size w W→VAt W v0 v1 v2 x→Θ F (#[.agg #[v0,v1,v2]]++capv) W (xX W (P x))) :
  Θ 72 #[.slice a xs.length c,.func (.func F) #[] capv] w (xX w (∃x∈xs,P x)):=by
 have HB:=Ac w.heap.size w;have HI:=Ae IH;clear IH;have hidx:Θ 132 #[.slice a xs.length c,.func (.func F) #[] capv] w (fun e w'=>∃z:Int,e=.returned (.int .i64 z)∧(0≤z↔∃x∈xs,P x)∧Below w.heap.size w w'):=by
  obtain ⟨n,hnx⟩:∃n,n=xs.length:=⟨_,rfl⟩;rw [←hnx] at hn hc ⊢;have HN:=Ae hnx;have HR:=Ae hrow;clear hnx hrow;go_enter Tryz.func132,Tryz.ntmps132;go_wp2_with fail;go_loopw [8] (fun v8 wr=>∃(i:Nat),i≤n∧v8=.int .i64 i∧Hid (¬∃x∈xs.take i,P x)∧Below w.heap.size w wr) (fun v8 _=>n-(intOf v8).toNat)
  case atStart=>exact ⟨0,by omega,rfl,Ae qG,HB⟩
  case round =>
   obtain ⟨i,hi,rfl,hno,HBr⟩:=hrel;clear HB;by_cases hlt:i<n
   ·obtain ⟨b,o,rfl,hv⟩:=HR.out.resolve_left (by intro e;have:=HN.out;rw [e] at this;simp at this;omega);obtain ⟨x,hx⟩:∃x,xs[i]? = some x:=⟨_,Ai (by rw [←HN.out];exact hlt)⟩;obtain ⟨v0,v1,v2,c0,c1,c2,hva⟩:=(Fg.keep HBr hv).at hx;have HX:=Ae (Ay hx hva);have HO:=Ae hno;clear hx hva hv hno;go_wp2_with fail;refine (HI.out x (A8 HX.out.1) wr v0 v1 v2 HBr HX.out.2).mono ?_;rintro e w1 ⟨r,rfl,hr,hb1⟩;have b1:=HBr.trans (hb1.mono HBr.size);have HRR:=Ae hr;clear hr;cases r
    ·go_wp2_with fail;go_roundw
     case rel=>exact ⟨i+1,by omega,by go_num,Ae (by
      rintro ⟨y,hy,hp⟩;rw [List.take_add_one,HX.out.1] at hy;rcases List.mem_append.1 hy with hy|hy
      ·exact HO.out.out ⟨y,hy,hp⟩
      ·simp only [Option.toList_some,Ao] at hy;subst hy;exact absurd (HRR.out.2 hp) qI),b1⟩
     case measure=>(first|(simp [intOf];omega)|(simp [intOf];done))
    ·go_wp2_with fail;go_ret;exact ⟨_,rfl,⟨fun _=>⟨x,A8 HX.out.1,HRR.out.1 (by trivial)⟩,fun _=>by omega⟩,b1⟩
   ·obtain rfl:i=n:=by omega
    have HO:=Ae hno;clear hno;go_wp2_with fail;go_ret;refine ⟨_,rfl,⟨fun h=>absurd h qI,fun h=>absurd h ?_⟩,HBr⟩;have:=HO.out.out;rwa [As (by have:=HN.out;omega)] at this
 go_enter Tryz.func72,Tryz.ntmps72;go_wp2_with fail;refine hidx.mono ?_;rintro e w1 ⟨z,rfl,hz,hb1⟩;have HZ:=Ae hz;clear hz hrow;go_wp2_with fail;go_ret;exact ⟨decide (0≤z),by first|rfl|simp,by rw [decide_eq_true_eq];exact HZ.out,hb1⟩
def eQ (w:World) (mb:Nat):Prop:=w.cell? ⟨mb,0,none⟩=some (.func (.func 71) #[] #[.pointer (some ⟨mb,0,none⟩)])
theorem Aci:∀(k:Nat) (t:RT),t.dep≤k→∀(w:World) (v0 v1 v2:Value) (mb d:Nat),VAt w v0 v1 v2 t→d≤1000→eQ w mb →
  Θ 71 #[.agg #[v0,v1,v2],.int .i64 d,.pointer (some ⟨mb,0,none⟩)] w (xX w (RT.Chk d t)):=by
 intro k
 induction k with
 | zero=>intro t ht;cases t;rw [RT.dep] at ht;omega
 | succ k ih =>
  intro t ht w v0 v1 v2 mb d h hd hmb;obtain ⟨g,n,p,xs⟩:=t;rw [RT.dep] at ht;rw [VAt] at h;rw [RT.Chk];obtain ⟨rfl,⟨a,c,rfl,hp,hnl,hsm⟩,a',c',rfl,k1,k2,k3,k4,hrow⟩:=h;have HB:=Ac w.heap.size w;have hpn:=hp.few;have IH:=fun (x:RT) (hx:x∈xs)=>ih x (by have:=RT.depL_mem (xs:=xs) hx;omega)
  have HI:=Ae IH;have HR:=Ae hrow;unfold eQ at hmb;have hmbl:mb<w.heap.size:=Aa _ _ hmb;clear ih IH hrow;obtain ⟨m,hm⟩:∃m,m=xs.length:=⟨_,rfl⟩;rw [←hm] at k1 k2;have HM:=Ae hm;have HX0:Hid (xs=[]↔m=0):=Ae (by rw [hm];simp);rw [←hm];clear hm;obtain ⟨pk,hpk⟩:∃r:Bool,POk p n↔r=true:=by
   by_cases h:POk p n
   ·exact ⟨true,by simp [h]⟩
   ·exact ⟨false,by simp [h]⟩
  have HPK:=Ae hpk;clear hpk;go_enter Tryz.func71,Tryz.ntmps71;cases g
  ·by_cases hx:m=0
   ·by_cases hn:n≤2000
    ·go_wp2_with fail;refine Be ?_;intro w0 hw0;have b0:Below w.heap.size w w0:=by rw [hw0];go_grown
     clear hw0;refine (Y5 w0 a n c p (hp.keep b0) hsm pk HPK.out).mono ?_;rintro e w1 ⟨rfl,hb1⟩;have b1:=b0.trans (hb1.mono b0.size);go_wp2_with fail;go_ret;exact ⟨_,rfl,by rw [←HPK.out];simp [HX0.out.2 hx,hn],b1⟩
    ·go_wp2_with fail;go_ret;exact ⟨_,rfl,by simp [hn],by go_grown⟩
   ·go_wp2_with fail;go_ret;exact ⟨_,rfl,by simp [HX0.out,hx],by go_grown⟩
  ·by_cases hn:n=0
   ·by_cases hx:m≤2000
    ·by_cases hd6:d≤64
     ·go_wp2_with fail;refine Be ?_;intro w0 hw0;have b0:Below w.heap.size w w0:=by rw [hw0];go_grown
      have hdc:w0.cell? ⟨w.heap.size+1,0,none⟩=some (.int .i64 d):=by rw [hw0];simp [go_sem]
      have hm0:=Bc b0 hmb;clear hw0;have HA:=gD w0 a' c' xs (by have:=HM.out;omega) (by have:=HM.out;omega) (HR.out.imp id fun⟨b,o,e,h⟩=>⟨b,o,e,Fg.keep b0 h⟩) 73 #[.pointer (some ⟨mb,0,none⟩),.pointer (some ⟨w.heap.size+1,0,none⟩)] (enters_of Tryz.func73 qC rfl) (fun x=>¬RT.Chk (d+1) x) (fun x hx W v0 v1 v2 hW hv=>by
       have hdw:=Bc hW hdc;have hmw:=Bc hW hm0;have hII:=Ae (HI.out x hx);have HV:=Ae hv;have hmwl:mb<W.heap.size:=Aa _ _ hmw;have hdwl:w.heap.size+1<W.heap.size:=Aa _ _ hdw;have HBW:=Ac W.heap.size W;clear hv hW hdc hm0;go_enter Tryz.func73,Tryz.ntmps73;go_wp2_with fail;refine (hII.out _ v0 v1 v2 mb (d+1) (VAt.keep qF HV.out) qA (Bc qF hmw)).mono ?_;rintro e w1 ⟨r,rfl,hr,hb1⟩;have HRR:=Ae hr;clear hr;go_wp2_with fail;go_ret;exact ⟨_,rfl,by rw [←HRR.out];cases r<;>simp,Al qF (hb1.mono qB)⟩)
      rw [←HM.out] at HA;refine HA.mono ?_;rintro e w1 ⟨r,rfl,hr,hb1⟩;have b1:=b0.trans (hb1.mono b0.size);have HRR:=Ae hr;clear hr;cases r
      ·go_wp2_with fail;go_ret;refine ⟨_,rfl,?_,b1⟩;have hall:RT.ChkL (d+1) xs:=RT.ChkL_iff.2 fun x hx=>Classical.byContradiction fun hn=>absurd (HRR.out.2 ⟨x,hx,hn⟩) qI
       simp [hall,hx,hd6,hn]
      ·go_wp2_with fail;go_ret;refine ⟨_,rfl,?_,b1⟩;obtain ⟨x,hx',hn'⟩:=HRR.out.1 (by trivial);have hall:¬RT.ChkL (d+1) xs:=fun h=>hn' (RT.ChkL_iff.1 h x hx')
       simp [hall]
     ·go_wp2_with fail;go_ret;exact ⟨_,rfl,by simp [hd6],by go_grown⟩
    ·go_wp2_with fail;go_ret;exact ⟨_,rfl,by simp [hx],by go_grown⟩
   ·go_wp2_with fail;go_ret;exact ⟨_,rfl,by simp [hn],by go_grown⟩
theorem Ov (w:World) (v0 v1 v2:Value) (t:RT) (h:VAt w v0 v1 v2 t):Θ 24 #[.agg #[v0,v1,v2]] w (xX w (RT.Chk 1 t)):=by
 have HB:=Ac w.heap.size w;have HV:=Ae h;clear h;go_enter Tryz.func24,Tryz.ntmps24;go_wp2_with fail;refine Be ?_;intro w0 hw0;have b0:Below w.heap.size w w0:=by rw [hw0];go_grown
 have hm:eQ w0 (w.heap.size+1):=by unfold eQ;rw [hw0];simp [go_sem]
 clear hw0;refine (Aci t.dep t (Ad _) w0 v0 v1 v2 (w.heap.size+1) 1 (VAt.keep b0 HV.out) qA hm).mono ?_;rintro e w1 ⟨r,rfl,hr,hb1⟩;go_wp2_with fail;go_ret;exact ⟨_,rfl,hr,b0.trans (hb1.mono b0.size)⟩
theorem zV:laidOutB Tryz.prog=true:=by kernel_rfl
theorem yF:(76:TypeId)<Tryz.prog.types.size:=of_decide_eq_true qC
theorem Ho:Maps.Keyed Tryz.prog 76:=Maps.Keyed.of_law (deep_law_laid zV (m:=2) qA yF qC (by rw [u66]))
theorem Vy:Tryz.prog.keyType 76=true:=by kernel_rfl
theorem Wf:Tryz.prog.cellsOf 76=4:=by kernel_rfl
abbrev Da (a b c d:Nat):Value:=.agg #[.int .u16 a,.int .u16 b,.int .u16 c,.int .u16 d]
theorem sG {x0 x1 x2 x3:Value}:(Value.agg #[x0,x1,x2,x3]).formed Tryz.prog 76=true:=by simp [Value.formed,u66,Wf]
theorem Vm (d:Nat) (v:Value):Tryz.prog.keyLits (d+1) 74 [v]=(match v with|.int q' n=>if q'=.u16∧(Lit.int .u16 n).wf=true then some [.int .u16 n] else none|_=>none):=by
 unfold Program.keyLits;rw [u55]
 cases v<;>rfl
theorem Um (d:Nat) (x0 x1 x2 x3:Value):Tryz.prog.keyLits (d+2) 76 [x0,x1,x2,x3]=(((Tryz.prog.keyLits (d+1) 74 [x0]).bind fun l0=>(Tryz.prog.keyLits (d+1) 74 [x1]).bind fun l1=>(Tryz.prog.keyLits (d+1) 74 [x2]).bind fun l2=>(Tryz.prog.keyLits (d+1) 74 [x3]).bind fun l3=>some [l0,l1,l2,l3]).map List.flatten):=by
 have hr:List.range 4=[0,1,2,3]:=by decide
 conv=>lhs;unfold Program.keyLits
 rw [u66];simp only [List.length_cons,List.length_nil,Wf,c55,hr,if_true,List.mapM_cons,List.mapM_nil,List.drop,List.take,Nat.zero_mul,Nat.one_mul,Nat.reduceMul]
 cases Tryz.prog.keyLits (d+1) 74 [x0]<;>cases Tryz.prog.keyLits (d+1) 74 [x1]<;>cases Tryz.prog.keyLits (d+1) 74 [x2]<;>cases Tryz.prog.keyLits (d+1) 74 [x3]<;>rfl
theorem Sa:∃d,Tryz.prog.types.size+1=d+2:=⟨Tryz.prog.types.size-1,by have h:76<(Tryz.prog.types.size:Nat):=yF;omega⟩
theorem vG {n:Nat} (h:n<65536):(Lit.int .u16 (n:Int)).wf=true:=by simp [Lit.wf,IntKind.min,IntKind.max,IntKind.bits,IntKind.signed];omega
theorem Xd {a b c d:Nat} (ha:a<65536) (hb:b<65536) (hc:c<65536) (hd:d<65536):∃kl,keyOf Tryz.prog 76 (Da a b c d)=some kl:=by
 obtain ⟨e,he⟩:=Sa;unfold keyOf;rw [u66];simp only [Vy,sG,Bool.and_self,if_true,he];have:(Da a b c d).cells.toList=[.int .u16 a,.int .u16 b,.int .u16 c,.int .u16 d]:=by simp [Value.cells]
 rw [this,Um];simp [Vm,vG ha,vG hb,vG hc,vG hd]
theorem xY {cs:Array Value} (h:cs.size=4):∃x0 x1 x2 x3,Value.agg cs=.agg #[x0,x1,x2,x3]:=by
 obtain ⟨l⟩:=cs;simp at h
 match l,h with
 | [x0,x1,x2,x3],_=>exact ⟨x0,x1,x2,x3,rfl⟩
theorem aU (x0 x1 x2 x3:Value):(Value.agg #[x0,x1,x2,x3]).cells.toList=[x0,x1,x2,x3]:=by simp [Value.cells]
theorem tO:∃e,∀v,keyOf Tryz.prog 76 v=if v.formed Tryz.prog 76 then (Tryz.prog.keyLits (e+2) 76 v.cells.toList).map fun ls=>.string (keyBytes ls) else none:=by
 obtain ⟨e,he⟩:=Sa;refine ⟨e,fun v=>?_⟩;unfold keyOf;rw [u66];simp only [Vy,Bool.true_and,he]
theorem uT {v:Value} {kl:Lit} (h:keyOf Tryz.prog 76 v=some kl):∃a b c d:Nat,a<65536∧b<65536∧c<65536∧d<65536∧v=Da a b c d:=by
 obtain ⟨e,he⟩:=tO;rw [he] at h
 split at h
 ·next hf =>
  have hx:∃x0 x1 x2 x3,v=.agg #[x0,x1,x2,x3]:=by
   cases v<;>simp [Value.formed,u66,Wf] at hf
   next cs =>
    exact xY hf
  obtain ⟨x0,x1,x2,x3,rfl⟩:=hx;have hone:∀(x:Value) l,Tryz.prog.keyLits (e+1) 74 [x]=some l→∃a:Nat,a<65536∧x=.int .u16 a:=by
   intro x l hl;rw [Vm] at hl
   cases x<;>simp at hl
   next q n =>
    obtain ⟨⟨rfl,hw⟩,_⟩:=hl;have hw':0≤n∧n<65536:=by simp [Lit.wf,IntKind.min,IntKind.max,IntKind.bits,IntKind.signed] at hw;omega
    refine ⟨n.toNat,by omega,?_⟩;rw [Int.toNat_of_nonneg hw'.1]
  rw [aU] at h;rw [Um] at h
  cases h0:Tryz.prog.keyLits (e+1) 74 [x0] with
  | none=>simp [h0] at h
  | some l0 =>
  cases h1:Tryz.prog.keyLits (e+1) 74 [x1] with
  | none=>simp [h0,h1] at h
  | some l1 =>
  cases h2:Tryz.prog.keyLits (e+1) 74 [x2] with
  | none=>simp [h0,h1,h2] at h
  | some l2 =>
  cases h3:Tryz.prog.keyLits (e+1) 74 [x3] with
  | none=>simp [h0,h1,h2,h3] at h
  | some l3 =>
  obtain ⟨a,ha,rfl⟩:=hone _ _ h0;obtain ⟨b,hb,rfl⟩:=hone _ _ h1;obtain ⟨c,hc,rfl⟩:=hone _ _ h2;obtain ⟨d,hd,rfl⟩:=hone _ _ h3;exact ⟨a,b,c,d,ha,hb,hc,hd,rfl⟩
 ·cases h
def Ap2 (a1:Γ) (c1:Nat) (a2:Γ) (c2:Nat):Prop:=c1=0∨c2=0∨a1≠a2
def Eg (w:World) (p q:Int) (e:Ending) (w':World):Prop :=
 ∃g1 a1 n1 c1 g2 a2 n2 c2,e=.returned (.agg #[.bool g1,.slice a1 n1 c1,.bool g2,.slice a2 n2 c2])∧Bj w' g1 a1 n1 c1 p g2 a2 n2 c2 q∧Bg w.heap.size w' a1 c1∧Bg w.heap.size w' a2 c2∧Ap2 a1 c1 a2 c2∧Below w.heap.size w w'
theorem bU {B:Nat} {w w':World} {a a':Γ} {c c':Nat} (h:Bg B w a c) (h':Bg w.heap.size w' a' c'):Ap2 a c a' c':=by
 rcases h with h|⟨b,cur,h1,_,h3,_⟩
 ·exact .inl h
 ·rcases h' with h'|⟨b',_,h1',h2',_⟩
  ·exact .inr (.inl h')
  ·refine .inr (.inr fun e=>?_);rw [h1,h1'] at e;simp only [Option.some.injEq,Addr.mk.injEq,and_true] at e;have:=(Ar.1 h3).1;omega
theorem Ro {p q:Int} (hq:0<q):0<q/(Int.gcd p q:Int)∧Int.gcd (p/(Int.gcd p q:Int)) (q/(Int.gcd p q:Int))=1:=by
 have hg:0<Int.gcd p q:=Int.gcd_pos_of_ne_zero_right _ qA;refine ⟨?_,Int.gcd_ediv_gcd_ediv_gcd hg⟩;have h1:((Int.gcd p q:Nat):Int)≤q:=Int.le_of_dvd hq (Int.gcd_dvd_right ..);exact Int.ediv_pos_of_pos_of_dvd hq qA (Int.gcd_dvd_right ..)
theorem J0 {p q:Int} (hq:0<q):(dg (Int.gcd p q)).length≤(dg q.natAbs).length:=by
 refine Bn ?_;have h1:((Int.gcd p q:Nat):Int)≤q:=Int.le_of_dvd hq (Int.gcd_dvd_right ..);omega
theorem Sx (w:World) (g:Bool) (a:Γ) (n c:Nat) (z:Int) (h:Bh w g a n c z) (g':Bool) (a':Γ) (n' c':Nat) (z':Int) (h':Bh w g' a' n' c' z')
  (hz':0<z') (hb1:n<35184372088829) (hb2:n'<35184372088829) :
  Θ 124 #[.agg #[.bool g,.slice a n c],.agg #[.bool g',.slice a' n' c']] w (Eg w (z/(Int.gcd z z':Int)) (z'/(Int.gcd z z':Int))):=by
 have HB:=Ac w.heap.size w;have hsg:Bz z' 0=1:=Ee hz';have hgp:0<Int.gcd z z':=Int.gcd_pos_of_ne_zero_right _ qA;go_enter Tryz.func124,Tryz.ntmps124;go_wp2_with fail;refine Be ?_;intro w0 hw0;have HB0:Below w.heap.size w w0:=by rw [hw0];go_grown
 have A0:w0.cell? ⟨w.heap.size,0,none⟩=some (.bool g):=by rw [hw0];simp [go_sem]
 have A1:w0.cell? ⟨w.heap.size,1,none⟩=some (.slice a n c):=by rw [hw0];simp [go_sem]
 have B0:w0.cell? ⟨w.heap.size+1,0,none⟩=some (.bool g'):=by rw [hw0];simp [go_sem]
 have B1:w0.cell? ⟨w.heap.size+1,1,none⟩=some (.slice a' n' c'):=by rw [hw0];simp [go_sem]
 have R0:w0.cell? ⟨w.heap.size+1+1,0,none⟩=some (.bool false):=by rw [hw0];simp [go_sem]
 have R1:w0.cell? ⟨w.heap.size+1+1,1,none⟩=some (.slice none 0 0):=by rw [hw0];simp [go_sem]
 have R2:w0.cell? ⟨w.heap.size+1+1,2,none⟩=some (.bool false):=by rw [hw0];simp [go_sem]
 have R3:w0.cell? ⟨w.heap.size+1+1,3,none⟩=some (.slice none 0 0):=by rw [hw0];simp [go_sem]
 have Rf0:w0.frozen? ⟨w.heap.size+1+1,0,none⟩=false:=by rw [hw0];simp [go_sem]
 have Rf1:w0.frozen? ⟨w.heap.size+1+1,1,none⟩=false:=by rw [hw0];simp [go_sem]
 have Rf2:w0.frozen? ⟨w.heap.size+1+1,2,none⟩=false:=by rw [hw0];simp [go_sem]
 have Rf3:w0.frozen? ⟨w.heap.size+1+1,3,none⟩=false:=by rw [hw0];simp [go_sem]
 have hk0:w.heap.size+1+1+1≤w0.heap.size:=Aa _ _ R0;clear hw0;refine (yO _ _ _ _ _ z (h.keep HB0) _ _ _ _ z' (h'.keep HB0) hz' hb2 hb1).mono ?_;rintro e w1 ⟨gg,ag,ng,cg,rfl,hng,hfg,hb⟩;have HB1:=HB0.trans (hb.mono HB0.size)
 (replace Rf0:=(Ab hb (Aa _ _ R0)).trans Rf0;replace Rf1:=(Ab hb (Aa _ _ R1)).trans Rf1;replace Rf2:=(Ab hb (Aa _ _ R2)).trans Rf2;replace Rf3:=(Ab hb (Aa _ _ R3)).trans Rf3;replace A0:=Bc hb A0;replace A1:=Bc hb A1;replace B0:=Bc hb B0;replace B1:=Bc hb B1;replace R0:=Bc hb R0;replace R1:=Bc hb R1;replace R2:=Bc hb R2;replace R3:=Bc hb R3)
 have hs1:=HB1.size;have hlg:ng≤n':=by have h1:=hng.rd.len;have h2:=h'.rd.len;rw [Int.natAbs_natCast] at h1;have h3:=J0 (p:=z) hz';omega
 have hkr:w.heap.size+1+1<w1.heap.size:=Aa _ _ R0;replace hfg:=hfg.mono hk0;clear hb HB0;go_upto_region 2 with fail
 (refine Cc ?_;intro w2 hw2;have G0':w2.cell? ⟨w1.heap.size,0,none⟩=some (.bool gg):=(by rw [hw2];first|assumption|(simp [go_sem];done)|(simp [*,go_sem];done));have G1':w2.cell? ⟨w1.heap.size,1,none⟩=some (.slice ag ng cg):=(by rw [hw2];first|assumption|(simp [go_sem];done)|(simp [*,go_sem];done));have G0:=G0';clear G0';have G1:=G1';clear G1');have hb12:Below w1.heap.size w1 w2:=by rw [hw2];go_grown
 (replace Rf0:=(Ab hb12 (Aa _ _ R0)).trans Rf0;replace Rf1:=(Ab hb12 (Aa _ _ R1)).trans Rf1;replace Rf2:=(Ab hb12 (Aa _ _ R2)).trans Rf2;replace Rf3:=(Ab hb12 (Aa _ _ R3)).trans Rf3;replace A0:=Bc hb12 A0;replace A1:=Bc hb12 A1;replace B0:=Bc hb12 B0;replace B1:=Bc hb12 B1;replace R0:=Bc hb12 R0;replace R1:=Bc hb12 R1;replace R2:=Bc hb12 R2;replace R3:=Bc hb12 R3)
 have hs2:w1.heap.size<w2.heap.size:=by rw [hw2];simp
 have HB2:=HB1.trans (hb12.mono hs1);replace hng:=hng.keep hb12;replace hfg:=hfg.keep hb12;obtain ⟨G,hG⟩:∃G,G=w1.heap.size:=⟨_,rfl⟩;rw [←hG] at G0 G1 ⊢;have hGr:w.heap.size+1+1<G:=by omega
 clear hw2 hb12 HB1 hG;go_wp2_with fail;refine (La _ _ _ _ _ z' (h'.keep HB2)).mono ?_;rintro e w3 ⟨rfl,hb⟩;have HB3:=HB2.trans (hb.mono HB2.size)
 (replace Rf0:=(Ab hb (Aa _ _ R0)).trans Rf0;replace Rf1:=(Ab hb (Aa _ _ R1)).trans Rf1;replace Rf2:=(Ab hb (Aa _ _ R2)).trans Rf2;replace Rf3:=(Ab hb (Aa _ _ R3)).trans Rf3;replace A0:=Bc hb A0;replace A1:=Bc hb A1;replace B0:=Bc hb B0;replace B1:=Bc hb B1;replace R0:=Bc hb R0;replace R1:=Bc hb R1;replace R2:=Bc hb R2;replace R3:=Bc hb R3;replace G0:=Bc hb G0;replace G1:=Bc hb G1)
 replace hng:=hng.keep hb;replace hfg:=hfg.keep hb;have hk3:w.heap.size+1+1<w3.heap.size:=Nat.lt_trans hGr (Aa _ _ G0);clear hb HB2;rw [hsg];have hgne:((Int.gcd z z':Nat):Int)≠0:=by omega
 obtain ⟨D,hD⟩:∃D:Int,D=((Int.gcd z z':Nat):Int):=⟨_,rfl⟩;rw [←hD] at hng hgne;have HD:=Ae hD;clear hD;go_wp2_with fail;refine (Vt _ _ _ _ _ z (h.keep HB3) _ _ _ _ D hng hgne qA qA).mono ?_;rintro e w4 ⟨gq,aq,nq,cq,gr,ar,nr,cr,rfl,hq,hr,hfq,hfr,hb⟩;have HB4:=HB3.trans (hb.mono HB3.size)
 (replace Rf0:=(Ab hb (Aa _ _ R0)).trans Rf0;replace Rf1:=(Ab hb (Aa _ _ R1)).trans Rf1;replace Rf2:=(Ab hb (Aa _ _ R2)).trans Rf2;replace Rf3:=(Ab hb (Aa _ _ R3)).trans Rf3;replace A0:=Bc hb A0;replace A1:=Bc hb A1;replace B0:=Bc hb B0;replace B1:=Bc hb B1;replace R0:=Bc hb R0;replace R1:=Bc hb R1;replace R2:=Bc hb R2;replace R3:=Bc hb R3;replace G0:=Bc hb G0;replace G1:=Bc hb G1)
 replace hng:=hng.keep hb;replace hfg:=hfg.keep hb;have hs4:=HB3.size;have hfq4:Bg (w.heap.size+1+1+1) w4 aq cq:=hfq.mono hk3;have hGn:¬G=w.heap.size+1+1:=by omega
 have hGn':¬w.heap.size+1+1=G:=by omega
 have hRl:w.heap.size+1+1<w.heap.size+1+1+1:=Ag _;have hk4:=HB4.size;clear hb HB3 hr hfr hfq;go_upto_region 5 with fail
 (refine Cc ?_;intro w5 hw5;have A0':w5.cell? ⟨w.heap.size,0,none⟩=some (.bool g):=(by rw [hw5];first|assumption|(simp [go_sem];done)|(simp [*,go_sem];done));have A1':w5.cell? ⟨w.heap.size,1,none⟩=some (.slice a n c):=(by rw [hw5];first|assumption|(simp [go_sem];done)|(simp [*,go_sem];done));have B0':w5.cell? ⟨w.heap.size+1,0,none⟩=some (.bool g'):=(by rw [hw5];first|assumption|(simp [go_sem];done)|(simp [*,go_sem];done));have B1':w5.cell? ⟨w.heap.size+1,1,none⟩=some (.slice a' n' c'):=(by rw [hw5];first|assumption|(simp [go_sem];done)|(simp [*,go_sem];done));have R0':w5.cell? ⟨w.heap.size+1+1,0,none⟩=some (.bool gq):=(by rw [hw5];first|assumption|(simp [go_sem];done)|(simp [*,go_sem];done));have Rf0':w5.frozen? ⟨w.heap.size+1+1,0,none⟩=false:=(by rw [hw5];first|assumption|(simp [go_sem];done)|(simp [*,go_sem];done));have R1':w5.cell? ⟨w.heap.size+1+1,1,none⟩=some (.slice aq nq cq):=(by rw [hw5];first|assumption|(simp [go_sem];done)|(simp [*,go_sem];done));have Rf1':w5.frozen? ⟨w.heap.size+1+1,1,none⟩=false:=(by rw [hw5];first|assumption|(simp [go_sem];done)|(simp [*,go_sem];done));have R2':w5.cell? ⟨w.heap.size+1+1,2,none⟩=some (.bool false):=(by rw [hw5];first|assumption|(simp [go_sem];done)|(simp [*,go_sem];done));have Rf2':w5.frozen? ⟨w.heap.size+1+1,2,none⟩=false:=(by rw [hw5];first|assumption|(simp [go_sem];done)|(simp [*,go_sem];done));have R3':w5.cell? ⟨w.heap.size+1+1,3,none⟩=some (.slice none 0 0):=(by rw [hw5];first|assumption|(simp [go_sem];done)|(simp [*,go_sem];done));have Rf3':w5.frozen? ⟨w.heap.size+1+1,3,none⟩=false:=(by rw [hw5];first|assumption|(simp [go_sem];done)|(simp [*,go_sem];done));have G0':w5.cell? ⟨G,0,none⟩=some (.bool gg):=(by rw [hw5];first|assumption|(simp [go_sem];done)|(simp [*,go_sem];done));have G1':w5.cell? ⟨G,1,none⟩=some (.slice ag ng cg):=(by rw [hw5];first|assumption|(simp [go_sem];done)|(simp [*,go_sem];done));clear A0 A1 B0 B1 R0 R1 R2 R3 Rf0 Rf1 Rf2 Rf3 G0 G1;have A0:=A0';clear A0';have A1:=A1';clear A1';have B0:=B0';clear B0';have B1:=B1';clear B1';have R0:=R0';clear R0';have Rf0:=Rf0';clear Rf0';have R1:=R1';clear R1';have Rf1:=Rf1';clear Rf1';have R2:=R2';clear R2';have Rf2:=Rf2';clear Rf2';have R3:=R3';clear R3';have Rf3:=Rf3';clear Rf3';have G0:=G0';clear G0';have G1:=G1';clear G1');have HB5:Below w.heap.size w w5:=by rw [hw5];go_grown
 have hng5:Bh w5 gg ag ng cg D:=by rw [hw5];exact (hng.setFresh hfg _ _ hRl).setFresh (hfg.setNew _ _ hRl) _ _ hRl
 have hfg5:Bg (w.heap.size+1+1+1) w5 ag cg:=by rw [hw5];exact (hfg.setNew _ _ hRl).setNew _ _ hRl
 have hq5:Bh w5 gq aq nq cq (z/D):=by rw [hw5];exact (hq.setFresh hfq4 _ _ hRl).setFresh (hfq4.setNew _ _ hRl) _ _ hRl
 have hfq5:Bg (w.heap.size+1+1+1) w5 aq cq:=by rw [hw5];exact (hfq4.setNew _ _ hRl).setNew _ _ hRl
 have hk5:w.heap.size+1+1<w5.heap.size:=Aa _ _ R0;clear hw5 hng hfg hq hfq4 HB4;go_wp2_with fail;refine (Vt _ _ _ _ _ z' (h'.keep HB5) _ _ _ _ D hng5 hgne qA qA).mono ?_;rintro e w6 ⟨gs,a5,n5,c5,gr,ar,nr,cr,rfl,hs,hr,hfs,hfr,hb⟩;have HB6:=HB5.trans (hb.mono HB5.size)
 (replace Rf0:=(Ab hb (Aa _ _ R0)).trans Rf0;replace Rf1:=(Ab hb (Aa _ _ R1)).trans Rf1;replace Rf2:=(Ab hb (Aa _ _ R2)).trans Rf2;replace Rf3:=(Ab hb (Aa _ _ R3)).trans Rf3;replace R0:=Bc hb R0;replace R1:=Bc hb R1;replace R2:=Bc hb R2;replace R3:=Bc hb R3)
 have hq6:=hq5.keep hb;have hfq6:=hfq5.keep hb;have hfs6:Bg (w.heap.size+1+1+1) w6 a5 c5:=hfs.mono hk5;have hap:Ap2 aq cq a5 c5:=bU hfq5 hfs;clear hb HB5 hr hfr hfs hq5 hfq5 hng5 hfg5 A0 A1 B0 B1 G0 G1;go_upto_region 6 with fail
 (refine Cc ?_;intro w7 hw7;have R0':w7.cell? ⟨w.heap.size+1+1,0,none⟩=some (.bool gq):=(by rw [hw7];first|assumption|(simp [go_sem];done)|(simp [*,go_sem];done));have Rf0':w7.frozen? ⟨w.heap.size+1+1,0,none⟩=false:=(by rw [hw7];first|assumption|(simp [go_sem];done)|(simp [*,go_sem];done));have R1':w7.cell? ⟨w.heap.size+1+1,1,none⟩=some (.slice aq nq cq):=(by rw [hw7];first|assumption|(simp [go_sem];done)|(simp [*,go_sem];done));have Rf1':w7.frozen? ⟨w.heap.size+1+1,1,none⟩=false:=(by rw [hw7];first|assumption|(simp [go_sem];done)|(simp [*,go_sem];done));have R2':w7.cell? ⟨w.heap.size+1+1,2,none⟩=some (.bool gs):=(by rw [hw7];first|assumption|(simp [go_sem];done)|(simp [*,go_sem];done));have Rf2':w7.frozen? ⟨w.heap.size+1+1,2,none⟩=false:=(by rw [hw7];first|assumption|(simp [go_sem];done)|(simp [*,go_sem];done));have R3':w7.cell? ⟨w.heap.size+1+1,3,none⟩=some (.slice a5 n5 c5):=(by rw [hw7];first|assumption|(simp [go_sem];done)|(simp [*,go_sem];done));have Rf3':w7.frozen? ⟨w.heap.size+1+1,3,none⟩=false:=(by rw [hw7];first|assumption|(simp [go_sem];done)|(simp [*,go_sem];done));clear R0 R1 R2 R3 Rf0 Rf1 Rf2 Rf3;have R0:=R0';clear R0';have Rf0:=Rf0';clear Rf0';have R1:=R1';clear R1';have Rf1:=Rf1';clear Rf1';have R2:=R2';clear R2';have Rf2:=Rf2';clear Rf2';have R3:=R3';clear R3';have Rf3:=Rf3';clear Rf3');have HB7:Below w.heap.size w w7:=by rw [hw7];go_grown
 have hq7:Bh w7 gq aq nq cq (z/D):=by rw [hw7];exact (hq6.setFresh hfq6 _ _ hRl).setFresh (hfq6.setNew _ _ hRl) _ _ hRl
 have hfq7:Bg (w.heap.size+1+1+1) w7 aq cq:=by rw [hw7];exact (hfq6.setNew _ _ hRl).setNew _ _ hRl
 have hs7:Bh w7 gs a5 n5 c5 (z'/D):=by rw [hw7];exact (hs.setFresh hfs6 _ _ hRl).setFresh (hfs6.setNew _ _ hRl) _ _ hRl
 have hfs7:Bg (w.heap.size+1+1+1) w7 a5 c5:=by rw [hw7];exact (hfs6.setNew _ _ hRl).setNew _ _ hRl
 clear hw7 hq6 hfq6 hs hfs6 HB6;go_wp2_with fail;refine bodyPost_ret (v:=.agg #[.bool gq,.slice aq nq cq,.bool gs,.slice a5 n5 c5]) (by simp [results,Tryz.results124,go_sem,R0,R1,R2,R3]) rfl ?_;have hfl:=Ro (p:=z) hz';exact qBi
end Go.Proofs.YtnnhcbeiogaknaaGreatDoor
end
