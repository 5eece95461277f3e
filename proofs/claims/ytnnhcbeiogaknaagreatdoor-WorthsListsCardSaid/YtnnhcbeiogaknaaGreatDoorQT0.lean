/- Plain words for what the walks say of memory: a list of limbs read at a slice value; what a call keeps. -/
import Derived.Test.YtnnhcbeiogaknaaGreatDoorQTZ
set_option linter.unusedSimpArgs false
set_option linter.unusedVariables false
set_option maxRecDepth 100000
set_option maxHeartbeats 4000000
section
namespace Go.Proofs.YtnnhcbeiogaknaaGreatDoor
open Go.RowKit
theorem Bl {W w1:World} (hb:Below W.heap.size W w1):(∀b o,b<W.heap.size→w1.cell? ⟨b,o,none⟩=W.cell? ⟨b,o,none⟩)∧(∀b o,b<W.heap.size→w1.frozen? ⟨b,o,none⟩=W.frozen? ⟨b,o,none⟩) :=
 ⟨fun b o h=>hb.cell (p:=⟨b,o,none⟩) h,fun b o h=>hb.frozen (p:=⟨b,o,none⟩) h⟩
def lim (d:List Nat) (i:Nat):Int:=((d.getD i 0:Nat):Int)
structure RdL (w:World) (a:Option Addr) (n c:Nat) (d:List Nat):Prop where
 len:d.length=n
 cap:n≤c
 few:n≤35184372088832
 top:c≤9223372036854775807
 small:∀i,0≤lim d i∧lim d i<4294967296
 cell:n=0∨∃b o,a=some ⟨b,o,none⟩∧∀i,i<n→w.cell? ⟨b,o+i,none⟩=some (.int .u32 (lim d i))
theorem RdL.below {B:Nat} {w w':World} {a:Option Addr} {n c:Nat} {d:List Nat} (h:RdL w a n c d) (hb:Below B w w') (hB:w.heap.size≤B):RdL w' a n c d:=by
 refine ⟨h.len,h.cap,h.few,h.top,h.small,?_⟩;rcases h.cell with h0|⟨b,o,ha,hc⟩
 ·exact .inl h0
 ·refine .inr ⟨b,o,ha,fun i hi=>?_⟩;have:=hc i hi;have hlt:=Aa w _ this;rw [hb.cell (p:=⟨b,o+i,none⟩) (Nat.lt_of_lt_of_le hlt hB)];exact this
theorem RdL.alloc {w:World} {a:Option Addr} {n c:Nat} {d:List Nat} (h:RdL w a n c d) (o:Obj):RdL (w.alloc o) a n c d :=
 h.below ((Ac w.heap.size w).alloc (Ad _) o) (Ad _)
structure Tm where
 g1:Bool
 a1:Option Addr
 n1:Nat
 c1:Nat
 d1:List Nat
 g2:Bool
 a2:Option Addr
 n2:Nat
 c2:Nat
 d2:List Nat
 m0:Nat
 m1:Nat
 m2:Nat
 m3:Nat
abbrev Tm.val (t:Tm):Value:=.agg #[.bool t.g1,.slice t.a1 t.n1 t.c1,.bool t.g2,.slice t.a2 t.n2 t.c2,.int .u16 t.m0,.int .u16 t.m1,.int .u16 t.m2,.int .u16 t.m3]
structure Eb (w:World) (t:Tm):Prop where
 top:RdL w t.a1 t.n1 t.c1 t.d1
 low:RdL w t.a2 t.n2 t.c2 t.d2
 s0:t.m0<65536
 s1:t.m1<65536
 s2:t.m2<65536
 s3:t.m3<65536
structure Km (w:World) (b o:Nat) (t:Tm):Prop where
 e0:w.cell? ⟨b,o,none⟩=some (.bool t.g1)
 e1:w.cell? ⟨b,o+1,none⟩=some (.slice t.a1 t.n1 t.c1)
 e2:w.cell? ⟨b,o+2,none⟩=some (.bool t.g2)
 e3:w.cell? ⟨b,o+3,none⟩=some (.slice t.a2 t.n2 t.c2)
 e4:w.cell? ⟨b,o+4,none⟩=some (.int .u16 t.m0)
 e5:w.cell? ⟨b,o+5,none⟩=some (.int .u16 t.m1)
 e6:w.cell? ⟨b,o+6,none⟩=some (.int .u16 t.m2)
 e7:w.cell? ⟨b,o+7,none⟩=some (.int .u16 t.m3)
structure RdP (w:World) (a:Option Addr) (n c:Nat) (p:Nat→Tm):Prop where
 cap:n≤c
 few:n≤35184372088832
 top:c≤9223372036854775807
 tm:∀i,i<n→Eb w (p i)
 cell:n=0∨∃b o,a=some ⟨b,o,none⟩∧∀i,i<n→Km w b (o+i*8) (p i)
theorem Bb {w w':World} (hb:Below w.heap.size w w') {a:Addr} {v:Value} (h:w.cell? a=some v):w'.cell? a=some v:=by
 rw [hb.cell (Aa w a h)];exact h
theorem RdL.keep {w w':World} {a:Option Addr} {n c:Nat} {d:List Nat} (h:RdL w a n c d) (hb:Below w.heap.size w w'):RdL w' a n c d:=h.below hb (Ad _)
theorem Eb.keep {w w':World} {t:Tm} (h:Eb w t) (hb:Below w.heap.size w w'):Eb w' t:=⟨h.top.keep hb,h.low.keep hb,h.s0,h.s1,h.s2,h.s3⟩
theorem Km.keep {w w':World} {b o:Nat} {t:Tm} (h:Km w b o t) (hb:Below w.heap.size w w'):Km w' b o t :=
 ⟨Bb hb h.e0,Bb hb h.e1,Bb hb h.e2,Bb hb h.e3,Bb hb h.e4,Bb hb h.e5,Bb hb h.e6,Bb hb h.e7⟩
theorem RdP.keep {w w':World} {a:Option Addr} {n c:Nat} {p:Nat→Tm} (h:RdP w a n c p) (hb:Below w.heap.size w w'):RdP w' a n c p:=by
 refine ⟨h.cap,h.few,h.top,fun i hi=>(h.tm i hi).keep hb,?_⟩;rcases h.cell with h0|⟨b,o,ha,hc⟩
 ·exact .inl h0
 ·exact .inr ⟨b,o,ha,fun i hi=>(hc i hi).keep hb⟩
theorem RdP.at {w:World} {b o n c:Nat} {p:Nat→Tm} (h:RdP w (some ⟨b,o,none⟩) n c p) {i:Nat} (hi:i<n):Km w b (o+i*8) (p i):=by
 exact qCo
theorem RdL.at {w:World} {b o n c:Nat} {d:List Nat} (h:RdL w (some ⟨b,o,none⟩) n c d) {i:Nat} (hi:i<n):w.cell? ⟨b,o+i,none⟩=some (.int .u32 (lim d i)):=by
 exact qCo
theorem RdL.at' {w:World} {a:Option Addr} {n c:Nat} {d:List Nat} (h:RdL w a n c d) {i:Nat} (hi:i<n):∃b o,a=some ⟨b,o,none⟩∧w.cell? ⟨b,o+i,none⟩=some (.int .u32 (lim d i)):=by
 obtain ⟨b,o,rfl,hcl⟩:=h.cell.resolve_left qA;exact ⟨b,o,rfl,hcl i hi⟩
def aO (B:Nat) (a:Option Addr):Prop:=∀x,a=some x→B≤x.block
theorem aO.mono {B B':Nat} {a:Option Addr} (h:aO B a) (hB:B'≤B):aO B' a:=fun x hx=>Ah hB (h x hx)
theorem Qx {w:World} {p q:Addr} {v:Value} (u:Value) (h:w.cell? q=some v) (hne:q.block≠p.block):(w.setCell p u).cell? q=some v:=by
 rw [Af (w:=w) (Below.heap_setCell w p u q.block hne)];exact h
theorem RdL.setNew {w:World} {a:Option Addr} {n c:Nat} {d:List Nat} (h:RdL w a n c d) (p:Addr) (u:Value) (hn:aO (p.block+1) a):RdL (w.setCell p u) a n c d:=by
 refine ⟨h.len,h.cap,h.few,h.top,h.small,?_⟩;rcases h.cell with h0|⟨b,o,ha,hc⟩
 ·exact .inl h0
 ·refine .inr ⟨b,o,ha,fun i hi=>Qx u (hc i hi) ?_⟩;have:=hn _ ha;show b≠p.block;simp at this;omega
theorem tY:(Tryz.prog.info? 74).map (fun i=>(i.zero,i.size,i.bytes))=some (some (.int .u16 0),1,2):=by kernel_rfl
theorem u66:Tryz.prog.underlying 76=some (.array 4 74):=by kernel_rfl
theorem u55:Tryz.prog.underlying 74=some (.int .u16):=by kernel_rfl
theorem c55:Tryz.prog.cellsOf 74=1:=by kernel_rfl
theorem Uh (w:World) (a0 a1 a2 a3:Int) :
  (part 74 #[.int .u16 a0,.int .u16 a1,.int .u16 a2,.int .u16 a3] 0).run Tryz.prog w=.ok (.int .u16 a0) w ∧
  (part 74 #[.int .u16 a0,.int .u16 a1,.int .u16 a2,.int .u16 a3] 1).run Tryz.prog w=.ok (.int .u16 a1) w ∧
  (part 74 #[.int .u16 a0,.int .u16 a1,.int .u16 a2,.int .u16 a3] 2).run Tryz.prog w=.ok (.int .u16 a2) w ∧
  (part 74 #[.int .u16 a0,.int .u16 a1,.int .u16 a2,.int .u16 a3] 3).run Tryz.prog w=.ok (.int .u16 a3) w :=
 ⟨by kernel_rfl,by kernel_rfl,by kernel_rfl,by kernel_rfl⟩
theorem gC (d:Nat) (w:World) (a0 a1 a2 a3 b0 b1 b2 b3:Int) :
  (Op.equalIn (d+2) 76 (.agg #[.int .u16 a0,.int .u16 a1,.int .u16 a2,.int .u16 a3]) (.agg #[.int .u16 b0,.int .u16 b1,.int .u16 b2,.int .u16 b3])).run Tryz.prog w=.ok (a0==b0&&(a1==b1&&(a2==b2&&a3==b3))) w:=by
 obtain ⟨i,hi,_,hs,_⟩:=info_parts tY;rw [run_equalIn_array (d:=d+1) (hu:=u66) (hi:=hi)];have hr:List.range 4=[0,1,2,3]:=by decide
 rw [hr,c55];obtain ⟨pa0,pa1,pa2,pa3⟩:=Uh w a0 a1 a2 a3;obtain ⟨pb0,pb1,pb2,pb3⟩:=Uh w b0 b1 b2 b3;have e:=fun (x y:Int)=>run_equalIn_int (P:=Tryz.prog) w d 74 .u16 .u16 x y u55
 simp only [Op.eqItems,Nat.zero_mul,Nat.one_mul,Nat.reduceMul,Sem.run_bind,pa0,pb0,pa1,pb1,pa2,pb2,pa3,pb3,Result.andThen_ok,e,Sem.run_ite,Sem.run_pure]
 cases (a0==b0)<;>cases (a1==b1)<;>cases (a2==b2)<;>cases (a3==b3)<;>simp
@[go_sem ↓] theorem yC (w:World) (a0 a1 a2 a3 b0 b1 b2 b3:Int) :
  (binOp .eql 76 (.agg #[.int .u16 a0,.int .u16 a1,.int .u16 a2,.int .u16 a3]) (.agg #[.int .u16 b0,.int .u16 b1,.int .u16 b2,.int .u16 b3])).run Tryz.prog w=.ok (.bool (a0==b0&&(a1==b1&&(a2==b2&&a3==b3)))) w:=by
 rw [run_eql_struct,show (10000:Nat)=9998+2 from rfl,gC];rfl
theorem uN:laidOutB Tryz.prog=true:=by kernel_rfl
theorem tH:(76:TypeId)<Tryz.prog.types.size:=of_decide_eq_true qC
theorem Gw:Maps.Keyed Tryz.prog 76:=Maps.Keyed.of_law (deep_law_laid uN (m:=2) qA tH qC (by rw [u66]))
theorem Up:Tryz.prog.keyType 76=true:=by kernel_rfl
theorem Ux:Tryz.prog.cellsOf 76=4:=by kernel_rfl
abbrev C6 (a b c d:Nat):Value:=.agg #[.int .u16 a,.int .u16 b,.int .u16 c,.int .u16 d]
theorem mR {x0 x1 x2 x3:Value}:(Value.agg #[x0,x1,x2,x3]).formed Tryz.prog 76=true:=by simp [Value.formed,u66,Ux]
theorem Ue (d:Nat) (v:Value):Tryz.prog.keyLits (d+1) 74 [v]=(match v with|.int q' n=>if q'=.u16∧(Lit.int .u16 n).wf=true then some [.int .u16 n] else none|_=>none):=by
 unfold Program.keyLits;rw [u55]
 cases v<;>rfl
theorem Td (d:Nat) (x0 x1 x2 x3:Value):Tryz.prog.keyLits (d+2) 76 [x0,x1,x2,x3]=(((Tryz.prog.keyLits (d+1) 74 [x0]).bind fun l0=>(Tryz.prog.keyLits (d+1) 74 [x1]).bind fun l1=>(Tryz.prog.keyLits (d+1) 74 [x2]).bind fun l2=>(Tryz.prog.keyLits (d+1) 74 [x3]).bind fun l3=>some [l0,l1,l2,l3]).map List.flatten):=by
 have hr:List.range 4=[0,1,2,3]:=by decide
 conv=>lhs;unfold Program.keyLits
 rw [u66];simp only [List.length_cons,List.length_nil,Ux,c55,hr,if_true,List.mapM_cons,List.mapM_nil,List.drop,List.take,Nat.zero_mul,Nat.one_mul,Nat.reduceMul]
 cases Tryz.prog.keyLits (d+1) 74 [x0]<;>cases Tryz.prog.keyLits (d+1) 74 [x1]<;>cases Tryz.prog.keyLits (d+1) 74 [x2]<;>cases Tryz.prog.keyLits (d+1) 74 [x3]<;>rfl
theorem Qv:∃d,Tryz.prog.types.size+1=d+2:=⟨Tryz.prog.types.size-1,by have h:76<(Tryz.prog.types.size:Nat):=tH;omega⟩
theorem pL {n:Nat} (h:n<65536):(Lit.int .u16 (n:Int)).wf=true:=by simp [Lit.wf,IntKind.min,IntKind.max,IntKind.bits,IntKind.signed];omega
theorem Vs {a b c d:Nat} (ha:a<65536) (hb:b<65536) (hc:c<65536) (hd:d<65536):∃kl,keyOf Tryz.prog 76 (C6 a b c d)=some kl:=by
 obtain ⟨e,he⟩:=Qv;unfold keyOf;rw [u66];simp only [Up,mR,Bool.and_self,if_true,he];have:(C6 a b c d).cells.toList=[.int .u16 a,.int .u16 b,.int .u16 c,.int .u16 d]:=by simp [Value.cells]
 rw [this,Td];simp [Ue,pL ha,pL hb,pL hc,pL hd]
theorem tC {cs:Array Value} (h:cs.size=4):∃x0 x1 x2 x3,Value.agg cs=.agg #[x0,x1,x2,x3]:=by
 obtain ⟨l⟩:=cs;simp at h
 match l,h with
 | [x0,x1,x2,x3],_=>exact ⟨x0,x1,x2,x3,rfl⟩
theorem Yx (x0 x1 x2 x3:Value):(Value.agg #[x0,x1,x2,x3]).cells.toList=[x0,x1,x2,x3]:=by simp [Value.cells]
theorem nV:∃e,∀v,keyOf Tryz.prog 76 v=if v.formed Tryz.prog 76 then (Tryz.prog.keyLits (e+2) 76 v.cells.toList).map fun ls=>.string (keyBytes ls) else none:=by
 obtain ⟨e,he⟩:=Qv;refine ⟨e,fun v=>?_⟩;unfold keyOf;rw [u66];simp only [Up,Bool.true_and,he]
theorem pB {v:Value} {kl:Lit} (h:keyOf Tryz.prog 76 v=some kl):∃a b c d:Nat,a<65536∧b<65536∧c<65536∧d<65536∧v=C6 a b c d:=by
 obtain ⟨e,he⟩:=nV;rw [he] at h
 split at h
 ·next hf =>
  have hx:∃x0 x1 x2 x3,v=.agg #[x0,x1,x2,x3]:=by
   cases v<;>simp [Value.formed,u66,Ux] at hf
   next cs =>
    exact tC hf
  obtain ⟨x0,x1,x2,x3,rfl⟩:=hx;have hone:∀(x:Value) l,Tryz.prog.keyLits (e+1) 74 [x]=some l→∃a:Nat,a<65536∧x=.int .u16 a:=by
   intro x l hl;rw [Ue] at hl
   cases x<;>simp at hl
   next q n =>
    obtain ⟨⟨rfl,hw⟩,_⟩:=hl;have hw':0≤n∧n<65536:=by simp [Lit.wf,IntKind.min,IntKind.max,IntKind.bits,IntKind.signed] at hw;omega
    refine ⟨n.toNat,by omega,?_⟩;rw [Int.toNat_of_nonneg hw'.1]
  rw [Yx] at h;rw [Td] at h
  cases h0:Tryz.prog.keyLits (e+1) 74 [x0] with
  | none=>simp [h0] at h
  | some l0 =>
  cases h1:Tryz.prog.keyLits (e+1) 74 [x1] with
  | none=>simp [h0,h1] at h
  | some l1 =>
  cases h2:Tryz.prog.keyLits (e+1) 74 [x2] with
  | none=>simp [h0,h1,h2] at h
  | some l2 =>
  cases h3:Tryz.prog.keyLits (e+1) 74 [x3] with
  | none=>simp [h0,h1,h2,h3] at h
  | some l3 =>
  obtain ⟨a,ha,rfl⟩:=hone _ _ h0;obtain ⟨b,hb,rfl⟩:=hone _ _ h1;obtain ⟨c,hc,rfl⟩:=hone _ _ h2;obtain ⟨d,hd,rfl⟩:=hone _ _ h3;exact ⟨a,b,c,d,ha,hb,hc,hd,rfl⟩
 ·cases h
end Go.Proofs.YtnnhcbeiogaknaaGreatDoor
end
section
namespace Go.Proofs.YtnnhcbeiogaknaaGreatDoor
def val:List Nat→Nat
 | []=>0
 | x::xs=>x+1000000000*val xs
def dg (n:Nat):List Nat:=if n=0 then [] else n%1000000000::dg (n/1000000000)
termination_by n
decreasing_by omega
theorem C9:dg 0=[]:=by rw [dg];simp
theorem Ij {n:Nat} (h:0<n):dg n=n%1000000000::dg (n/1000000000):=by rw [dg,if_neg qA]
theorem Bo (n:Nat):val (dg n)=n:=by
 induction n using Nat.strongRecOn with
 | _ n ih =>
  rcases Aq n with rfl|h
  ·rw [C9];rfl
  ·rw [Ij h,val,ih _ qA];omega
theorem Ep (n:Nat):∀x∈dg n,x<1000000000:=by
 induction n using Nat.strongRecOn with
 | _ n ih =>
  rcases Aq n with rfl|h
  ·rw [C9];intro x hx;cases hx
  ·rw [Ij h];intro x hx;rcases List.mem_cons.1 hx with rfl|hx
   ·omega
   ·exact ih _ qA x hx
def Ej (d:List Nat):Prop:=(∀x∈d,x<1000000000)∧(d=[]∨d.getLast?≠some 0)
theorem Ej.tail {x:Nat} {d:List Nat} (h:Ej (x::d)):Ej d:=by
 refine ⟨fun y hy=>h.1 y (List.mem_cons_of_mem _ hy),?_⟩
 cases d with
 | nil=>exact .inl rfl
 | cons y d =>
  right;rcases h.2 with h2|h2
  ·cases h2
  ·simpa [List.getLast?_cons_cons] using h2
theorem Cs {d:List Nat} (h:Ej d) (hne:d≠[]):0<val d:=by
 induction d with
 | nil=>exact absurd rfl hne
 | cons x d ih =>
  rw [val]
  cases d with
  | nil =>
   have h2:=h.2;simp at h2;omega
  | cons y d =>
   have:=ih h.tail qG;omega
theorem Fo {d:List Nat} (h:Ej d):dg (val d)=d:=by
 induction d with
 | nil=>rw [val,C9]
 | cons x d ih =>
  have hx:=h.1 x (List.mem_cons_self ..);have hp:=Cs h qG;rw [Ij hp,val];have h1:(x+1000000000*val d)%1000000000=x:=by omega
  have h2:(x+1000000000*val d)/1000000000=val d:=by omega
  rw [h1,h2,ih h.tail]
theorem Ce (n:Nat):Ej (dg n):=by
 refine ⟨Ep n,?_⟩
 induction n using Nat.strongRecOn with
 | _ n ih =>
  rcases Aq n with rfl|h
  ·exact .inl C9
  ·right;rw [Ij h];rcases ih (n/1000000000) qA with h2|h2
   ·rw [h2];have:n/1000000000=0:=by have:=Bo (n/1000000000);rw [h2] at this;simpa [val] using this.symm
    simp
    omega
   ·cases hd:dg (n/1000000000) with
    | nil =>
     have:n/1000000000=0:=by have:=Bo (n/1000000000);rw [hd] at this;simpa [val] using this.symm
     simp
     omega
    | cons y d=>rw [hd] at h2;simpa [List.getLast?_cons_cons] using h2
theorem Ff (a b:List Nat):val (a++b)=val a+1000000000 ^ a.length*val b:=by
 induction a with
 | nil=>simp [val]
 | cons x a ih =>
  simp only [List.cons_append,val,ih,List.length_cons,Nat.pow_succ];rw [Nat.mul_add,Nat.mul_comm (1000000000 ^ a.length) 1000000000,Nat.mul_assoc];omega
theorem Et (d:List Nat) (h:∀x∈d,x<1000000000):val d<1000000000 ^ d.length:=by
 induction d with
 | nil=>simp [val]
 | cons x d ih =>
  have h1:=ih (fun y hy=>h y (List.mem_cons_of_mem _ hy));have hx:=h x (List.mem_cons_self ..);simp only [val,List.length_cons,Nat.pow_succ];omega
theorem Dz (d:List Nat) (i:Nat) (hi:i≤d.length):val d=val (d.take i)+1000000000 ^ i*val (d.drop i):=by
 conv=>lhs;rw [←List.take_append_drop i d]
 rw [Ff,List.length_take,Nat.min_eq_left hi]
theorem Gk (d:List Nat) (i:Nat) (hi:i<d.length):val (d.take (i+1))=val (d.take i)+1000000000 ^ i*d.getD i 0:=by
 rw [List.take_succ_eq_append_getElem hi,Ff,List.length_take,Nat.min_eq_left qA];simp [val,List.getD,Ai hi]
theorem T7 (d:List Nat) (h:∀x∈d,x=0):val d=0:=by
 induction d with
 | nil=>rfl
 | cons x d ih=>rw [val,h x (List.mem_cons_self ..),ih (fun y hy=>h y (List.mem_cons_of_mem _ hy))]
theorem Zh (d:List Nat) (n:Nat) (hn:n≤d.length) (hlt:∀x∈d,x<1000000000) (hz:∀i,n≤i→d.getD i 0=0) (hl:n=0∨d.getD (n-1) 0≠0):d.take n=dg (val d):=by
 have hv:val d=val (d.take n):=by
  rw [Dz d n hn,T7 (d.drop n),Nat.mul_zero,Nat.add_zero];intro x hx;obtain ⟨i,hi,rfl⟩:=List.getElem_of_mem hx;have:=hz (n+i) qA;rw [List.getElem_drop];simp only [List.length_drop] at hi;simpa [List.getD,Ai (show n+i<d.length by omega)] using this
 rw [hv,Fo];refine ⟨fun x hx=>hlt x (List.mem_of_mem_take hx),?_⟩;rcases Aq n with rfl|h
 ·exact .inl qG
 ·right;have h2:=hl.resolve_left qA;rw [List.getLast?_take,if_neg qA];simp only [List.getD] at h2;rw [Ai qA] at h2 ⊢;simpa using h2
theorem Bn {a b:Nat} (h:a≤b):(dg a).length≤(dg b).length:=by
 rcases Nat.lt_or_ge (dg b).length (dg a).length with h1|h1
 ·exfalso;have hb:=Et (dg b) (Ep b);rw [Bo] at hb;have hne:dg a≠[]:=by intro e;rw [e] at h1;simp at h1
  have hlast:=(Ce a).2.resolve_left hne;have hs:val (dg a)=a:=Bo a;rw [←List.dropLast_concat_getLast hne,Ff,List.length_dropLast] at hs;rw [List.getLast?_eq_some_getLast hne] at hlast;have hpos:1≤val [(dg a).getLast hne]:=by simp at hlast;simp [val];omega
  have hp:1000000000 ^ (dg b).length≤1000000000 ^ ((dg a).length-1):=Nat.pow_le_pow_right qA qA;have:=Nat.le_mul_of_pos_right (1000000000 ^ ((dg a).length-1)) hpos;omega
 ·exact h1
def fx:Nat→Nat→List Nat
 | 0,_=>[]
 | m+1,N=>N%1000000000::fx m (N/1000000000)
theorem K8 (m N:Nat):(fx m N).length=m:=by
 induction m generalizing N with
 | zero=>rfl
 | succ m ih=>simp [fx,ih]
theorem lY (m N:Nat):∀x∈fx m N,x<1000000000:=by
 induction m generalizing N with
 | zero=>intro x hx;cases hx
 | succ m ih =>
  intro x hx;rcases List.mem_cons.1 hx with rfl|hx
  ·omega
  ·exact ih _ x hx
theorem Ot (m N:Nat) (h:N<1000000000 ^ m):val (fx m N)=N:=by
 induction m generalizing N with
 | zero=>simp at h;simp [fx,val,h]
 | succ m ih =>
  rw [fx,val,ih (N/1000000000) (by rw [Nat.pow_succ] at h;exact Nat.div_lt_of_lt_mul (by rw [Nat.mul_comm];exact h))];omega
theorem sI (m N:Nat):fx (m+1) N=fx m N++[N/1000000000 ^ m%1000000000]:=by
 induction m generalizing N with
 | zero=>simp [fx]
 | succ m ih =>
  rw [fx,ih,fx];simp only [List.cons_append,List.cons.injEq,true_and];rw [Nat.div_div_eq_div_mul,Nat.pow_succ,Nat.mul_comm (1000000000 ^ m)]
theorem cR {a b:List Nat} {i:Nat} (hl:a.length=b.length) (hi:i<a.length) (ha:∀x∈a,x<1000000000) (hd:a.drop (i+1)=b.drop (i+1)) (hlt:a.getD i 0<b.getD i 0):val a<val b:=by
 rw [Dz a (i+1) qA,Dz b (i+1) qA,hd,Gk a i hi,Gk b i qA];have h1:=Et (a.take i) (fun x hx=>ha x (List.mem_of_mem_take hx));rw [List.length_take,Nat.min_eq_left qA] at h1;have h2:1000000000 ^ i*(a.getD i 0+1)≤1000000000 ^ i*b.getD i 0:=At _ hlt;rw [Nat.mul_add] at h2;omega
end Go.Proofs.YtnnhcbeiogaknaaGreatDoor
end
section
namespace Go.Proofs.YtnnhcbeiogaknaaGreatDoor
open Go.RowKit
theorem Bu {B:Nat} {w w':World} (k:Nat) (h:Below B w w'):Below B w (w'.drewN k):=h.trans ⟨rfl,rfl,rfl,Ad _,fun _ _=>rfl⟩
theorem Ia:(Tryz.prog.info? 147).map (fun i=>(i.zero,i.size,i.bytes))=some (some (.int .u32 0),1,4):=by kernel_rfl
def C1 (d:List Nat):List Value:=d.map fun (z:Nat)=>Value.int .u32 (z:Int)
theorem Df (d:List Nat):(C1 d).length=d.length:=by simp [C1]
theorem W4 (d:List Nat) (i:Nat) (h:i<d.length):(C1 d)[i]? = some (.int .u32 (lim d i)):=by
 simp [C1,lim,Ai h]
theorem Ew (d e:List Nat):C1 (d++e)=C1 d++C1 e:=by simp [C1]
theorem oV (z:Nat) (hz:z<4294967296) (i:Nat):0≤lim [z] i∧lim [z] i<4294967296:=by
 unfold lim
 match i with
 | 0=>simp;omega
 | i+1=>simp
theorem Fq {w:World} {base g n c:Nat} {d:List Nat} (h:w.ownsRow base 147 1 (.slice (some ⟨g,0,none⟩) n c) n (C1 d)) (hc:n≤35184372088832) (hs:∀i,0≤lim d i∧lim d i<4294967296):RdL w (some ⟨g,0,none⟩) n c d:=by
 have hlen:d.length=n:=by have:=h.1;rw [Df] at this;omega
 have hcap:n≤c∧c≤9223372036854775807:=by
  rcases h.2 with ⟨h',_⟩|⟨g',cap',cur,h',_,_,hnc,hm,_⟩
  ·simp at h'
  ·simp only [Value.slice.injEq] at h';unfold maxLen at hm;omega
 refine ⟨hlen,hcap.1,hc,hcap.2,hs,.inr ⟨g,0,rfl,fun i hi=>?_⟩⟩;rw [Nat.zero_add,h.cellAt i qA,W4 d i qA]
theorem Ri:(Tryz.prog.info? 79).map (fun i=>(i.zero,i.size,i.bytes))=some (some (.agg #[.bool false,.slice none 0 0,.bool false,.slice none 0 0,.int .u16 0,.int .u16 0,.int .u16 0,.int .u16 0]),8,72):=by kernel_rfl
def Tm.cells (t:Tm):List Value:=[.bool t.g1,.slice t.a1 t.n1 t.c1,.bool t.g2,.slice t.a2 t.n2 t.c2,.int .u16 t.m0,.int .u16 t.m1,.int .u16 t.m2,.int .u16 t.m3]
def Dn (s:Nat→Tm):Nat→List Value
 | 0=>[]
 | k+1=>Dn s k++(s k).cells
theorem Jm (s:Nat→Tm) (k:Nat):(Dn s k).length=k*8:=by
 induction k with
 | zero=>rfl
 | succ k ih=>simp [Dn,Tm.cells,ih];omega
theorem Ww {s s':Nat→Tm} {k:Nat} (h:∀j,j<k→s j=s' j):Dn s k=Dn s' k:=by
 induction k with
 | zero=>rfl
 | succ k ih=>rw [Dn,Dn,ih (fun j hj=>h j qA),h k qA]
theorem Ti (s:Nat→Tm) (k j i:Nat) (hj:j<k) (hi:i<8):(Dn s k)[j*8+i]? = (s j).cells[i]?:=by
 induction k with
 | zero=>omega
 | succ k ih =>
  rw [Dn];have hl:=Jm s k;by_cases h:j<k
  ·rw [Az qA];exact ih h
  ·obtain rfl:j=k:=by omega
   rw [A4 qA,hl]
   congr 1
   omega
theorem Vu {w:World} {base g c k:Nat} {s:Nat→Tm} (h:w.ownsRow base 79 8 (.slice (some ⟨g,0,none⟩) k c) k (Dn s k)) {j:Nat} (hj:j<k):Km w g (0+j*8) (s j):=by
 have key:∀i,i<8→w.cell? ⟨g,0+j*8+i,none⟩=(s j).cells[i]?:=fun i hi=>by
  rw [Nat.zero_add,h.cellAt (j*8+i) qA,Ti s k j i hj hi]
 exact ⟨key 0 qA,key 1 qA,key 2 qA,key 3 qA,key 4 qA,key 5 qA,key 6 qA,key 7 qA⟩
theorem G5 (w:World) (xs:List Value) (t:TypeId):∀j u,xs[j]? = some u→(w.alloc (.cells xs.toArray t)).cell? ((⟨w.heap.size,0,none⟩:Addr).add j)=some u:=by
 intro j u hj;have hadd:(⟨w.heap.size,0,none⟩:Addr).add j=⟨w.heap.size,j,none⟩:=by unfold Addr.add;split<;>simp_all
 rw [hadd,cell_of_row _ w.heap.size j xs.toArray t (0,0) (heap_alloc_new w _)];simpa using hj
theorem Bm {w w':World} {base:Nat} {e:TypeId} {size:Nat} {v:Value} {n:Nat} {xs:List Value} (h:w.ownsRow base e size v n xs) (hb:Below w.heap.size w w'):w'.ownsRow base e size v n xs :=
 h.kept (row:=none) ⟨hb.os,hb.tape,hb.output,hb.size,fun k hk _=>hb.block k hk⟩ (by cases v.ownBlock<;>simp)
theorem K7 {d:List Nat} (h:∀x∈d,x<1000000000) (i:Nat):lim d i<1000000000:=by
 by_cases hi:i<d.length
 ·have:=h _ (List.getElem_mem hi);exact qCy
 ·simp [lim,List.getElem?_eq_none (Nat.le_of_not_lt hi)]
theorem mT {d:List Nat} {i:Nat} (h:d.length≤i):d.getD i 0=0:=by simp [List.getD,List.getElem?_eq_none h]
theorem Ex {d:List Nat} (h:∀x∈d,x<1000000000) (i:Nat):d.getD i 0<1000000000:=by
 by_cases hi:i<d.length
 ·simp only [List.getD,Ai hi,Option.getD_some];exact h _ (List.getElem_mem hi)
 ·rw [mT qA];omega
theorem Lw (d:List Nat) (i:Nat):val (d.take (i+1))=val (d.take i)+1000000000 ^ i*d.getD i 0:=by
 by_cases hi:i<d.length
 ·exact Gk d i hi
 ·rw [As qA,As qA];simp [List.getD,List.getElem?_eq_none (Nat.le_of_not_lt hi)]
def Dg (b:UInt8):Bool:=decide (48≤(b.toNat:Int)∧(b.toNat:Int)≤57)
def Ee:List UInt8→Bool
 | []=>false
 | b::r=>(b::r).all Dg&&(r.isEmpty || decide (¬(b.toNat:Int)=48))
def mX (b:UInt8):Bool:=(b.toNat:Int)==32 || (b.toNat:Int)==9
def Ve (b:UInt8):Bool:=decide ((48≤(b.toNat:Int)∧(b.toNat:Int)≤57)∨(b.toNat:Int)=120∨(b.toNat:Int)=121∨(b.toNat:Int)=122∨(b.toNat:Int)=116)
def Fb:List UInt8→Bool
 | []=>false
 | b::_=>Ve b
theorem Fu {P:Program} {f:FuncId} {args:Array Value} {w:World} {n:Nat} {v:Value}
  (h:Calls P f args (w.drewN n) fun e w'=>e=.returned v∧w.drewN n=w'):Calls P f args (w.drewN n) fun e w''=>e=.returned v∧∃m,w''=w.drewN m :=
 h.mono fun _ _ ⟨he,hm⟩=>⟨he,n,hm.symm⟩
theorem Ey {P:Program} {f:FuncId} {args:Array Value} {w:World} {a n:Nat} {v:Value}
  (h:Calls P f args (w.drewN (a+n)) fun e w'=>e=.returned v∧w.drewN (a+n)=w') :
  Calls P f args (w.drewN (a+n)) fun e w''=>e=.returned v∧∃m,w''=w.drewN (a+m) :=
 h.mono fun _ _ ⟨he,hm⟩=>⟨he,n,hm.symm⟩
def Bz (x y:Int):Int:=if x<y then -1 else if x=y then 0 else 1
theorem Ds {x y:Int} (h:x<y):Bz x y=-1:=by simp [Bz,h]
theorem Eo (x:Int):Bz x x=0:=by simp [Bz]
theorem Dy {x y:Int} (h:y<x):Bz x y=1:=by
 have h1:¬x<y:=by omega
 have h2:¬x=y:=by omega
 simp [Bz,h1,h2]
theorem dP (x:Int) (w:World):Calls Tryz.prog 258 #[.int .i64 x] w fun e w'=>e=.returned (.bool false)∧w=w':=by
 go_enter Tryz.func258,Tryz.ntmps258;go_wp2;go_ret;exact ⟨by simp,rfl⟩
theorem dS (x:Int) (w:World):Calls Tryz.prog 259 #[.int .u32 x] w fun e w'=>e=.returned (.bool false)∧w=w':=by
 go_enter Tryz.func259,Tryz.ntmps259;go_wp2;go_ret;exact ⟨by simp,rfl⟩
theorem eS (x:Int) (w:World):Calls Tryz.prog 363 #[.int .u16 x] w fun e w'=>e=.returned (.bool false)∧w=w':=by
 go_enter Tryz.func363,Tryz.ntmps363;go_wp2;go_ret;exact ⟨by simp,rfl⟩
theorem Pg (x y:Int) (w:World):Calls Tryz.prog 205 #[.int .i64 x,.int .i64 y] w fun e w'=>e=.returned (.int .i64 (Bz x y))∧w=w':=by
 rcases Int.lt_trichotomy x y with h|rfl|h
 ·rw [Ds h];exact qBq
 ·rw [Eo];exact qBq
 ·rw [Dy h];exact qBq
theorem Ph (x y:Int) (w:World):Calls Tryz.prog 206 #[.int .u32 x,.int .u32 y] w fun e w'=>e=.returned (.int .i64 (Bz x y))∧w=w':=by
 rcases Int.lt_trichotomy x y with h|rfl|h
 ·rw [Ds h];exact qBp
 ·rw [Eo];exact qBp
 ·rw [Dy h];exact qBp
theorem Pm (x y:Int) (w:World):Calls Tryz.prog 344 #[.int .u16 x,.int .u16 y] w fun e w'=>e=.returned (.int .i64 (Bz x y))∧w=w':=by
 rcases Int.lt_trichotomy x y with h|rfl|h
 ·rw [Ds h];exact qBo
 ·rw [Eo];exact qBo
 ·rw [Dy h];exact qBo
theorem Ej.lt {d:List Nat} (h:Ej d):∀x∈d,x<1000000000:=h.1
theorem Fh (d:List Nat) (i:Nat):lim d i=((d.getD i 0:Nat):Int):=rfl
theorem aD {a b:List Nat} {i:Nat} (hl:a.length=b.length) (hi:i<a.length) (hd:a.drop (i+1)=b.drop (i+1)) (he:lim a i=lim b i):a.drop i=b.drop i:=by
 rw [List.drop_eq_getElem_cons hi,List.drop_eq_getElem_cons (by omega:i<b.length),hd];have:a[i]=b[i]'qA:=by
  rw [Fh,Fh] at he;simp only [List.getD,Ai hi,Ai (show i<b.length by omega),Option.getD_some] at he;omega
 rw [this]
theorem bT {a b:List Nat} (ha:Ej a) (hb:Ej b) (h:a.length<b.length):val a<val b:=by
 rcases Nat.lt_or_ge (val a) (val b) with h1|h1
 ·exact h1
 ·have:=Bn h1;rw [Fo ha,Fo hb] at this;omega
def Yl (w:World) (x y:Nat) (e:Ending) (w':World):Prop:=e=.returned (.int .i64 (Bz x y))∧Below w.heap.size w w'
theorem lC {d d':List Nat} {j:Nat} (hl:d.length=d'.length) (hj:j<d.length) (hc:∀x∈d,x<1000000000) (hc':∀x∈d',x<1000000000) (hd:d.drop (j+1)=d'.drop (j+1)) (hne:¬lim d j=lim d' j):Bz (lim d j) (lim d' j)=Bz (val d) (val d'):=by
 rw [Fh,Fh] at *;rcases Nat.lt_trichotomy (d.getD j 0) (d'.getD j 0) with h|h|h
 ·have:=cR hl hj hc hd h;rw [Ds qA,Ds qA]
 ·exact absurd (by rw [h]) hne
 ·have:=cR hl.symm qA hc' hd.symm h;rw [Dy qA,Dy qA]
theorem Vw (w:World) (a:Option Addr) (n c:Nat) (d:List Nat) (a':Option Addr) (c':Nat) (d':List Nat) (hd:RdL w a n c d) (hd':RdL w a' n c' d') (hc:Ej d) (hc':Ej d') :
  Calls Tryz.prog 126 #[.slice a n c,.slice a' n c'] w (Yl w (val d) (val d')):=by
 have hl:=hd.len;have hl':=hd'.len;have hn:=hd.few;go_enter Tryz.func126,Tryz.ntmps126;go_wp2_with (go_at_call 205;refine (Pg _ _ _).mono ?_;rintro e w' ⟨rfl,rfl⟩;rw [Eo]);go_loopw [6] (fun v6 wr=>∃k:Nat,k≤n∧v6=.int .i64 ((k:Int)-1)∧d.drop k=d'.drop k∧Below w.heap.size w wr) (fun v6 _=>(intOf v6+1).toNat)
 case atStart=>exact ⟨n,Ad _,rfl,by rw [List.drop_of_length_le qA,List.drop_of_length_le qA],Ac _ _⟩
 case round =>
  obtain ⟨k,hk,rfl,hdr,HB⟩:=hrel;have HD:=Ae hdr;clear hdr
  match k with
  | 0 =>
   have hv:Hid (d=d'):=Ae (by have:=HD.out;simpa using this);rw [show ((0:Nat):Int)-1=-1 from rfl];go_wp2_with fail;go_ret;exact ⟨by rw [hv.out,Eo];rfl,HB⟩
  | j+1 =>
   have hj:((j+1:Nat):Int)-1=(j:Int):=by omega
   rw [hj];clear hj;have c1:=(hd.keep HB).at' (i:=j) qA;have c2:=(hd'.keep HB).at' (i:=j) qA;obtain ⟨b,o,rfl,c1⟩:=c1;obtain ⟨b',o',rfl,c2⟩:=c2;by_cases hne:lim d j=lim d' j
   ·have hbe:(lim d j != lim d' j)=false:=by simp [hne]
    have HN:=Ae hne;have HL:=Ae hl;have HL':=Ae hl';clear hne hl hl';go_wp2_with fail;go_quiet (fail);go_wp2_with fail;go_roundw
    case rel=>exact ⟨j,by omega,rfl,aD (by rw [HL.out,HL'.out]) (by rw [HL.out];omega) HD.out HN.out,Bu _ HB⟩
    case measure=>(first|(simp [intOf];omega)|(simp [intOf];done))
   ·have hbe:(lim d j != lim d' j)=true:=by simp [hne]
    have hcm:=Ae (lC qA qA hc.1 hc'.1 HD.out hne);clear hne hl hl';go_wp2_with fail;go_quiet (fail);go_wp2_with fail;go_quiet ((first|(go_at_call 206;exact Fu (Ph _ _ _))|(go_at_call 206;exact Ey (Ph _ _ _))));go_wp2_with fail;go_ret;exact ⟨by rw [hcm.out];rfl,Bu _ (Bu _ HB)⟩
theorem Ek (w:World) (a:Option Addr) (n c:Nat) (d:List Nat) (a':Option Addr) (n' c':Nat) (d':List Nat) (hd:RdL w a n c d) (hd':RdL w a' n' c' d') (hc:Ej d) (hc':Ej d') :
  Calls Tryz.prog 126 #[.slice a n c,.slice a' n' c'] w (Yl w (val d) (val d')):=by
 have hl:=hd.len;have hl':=hd'.len;have hn:=hd.few;unfold Yl;rcases Nat.lt_trichotomy n n' with h|rfl|h
 ·rw [Ds (by have:=bT hc hc' qA;omega)];have hcm:=Ds (x:=(n:Int)) (y:=n') qA;exact qCb
 ·exact Vw w a n c d a' c' d' hd hd' hc hc'
 ·rw [Dy (by have:=bT hc' hc qA;omega)];have hcm:=Dy (x:=(n:Int)) (y:=n') qA;exact qCb
theorem X0 (x:Int) (w:World) (r:Bool) (hr:decide (1000000000≤x)=r):Calls Tryz.prog 202 #[.int .u32 x] w fun e w'=>e=.returned (.bool r)∧w=w':=by
 cases r
 ·have h:x<1000000000:=by simpa using hr
  exact qDg
 ·have h:1000000000≤x:=by simpa using hr
  exact qDg
def Big (n:Nat) (d:List Nat):Prop:=∃i,i<n∧1000000000≤lim d i
def vP (w:World) (n:Nat) (d:List Nat) (e:Ending) (w':World):Prop:=∃r:Int,e=.returned (.int .i64 r)∧(0≤r↔Big n d)∧Below w.heap.size w w'
theorem Pk (w:World) (a:Option Addr) (n c:Nat) (d:List Nat) (hd:RdL w a n c d) :
  Calls Tryz.prog 257 #[.slice a n c,.func (.func 202) #[] #[]] w (vP w n d):=by
 have hn:=hd.few;go_enter Tryz.func257,Tryz.ntmps257;go_wp2;go_loopw [5,8] (fun _ v8 wr=>∃k:Nat,k≤n∧v8=.int .i64 k∧(∀j,j<k→lim d j<1000000000)∧Below w.heap.size w wr) (fun _ v8 _=>n-(intOf v8).toNat)
 case atStart=>exact ⟨0,A9 _,rfl,fun j hj=>absurd hj (Nat.not_lt_zero _),Ac _ _⟩
 case round =>
  obtain ⟨k,hk,rfl,hall,HB⟩:=hrel;have HA:=Ae hall;clear hall;by_cases hlt:k<n
  ·obtain ⟨b,o,rfl,c1⟩:=(hd.keep HB).at' hlt;by_cases hb:1000000000≤lim d k
   ·go_wp2_with (go_at_call 202;refine (X0 _ _ true (by simpa using hb)).mono ?_;rintro e w' ⟨rfl,rfl⟩);go_ret;exact ⟨k,rfl,⟨fun _=>⟨k,hlt,hb⟩,fun _=>by omega⟩,HB⟩
   ·go_wp2_with (go_at_call 202;refine (X0 _ _ false (by simpa using hb)).mono ?_;rintro e w' ⟨rfl,rfl⟩);go_roundw
    case rel =>
     refine ⟨k+1,by omega,by go_num,fun j hj=>?_,HB⟩;rcases Nat.lt_succ_iff_lt_or_eq.1 hj with h|rfl
     ·exact HA.out j h
     ·omega
    case measure=>(first|(simp [intOf];omega)|(simp [intOf];done))
  ·have hkn:n≤k:=by omega
   go_wp2_with fail;go_ret;refine ⟨-1,rfl,⟨fun h=>by omega,fun⟨i,hi,hb⟩=>?_⟩,HB⟩;have:=HA.out i qA;omega
theorem Ho (w:World) (a:Option Addr) (n c:Nat) (d:List Nat) (hd:RdL w a n c d) (r:Bool) (hr:Big n d↔r=true) :
  Calls Tryz.prog 201 #[.slice a n c,.func (.func 202) #[] #[]] w fun e w'=>e=.returned (.bool r)∧Below w.heap.size w w':=by
 cases r
 ·have hr':=Ae hr;clear hr;go_enter Tryz.func201,Tryz.ntmps201;go_wp2_with fail;refine (Pk _ _ _ _ d hd).mono ?_;rintro e w1 ⟨r,rfl,hi,hb⟩;have hneg:r<0:=by
   have:=hr'.out;rcases Int.lt_or_le r 0 with h|h
   ·exact h
   ·exact absurd (this.1 (hi.1 h)) qG
  clear hi;go_wp2_with fail;go_ret;exact ⟨by first|(simp;done)|(simp;omega),hb⟩
 ·have hr':=Ae hr;clear hr;go_enter Tryz.func201,Tryz.ntmps201;go_wp2_with fail;refine (Pk _ _ _ _ d hd).mono ?_;rintro e w1 ⟨r,rfl,hi,hb⟩;have hneg:0≤r:=hi.2 (hr'.out.2 qG);clear hi;go_wp2_with fail;go_ret;exact ⟨by first|(simp;done)|(simp;omega),hb⟩
def Py (g:Bool) (d:List Nat):Prop:=Ej d∧(d=[]→g=false)
theorem In {n:Nat} {d:List Nat} (hl:d.length=n):Big n d↔¬∀x∈d,x<1000000000:=by
 constructor
 ·rintro ⟨i,hi,hb⟩ h;have:=h d[i] (List.getElem_mem qA);simp only [lim,List.getD,Ai (show i<d.length by omega),Option.getD_some] at hb;omega
 ·intro h;simp only [Classical.not_forall] at h;obtain ⟨x,hx,hx2⟩:=h;obtain ⟨i,hi,rfl⟩:=List.getElem_of_mem hx;refine ⟨i,by omega,?_⟩;exact qCy
theorem Zb {d:List Nat} (hlt:∀x∈d,x<1000000000) (hp:0<d.length):Ej d↔lim d (d.length-1)≠0:=by
 have hne:d≠[]:=by intro e;rw [e] at hp;simp at hp
 have e:d.getLast? = some (d.getD (d.length-1) 0):=by
  rw [List.getLast?_eq_getElem?,List.getD,Ai qA];rfl
 unfold Ej;rw [e,Fh];constructor
 ·rintro ⟨_,h|h⟩ h2
  ·exact hne h
  ·exact h (by rw [show d.getD (d.length-1) 0=0 by omega])
 ·intro h;exact ⟨hlt,.inr fun h2=>h (by simp only [Option.some.injEq] at h2;omega)⟩
theorem Cv (w:World) (g:Bool) (a:Option Addr) (n c:Nat) (d:List Nat) (hd:RdL w a n c d) (r:Bool) (hr:Py g d↔r=true) :
  Calls Tryz.prog 121 #[.agg #[.bool g,.slice a n c]] w fun e w'=>e=.returned (.bool r)∧Below w.heap.size w w':=by
 have HB:=Ac w.heap.size w;have hl:=hd.len;have hn:=hd.few;by_cases hall:∀x∈d,x<1000000000
 ·have hbig:Big n d↔false=true:=by rw [In hl];simpa using hall
  rcases Aq n with rfl|hp
  ·have hdn:d=[]:=List.eq_nil_of_length_eq_zero hl;have hrg:r=!g:=by
    have:Py g d↔g=false:=by
     unfold Py Ej;rw [hdn];simp
    rw [this] at hr
    cases r<;>cases g<;>simp_all
   subst hrg;clear hr hdn hl hall;have HBig:=Ae hbig;clear hbig;cases g
   all_goals
    go_enter Tryz.func121,Tryz.ntmps121;go_wp2_with (go_at_call 201;refine (Ho _ _ _ _ d (hd.keep qF) false HBig.out).mono ?_;rintro e w' ⟨rfl,hb⟩;obtain ⟨hc,hf⟩:=Bl hb;have hz:=hb.size;replace HB:=zI w hb;have HBz:=HB.size);go_ret;exact ⟨rfl,HB⟩
  ·have hc:=Zb hall qA;rw [hl] at hc;have hr2:(lim d (n-1) != 0)=r:=by
    have:Py g d↔Ej d:=⟨fun h=>h.1,fun h=>⟨h,fun e=>by rw [e] at hl;simp at hl;omega⟩⟩;rw [this,hc] at hr
    cases r<;>simp_all
   have HBig:=Ae hbig;clear hbig hr hl hall hc;obtain ⟨b,o,rfl,c1⟩:=(hd.at' (i:=n-1) qA);have c2:=fun (W:World) (h:Below w.heap.size w W)=>Bb h c1
   have C2:=Ae c2;clear c2 c1;have hpn:0<n:=hp;have hr3:=Ae hr2;clear hr2;go_enter Tryz.func121,Tryz.ntmps121;go_wp2_with fail;refine (Ho _ _ _ _ d (hd.keep qF) false HBig.out).mono ?_;rintro e w1 ⟨rfl,hb⟩;obtain ⟨hc,hf⟩:=Bl hb;have hz:=hb.size;replace HB:=zI w hb;have c1:=C2.out w1 HB;have hn1:((n:Int)-1).toNat=n-1:=by omega
   go_wp2_with fail;go_ret;exact ⟨by rw [hr3.out];rfl,HB⟩
 ·have hbig:Big n d↔true=true:=by rw [In hl];simpa using hall
  have hrf:r=false:=by
   cases r
   ·rfl
   ·exact absurd (hr.2 rfl).1.1 hall
  subst hrf;have HBig:=Ae hbig;clear hbig hr hl hall;go_enter Tryz.func121,Tryz.ntmps121;go_wp2_with (go_at_call 201;refine (Ho _ _ _ _ d (hd.keep qF) true HBig.out).mono ?_;rintro e w' ⟨rfl,hb⟩;obtain ⟨hc,hf⟩:=Bl hb;have hz:=hb.size;replace HB:=zI w hb;have HBz:=HB.size);go_ret;exact ⟨rfl,HB⟩
end Go.Proofs.YtnnhcbeiogaknaaGreatDoor
end
