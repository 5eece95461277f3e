/- Plain words for what the walks say of memory: a list of limbs read at a slice value; what a call keeps. -/
import Derived.Test.YtnnhcbeiogaknaaGreatDoorQVZ
set_option linter.unusedSimpArgs false
set_option linter.unusedVariables false
set_option maxRecDepth 100000
set_option maxHeartbeats 4000000
section
namespace Go.Proofs.YtnnhcbeiogaknaaGreatDoor
open Go.RowKit
theorem Bl {W w1:World} (hb:Below W.heap.size W w1):(∀b o,b<W.heap.size→w1.cell? ⟨b,o,none⟩=W.cell? ⟨b,o,none⟩)∧(∀b o,b<W.heap.size→w1.frozen? ⟨b,o,none⟩=W.frozen? ⟨b,o,none⟩) :=
 ⟨fun b o h=>hb.cell (p:=⟨b,o,none⟩) h,fun b o h=>hb.frozen (p:=⟨b,o,none⟩) h⟩
def lim (d:Ξ) (i:Nat):Int:=((d.getD i 0:Nat):Int)
structure RdL (w:World) (a:Γ) (n c:Nat) (d:Ξ):Prop where
 len:d.length=n
 cap:n≤c
 few:n≤35184372088832
 top:c≤9223372036854775807
 small:∀i,0≤lim d i∧lim d i<4294967296
 cell:n=0∨∃b o,a=some ⟨b,o,none⟩∧∀i,i<n→w.cell? ⟨b,o+i,none⟩=some (.int .u32 (lim d i))
theorem RdL.below {B:Nat} {w w':World} {a:Γ} {n c:Nat} {d:Ξ} (h:RdL w a n c d) (hb:Below B w w') (hB:w.heap.size≤B):RdL w' a n c d:=by
 refine ⟨h.len,h.cap,h.few,h.top,h.small,?_⟩;rcases h.cell with h0|⟨b,o,ha,hc⟩
 ·exact .inl h0
 ·refine .inr ⟨b,o,ha,fun i hi=>?_⟩;have:=hc i hi;have hlt:=Aa w _ this;rw [hb.cell (p:=⟨b,o+i,none⟩) (Nat.lt_of_lt_of_le hlt hB)];exact this
theorem RdL.alloc {w:World} {a:Γ} {n c:Nat} {d:Ξ} (h:RdL w a n c d) (o:Obj):RdL (w.alloc o) a n c d :=
 h.below ((Ac w.heap.size w).alloc (Ad _) o) (Ad _)
structure Tm where
 g1:Bool
 a1:Γ
 n1:Nat
 c1:Nat
 d1:Ξ
 g2:Bool
 a2:Γ
 n2:Nat
 c2:Nat
 d2:Ξ
 m0:Nat
 m1:Nat
 m2:Nat
 m3:Nat
abbrev Tm.val (t:Tm):Value:=.agg #[.bool t.g1,.slice t.a1 t.n1 t.c1,.bool t.g2,.slice t.a2 t.n2 t.c2,.int .u16 t.m0,.int .u16 t.m1,.int .u16 t.m2,.int .u16 t.m3]
structure Ei (w:World) (t:Tm):Prop where
 top:RdL w t.a1 t.n1 t.c1 t.d1
 low:RdL w t.a2 t.n2 t.c2 t.d2
 s0:t.m0<65536
 s1:t.m1<65536
 s2:t.m2<65536
 s3:t.m3<65536
structure Ll (w:World) (b o:Nat) (t:Tm):Prop where
 e0:w.cell? ⟨b,o,none⟩=some (.bool t.g1)
 e1:w.cell? ⟨b,o+1,none⟩=some (.slice t.a1 t.n1 t.c1)
 e2:w.cell? ⟨b,o+2,none⟩=some (.bool t.g2)
 e3:w.cell? ⟨b,o+3,none⟩=some (.slice t.a2 t.n2 t.c2)
 e4:w.cell? ⟨b,o+4,none⟩=some (.int .u16 t.m0)
 e5:w.cell? ⟨b,o+5,none⟩=some (.int .u16 t.m1)
 e6:w.cell? ⟨b,o+6,none⟩=some (.int .u16 t.m2)
 e7:w.cell? ⟨b,o+7,none⟩=some (.int .u16 t.m3)
structure RdP (w:World) (a:Γ) (n c:Nat) (p:Nat→Tm):Prop where
 cap:n≤c
 few:n≤35184372088832
 top:c≤9223372036854775807
 tm:∀i,i<n→Ei w (p i)
 cell:n=0∨∃b o,a=some ⟨b,o,none⟩∧∀i,i<n→Ll w b (o+i*8) (p i)
theorem Bc {w w':World} (hb:Below w.heap.size w w') {a:Addr} {v:Value} (h:w.cell? a=some v):w'.cell? a=some v:=by
 rw [hb.cell (Aa w a h)];exact h
theorem RdL.keep {w w':World} {a:Γ} {n c:Nat} {d:Ξ} (h:RdL w a n c d) (hb:Below w.heap.size w w'):RdL w' a n c d:=h.below hb (Ad _)
theorem Ei.keep {w w':World} {t:Tm} (h:Ei w t) (hb:Below w.heap.size w w'):Ei w' t:=⟨h.top.keep hb,h.low.keep hb,h.s0,h.s1,h.s2,h.s3⟩
theorem Ll.keep {w w':World} {b o:Nat} {t:Tm} (h:Ll w b o t) (hb:Below w.heap.size w w'):Ll w' b o t :=
 ⟨Bc hb h.e0,Bc hb h.e1,Bc hb h.e2,Bc hb h.e3,Bc hb h.e4,Bc hb h.e5,Bc hb h.e6,Bc hb h.e7⟩
theorem RdP.keep {w w':World} {a:Γ} {n c:Nat} {p:Nat→Tm} (h:RdP w a n c p) (hb:Below w.heap.size w w'):RdP w' a n c p:=by
 refine ⟨h.cap,h.few,h.top,fun i hi=>(h.tm i hi).keep hb,?_⟩;rcases h.cell with h0|⟨b,o,ha,hc⟩
 ·exact .inl h0
 ·exact .inr ⟨b,o,ha,fun i hi=>(hc i hi).keep hb⟩
theorem RdP.at {w:World} {b o n c:Nat} {p:Nat→Tm} (h:RdP w (some ⟨b,o,none⟩) n c p) {i:Nat} (hi:i<n):Ll w b (o+i*8) (p i):=by
 exact qCr
theorem RdL.at {w:World} {b o n c:Nat} {d:Ξ} (h:RdL w (some ⟨b,o,none⟩) n c d) {i:Nat} (hi:i<n):w.cell? ⟨b,o+i,none⟩=some (.int .u32 (lim d i)):=by
 exact qCr
theorem RdL.at' {w:World} {a:Γ} {n c:Nat} {d:Ξ} (h:RdL w a n c d) {i:Nat} (hi:i<n):∃b o,a=some ⟨b,o,none⟩∧w.cell? ⟨b,o+i,none⟩=some (.int .u32 (lim d i)):=by
 obtain ⟨b,o,rfl,hcl⟩:=h.cell.resolve_left qA;exact ⟨b,o,rfl,hcl i hi⟩
def dV (B:Nat) (a:Γ):Prop:=∀x,a=some x→B≤x.block
theorem dV.mono {B B':Nat} {a:Γ} (h:dV B a) (hB:B'≤B):dV B' a:=fun x hx=>Ah hB (h x hx)
theorem Sc {w:World} {p q:Addr} {v:Value} (u:Value) (h:w.cell? q=some v) (hne:q.block≠p.block):(w.setCell p u).cell? q=some v:=by
 rw [Af (w:=w) (Below.heap_setCell w p u q.block hne)];exact h
theorem RdL.setNew {w:World} {a:Γ} {n c:Nat} {d:Ξ} (h:RdL w a n c d) (p:Addr) (u:Value) (hn:dV (p.block+1) a):RdL (w.setCell p u) a n c d:=by
 refine ⟨h.len,h.cap,h.few,h.top,h.small,?_⟩;rcases h.cell with h0|⟨b,o,ha,hc⟩
 ·exact .inl h0
 ·refine .inr ⟨b,o,ha,fun i hi=>Sc u (hc i hi) ?_⟩;have:=hn _ ha;show b≠p.block;simp at this;omega
theorem yZ:(Tryz.prog.info? 74).map (fun i=>(i.zero,i.size,i.bytes))=some (some (.int .u16 0),1,2):=by kernel_rfl
theorem u66:Tryz.prog.underlying 76=some (.array 4 74):=by kernel_rfl
theorem u55:Tryz.prog.underlying 74=some (.int .u16):=by kernel_rfl
theorem c55:Tryz.prog.cellsOf 74=1:=by kernel_rfl
theorem Vq (w:World) (a0 a1 a2 a3:Int) :
  (part 74 #[.int .u16 a0,.int .u16 a1,.int .u16 a2,.int .u16 a3] 0).run Tryz.prog w=.ok (.int .u16 a0) w ∧
  (part 74 #[.int .u16 a0,.int .u16 a1,.int .u16 a2,.int .u16 a3] 1).run Tryz.prog w=.ok (.int .u16 a1) w ∧
  (part 74 #[.int .u16 a0,.int .u16 a1,.int .u16 a2,.int .u16 a3] 2).run Tryz.prog w=.ok (.int .u16 a2) w ∧
  (part 74 #[.int .u16 a0,.int .u16 a1,.int .u16 a2,.int .u16 a3] 3).run Tryz.prog w=.ok (.int .u16 a3) w :=
 ⟨by kernel_rfl,by kernel_rfl,by kernel_rfl,by kernel_rfl⟩
theorem kN (d:Nat) (w:World) (a0 a1 a2 a3 b0 b1 b2 b3:Int) :
  (Op.equalIn (d+2) 76 (.agg #[.int .u16 a0,.int .u16 a1,.int .u16 a2,.int .u16 a3]) (.agg #[.int .u16 b0,.int .u16 b1,.int .u16 b2,.int .u16 b3])).run Tryz.prog w=.ok (a0==b0&&(a1==b1&&(a2==b2&&a3==b3))) w:=by
 obtain ⟨i,hi,_,hs,_⟩:=info_parts yZ;rw [run_equalIn_array (d:=d+1) (hu:=u66) (hi:=hi)];have hr:List.range 4=[0,1,2,3]:=by decide
 rw [hr,c55];obtain ⟨pa0,pa1,pa2,pa3⟩:=Vq w a0 a1 a2 a3;obtain ⟨pb0,pb1,pb2,pb3⟩:=Vq w b0 b1 b2 b3;have e:=fun (x y:Int)=>run_equalIn_int (P:=Tryz.prog) w d 74 .u16 .u16 x y u55
 simp only [Op.eqItems,Nat.zero_mul,Nat.one_mul,Nat.reduceMul,Sem.run_bind,pa0,pb0,pa1,pb1,pa2,pb2,pa3,pb3,Result.andThen_ok,e,Sem.run_ite,Sem.run_pure]
 cases (a0==b0)<;>cases (a1==b1)<;>cases (a2==b2)<;>cases (a3==b3)<;>simp
@[go_sem ↓] theorem Acm (w:World) (a0 a1 a2 a3 b0 b1 b2 b3:Int) :
  (binOp .eql 76 (.agg #[.int .u16 a0,.int .u16 a1,.int .u16 a2,.int .u16 a3]) (.agg #[.int .u16 b0,.int .u16 b1,.int .u16 b2,.int .u16 b3])).run Tryz.prog w=.ok (.bool (a0==b0&&(a1==b1&&(a2==b2&&a3==b3)))) w:=by
 rw [run_eql_struct,show (10000:Nat)=9998+2 from rfl,kN];rfl
end Go.Proofs.YtnnhcbeiogaknaaGreatDoor
end
section
namespace Go.Proofs.YtnnhcbeiogaknaaGreatDoor
def val:Ξ→Nat
 | []=>0
 | x::xs=>x+1000000000*val xs
def dg (n:Nat):Ξ:=if n=0 then [] else n%1000000000::dg (n/1000000000)
termination_by n
decreasing_by omega
theorem De:dg 0=[]:=by rw [dg];simp
theorem Hg {n:Nat} (h:0<n):dg n=n%1000000000::dg (n/1000000000):=by rw [dg,if_neg qA]
theorem Bq (n:Nat):val (dg n)=n:=by
 induction n using Nat.strongRecOn with
 | _ n ih =>
  rcases Aq n with rfl|h
  ·rw [De];rfl
  ·rw [Hg h,val,ih _ qA];omega
theorem Ew (n:Nat):∀x∈dg n,x<1000000000:=by
 induction n using Nat.strongRecOn with
 | _ n ih =>
  rcases Aq n with rfl|h
  ·rw [De];intro x hx;cases hx
  ·rw [Hg h];intro x hx;rcases List.mem_cons.1 hx with rfl|hx
   ·omega
   ·exact ih _ qA x hx
def Er (d:Ξ):Prop:=(∀x∈d,x<1000000000)∧(d=[]∨d.getLast?≠some 0)
theorem Er.tail {x:Nat} {d:Ξ} (h:Er (x::d)):Er d:=by
 refine ⟨fun y hy=>h.1 y (List.mem_cons_of_mem _ hy),?_⟩
 cases d with
 | nil=>exact .inl rfl
 | cons y d =>
  right;rcases h.2 with h2|h2
  ·cases h2
  ·simpa [List.getLast?_cons_cons] using h2
theorem Cv {d:Ξ} (h:Er d) (hne:d≠[]):0<val d:=by
 induction d with
 | nil=>exact absurd rfl hne
 | cons x d ih =>
  rw [val]
  cases d with
  | nil =>
   have h2:=h.2;simp at h2;omega
  | cons y d =>
   have:=ih h.tail qG;omega
theorem Fw {d:Ξ} (h:Er d):dg (val d)=d:=by
 induction d with
 | nil=>rw [val,De]
 | cons x d ih =>
  have hx:=h.1 x (List.mem_cons_self ..);have hp:=Cv h qG;rw [Hg hp,val];have h1:(x+1000000000*val d)%1000000000=x:=by omega
  have h2:(x+1000000000*val d)/1000000000=val d:=by omega
  rw [h1,h2,ih h.tail]
theorem Ch (n:Nat):Er (dg n):=by
 refine ⟨Ew n,?_⟩
 induction n using Nat.strongRecOn with
 | _ n ih =>
  rcases Aq n with rfl|h
  ·exact .inl De
  ·right;rw [Hg h];rcases ih (n/1000000000) qA with h2|h2
   ·rw [h2];have:n/1000000000=0:=by have:=Bq (n/1000000000);rw [h2] at this;simpa [val] using this.symm
    simp
    omega
   ·cases hd:dg (n/1000000000) with
    | nil =>
     have:n/1000000000=0:=by have:=Bq (n/1000000000);rw [hd] at this;simpa [val] using this.symm
     simp
     omega
    | cons y d=>rw [hd] at h2;simpa [List.getLast?_cons_cons] using h2
theorem Fq (a b:Ξ):val (a++b)=val a+1000000000 ^ a.length*val b:=by
 induction a with
 | nil=>simp [val]
 | cons x a ih =>
  simp only [List.cons_append,val,ih,List.length_cons,Nat.pow_succ];rw [Nat.mul_add,Nat.mul_comm (1000000000 ^ a.length) 1000000000,Nat.mul_assoc];omega
theorem Ez (d:Ξ) (h:∀x∈d,x<1000000000):val d<1000000000 ^ d.length:=by
 induction d with
 | nil=>simp [val]
 | cons x d ih =>
  have h1:=ih (fun y hy=>h y (List.mem_cons_of_mem _ hy));have hx:=h x (List.mem_cons_self ..);simp only [val,List.length_cons,Nat.pow_succ];omega
theorem Ef (d:Ξ) (i:Nat) (hi:i≤d.length):val d=val (d.take i)+1000000000 ^ i*val (d.drop i):=by
 conv=>lhs;rw [←List.take_append_drop i d]
 rw [Fq,List.length_take,Nat.min_eq_left hi]
theorem G2 (d:Ξ) (i:Nat) (hi:i<d.length):val (d.take (i+1))=val (d.take i)+1000000000 ^ i*d.getD i 0:=by
 rw [List.take_succ_eq_append_getElem hi,Fq,List.length_take,Nat.min_eq_left qA];simp [val,List.getD,Ai hi]
theorem Vg (d:Ξ) (h:∀x∈d,x=0):val d=0:=by
 induction d with
 | nil=>rfl
 | cons x d ih=>rw [val,h x (List.mem_cons_self ..),ih (fun y hy=>h y (List.mem_cons_of_mem _ hy))]
theorem cD (d:Ξ) (n:Nat) (hn:n≤d.length) (hlt:∀x∈d,x<1000000000) (hz:∀i,n≤i→d.getD i 0=0) (hl:n=0∨d.getD (n-1) 0≠0):d.take n=dg (val d):=by
 have hv:val d=val (d.take n):=by
  rw [Ef d n hn,Vg (d.drop n),Nat.mul_zero,Nat.add_zero];intro x hx;obtain ⟨i,hi,rfl⟩:=List.getElem_of_mem hx;have:=hz (n+i) qA;rw [List.getElem_drop];simp only [List.length_drop] at hi;simpa [List.getD,Ai (show n+i<d.length by omega)] using this
 rw [hv,Fw];refine ⟨fun x hx=>hlt x (List.mem_of_mem_take hx),?_⟩;rcases Aq n with rfl|h
 ·exact .inl qG
 ·right;have h2:=hl.resolve_left qA;rw [List.getLast?_take,if_neg qA];simp only [List.getD] at h2;rw [Ai qA] at h2 ⊢;simpa using h2
theorem Bn {a b:Nat} (h:a≤b):(dg a).length≤(dg b).length:=by
 rcases Nat.lt_or_ge (dg b).length (dg a).length with h1|h1
 ·exfalso;have hb:=Ez (dg b) (Ew b);rw [Bq] at hb;have hne:dg a≠[]:=by intro e;rw [e] at h1;simp at h1
  have hlast:=(Ch a).2.resolve_left hne;have hs:val (dg a)=a:=Bq a;rw [←List.dropLast_concat_getLast hne,Fq,List.length_dropLast] at hs;rw [List.getLast?_eq_some_getLast hne] at hlast;have hpos:1≤val [(dg a).getLast hne]:=by simp at hlast;simp [val];omega
  have hp:1000000000 ^ (dg b).length≤1000000000 ^ ((dg a).length-1):=Nat.pow_le_pow_right qA qA;have:=Nat.le_mul_of_pos_right (1000000000 ^ ((dg a).length-1)) hpos;omega
 ·exact h1
def fx:Nat→Nat→Ξ
 | 0,_=>[]
 | m+1,N=>N%1000000000::fx m (N/1000000000)
theorem Mb (m N:Nat):(fx m N).length=m:=by
 induction m generalizing N with
 | zero=>rfl
 | succ m ih=>simp [fx,ih]
theorem rL (m N:Nat):∀x∈fx m N,x<1000000000:=by
 induction m generalizing N with
 | zero=>intro x hx;cases hx
 | succ m ih =>
  intro x hx;rcases List.mem_cons.1 hx with rfl|hx
  ·omega
  ·exact ih _ x hx
theorem Pq (m N:Nat) (h:N<1000000000 ^ m):val (fx m N)=N:=by
 induction m generalizing N with
 | zero=>simp at h;simp [fx,val,h]
 | succ m ih =>
  rw [fx,val,ih (N/1000000000) (by rw [Nat.pow_succ] at h;exact Nat.div_lt_of_lt_mul (by rw [Nat.mul_comm];exact h))];omega
theorem xE (m N:Nat):fx (m+1) N=fx m N++[N/1000000000 ^ m%1000000000]:=by
 induction m generalizing N with
 | zero=>simp [fx]
 | succ m ih =>
  rw [fx,ih,fx];simp only [List.cons_append,List.cons.injEq,true_and];rw [Nat.div_div_eq_div_mul,Nat.pow_succ,Nat.mul_comm (1000000000 ^ m)]
theorem fQ {a b:Ξ} {i:Nat} (hl:a.length=b.length) (hi:i<a.length) (ha:∀x∈a,x<1000000000) (hd:a.drop (i+1)=b.drop (i+1)) (hlt:a.getD i 0<b.getD i 0):val a<val b:=by
 rw [Ef a (i+1) qA,Ef b (i+1) qA,hd,G2 a i hi,G2 b i qA];have h1:=Ez (a.take i) (fun x hx=>ha x (List.mem_of_mem_take hx));rw [List.length_take,Nat.min_eq_left qA] at h1;have h2:1000000000 ^ i*(a.getD i 0+1)≤1000000000 ^ i*b.getD i 0:=At _ hlt;rw [Nat.mul_add] at h2;omega
end Go.Proofs.YtnnhcbeiogaknaaGreatDoor
end
section
namespace Go.Proofs.YtnnhcbeiogaknaaGreatDoor
open Go.RowKit
theorem Bu {B:Nat} {w w':World} (k:Nat) (h:Below B w w'):Below B w (w'.drewN k):=h.trans ⟨rfl,rfl,rfl,Ad _,fun _ _=>rfl⟩
theorem I1:(Tryz.prog.info? 147).map (fun i=>(i.zero,i.size,i.bytes))=some (some (.int .u32 0),1,4):=by kernel_rfl
def C7 (d:Ξ):List Value:=d.map fun (z:Nat)=>Value.int .u32 (z:Int)
theorem Dm (d:Ξ):(C7 d).length=d.length:=by simp [C7]
theorem Ym (d:Ξ) (i:Nat) (h:i<d.length):(C7 d)[i]? = some (.int .u32 (lim d i)):=by
 simp [C7,lim,Ai h]
theorem E5 (d e:Ξ):C7 (d++e)=C7 d++C7 e:=by simp [C7]
theorem uO (z:Nat) (hz:z<4294967296) (i:Nat):0≤lim [z] i∧lim [z] i<4294967296:=by
 unfold lim
 match i with
 | 0=>simp;omega
 | i+1=>simp
theorem Fz {w:World} {base g n c:Nat} {d:Ξ} (h:w.ownsRow base 147 1 (.slice (some ⟨g,0,none⟩) n c) n (C7 d)) (hc:n≤35184372088832) (hs:∀i,0≤lim d i∧lim d i<4294967296):RdL w (some ⟨g,0,none⟩) n c d:=by
 have hlen:d.length=n:=by have:=h.1;rw [Dm] at this;omega
 have hcap:n≤c∧c≤9223372036854775807:=by
  rcases h.2 with ⟨h',_⟩|⟨g',cap',cur,h',_,_,hnc,hm,_⟩
  ·simp at h'
  ·simp only [Value.slice.injEq] at h';unfold maxLen at hm;omega
 refine ⟨hlen,hcap.1,hc,hcap.2,hs,.inr ⟨g,0,rfl,fun i hi=>?_⟩⟩;rw [Nat.zero_add,h.cellAt i qA,Ym d i qA]
theorem Ss:(Tryz.prog.info? 79).map (fun i=>(i.zero,i.size,i.bytes))=some (some (.agg #[.bool false,.slice none 0 0,.bool false,.slice none 0 0,.int .u16 0,.int .u16 0,.int .u16 0,.int .u16 0]),8,72):=by kernel_rfl
def Tm.cells (t:Tm):List Value:=[.bool t.g1,.slice t.a1 t.n1 t.c1,.bool t.g2,.slice t.a2 t.n2 t.c2,.int .u16 t.m0,.int .u16 t.m1,.int .u16 t.m2,.int .u16 t.m3]
def Ds (s:Nat→Tm):Nat→List Value
 | 0=>[]
 | k+1=>Ds s k++(s k).cells
theorem Kg (s:Nat→Tm) (k:Nat):(Ds s k).length=k*8:=by
 induction k with
 | zero=>rfl
 | succ k ih=>simp [Ds,Tm.cells,ih];omega
theorem Yi {s s':Nat→Tm} {k:Nat} (h:∀j,j<k→s j=s' j):Ds s k=Ds s' k:=by
 induction k with
 | zero=>rfl
 | succ k ih=>rw [Ds,Ds,ih (fun j hj=>h j qA),h k qA]
theorem Ur (s:Nat→Tm) (k j i:Nat) (hj:j<k) (hi:i<8):(Ds s k)[j*8+i]? = (s j).cells[i]?:=by
 induction k with
 | zero=>omega
 | succ k ih =>
  rw [Ds];have hl:=Kg s k;by_cases h:j<k
  ·rw [Az qA];exact ih h
  ·obtain rfl:j=k:=by omega
   rw [A5 qA,hl]
   congr 1
   omega
theorem Xf {w:World} {base g c k:Nat} {s:Nat→Tm} (h:w.ownsRow base 79 8 (.slice (some ⟨g,0,none⟩) k c) k (Ds s k)) {j:Nat} (hj:j<k):Ll w g (0+j*8) (s j):=by
 have key:∀i,i<8→w.cell? ⟨g,0+j*8+i,none⟩=(s j).cells[i]?:=fun i hi=>by
  rw [Nat.zero_add,h.cellAt (j*8+i) qA,Ur s k j i hj hi]
 exact ⟨key 0 qA,key 1 qA,key 2 qA,key 3 qA,key 4 qA,key 5 qA,key 6 qA,key 7 qA⟩
theorem Lt (w:World) (xs:List Value) (t:TypeId):∀j u,xs[j]? = some u→(w.alloc (.cells xs.toArray t)).cell? ((⟨w.heap.size,0,none⟩:Addr).add j)=some u:=by
 intro j u hj;have hadd:(⟨w.heap.size,0,none⟩:Addr).add j=⟨w.heap.size,j,none⟩:=by unfold Addr.add;split<;>simp_all
 rw [hadd,cell_of_row _ w.heap.size j xs.toArray t (0,0) (heap_alloc_new w _)];simpa using hj
theorem Bo {w w':World} {base:Nat} {e:TypeId} {size:Nat} {v:Value} {n:Nat} {xs:List Value} (h:w.ownsRow base e size v n xs) (hb:Below w.heap.size w w'):w'.ownsRow base e size v n xs :=
 h.kept (row:=none) ⟨hb.os,hb.tape,hb.output,hb.size,fun k hk _=>hb.block k hk⟩ (by cases v.ownBlock<;>simp)
theorem Ma {d:Ξ} (h:∀x∈d,x<1000000000) (i:Nat):lim d i<1000000000:=by
 by_cases hi:i<d.length
 ·have:=h _ (List.getElem_mem hi);exact qDb
 ·simp [lim,List.getElem?_eq_none (Nat.le_of_not_lt hi)]
theorem sI {d:Ξ} {i:Nat} (h:d.length≤i):d.getD i 0=0:=by simp [List.getD,List.getElem?_eq_none h]
theorem E7 {d:Ξ} (h:∀x∈d,x<1000000000) (i:Nat):d.getD i 0<1000000000:=by
 by_cases hi:i<d.length
 ·simp only [List.getD,Ai hi,Option.getD_some];exact h _ (List.getElem_mem hi)
 ·rw [sI qA];omega
theorem Mv (d:Ξ) (i:Nat):val (d.take (i+1))=val (d.take i)+1000000000 ^ i*d.getD i 0:=by
 by_cases hi:i<d.length
 ·exact G2 d i hi
 ·rw [As qA,As qA];simp [List.getD,List.getElem?_eq_none (Nat.le_of_not_lt hi)]
def Dn (b:UInt8):Bool:=decide (48≤(b.toNat:Int)∧(b.toNat:Int)≤57)
def El:List UInt8→Bool
 | []=>false
 | b::r=>(b::r).all Dn&&(r.isEmpty || decide (¬(b.toNat:Int)=48))
def sO (b:UInt8):Bool:=(b.toNat:Int)==32 || (b.toNat:Int)==9
def Wu (b:UInt8):Bool:=decide ((48≤(b.toNat:Int)∧(b.toNat:Int)≤57)∨(b.toNat:Int)=120∨(b.toNat:Int)=121∨(b.toNat:Int)=122∨(b.toNat:Int)=116)
def Fk:List UInt8→Bool
 | []=>false
 | b::_=>Wu b
theorem Ga {P:Program} {f:FuncId} {args:Array Value} {w:World} {n:Nat} {v:Value}
  (h:Calls P f args (w.drewN n) fun e w'=>e=.returned v∧w.drewN n=w'):Calls P f args (w.drewN n) fun e w''=>e=.returned v∧∃m,w''=w.drewN m :=
 h.mono fun _ _ ⟨he,hm⟩=>⟨he,n,hm.symm⟩
theorem E8 {P:Program} {f:FuncId} {args:Array Value} {w:World} {a n:Nat} {v:Value}
  (h:Calls P f args (w.drewN (a+n)) fun e w'=>e=.returned v∧w.drewN (a+n)=w') :
  Calls P f args (w.drewN (a+n)) fun e w''=>e=.returned v∧∃m,w''=w.drewN (a+m) :=
 h.mono fun _ _ ⟨he,hm⟩=>⟨he,n,hm.symm⟩
def Bz (x y:Int):Int:=if x<y then -1 else if x=y then 0 else 1
theorem Dx {x y:Int} (h:x<y):Bz x y=-1:=by simp [Bz,h]
theorem Ev (x:Int):Bz x x=0:=by simp [Bz]
theorem Ee {x y:Int} (h:y<x):Bz x y=1:=by
 have h1:¬x<y:=by omega
 have h2:¬x=y:=by omega
 simp [Bz,h1,h2]
theorem gV (x:Int) (w:World):Θ 258 #[.int .i64 x] w fun e w'=>e=.returned (.bool false)∧w=w':=by
 go_enter Tryz.func258,Tryz.ntmps258;go_wp2;go_ret;exact ⟨by simp,rfl⟩
theorem iA (x:Int) (w:World):Θ 259 #[.int .u32 x] w fun e w'=>e=.returned (.bool false)∧w=w':=by
 go_enter Tryz.func259,Tryz.ntmps259;go_wp2;go_ret;exact ⟨by simp,rfl⟩
theorem iY (x:Int) (w:World):Θ 363 #[.int .u16 x] w fun e w'=>e=.returned (.bool false)∧w=w':=by
 go_enter Tryz.func363,Tryz.ntmps363;go_wp2;go_ret;exact ⟨by simp,rfl⟩
theorem Qk (x y:Int) (w:World):Θ 205 #[.int .i64 x,.int .i64 y] w fun e w'=>e=.returned (.int .i64 (Bz x y))∧w=w':=by
 rcases Int.lt_trichotomy x y with h|rfl|h
 ·rw [Dx h];exact qBu
 ·rw [Ev];exact qBu
 ·rw [Ee h];exact qBu
theorem Ql (x y:Int) (w:World):Θ 206 #[.int .u32 x,.int .u32 y] w fun e w'=>e=.returned (.int .i64 (Bz x y))∧w=w':=by
 rcases Int.lt_trichotomy x y with h|rfl|h
 ·rw [Dx h];exact qBt
 ·rw [Ev];exact qBt
 ·rw [Ee h];exact qBt
theorem Qp (x y:Int) (w:World):Θ 344 #[.int .u16 x,.int .u16 y] w fun e w'=>e=.returned (.int .i64 (Bz x y))∧w=w':=by
 rcases Int.lt_trichotomy x y with h|rfl|h
 ·rw [Dx h];exact qBs
 ·rw [Ev];exact qBs
 ·rw [Ee h];exact qBs
theorem Er.lt {d:Ξ} (h:Er d):∀x∈d,x<1000000000:=h.1
theorem Fr (d:Ξ) (i:Nat):lim d i=((d.getD i 0:Nat):Int):=rfl
theorem dM {a b:Ξ} {i:Nat} (hl:a.length=b.length) (hi:i<a.length) (hd:a.drop (i+1)=b.drop (i+1)) (he:lim a i=lim b i):a.drop i=b.drop i:=by
 rw [List.drop_eq_getElem_cons hi,List.drop_eq_getElem_cons (by omega:i<b.length),hd];have:a[i]=b[i]'qA:=by
  rw [Fr,Fr] at he;simp only [List.getD,Ai hi,Ai (show i<b.length by omega),Option.getD_some] at he;omega
 rw [this]
theorem fE {a b:Ξ} (ha:Er a) (hb:Er b) (h:a.length<b.length):val a<val b:=by
 rcases Nat.lt_or_ge (val a) (val b) with h1|h1
 ·exact h1
 ·have:=Bn h1;rw [Fw ha,Fw hb] at this;omega
def aC (w:World) (x y:Nat) (e:Ending) (w':World):Prop:=e=.returned (.int .i64 (Bz x y))∧Below w.heap.size w w'
theorem pF {d d':Ξ} {j:Nat} (hl:d.length=d'.length) (hj:j<d.length) (hc:∀x∈d,x<1000000000) (hc':∀x∈d',x<1000000000) (hd:d.drop (j+1)=d'.drop (j+1)) (hne:¬lim d j=lim d' j):Bz (lim d j) (lim d' j)=Bz (val d) (val d'):=by
 rw [Fr,Fr] at *;rcases Nat.lt_trichotomy (d.getD j 0) (d'.getD j 0) with h|h|h
 ·have:=fQ hl hj hc hd h;rw [Dx qA,Dx qA]
 ·exact absurd (by rw [h]) hne
 ·have:=fQ hl.symm qA hc' hd.symm h;rw [Ee qA,Ee qA]
theorem Xg (w:World) (a:Γ) (n c:Nat) (d:Ξ) (a':Γ) (c':Nat) (d':Ξ) (hd:RdL w a n c d) (hd':RdL w a' n c' d') (hc:Er d) (hc':Er d') :
  Θ 126 #[.slice a n c,.slice a' n c'] w (aC w (val d) (val d')):=by
 have hl:=hd.len;have hl':=hd'.len;have hn:=hd.few;go_enter Tryz.func126,Tryz.ntmps126;go_wp2_with (go_at_call 205;refine (Qk _ _ _).mono ?_;rintro e w' ⟨rfl,rfl⟩;rw [Ev]);go_loopw [6] (fun v6 wr=>∃k:Nat,k≤n∧v6=.int .i64 ((k:Int)-1)∧d.drop k=d'.drop k∧Below w.heap.size w wr) (fun v6 _=>(intOf v6+1).toNat)
 case atStart=>exact ⟨n,Ad _,rfl,by rw [List.drop_of_length_le qA,List.drop_of_length_le qA],Ac _ _⟩
 case round =>
  obtain ⟨k,hk,rfl,hdr,HB⟩:=hrel;have HD:=Ae hdr;clear hdr
  match k with
  | 0 =>
   have hv:Hid (d=d'):=Ae (by have:=HD.out;simpa using this);rw [show ((0:Nat):Int)-1=-1 from rfl];go_wp2_with fail;go_ret;exact ⟨by rw [hv.out,Ev];rfl,HB⟩
  | j+1 =>
   have hj:((j+1:Nat):Int)-1=(j:Int):=by omega
   rw [hj];clear hj;have c1:=(hd.keep HB).at' (i:=j) qA;have c2:=(hd'.keep HB).at' (i:=j) qA;obtain ⟨b,o,rfl,c1⟩:=c1;obtain ⟨b',o',rfl,c2⟩:=c2;by_cases hne:lim d j=lim d' j
   ·have hbe:(lim d j != lim d' j)=false:=by simp [hne]
    have HN:=Ae hne;have HL:=Ae hl;have HL':=Ae hl';clear hne hl hl';go_wp2_with fail;go_quiet (fail);go_wp2_with fail;go_roundw
    case rel=>exact ⟨j,by omega,rfl,dM (by rw [HL.out,HL'.out]) (by rw [HL.out];omega) HD.out HN.out,Bu _ HB⟩
    case measure=>(first|(simp [intOf];omega)|(simp [intOf];done))
   ·have hbe:(lim d j != lim d' j)=true:=by simp [hne]
    have hcm:=Ae (pF qA qA hc.1 hc'.1 HD.out hne);clear hne hl hl';go_wp2_with fail;go_quiet (fail);go_wp2_with fail;go_quiet ((first|(go_at_call 206;exact Ga (Ql _ _ _))|(go_at_call 206;exact E8 (Ql _ _ _))));go_wp2_with fail;go_ret;exact ⟨by rw [hcm.out];rfl,Bu _ (Bu _ HB)⟩
theorem Es (w:World) (a:Γ) (n c:Nat) (d:Ξ) (a':Γ) (n' c':Nat) (d':Ξ) (hd:RdL w a n c d) (hd':RdL w a' n' c' d') (hc:Er d) (hc':Er d') :
  Θ 126 #[.slice a n c,.slice a' n' c'] w (aC w (val d) (val d')):=by
 have hl:=hd.len;have hl':=hd'.len;have hn:=hd.few;unfold aC;rcases Nat.lt_trichotomy n n' with h|rfl|h
 ·rw [Dx (by have:=fE hc hc' qA;omega)];have hcm:=Dx (x:=(n:Int)) (y:=n') qA;exact qCe
 ·exact Xg w a n c d a' c' d' hd hd' hc hc'
 ·rw [Ee (by have:=fE hc' hc qA;omega)];have hcm:=Ee (x:=(n:Int)) (y:=n') qA;exact qCe
theorem Zk (x:Int) (w:World) (r:Bool) (hr:decide (1000000000≤x)=r):Θ 202 #[.int .u32 x] w fun e w'=>e=.returned (.bool r)∧w=w':=by
 cases r
 ·have h:x<1000000000:=by simpa using hr
  exact qDj
 ·have h:1000000000≤x:=by simpa using hr
  exact qDj
def Big (n:Nat) (d:Ξ):Prop:=∃i,i<n∧1000000000≤lim d i
def Aaz (w:World) (n:Nat) (d:Ξ) (e:Ending) (w':World):Prop:=∃r:Int,e=.returned (.int .i64 r)∧(0≤r↔Big n d)∧Below w.heap.size w w'
theorem Qo (w:World) (a:Γ) (n c:Nat) (d:Ξ) (hd:RdL w a n c d) :
  Θ 257 #[.slice a n c,.func (.func 202) #[] #[]] w (Aaz w n d):=by
 have hn:=hd.few;go_enter Tryz.func257,Tryz.ntmps257;go_wp2;go_loopw [5,8] (fun _ v8 wr=>∃k:Nat,k≤n∧v8=.int .i64 k∧(∀j,j<k→lim d j<1000000000)∧Below w.heap.size w wr) (fun _ v8 _=>n-(intOf v8).toNat)
 case atStart=>exact ⟨0,Ba _,rfl,fun j hj=>absurd hj (Nat.not_lt_zero _),Ac _ _⟩
 case round =>
  obtain ⟨k,hk,rfl,hall,HB⟩:=hrel;have HA:=Ae hall;clear hall;by_cases hlt:k<n
  ·obtain ⟨b,o,rfl,c1⟩:=(hd.keep HB).at' hlt;by_cases hb:1000000000≤lim d k
   ·go_wp2_with (go_at_call 202;refine (Zk _ _ true (by simpa using hb)).mono ?_;rintro e w' ⟨rfl,rfl⟩);go_ret;exact ⟨k,rfl,⟨fun _=>⟨k,hlt,hb⟩,fun _=>by omega⟩,HB⟩
   ·go_wp2_with (go_at_call 202;refine (Zk _ _ false (by simpa using hb)).mono ?_;rintro e w' ⟨rfl,rfl⟩);go_roundw
    case rel =>
     refine ⟨k+1,by omega,by go_num,fun j hj=>?_,HB⟩;rcases Nat.lt_succ_iff_lt_or_eq.1 hj with h|rfl
     ·exact HA.out j h
     ·omega
    case measure=>(first|(simp [intOf];omega)|(simp [intOf];done))
  ·have hkn:n≤k:=by omega
   go_wp2_with fail;go_ret;refine ⟨-1,rfl,⟨fun h=>by omega,fun⟨i,hi,hb⟩=>?_⟩,HB⟩;have:=HA.out i qA;omega
theorem Ik (w:World) (a:Γ) (n c:Nat) (d:Ξ) (hd:RdL w a n c d) (r:Bool) (hr:Big n d↔r=true) :
  Θ 201 #[.slice a n c,.func (.func 202) #[] #[]] w fun e w'=>e=.returned (.bool r)∧Below w.heap.size w w':=by
 cases r
 ·have hr':=Ae hr;clear hr;go_enter Tryz.func201,Tryz.ntmps201;go_wp2_with fail;refine (Qo _ _ _ _ d hd).mono ?_;rintro e w1 ⟨r,rfl,hi,hb⟩;have hneg:r<0:=by
   have:=hr'.out;rcases Int.lt_or_le r 0 with h|h
   ·exact h
   ·exact absurd (this.1 (hi.1 h)) qG
  clear hi;go_wp2_with fail;go_ret;exact ⟨by first|(simp;done)|(simp;omega),hb⟩
 ·have hr':=Ae hr;clear hr;go_enter Tryz.func201,Tryz.ntmps201;go_wp2_with fail;refine (Qo _ _ _ _ d hd).mono ?_;rintro e w1 ⟨r,rfl,hi,hb⟩;have hneg:0≤r:=hi.2 (hr'.out.2 qG);clear hi;go_wp2_with fail;go_ret;exact ⟨by first|(simp;done)|(simp;omega),hb⟩
def Qz (g:Bool) (d:Ξ):Prop:=Er d∧(d=[]→g=false)
theorem Jd {n:Nat} {d:Ξ} (hl:d.length=n):Big n d↔¬∀x∈d,x<1000000000:=by
 constructor
 ·rintro ⟨i,hi,hb⟩ h;have:=h d[i] (List.getElem_mem qA);simp only [lim,List.getD,Ai (show i<d.length by omega),Option.getD_some] at hb;omega
 ·intro h;simp only [Classical.not_forall] at h;obtain ⟨x,hx,hx2⟩:=h;obtain ⟨i,hi,rfl⟩:=List.getElem_of_mem hx;refine ⟨i,by omega,?_⟩;exact qDb
theorem bO {d:Ξ} (hlt:∀x∈d,x<1000000000) (hp:0<d.length):Er d↔lim d (d.length-1)≠0:=by
 have hne:d≠[]:=by intro e;rw [e] at hp;simp at hp
 have e:d.getLast? = some (d.getD (d.length-1) 0):=by
  rw [List.getLast?_eq_getElem?,List.getD,Ai qA];rfl
 unfold Er;rw [e,Fr];constructor
 ·rintro ⟨_,h|h⟩ h2
  ·exact hne h
  ·exact h (by rw [show d.getD (d.length-1) 0=0 by omega])
 ·intro h;exact ⟨hlt,.inr fun h2=>h (by simp only [Option.some.injEq] at h2;omega)⟩
theorem Cy (w:World) (g:Bool) (a:Γ) (n c:Nat) (d:Ξ) (hd:RdL w a n c d) (r:Bool) (hr:Qz g d↔r=true) :
  Θ 121 #[.agg #[.bool g,.slice a n c]] w fun e w'=>e=.returned (.bool r)∧Below w.heap.size w w':=by
 have HB:=Ac w.heap.size w;have hl:=hd.len;have hn:=hd.few;by_cases hall:∀x∈d,x<1000000000
 ·have hbig:Big n d↔false=true:=by rw [Jd hl];simpa using hall
  rcases Aq n with rfl|hp
  ·have hdn:d=[]:=List.eq_nil_of_length_eq_zero hl;have hrg:r=!g:=by
    have:Qz g d↔g=false:=by
     unfold Qz Er;rw [hdn];simp
    rw [this] at hr
    cases r<;>cases g<;>simp_all
   subst hrg;clear hr hdn hl hall;have HBig:=Ae hbig;clear hbig;cases g
   all_goals
    go_enter Tryz.func121,Tryz.ntmps121;go_wp2_with (go_at_call 201;refine (Ik _ _ _ _ d (hd.keep qF) false HBig.out).mono ?_;rintro e w' ⟨rfl,hb⟩;obtain ⟨hc,hf⟩:=Bl hb;have hz:=hb.size;replace HB:=zI w hb;have HBz:=HB.size);go_ret;exact ⟨rfl,HB⟩
  ·have hc:=bO hall qA;rw [hl] at hc;have hr2:(lim d (n-1) != 0)=r:=by
    have:Qz g d↔Er d:=⟨fun h=>h.1,fun h=>⟨h,fun e=>by rw [e] at hl;simp at hl;omega⟩⟩;rw [this,hc] at hr
    cases r<;>simp_all
   have HBig:=Ae hbig;clear hbig hr hl hall hc;obtain ⟨b,o,rfl,c1⟩:=(hd.at' (i:=n-1) qA);have c2:=fun (W:World) (h:Below w.heap.size w W)=>Bc h c1
   have C2:=Ae c2;clear c2 c1;have hpn:0<n:=hp;have hr3:=Ae hr2;clear hr2;go_enter Tryz.func121,Tryz.ntmps121;go_wp2_with fail;refine (Ik _ _ _ _ d (hd.keep qF) false HBig.out).mono ?_;rintro e w1 ⟨rfl,hb⟩;obtain ⟨hc,hf⟩:=Bl hb;have hz:=hb.size;replace HB:=zI w hb;have c1:=C2.out w1 HB;have hn1:((n:Int)-1).toNat=n-1:=by omega
   go_wp2_with fail;go_ret;exact ⟨by rw [hr3.out];rfl,HB⟩
 ·have hbig:Big n d↔true=true:=by rw [Jd hl];simpa using hall
  have hrf:r=false:=by
   cases r
   ·rfl
   ·exact absurd (hr.2 rfl).1.1 hall
  subst hrf;have HBig:=Ae hbig;clear hbig hr hl hall;go_enter Tryz.func121,Tryz.ntmps121;go_wp2_with (go_at_call 201;refine (Ik _ _ _ _ d (hd.keep qF) true HBig.out).mono ?_;rintro e w' ⟨rfl,hb⟩;obtain ⟨hc,hf⟩:=Bl hb;have hz:=hb.size;replace HB:=zI w hb;have HBz:=HB.size);go_ret;exact ⟨rfl,HB⟩
end Go.Proofs.YtnnhcbeiogaknaaGreatDoor
end
