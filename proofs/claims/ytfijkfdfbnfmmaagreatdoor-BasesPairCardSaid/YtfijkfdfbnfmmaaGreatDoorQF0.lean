/- Plain words for what the walks say of memory: a list of limbs read at a slice value; what a call keeps. -/
import Derived.Test.YtfijkfdfbnfmmaaGreatDoorQFZ
set_option linter.unusedSimpArgs false
set_option linter.unusedVariables false
set_option maxRecDepth 100000
set_option maxHeartbeats 4000000
section
namespace Go.Proofs.YtfijkfdfbnfmmaaGreatDoor
open Go.RowKit Proofs.Tryz
variable {B n c b o i:Nat} {v:Value} {a:Γ} {d:Ξ}
theorem Bg {W w1:World} (hb:xp W w1):(∀b o,b<W.heap.size→w1.cell? ⟨b,o,none⟩=W.cell? (J b o))∧(∀b o,b<W.heap.size→w1.frozen? ⟨b,o,none⟩=W.frozen? (J b o)) :=
 ⟨fun b o h=>hb.cell (p:=⟨b,o,none⟩) h,fun b o h=>hb.frozen (p:=⟨b,o,none⟩) h⟩
def lim (d:Ξ) (i:Nat):Int:=((d.getD i 0:Nat):Int)
structure RdL (w:World) (a:Γ) (n c:Nat) (d:Ξ):Prop where
 len:d.length=n
 cap:n≤c
 few:n≤35184372088832
 top:c≤9223372036854775807
 small:∀i,0≤lim d i∧lim d i<4294967296
 cell:n=0∨∃b o,a=some ⟨b,o,none⟩∧∀i,i<n→Z w b (o+i) (.int .u32 (lim d i))
theorem RdL.below {w w':World} (h:RdL w a n c d) (hb:Below B w w') (hB:w.heap.size≤B):RdL w' a n c d:=by
 refine ⟨h.len,h.cap,h.few,h.top,h.small,?_⟩;rcases h.cell with h0|⟨b,o,ha,hc⟩
 ·exact .inl h0
 ·refine .inr ⟨b,o,ha,fun i hi=>?_⟩;have:=hc i hi;have bj:=Aa w _ this;rw [hb.cell (p:=⟨b,o+i,none⟩) (Nat.lt_of_lt_of_le bj hB)];exact this
theorem RdL.alloc {w:World} (h:RdL w a n c d) (o:Obj):RdL (w.alloc o) a n c d :=
 h.below ((Ac w w).alloc (Ad _) o) (Ad _)
theorem RdL.drew {w:World} (h:RdL w a n c d):RdL w.drew a n c d :=
 h.below ((Ac w w).drew) (Ad _)
structure Tm where
 g1:Bool
 a1:Γ
 n1:Nat
 c1:Nat
 d1:Ξ
 g2:Bool
 a2:Γ
 n2:Nat
 c2:Nat
 d2:Ξ
 m0:Nat
 m1:Nat
 m2:Nat
 m3:Nat
abbrev Tm.val (t:Tm):Value:=.agg #[.bool t.g1,.slice t.a1 t.n1 t.c1,.bool t.g2,.slice t.a2 t.n2 t.c2,U t.m0,U t.m1,U t.m2,U t.m3]
structure Dg (w:World) (t:Tm):Prop where
 top:RdL w t.a1 t.n1 t.c1 t.d1
 low:RdL w t.a2 t.n2 t.c2 t.d2
 s0:t.m0<65536
 s1:t.m1<65536
 s2:t.m2<65536
 s3:t.m3<65536
structure Nr (w:World) (b o:Nat) (t:Tm):Prop where
 e0:Z w b o (.bool t.g1)
 e1:Z w b (o+1) (.slice t.a1 t.n1 t.c1)
 e2:Z w b (o+2) (.bool t.g2)
 e3:Z w b (o+3) (.slice t.a2 t.n2 t.c2)
 e4:Z w b (o+4) (U t.m0)
 e5:Z w b (o+5) (U t.m1)
 e6:Z w b (o+6) (U t.m2)
 e7:Z w b (o+7) (U t.m3)
structure RdP (w:World) (a:Γ) (n c:Nat) (p:Nat→Tm):Prop where
 cap:n≤c
 few:n≤35184372088832
 top:c≤9223372036854775807
 tm:∀i,i<n→Dg w (p i)
 cell:n=0∨∃b o,a=some ⟨b,o,none⟩∧∀i,i<n→Nr w b (o+i*8) (p i)
theorem Bb {w w':World} (hb:xp w w') {a:Addr} (h:w.cell? a=some v):w'.cell? a=some v:=by
 rw [hb.cell (Aa w a h)];exact h
theorem xh {w w':World} (hb:xp w w') {a:Addr} (h:w.cell? a=some v) {x:Bool} (k:w.frozen? a=x):w'.frozen? a=x:=(Ab hb (Aa _ _ h)).trans k
section
variable {w w':World} (hb:xp w w') {a0 a1 a2 a3 a4 a5 a6 a7:Addr} {v0 v1 v2 v3 v4 v5 v6 v7:Value} {x0 x1 x2 x3:Bool}
include hb
theorem xm (h0:w.cell? a0=some v0) (l0:w.frozen? a0=x0) (h1:w.cell? a1=some v1) (l1:w.frozen? a1=x1):w'.cell? a0=some v0∧w'.frozen? a0=x0∧w'.cell? a1=some v1∧w'.frozen? a1=x1:=⟨Bb hb h0,xh hb h0 l0,Bb hb h1,xh hb h1 l1⟩
theorem xi (h0:w.cell? a0=some v0) (l0:w.frozen? a0=x0) (h1:w.cell? a1=some v1) (l1:w.frozen? a1=x1) (h2:w.cell? a2=some v2) (l2:w.frozen? a2=x2) (h3:w.cell? a3=some v3) (l3:w.frozen? a3=x3):w'.cell? a0=some v0∧w'.frozen? a0=x0∧w'.cell? a1=some v1∧w'.frozen? a1=x1∧w'.cell? a2=some v2∧w'.frozen? a2=x2∧w'.cell? a3=some v3∧w'.frozen? a3=x3:=⟨Bb hb h0,xh hb h0 l0,Bb hb h1,xh hb h1 l1,Bb hb h2,xh hb h2 l2,Bb hb h3,xh hb h3 l3⟩
theorem xk (h0:w.cell? a0=some v0) (h1:w.cell? a1=some v1):w'.cell? a0=some v0∧w'.cell? a1=some v1:=⟨Bb hb h0,Bb hb h1⟩
theorem xn (h0:w.cell? a0=some v0) (h1:w.cell? a1=some v1) (h2:w.cell? a2=some v2):w'.cell? a0=some v0∧w'.cell? a1=some v1∧w'.cell? a2=some v2:=⟨Bb hb h0,Bb hb h1,Bb hb h2⟩
theorem xj (h0:w.cell? a0=some v0) (h1:w.cell? a1=some v1) (h2:w.cell? a2=some v2) (h3:w.cell? a3=some v3):w'.cell? a0=some v0∧w'.cell? a1=some v1∧w'.cell? a2=some v2∧w'.cell? a3=some v3:=⟨Bb hb h0,Bb hb h1,Bb hb h2,Bb hb h3⟩
theorem xl (h0:w.cell? a0=some v0) (h1:w.cell? a1=some v1) (h2:w.cell? a2=some v2) (h3:w.cell? a3=some v3) (h4:w.cell? a4=some v4) (h5:w.cell? a5=some v5) (h6:w.cell? a6=some v6) (h7:w.cell? a7=some v7):w'.cell? a0=some v0∧w'.cell? a1=some v1∧w'.cell? a2=some v2∧w'.cell? a3=some v3∧w'.cell? a4=some v4∧w'.cell? a5=some v5∧w'.cell? a6=some v6∧w'.cell? a7=some v7:=⟨Bb hb h0,Bb hb h1,Bb hb h2,Bb hb h3,Bb hb h4,Bb hb h5,Bb hb h6,Bb hb h7⟩
end
theorem RdL.keep {w w':World} (h:RdL w a n c d) (hb:xp w w'):RdL w' a n c d:=h.below hb (Ad _)
theorem Dg.keep {w w':World} {t:Tm} (h:Dg w t) (hb:xp w w'):Dg w' t:=⟨h.top.keep hb,h.low.keep hb,h.s0,h.s1,h.s2,h.s3⟩
theorem Nr.keep {w w':World} {t:Tm} (h:Nr w b o t) (hb:xp w w'):Nr w' b o t :=
 ⟨Bb hb h.e0,Bb hb h.e1,Bb hb h.e2,Bb hb h.e3,Bb hb h.e4,Bb hb h.e5,Bb hb h.e6,Bb hb h.e7⟩
theorem RdP.keep {w w':World} {p:Nat→Tm} (h:RdP w a n c p) (hb:xp w w'):RdP w' a n c p:=by
 refine ⟨h.cap,h.few,h.top,fun i hi=>(h.tm i hi).keep hb,?_⟩;rcases h.cell with h0|⟨b,o,ha,hc⟩
 ·exact .inl h0
 ·exact .inr ⟨b,o,ha,fun i hi=>(hc i hi).keep hb⟩
theorem RdP.at {w:World} {p:Nat→Tm} (h:RdP w (some ⟨b,o,none⟩) n c p) (hi:i<n):Nr w b (o+i*8) (p i):=qDy
theorem RdL.at {w:World} (h:RdL w (some ⟨b,o,none⟩) n c d) (hi:i<n):Z w b (o+i) (.int .u32 (lim d i)):=qDy
theorem RdL.at' {w:World} (h:RdL w a n c d) (hi:i<n):∃b o,a=some ⟨b,o,none⟩∧Z w b (o+i) (.int .u32 (lim d i)):=by
 obtain ⟨b,o,rfl,ij⟩:=h.cell.resolve_left qB;exact ⟨b,o,rfl,ij i hi⟩
def K0 (B:Nat) (a:Γ):Prop:=∀x,a=some x→B≤x.block
theorem K0.mono {B':Nat} (h:K0 B a) (hB:B'≤B):K0 B' a:=fun x hx=>Ah hB (h x hx)
theorem It {w:World} {p q:Addr} (u:Value) (h:w.cell? q=some v) (di:q.block≠p.block):(w.setCell p u).cell? q=some v:=by
 rw [Af (w:=w) (Below.heap_setCell w p u q.block di)];exact h
theorem RdL.setNew {w:World} (h:RdL w a n c d) (p:Addr) (u:Value) (hn:K0 (p.block+1) a):RdL (w.setCell p u) a n c d:=by
 refine ⟨h.len,h.cap,h.few,h.top,h.small,?_⟩;rcases h.cell with h0|⟨b,o,ha,hc⟩
 ·exact .inl h0
 ·refine .inr ⟨b,o,ha,fun i hi=>It u (hc i hi) ?_⟩;have:=hn _ ha;show b≠p.block;simp at this;omega
theorem xN:(prog.info? 54).map (fun i=>(i.zero,i.size,i.bytes))=some (some (U 0),1,2):=qE
theorem u66:prog.underlying 56=some (.array 4 54):=qE
theorem u55:prog.underlying 54=some (.int .u16):=qE
theorem c55:prog.cellsOf 54=1:=qE
theorem Wm (w:World) (a0 a1 a2 a3:Int) :
  (part 54 #[U a0,U a1,U a2,U a3] 0).run prog w=.ok (U a0) w ∧
  (part 54 #[U a0,U a1,U a2,U a3] 1).run prog w=.ok (U a1) w ∧
  (part 54 #[U a0,U a1,U a2,U a3] 2).run prog w=.ok (U a2) w ∧
  (part 54 #[U a0,U a1,U a2,U a3] 3).run prog w=.ok (U a3) w :=
 ⟨qE,qE,qE,qE⟩
theorem lN (d:Nat) (w:World) (a0 a1 a2 a3 b0 b1 b2 b3:Int) :
  (Op.equalIn (d+2) 56 (.agg #[U a0,U a1,U a2,U a3]) (.agg #[U b0,U b1,U b2,U b3])).run prog w=.ok (a0==b0&&(a1==b1&&(a2==b2&&a3==b3))) w:=by
 obtain ⟨i,hi,_,hs,_⟩:=info_parts xN;rw [run_equalIn_array (d:=d+1) (hu:=u66) (hi:=hi)];have hr:List.range 4=[0,1,2,3]:=qI;rw [hr,c55];obtain ⟨pa0,pa1,pa2,pa3⟩:=Wm w a0 a1 a2 a3;obtain ⟨pb0,pb1,pb2,pb3⟩:=Wm w b0 b1 b2 b3;have e:=fun (x y:Int)=>run_equalIn_int (P:=prog) w d 54 .u16 .u16 x y u55
 simp only [Op.eqItems,Nat.zero_mul,Nat.one_mul,Nat.reduceMul,Sem.run_bind,pa0,pb0,pa1,pb1,pa2,pb2,pa3,pb3,Result.andThen_ok,e,Sem.run_ite,Sem.run_pure]
 cases (a0==b0)<;>cases (a1==b1)<;>cases (a2==b2)<;>cases (a3==b3)<;>simp
@[go_sem ↓] theorem Abh (w:World) (a0 a1 a2 a3 b0 b1 b2 b3:Int) :
  (binOp .eql 56 (.agg #[U a0,U a1,U a2,U a3]) (.agg #[U b0,U b1,U b2,U b3])).run prog w=.ok (.bool (a0==b0&&(a1==b1&&(a2==b2&&a3==b3)))) w:=by
 rw [run_eql_struct,show (10000:Nat)=9998+2 from rfl,lN];rfl
end Go.Proofs.YtfijkfdfbnfmmaaGreatDoor
end
section
namespace Go.Proofs.YtfijkfdfbnfmmaaGreatDoor
open Proofs.Tryz
variable (n:Nat) (d:Ξ) (i m N:Nat)
def val:Ξ→Nat
 | []=>0
 | x::xs=>x+1000000000*val xs
def dg (n:Nat):Ξ:=if n=0 then [] else n%1000000000::dg (n/1000000000)
termination_by n
decreasing_by omega
theorem Dv:dg 0=[]:=by rw [dg];simp
theorem Hq {n:Nat} (h:0<n):dg n=n%1000000000::dg (n/1000000000):=by rw [dg,if_neg qB]
theorem Bq:val (dg n)=n:=by
 induction n using Nat.strongRecOn with
 | _ n ih =>
  rcases Aq n with rfl|h
  ·rw [Dv];rfl
  ·rw [Hq h,val,ih _ qB];omega
theorem D0:∀x∈dg n,x<1000000000:=by
 induction n using Nat.strongRecOn with
 | _ n ih =>
  rcases Aq n with rfl|h
  ·rw [Dv];intro x hx;cases hx
  ·rw [Hq h];intro x hx;rcases List.mem_cons.1 hx with rfl|hx
   ·omega
   ·exact ih _ qB x hx
def Dy (d:Ξ):Prop:=(∀x∈d,x<1000000000)∧(d=[]∨d.getLast?≠some 0)
theorem Dy.tail {x:Nat} {d:Ξ} (h:Dy (x::d)):Dy d:=by
 refine ⟨fun y hy=>h.1 y (List.mem_cons_of_mem _ hy),?_⟩
 cases d with
 | nil=>exact .inl rfl
 | cons y d =>
  right;rcases h.2 with h2|h2
  ·cases h2
  ·simpa [List.getLast?_cons_cons] using h2
theorem Cz {d:Ξ} (h:Dy d) (di:d≠[]):0<val d:=by
 induction d with
 | nil=>exact absurd rfl di
 | cons x d ih =>
  rw [val]
  cases d with
  | nil =>
   have h2:=h.2;simp at h2;omega
  | cons y d =>
   have:=ih h.tail qH;omega
theorem Gl {d:Ξ} (h:Dy d):dg (val d)=d:=by
 induction d with
 | nil=>rw [val,Dv]
 | cons x d ih =>
  have hx:=h.1 x (List.mem_cons_self ..);have hp:=Cz h qH;rw [Hq hp,val];have h1:(x+1000000000*val d)%1000000000=x:=qB;have h2:(x+1000000000*val d)/1000000000=val d:=qB;rw [h1,h2,ih h.tail]
theorem Cb:Dy (dg n):=by
 refine ⟨D0 n,?_⟩
 induction n using Nat.strongRecOn with
 | _ n ih =>
  rcases Aq n with rfl|h
  ·exact .inl Dv
  ·right;rw [Hq h];rcases ih (n/1000000000) qB with h2|h2
   ·rw [h2];have:n/1000000000=0:=by have:=Bq (n/1000000000);rw [h2] at this;simpa [val] using this.symm
    simp
    omega
   ·cases hd:dg (n/1000000000) with
    | nil =>
     have:n/1000000000=0:=by have:=Bq (n/1000000000);rw [hd] at this;simpa [val] using this.symm
     simp
     omega
    | cons y d=>rw [hd] at h2;simpa [List.getLast?_cons_cons] using h2
theorem Fq (a b:Ξ):val (a++b)=val a+1000000000 ^ a.length*val b:=by
 induction a with
 | nil=>simp [val]
 | cons x a ih =>
  simp only [List.cons_append,val,ih,List.length_cons,Nat.pow_succ];rw [Nat.mul_add,Nat.mul_comm (1000000000 ^ a.length) 1000000000,Nat.mul_assoc];omega
theorem Ep (h:∀x∈d,x<1000000000):val d<1000000000 ^ d.length:=by
 induction d with
 | nil=>simp [val]
 | cons x d ih =>
  have h1:=ih (fun y hy=>h y (List.mem_cons_of_mem _ hy));have hx:=h x (List.mem_cons_self ..);simp only [val,List.length_cons,Nat.pow_succ];omega
theorem Ei (hi:i≤d.length):val d=val (d.take i)+1000000000 ^ i*val (d.drop i):=by
 conv=>lhs;rw [←List.take_append_drop i d]
 rw [Fq,List.length_take,Nat.min_eq_left hi]
theorem Hu (hi:i<d.length):val (d.take (i+1))=val (d.take i)+1000000000 ^ i*d.getD i 0:=by
 rw [List.take_succ_eq_append_getElem hi,Fq,List.length_take,Nat.min_eq_left qB];simp [val,List.getD,Ai hi]
theorem Wc (h:∀x∈d,x=0):val d=0:=by
 induction d with
 | nil=>rfl
 | cons x d ih=>rw [val,h x (List.mem_cons_self ..),ih (fun y hy=>h y (List.mem_cons_of_mem _ hy))]
theorem dY (n:Nat) (hn:n≤d.length) (bj:∀x∈d,x<1000000000) (hz:∀i,n≤i→d.getD i 0=0) (hl:n=0∨d.getD (n-1) 0≠0):d.take n=dg (val d):=by
 have hv:val d=val (d.take n):=by
  rw [Ei d n hn,Wc (d.drop n),Nat.mul_zero,Nat.add_zero];intro x hx;obtain ⟨i,hi,rfl⟩:=List.getElem_of_mem hx;have:=hz (n+i) qB;rw [List.getElem_drop];simp only [List.length_drop] at hi;simpa [List.getD,Ai (show n+i<d.length from qB)] using this
 rw [hv,Gl];refine ⟨fun x hx=>bj x (List.mem_of_mem_take hx),?_⟩;rcases Aq n with rfl|h
 ·exact .inl qH
 ·right;have h2:=hl.resolve_left qB;rw [List.getLast?_take,if_neg qB];simp only [List.getD] at h2;rw [Ai qB] at h2 ⊢;simpa using h2
theorem Bu {a b:Nat} (h:a≤b):(dg a).length≤(dg b).length:=by
 rcases Nat.lt_or_ge (dg b).length (dg a).length with h1|h1
 ·exfalso;have hb:=Ep (dg b) (D0 b);rw [Bq] at hb;have di:dg a≠[]:=by intro e;rw [e] at h1;simp at h1
  have vr:=(Cb a).2.resolve_left di;have hs:val (dg a)=a:=Bq a;rw [←List.dropLast_concat_getLast di,Fq,List.length_dropLast] at hs;rw [List.getLast?_eq_some_getLast di] at vr;have UN:1≤val [(dg a).getLast di]:=by simp at vr;simp [val];omega
  have hp:1000000000 ^ (dg b).length≤1000000000 ^ ((dg a).length-1):=Nat.pow_le_pow_right qB qB;have:=Nat.le_mul_of_pos_right (1000000000 ^ ((dg a).length-1)) UN;omega
 ·exact h1
def fx:Nat→Nat→Ξ
 | 0,_=>[]
 | m+1,N=>N%1000000000::fx m (N/1000000000)
theorem Mw:(fx m N).length=m:=by
 induction m generalizing N with
 | zero=>rfl
 | succ m ih=>simp [fx,ih]
theorem pX:∀x∈fx m N,x<1000000000:=by
 induction m generalizing N with
 | zero=>intro x hx;cases hx
 | succ m ih =>
  intro x hx;rcases List.mem_cons.1 hx with rfl|hx
  ·omega
  ·exact ih _ x hx
theorem Qw (h:N<1000000000 ^ m):val (fx m N)=N:=by
 induction m generalizing N with
 | zero=>simp at h;simp [fx,val,h]
 | succ m ih =>
  rw [fx,val,ih (N/1000000000) (by rw [Nat.pow_succ] at h;exact Nat.div_lt_of_lt_mul (by rw [Nat.mul_comm];exact h))];omega
theorem vW:fx (m+1) N=fx m N++[N/1000000000 ^ m%1000000000]:=by
 induction m generalizing N with
 | zero=>simp [fx]
 | succ m ih =>
  rw [fx,ih,fx];simp only [List.cons_append,List.cons.injEq,true_and];rw [Nat.div_div_eq_div_mul,Nat.pow_succ,Nat.mul_comm (1000000000 ^ m)]
theorem iJ {a b:Ξ} {i:Nat} (hl:a.length=b.length) (hi:i<a.length) (ha:∀x∈a,x<1000000000) (hd:a.drop (i+1)=b.drop (i+1)) (bj:a.getD i 0<b.getD i 0):val a<val b:=by
 rw [Ei a (i+1) qB,Ei b (i+1) qB,hd,Hu a i hi,Hu b i qB];have h1:=Ep (a.take i) (fun x hx=>ha x (List.mem_of_mem_take hx));rw [List.length_take,Nat.min_eq_left qB] at h1;have h2:1000000000 ^ i*(a.getD i 0+1)≤1000000000 ^ i*b.getD i 0:=At _ bj;rw [Nat.mul_add] at h2;omega
end Go.Proofs.YtfijkfdfbnfmmaaGreatDoor
end
section
namespace Go.Proofs.YtfijkfdfbnfmmaaGreatDoor
open Go.RowKit Proofs.Tryz
variable (w:World) (d:Ξ) (i:Nat) (a:Γ) (x y:Int) {base n k j:Nat} {v:Value} {w':World} {b:Ξ}
theorem Bj {B:Nat} {w:World} (k:Nat) (h:Below B w w'):Below B w (w'.drewN k):=h.trans ⟨rfl,rfl,rfl,Ad _,fun _ _=>rfl⟩
theorem Dl:(prog.info? 129).map (fun i=>(i.zero,i.size,i.bytes))=some (some (.int .u32 0),1,4):=qE
def Cg (d:Ξ):List Value:=d.map fun (z:Nat)=>Value.int .u32 (z:Int)
theorem C5:(Cg d).length=d.length:=by simp [Cg]
theorem Zz (h:i<d.length):(Cg d)[i]? = some (.int .u32 (lim d i)):=by
 simp [Cg,lim,Ai h]
theorem Cv (e:Ξ):Cg (d++e)=Cg d++Cg e:=by simp [Cg]
theorem gI (z:Nat) (hz:z<4294967296) (i:Nat):0≤lim [z] i∧lim [z] i<4294967296:=by
 unfold lim
 match i with
 | 0=>simp;omega
 | i+1=>simp
theorem Da {w:World} {g c:Nat} {d:Ξ} (h:w.ownsRow base 129 1 (.slice (E g) n c) n (Cg d)) (hc:n≤35184372088832) (hs:∀i,0≤lim d i∧lim d i<4294967296):RdL w (E g) n c d:=by
 have hlen:d.length=n:=by have:=h.1;rw [C5] at this;omega
 have oz:n≤c∧c≤9223372036854775807:=by
  rcases h.2 with ⟨h',_⟩|⟨g',KE,cur,h',_,_,ri,hm,_⟩
  ·simp at h'
  ·simp only [Value.slice.injEq] at h';unfold maxLen at hm;omega
 refine ⟨hlen,oz.1,hc,oz.2,hs,.inr ⟨g,0,rfl,fun i hi=>?_⟩⟩;rw [Nat.zero_add,h.cellAt i qB,Zz d i qB]
theorem Ls:(prog.info? 58).map (fun i=>(i.zero,i.size,i.bytes))=some (some (.agg #[.bool false,.slice none 0 0,.bool false,.slice none 0 0,U 0,U 0,U 0,U 0]),8,72):=qE
def Tm.cells (t:Tm):List Value:=[.bool t.g1,.slice t.a1 t.n1 t.c1,.bool t.g2,.slice t.a2 t.n2 t.c2,U t.m0,U t.m1,U t.m2,U t.m3]
def Cs (s:Nat→Tm):Nat→List Value
 | 0=>[]
 | k+1=>Cs s k++(s k).cells
theorem Ky (s:Nat→Tm) (k:Nat):(Cs s k).length=k*8:=by
 induction k with
 | zero=>rfl
 | succ k ih=>simp [Cs,Tm.cells,ih];omega
theorem Lp {s s':Nat→Tm} (h:∀j,j<k→s j=s' j):Cs s k=Cs s' k:=by
 induction k with
 | zero=>rfl
 | succ k ih=>rw [Cs,Cs,ih (fun j hj=>h j qB),h k qB]
theorem Vs (s:Nat→Tm) (k j i:Nat) (hj:j<k) (hi:i<8):(Cs s k)[j*8+i]? = (s j).cells[i]?:=by
 induction k with
 | zero=>omega
 | succ k ih =>
  rw [Cs];have hl:=Ky s k;by_cases h:j<k
  ·rw [Ay qB];exact ih h
  ·obtain rfl:j=k:=qB;rw [Az qB,hl]
   congr 1
   omega
theorem Ig {w:World} {g c:Nat} {s:Nat→Tm} (h:w.ownsRow base 58 8 (.slice (E g) k c) k (Cs s k)) (hj:j<k):Nr w g (0+j*8) (s j):=by
 have key:∀i,i<8→w.cell? ⟨g,0+j*8+i,none⟩=(s j).cells[i]?:=fun i hi=>by
  rw [Nat.zero_add,h.cellAt (j*8+i) qB,Vs s k j i hj hi]
 exact ⟨key 0 qB,key 1 qB,key 2 qB,key 3 qB,key 4 qB,key 5 qB,key 6 qB,key 7 qB⟩
theorem Dp (xs:List Value) (t:TypeId):∀j u,xs[j]? = some u→(w.alloc (.cells xs.toArray t)).cell? ((J w 0:Addr).add j)=some u:=by
 intro j u hj;have vu:(J w 0:Addr).add j=⟨w,j,none⟩:=by unfold Addr.add;split<;>simp_all
 rw [vu,cell_of_row _ w j xs.toArray t (0,0) (heap_alloc_new w _)];simpa using hj
theorem Bf {w:World} {e:TypeId} {size:Nat} {xs:List Value} (h:w.ownsRow base e size v n xs) (hb:xp w w'):w'.ownsRow base e size v n xs :=
 h.kept (row:=none) ⟨hb.os,hb.tape,hb.output,hb.size,fun k hk _=>hb.block k hk⟩ (by cases v.ownBlock<;>simp)
theorem Hi {d:Ξ} (h:∀x∈d,x<1000000000) (i:Nat):lim d i<1000000000:=by
 by_cases hi:i<d.length
 ·have:=h _ (List.getElem_mem hi);exact qEj
 ·simp [lim,List.getElem?_eq_none (Nat.le_of_not_lt hi)]
def xD:Value→Nat
 | .slice _ n _=>n
 | _=>0
theorem Qa {d:Ξ} {i:Nat} (h:d.length≤i):d.getD i 0=0:=by simp [List.getD,List.getElem?_eq_none h]
theorem Cx {d:Ξ} (h:∀x∈d,x<1000000000) (i:Nat):d.getD i 0<1000000000:=by
 by_cases hi:i<d.length
 ·simp only [List.getD,Ai hi,Option.getD_some];exact h _ (List.getElem_mem hi)
 ·rw [Qa qB];omega
theorem En:val (d.take (i+1))=val (d.take i)+1000000000 ^ i*d.getD i 0:=by
 by_cases hi:i<d.length
 ·exact Hu d i hi
 ·rw [As qB,As qB];simp [List.getD,List.getElem?_eq_none (Nat.le_of_not_lt hi)]
def Ea (b:UInt8):Bool:=decide (48≤(b.toNat:Int)∧(b.toNat:Int)≤57)
def E3:List UInt8→Bool
 | []=>false
 | b::r=>(b::r).all Ea&&(r.isEmpty || decide (¬(b.toNat:Int)=48))
def rQ (b:UInt8):Bool:=(b.toNat:Int)==32 || (b.toNat:Int)==9
def Xs (b:UInt8):Bool:=decide ((48≤(b.toNat:Int)∧(b.toNat:Int)≤57)∨(b.toNat:Int)=120∨(b.toNat:Int)=121∨(b.toNat:Int)=122∨(b.toNat:Int)=116)
def Gb:List UInt8→Bool
 | []=>false
 | b::_=>Xs b
theorem Gi {P:Program} {f:FuncId} {args:Array Value} {w:World}
  (h:Calls P f args (w.drewN n) fun e w'=>e=.returned v∧w.drewN n=w'):Calls P f args (w.drewN n) fun e GI=>e=.returned v∧∃m,GI=w.drewN m :=
 h.mono fun _ _ ⟨he,hm⟩=>⟨he,n,hm.symm⟩
theorem Fj {P:Program} {f:FuncId} {args:Array Value} {w:World} {a:Nat}
  (h:Calls P f args (w.drewN (a+n)) fun e w'=>e=.returned v∧w.drewN (a+n)=w') :
  Calls P f args (w.drewN (a+n)) fun e GI=>e=.returned v∧∃m,GI=w.drewN (a+m) :=
 h.mono fun _ _ ⟨he,hm⟩=>⟨he,n,hm.symm⟩
def Bz (x y:Int):Int:=if x<y then -1 else if x=y then 0 else 1
theorem C6 {x y:Int} (h:x<y):Bz x y=-1:=by simp [Bz,h]
theorem Du:Bz x x=0:=by simp [Bz]
theorem C7 {x y:Int} (h:y<x):Bz x y=1:=by
 have h1:¬x<y:=qB;have h2:¬x=y:=qB;simp [Bz,h1,h2]
theorem jH (w:World):Θ 267 #[M x] w fun e w'=>e=.returned (.bool false)∧w=w':=by
 go_enter func267,ntmps267;go_wp2;go_ret;exact ⟨qH,rfl⟩
theorem jK (w:World):Θ 346 #[.int .u32 x] w fun e w'=>e=.returned (.bool false)∧w=w':=by
 go_enter func346,ntmps346;go_wp2;go_ret;exact ⟨qH,rfl⟩
theorem jX (w:World):Θ 268 #[U x] w fun e w'=>e=.returned (.bool false)∧w=w':=by
 go_enter func268,ntmps268;go_wp2;go_ret;exact ⟨qH,rfl⟩
theorem Lh (w:World):Θ 233 #[M x,M y] w fun e w'=>e=.returned (M (Bz x y))∧w=w':=by
 rcases Int.lt_trichotomy x y with h|rfl|h
 ·rw [C6 h];exact qCi
 ·rw [Du];exact qCi
 ·rw [C7 h];exact qCi
theorem Rn (w:World):Θ 317 #[.int .u32 x,.int .u32 y] w fun e w'=>e=.returned (M (Bz x y))∧w=w':=by
 rcases Int.lt_trichotomy x y with h|rfl|h
 ·rw [C6 h];exact qCg
 ·rw [Du];exact qCg
 ·rw [C7 h];exact qCg
theorem Ry (w:World):Θ 236 #[U x,U y] w fun e w'=>e=.returned (M (Bz x y))∧w=w':=by
 rcases Int.lt_trichotomy x y with h|rfl|h
 ·rw [C6 h];exact qCh
 ·rw [Du];exact qCh
 ·rw [C7 h];exact qCh
theorem Dy.lt {d:Ξ} (h:Dy d):∀x∈d,x<1000000000:=h.1
theorem Em:lim d i=((d.getD i 0:Nat):Int):=rfl
theorem Us {a:Ξ} {i:Nat} (hl:a.length=b.length) (hi:i<a.length) (hd:a.drop (i+1)=b.drop (i+1)) (he:lim a i=lim b i):a.drop i=b.drop i:=by
 rw [List.drop_eq_getElem_cons hi,List.drop_eq_getElem_cons (by omega:i<b.length),hd];have:a[i]=b[i]'qB:=by
  rw [Em,Em] at he;simp only [List.getD,Ai hi,Ai (show i<b.length from qB),Option.getD_some] at he;omega
 rw [this]
theorem Pe {a:Ξ} (ha:Dy a) (hb:Dy b) (h:a.length<b.length):val a<val b:=by
 rcases Nat.lt_or_ge (val a) (val b) with h1|h1
 ·exact h1
 ·have:=Bu h1;rw [Gl ha,Gl hb] at this;omega
def W9 (w:World) (x y:Nat) (e:Ending) (w':World):Prop:=e=.returned (M (Bz x y))∧xp w w'
theorem Tw {d d':Ξ} (hl:d.length=d'.length) (hj:j<d.length) (hc:∀x∈d,x<1000000000) (jf:∀x∈d',x<1000000000) (hd:d.drop (j+1)=d'.drop (j+1)) (di:¬lim d j=lim d' j):Bz (lim d j) (lim d' j)=Bz (val d) (val d'):=by
 rw [Em,Em] at *;rcases Nat.lt_trichotomy (d.getD j 0) (d'.getD j 0) with h|h|h
 ·have:=iJ hl hj hc hd h;rw [C6 qB,C6 qB]
 ·exact absurd (by rw [h]) di
 ·have:=iJ hl.symm qB jf hd.symm h;rw [C7 qB,C7 qB]
theorem Yi (n c:Nat) (d:Ξ) (a':Γ) (c':Nat) (d':Ξ) (hd:RdL w a n c d) (ik:RdL w a' n c' d') (hc:Dy d) (jf:Dy d') :
  Θ 286 #[.slice a n c,.slice a' n c'] w (W9 w (val d) (val d')):=by
 have hl:=hd.len;have hl':=ik.len;have hn:=hd.few;go_enter func286,ntmps286;go_wp2_with (go_at_call 233;refine (Lh _ _ _).mono ?_;rintro e w' ⟨rfl,rfl⟩;rw [Du]);go_loopw [6] (fun v6 wr=>∃k:Nat,k≤n∧v6=M ((k:Int)-1)∧d.drop k=d'.drop k∧xp w wr) (fun v6 _=>(intOf v6+1).toNat)
 case atStart=>exact ⟨n,Ad _,rfl,by rw [List.drop_of_length_le qB,List.drop_of_length_le qB],Ac _ _⟩
 case round =>
  obtain ⟨k,hk,rfl,hdr,HB⟩:=hrel;have HD:=Ae hdr;clear hdr
  match k with
  | 0 =>
   have hv:Hid (d=d'):=Ae (by have:=HD.out;simpa using this);rw [show ((0:Nat):Int)-1=-1 from rfl];go_wp2_with fail;go_ret;exact ⟨by rw [hv.out,Du];rfl,HB⟩
  | j+1 =>
   have hj:((j+1:Nat):Int)-1=(j:Int):=qB;rw [hj];clear hj;have c1:=(hd.keep HB).at' (i:=j) qB;have c2:=(ik.keep HB).at' (i:=j) qB;obtain ⟨b,o,rfl,c1⟩:=c1;obtain ⟨b',o',rfl,c2⟩:=c2;by_cases di:lim d j=lim d' j
   ·have hbe:(lim d j != lim d' j)=false:=by simp [di]
    have HN:=Ae di;have HL:=Ae hl;have SB:=Ae hl';clear di hl hl';go_wp2_with fail;go_quiet (fail);go_wp2_with fail;go_roundw
    case rel=>exact ⟨j,qB,rfl,Us (by rw [HL.out,SB.out]) (by rw [HL.out];omega) HD.out HN.out,Bj _ HB⟩
    case measure=>(first|(simp [intOf];omega)|(simp [intOf];done))
   ·have hbe:(lim d j != lim d' j)=true:=by simp [di]
    have qd:=Ae (Tw qB qB hc.1 jf.1 HD.out di);clear di hl hl';go_wp2_with fail;go_quiet (fail);go_wp2_with fail;go_quiet ((first|(go_at_call 317;exact Gi (Rn _ _ _))|(go_at_call 317;exact Fj (Rn _ _ _))));go_wp2_with fail;go_ret;exact ⟨by rw [qd.out];rfl,Bj _ (Bj _ HB)⟩
theorem Fb (n c:Nat) (d:Ξ) (a':Γ) (n' c':Nat) (d':Ξ) (hd:RdL w a n c d) (ik:RdL w a' n' c' d') (hc:Dy d) (jf:Dy d') :
  Θ 286 #[.slice a n c,.slice a' n' c'] w (W9 w (val d) (val d')):=by
 have hl:=hd.len;have hl':=ik.len;have hn:=hd.few;unfold W9;rcases Nat.lt_trichotomy n n' with h|rfl|h
 ·rw [C6 (by have:=Pe hc jf qB;omega)];have qd:=C6 (x:=(n:Int)) (y:=n') qB;exact qCw
 ·exact Yi w a n c d a' c' d' hd ik hc jf
 ·rw [C7 (by have:=Pe jf hc qB;omega)];have qd:=C7 (x:=(n:Int)) (y:=n') qB;exact qCw
theorem aZ (w:World) (r:Bool) (hr:decide (1000000000≤x)=r):Θ 248 #[.int .u32 x] w fun e w'=>e=.returned (.bool r)∧w=w':=by
 cases r
 ·have h:x<1000000000:=by simpa using hr
  exact qEw
 ·have h:1000000000≤x:=by simpa using hr
  exact qEw
def Big (n:Nat) (d:Ξ):Prop:=∃i,i<n∧1000000000≤lim d i
def zW (w:World) (n:Nat) (d:Ξ) (e:Ending) (w':World):Prop:=∃r:Int,e=.returned (M r)∧(0≤r↔Big n d)∧xp w w'
theorem Ru (n c:Nat) (d:Ξ) (hd:RdL w a n c d) :
  Θ 285 #[.slice a n c,.func (.func 248) #[] #[]] w (zW w n d):=by
 have hn:=hd.few;go_enter func285,ntmps285;go_wp2;go_loopw [5,8] (fun _ v8 wr=>∃k:Nat,k≤n∧v8=M k∧(∀j,j<k→lim d j<1000000000)∧xp w wr) (fun _ v8 _=>n-(intOf v8).toNat)
 case atStart=>exact ⟨0,Ba _,rfl,fun j hj=>absurd hj (Nat.not_lt_zero _),Ac _ _⟩
 case round =>
  obtain ⟨k,hk,rfl,fh,HB⟩:=hrel;have HA:=Ae fh;clear fh;by_cases bj:k<n
  ·obtain ⟨b,o,rfl,c1⟩:=(hd.keep HB).at' bj;by_cases hb:1000000000≤lim d k
   ·go_wp2_with (go_at_call 248;refine (aZ _ _ true (by simpa using hb)).mono ?_;rintro e w' ⟨rfl,rfl⟩);go_ret;exact ⟨k,rfl,⟨fun _=>⟨k,bj,hb⟩,fun _=>qB⟩,HB⟩
   ·go_wp2_with (go_at_call 248;refine (aZ _ _ false (by simpa using hb)).mono ?_;rintro e w' ⟨rfl,rfl⟩);go_roundw
    case rel =>
     refine ⟨k+1,qB,by go_num,fun j hj=>?_,HB⟩;rcases Nat.lt_succ_iff_lt_or_eq.1 hj with h|rfl
     ·exact HA.out j h
     ·omega
    case measure=>(first|(simp [intOf];omega)|(simp [intOf];done))
  ·have vv:n≤k:=qB;go_wp2_with fail;go_ret;refine ⟨-1,rfl,⟨fun h=>qB,fun⟨i,hi,hb⟩=>?_⟩,HB⟩;have:=HA.out i qB;omega
theorem I0 (n c:Nat) (d:Ξ) (hd:RdL w a n c d) (r:Bool) (hr:Big n d↔r=true) :
  Θ 247 #[.slice a n c,.func (.func 248) #[] #[]] w fun e w'=>e=.returned (.bool r)∧xp w w':=by
 cases r
 ·have BA:=Ae hr;clear hr;go_enter func247,ntmps247;go_wp2_with fail;refine (Ru _ _ _ _ d hd).mono ?_;rintro e w1 ⟨r,rfl,hi,hb⟩;have tj:r<0:=by
   have:=BA.out;rcases Int.lt_or_le r 0 with h|h
   ·exact h
   ·exact absurd (this.1 (hi.1 h)) qH
  clear hi;go_wp2_with fail;go_ret;exact ⟨zA,hb⟩
 ·have BA:=Ae hr;clear hr;go_enter func247,ntmps247;go_wp2_with fail;refine (Ru _ _ _ _ d hd).mono ?_;rintro e w1 ⟨r,rfl,hi,hb⟩;have tj:0≤r:=hi.2 (BA.out.2 qH);clear hi;go_wp2_with fail;go_ret;exact ⟨zA,hb⟩
def Lf (g:Bool) (d:Ξ):Prop:=Dy d∧(d=[]→g=false)
theorem Jq {d:Ξ} (hl:d.length=n):Big n d↔¬∀x∈d,x<1000000000:=by
 constructor
 ·rintro ⟨i,hi,hb⟩ h;have:=h d[i] (List.getElem_mem qB);simp only [lim,List.getD,Ai (show i<d.length from qB),Option.getD_some] at hb;omega
 ·intro h;simp only [Classical.not_forall] at h;obtain ⟨x,hx,NO⟩:=h;obtain ⟨i,hi,rfl⟩:=List.getElem_of_mem hx;refine ⟨i,qB,?_⟩;exact qEj
theorem Tt {d:Ξ} (bj:∀x∈d,x<1000000000) (hp:0<d.length):Dy d↔lim d (d.length-1)≠0:=by
 have di:d≠[]:=by intro e;rw [e] at hp;simp at hp
 have e:d.getLast? = some (d.getD (d.length-1) 0):=by
  rw [List.getLast?_eq_getElem?,List.getD,Ai qB];rfl
 unfold Dy;rw [e,Em];constructor
 ·rintro ⟨_,h|h⟩ h2
  ·exact di h
  ·exact h (by rw [show d.getD (d.length-1) 0=0 from qB])
 ·intro h;exact ⟨bj,.inr fun h2=>h (by simp only [Option.some.injEq] at h2;omega)⟩
theorem De (g:Bool) (a:Γ) (n c:Nat) (d:Ξ) (hd:RdL w a n c d) (r:Bool) (hr:Lf g d↔r=true) :
  Θ 214 #[.agg #[.bool g,.slice a n c]] w fun e w'=>e=.returned (.bool r)∧xp w w':=by
 have HB:=Ac w w;have hl:=hd.len;have hn:=hd.few;by_cases fh:∀x∈d,x<1000000000
 ·have BM:Big n d↔false=true:=by rw [Jq hl];simpa using fh
  rcases Aq n with rfl|hp
  ·have DQ:d=[]:=List.eq_nil_of_length_eq_zero hl;have OV:r=!g:=by
    have:Lf g d↔g=false:=by
     unfold Lf Dy;rw [DQ];simp
    rw [this] at hr
    cases r<;>cases g<;>simp_all
   subst OV;clear hr DQ hl fh;have KF:=Ae BM;clear BM;cases g;all_goals
    go_enter func214,ntmps214;go_wp2_with (go_at_call 247;refine (I0 _ _ _ _ d (hd.keep qD) false KF.out).mono ?_;rintro e w' ⟨rfl,hb⟩;obtain ⟨hc,hf⟩:=Bg hb;have hz:=hb.size;replace HB:=zP w hb;have qu:=HB.size);go_ret;exact ⟨rfl,HB⟩
  ·have hc:=Tt fh qB;rw [hl] at hc;have lf:(lim d (n-1) != 0)=r:=by
    have:Lf g d↔Dy d:=⟨fun h=>h.1,fun h=>⟨h,fun e=>by rw [e] at hl;simp at hl;omega⟩⟩;rw [this,hc] at hr
    cases r<;>simp_all
   have KF:=Ae BM;clear BM hr hl fh hc;obtain ⟨b,o,rfl,c1⟩:=(hd.at' (i:=n-1) qB);have c2:=fun (W:World) (h:xp w W)=>Bb h c1
   have C2:=Ae c2;clear c2 c1;have hpn:0<n:=hp;have nc:=Ae lf;clear lf;go_enter func214,ntmps214;go_wp2_with fail;refine (I0 _ _ _ _ d (hd.keep qD) false KF.out).mono ?_;rintro e w1 ⟨rfl,hb⟩;obtain ⟨hc,hf⟩:=Bg hb;have hz:=hb.size;replace HB:=zP w hb;have c1:=C2.out w1 HB;have qv:((n:Int)-1).toNat=n-1:=qB;go_wp2_with fail;go_ret;exact ⟨by rw [nc.out];rfl,HB⟩
 ·have BM:Big n d↔true=true:=by rw [Jq hl];simpa using fh
  have hrf:r=false:=by
   cases r
   ·rfl
   ·exact absurd (hr.2 rfl).1.1 fh
  subst hrf;have KF:=Ae BM;clear BM hr hl fh;go_enter func214,ntmps214;go_wp2_with (go_at_call 247;refine (I0 _ _ _ _ d (hd.keep qD) true KF.out).mono ?_;rintro e w' ⟨rfl,hb⟩;obtain ⟨hc,hf⟩:=Bg hb;have hz:=hb.size;replace HB:=zP w hb;have qu:=HB.size);go_ret;exact ⟨rfl,HB⟩
end Go.Proofs.YtfijkfdfbnfmmaaGreatDoor
end
