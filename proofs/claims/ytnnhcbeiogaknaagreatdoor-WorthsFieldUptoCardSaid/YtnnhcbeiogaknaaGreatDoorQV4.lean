/- Decimal digits of a number given by its parts. -/
import Derived.Test.YtnnhcbeiogaknaaGreatDoorQV3
set_option linter.unusedSimpArgs false
set_option linter.unusedVariables false
set_option maxRecDepth 100000
set_option maxHeartbeats 4000000
section
namespace Go.Proofs.YtnnhcbeiogaknaaGreatDoor
def Zz:Nat→Nat→List UInt8
 | 0,_=>[]
 | k+1,x=>Zz k (x/10)++[UInt8.ofNat (48+x%10)]
theorem Uk (k:Nat):∀hi x:Nat,0<hi→x<10 ^ k→Lib.decDigits (hi*10 ^ k+x)=Lib.decDigits hi++Zz k x:=by
 induction k with
 | zero =>
  intro hi x _ hx;have:x=0:=by simpa using hx
  simp [this,Zz]
 | succ k ih =>
  intro hi x hh hx;have h1:10 ^ (k+1)=10 ^ k*10:=Nat.pow_succ ..;have h2:hi*10 ^ (k+1)=hi*10 ^ k*10:=by rw [h1,Nat.mul_assoc]
  have h3:0<hi*10 ^ k:=Nat.mul_pos hh (Nat.pow_pos qA);have h4:¬hi*10 ^ (k+1)+x<10:=by omega
  rw [Lib.decDigits,dif_neg h4];have h5:(hi*10 ^ (k+1)+x)/10=hi*10 ^ k+x/10:=by omega
  have h6:(hi*10 ^ (k+1)+x)%10=x%10:=by omega
  rw [h5,h6,ih hi (x/10) hh qA,Zz,List.append_assoc]
theorem Rf (k:Nat):∀x:Nat,x<10 ^ (k+1)→Zz (k+1) x=List.replicate (k+1-(Lib.decDigits x).length) 48++Lib.decDigits x∧(Lib.decDigits x).length≤k+1:=by
 induction k with
 | zero =>
  intro x hx;have hx:x<10:=by simpa using hx
  rw [Lib.decDigits,dif_pos hx];simp [Zz,Nat.mod_eq_of_lt hx]
 | succ k ih =>
  intro x hx;have h1:10 ^ (k+1+1)=10 ^ (k+1)*10:=Nat.pow_succ ..;obtain ⟨h2,h3⟩:=ih (x/10) qA;rw [Zz,h2];by_cases h:x<10
  ·rw [Lib.decDigits,dif_pos (by omega:x/10<10),Lib.decDigits,dif_pos h];have h0:x/10=0:=by omega
   rw [h0,Nat.mod_eq_of_lt h];refine ⟨?_,by simp⟩;simp only [List.length_cons,List.length_nil,Nat.zero_add,Nat.add_sub_cancel];rw [List.replicate_succ'];rfl
  ·have e:Lib.decDigits x=Lib.decDigits (x/10)++[UInt8.ofNat (48+x%10)]:=by rw [Lib.decDigits,dif_neg h]
   rw [e];simp only [A9,List.length_cons,List.length_nil,Nat.zero_add];refine ⟨?_,by omega⟩;rw [List.append_assoc,show k+1+1-((Lib.decDigits (x/10)).length+1)=k+1-(Lib.decDigits (x/10)).length by omega]
theorem Kh (c:Nat):Lib.repeatL [48] c=List.replicate c 48:=by
 induction c with
 | zero=>rfl
 | succ c ih=>rw [Lib.repeatL,ih];rfl
def tx (l:Ξ):List UInt8:=if l=[] then [] else Lib.decDigits (val l)
theorem mK:tx []=[]:=rfl
theorem zP (x:Nat):tx [x]=Lib.decDigits x:=by
 rw [tx,if_neg qG,val,val,Nat.mul_zero,Nat.add_zero]
theorem vW {x:Nat} (hx:x<1000000000):(Lib.decDigits x).length≤9:=(Rf 8 x hx).2
theorem wH (x:Nat) (l:Ξ) (hx:x<1000000000) (hl:l≠[]) (hv:0<val l):tx (x::l)=tx l++(Lib.repeatL [48] (9-(Lib.decDigits x).length)++Lib.decDigits x):=by
 rw [tx,if_neg qG,tx,if_neg hl,val,Kh,←(Rf 8 x hx).1,←Uk 9 (val l) x hv hx]
 congr 1
 rw [Nat.add_comm,Nat.mul_comm]
theorem Aco (n:Nat) (h:0<n):tx (dg n)=Lib.decDigits n:=by
 have h1:=Bq n;rw [tx,if_neg,h1];intro e;rw [e,val] at h1;omega
theorem bR {d:Ξ} (h:Er d):∀j,Er (d.drop j):=by
 intro j
 induction j generalizing d with
 | zero=>simpa using h
 | succ j ih =>
  cases d with
  | nil=>simpa using h
  | cons x d=>exact ih h.tail
theorem oJ {d:Ξ} {j:Nat} (h:j<d.length):d.drop j=(lim d j).toNat::d.drop (j+1):=by
 rw [List.drop_eq_getElem_cons h]
 congr 1
 simp [lim,List.getD,h]
theorem Xa:∀(l:Ξ) (j y:Nat),j<l.length→val (l.set j y)+1000000000 ^ j*l.getD j 0=val l+1000000000 ^ j*y
 | [],j,y,h=>by simp at h
 | x::l,0,y,_=>by simp [val];omega
 | x::l,j+1,y,h=>by
  have ih:=Xa l j y (by simpa using h);simp only [Aw,val,List.getD_cons_succ,Nat.pow_succ];have e1:1000000000 ^ j*1000000000*l.getD j 0=1000000000*(1000000000 ^ j*l.getD j 0):=by rw [Nat.mul_comm (1000000000 ^ j) 1000000000,Nat.mul_assoc]
  have e2:1000000000 ^ j*1000000000*y=1000000000*(1000000000 ^ j*y):=by rw [Nat.mul_comm (1000000000 ^ j) 1000000000,Nat.mul_assoc]
  rw [e1,e2];omega
theorem mT {l:Ξ} {j on V W t x y:Nat} (hj:j<l.length) (h:val l+1000000000 ^ j*on=V+W) (ht:t=on+x*y+l.getD j 0) :
  val (l.set j (t%1000000000))+1000000000 ^ (j+1)*(t/1000000000)=V+(W+1000000000 ^ j*(x*y)):=by
 have h1:=Xa l j (t%1000000000) hj;have h2:=Nat.mod_add_div t 1000000000;have h3:1000000000 ^ j*t=1000000000 ^ j*(t%1000000000)+1000000000 ^ (j+1)*(t/1000000000):=by
  rw [Nat.pow_succ,Nat.mul_assoc,←Nat.mul_add,h2]
 have h4:1000000000 ^ j*t=1000000000 ^ j*on+1000000000 ^ j*(x*y)+1000000000 ^ j*l.getD j 0:=by rw [ht,Nat.mul_add,Nat.mul_add]
 omega
theorem rP {l:Ξ} {j on V W:Nat} (hj:j<l.length) (h:val l+1000000000 ^ j*on=V+W) (hz:l.getD j 0=0) :
  val (l.set j on)=V+W:=by
 have h1:=Xa l j on hj;rw [hz] at h1;omega
theorem U1 {x y u on:Nat} (hx:x<1000000000) (hy:y<1000000000) (hu:u<1000000000) (ho:on<1000000000):on+x*y+u<1000000000*1000000000:=by
 have h:=Nat.mul_le_mul (show x≤999999999 by omega) (show y≤999999999 by omega);omega
structure Iv (da db:Ξ) (i k on:Nat) (l:Ξ):Prop where
 len:l.length=da.length+db.length
 lt:∀x∈l,x<1000000000
 zero:∀j,i+db.length≤j→l.getD j 0=0
 few:on<1000000000
 eq:val l+1000000000 ^ (i+k)*on=val (da.take i)*val db+da.getD i 0*(1000000000 ^ i*val (db.take k))
theorem Uf (m:Nat):val (List.replicate m 0)=0:=Vg _ (fun x hx=>(List.mem_replicate.1 hx).2)
theorem Iv.start (da db:Ξ):Iv da db 0 0 0 (List.replicate (da.length+db.length) 0) where
 len:=by simp
 lt _ hx:=by rw [(List.mem_replicate.1 hx).2];omega
 zero j _:=by simp only [List.getD,List.getElem?_replicate];split<;>rfl
 few:=by omega
 eq:=by rw [Uf,List.take_zero,List.take_zero,show val []=0 from rfl,Nat.mul_zero,Nat.mul_zero,Nat.zero_mul]
theorem Hz {l:Ξ} {j j' y:Nat} (h:j≠j'):(l.set j y).getD j' 0=l.getD j' 0:=by
 simp only [List.getD,List.getElem?_set_ne h]
theorem Nm {l:Ξ} {j y:Nat} (h:∀x∈l,x<1000000000) (hy:y<1000000000):∀x∈l.set j y,x<1000000000:=by
 intro x hx;rcases List.mem_or_eq_of_mem_set hx with hx|rfl
 ·exact h x hx
 ·exact hy
theorem Iv.step {da db:Ξ} {i k on:Nat} {l:Ξ} (h:Iv da db i k on l) (ha:∀x∈da,x<1000000000) (hb:∀x∈db,x<1000000000) (hi:i<da.length) (hk:k<db.length) {t:Nat} (ht:t=on+da.getD i 0*db.getD k 0+l.getD (i+k) 0) :
  Iv da db i (k+1) (t/1000000000) (l.set (i+k) (t%1000000000)) where
 len:=by rw [List.length_set];exact h.len
 lt:=Nm h.lt qA
 zero j hj:=by rw [Hz qA];exact h.zero j hj
 few:=by
  have:=U1 (E7 ha i) (E7 hb k) (E7 h.lt (i+k)) h.few;rw [←ht] at this;exact Nat.div_lt_of_lt_mul this
 eq:=by
  have hlen:=h.len;have:=mT (j:=i+k) qA h.eq ht;rw [Mv db k,show i+(k+1)=i+k+1 from rfl,this,Nat.mul_add,Nat.mul_add,Nat.pow_add];have e:1000000000 ^ i*1000000000 ^ k*(da.getD i 0*db.getD k 0)=da.getD i 0*(1000000000 ^ i*(1000000000 ^ k*db.getD k 0)):=by
   rw [Nat.mul_left_comm,Nat.mul_assoc]
  rw [e]
theorem Iv.next {da db:Ξ} {i on:Nat} {l:Ξ} (h:Iv da db i db.length on l) (hi:i<da.length) :
  Iv da db (i+1) 0 0 (l.set (i+db.length) on) where
 len:=by rw [List.length_set];exact h.len
 lt:=Nm h.lt h.few
 zero j hj:=by rw [Hz qA];exact h.zero j qA
 few:=by omega
 eq:=by
  have hlen:=h.len;have:=rP (j:=i+db.length) qA h.eq (h.zero _ (Ad _));rw [List.take_length] at this;rw [Nat.mul_zero,Nat.add_zero,List.take_zero,show val []=0 from rfl,Nat.mul_zero,Nat.mul_zero,Nat.add_zero,this,Mv da i,Nat.add_mul,Nat.mul_comm (1000000000 ^ i) (da.getD i 0),Nat.mul_assoc]
theorem Iv.done {da db:Ξ} {l:Ξ} (h:Iv da db da.length 0 0 l):val l=val da*val db:=by
 have:=h.eq;rw [List.take_length,List.take_zero,show val []=0 from rfl,Nat.mul_zero,Nat.mul_zero,Nat.mul_zero,Nat.add_zero,Nat.add_zero] at this;exact this
theorem vS {g g':Bool} {z z':Int} (h:g=decide (z<0)) (h':g'=decide (z'<0)):sgn (g != g') (val (dg z.natAbs)*val (dg z'.natAbs))=z*z':=by
 rw [Bq,Bq];have e:∀x:Int,x=sgn (decide (x<0)) x.natAbs:=by
  intro x;unfold sgn;by_cases k:x<0
  ·rw [decide_eq_true k];simp;omega
  ·rw [decide_eq_false k];simp;omega
 have e1:=e z;have e2:=e z';rw [←h] at e1;rw [←h'] at e2;generalize z.natAbs=A at *;generalize z'.natAbs=B at *;rw [e1,e2];clear h h' e1 e2
 cases g<;>cases g'<;>simp [sgn,Int.neg_mul,Int.mul_neg]
end Go.Proofs.YtnnhcbeiogaknaaGreatDoor
end
section
namespace Go.Proofs.YtnnhcbeiogaknaaGreatDoor
open Go.RowKit
theorem Kx (m:Nat):C7 (List.replicate m 0)=List.replicate m (.int .u32 0):=by simp [C7]
theorem Oz {l:Ξ} {j:Nat} (h:j<l.length):(C7 l)[j]? = some (.int .u32 ((l.getD j 0:Nat):Int)):=by simp [C7,List.getD,h]
theorem Rz (l:Ξ) (j y:Nat):C7 (l.set j y)=(C7 l).set j (.int .u32 y):=by simp [C7,List.map_set]
theorem Za (w:World) (g:Bool) (a:Γ) (n c:Nat) (z:Int) (h:Bh w g a n c z) (g':Bool) (a':Γ) (n' c':Nat) (z':Int) (h':Bh w g' a' n' c' z')
  (hb1:n≤17592186044416) (hb2:n'≤17592186044416) :
  Θ 96 #[.agg #[.bool g,.slice a n c],.agg #[.bool g',.slice a' n' c']] w (Fc w (z*z')):=by
 obtain ⟨i0,hi,hz0,hz1,hz2⟩:=info_parts I1;have HB:=Ac w.heap.size w;have hlx:=Ae h.rd.len;have hly:=Ae h'.rd.len;go_enter Tryz.func96,Tryz.ntmps96;go_wp2_with fail;go_region_held3 (fun W=>W.cell? ⟨w.heap.size,0,none⟩=some (.bool g)∧W.cell? ⟨w.heap.size,1,none⟩=some (.slice a n c)∧W.cell? ⟨w.heap.size+1,0,none⟩=some (.bool g')∧W.cell? ⟨w.heap.size+1,1,none⟩=some (.slice a' n' c')) (first|((try dsimp only);(repeat' apply Ay);all_goals (first|(with_reducible assumption)|(go_keep;done)|(simp [*,go_sem];done)))) (first
  | (go_at_call 125;(with_reducible refine (In _ g a n c z (h.keep qF)).mono ?_);rintro e w1 ⟨rfl,hb⟩;obtain ⟨hc,hf⟩:=Bl hb;have hz:=hb.size;(try simp only [Aj,Ak] at hz);replace HB:=zI w hb;obtain ⟨s0_0,s0_1⟩:=qZ hc (w.heap.size) (.bool g) (.slice a n c);obtain ⟨s1_0,s1_1⟩:=qZ hc (w.heap.size+1) (.bool g') (.slice a' n' c');obtain ⟨s2_0,s2_1⟩:=zE hc (w.heap.size+1+1);obtain ⟨f2_0,f2_1⟩:=zF hf (w.heap.size+1+1);obtain ⟨f0_0,f0_1⟩:=zF hf (w.heap.size);obtain ⟨f1_0,f1_1⟩:=zF hf (w.heap.size+1))
  | (go_at_call 125;(with_reducible refine (In _ g' a' n' c' z' (h'.keep qF)).mono ?_);rintro e w1 ⟨rfl,hb⟩;obtain ⟨hc,hf⟩:=Bl hb;have hz:=hb.size;(try simp only [Aj,Ak] at hz);replace HB:=zI w hb;obtain ⟨s0_0,s0_1⟩:=qZ hc (w.heap.size) (.bool g) (.slice a n c);obtain ⟨s1_0,s1_1⟩:=qZ hc (w.heap.size+1) (.bool g') (.slice a' n' c');obtain ⟨s2_0,s2_1⟩:=zE hc (w.heap.size+1+1);obtain ⟨f2_0,f2_1⟩:=zF hf (w.heap.size+1+1);obtain ⟨f0_0,f0_1⟩:=zF hf (w.heap.size);obtain ⟨f1_0,f1_1⟩:=zF hf (w.heap.size+1)))
 replace HB:Below w.heap.size w ((((w1.setCell ⟨w.heap.size,0,none⟩ (.bool g)).setCell ⟨w.heap.size,1,none⟩ (.slice a n c)).setCell ⟨w.heap.size+1,0,none⟩ (.bool g')).setCell ⟨w.heap.size+1,1,none⟩ (.slice a' n' c')):=by go_grown
 obtain ⟨w2,hw2⟩:∃w2,w2=((((w1.setCell ⟨w.heap.size,0,none⟩ (.bool g)).setCell ⟨w.heap.size,1,none⟩ (.slice a n c)).setCell ⟨w.heap.size+1,0,none⟩ (.bool g')).setCell ⟨w.heap.size+1,1,none⟩ (.slice a' n' c')):=⟨_,rfl⟩;rw [←hw2] at HB ⊢;have u0:w2.cell? ⟨w.heap.size,0,none⟩=some (.bool g):=by rw [hw2];simp [*,go_sem]
 have u1:w2.cell? ⟨w.heap.size,1,none⟩=some (.slice a n c):=by rw [hw2];simp [*,go_sem]
 have u2:w2.cell? ⟨w.heap.size+1,0,none⟩=some (.bool g'):=by rw [hw2];simp [*,go_sem]
 have u3:w2.cell? ⟨w.heap.size+1,1,none⟩=some (.slice a' n' c'):=by rw [hw2];simp [*,go_sem]
 have u4:w2.cell? ⟨w.heap.size+1+1,0,none⟩=some (.bool false):=by rw [hw2];simp [*,go_sem]
 have u5:w2.cell? ⟨w.heap.size+1+1,1,none⟩=some (.slice none 0 0):=by rw [hw2];simp [*,go_sem]
 have v4:w2.frozen? ⟨w.heap.size+1+1,0,none⟩=false:=by rw [hw2];simp [*,go_sem]
 have v5:w2.frozen? ⟨w.heap.size+1+1,1,none⟩=false:=by rw [hw2];simp [*,go_sem]
 have hk2:w.heap.size+1+1<w2.heap.size:=Aa w2 _ u4;clear hw2 s0_0 s0_1 s1_0 s1_1 s2_0 s2_1 f2_0 f2_1 f0_0 f0_1 f1_0 f1_1 hz hc hf hb;go_wp2_with (refine wpList_make_full _ rfl _ _ 30 rfl w2.heap.size 147 i0 (.int .u32 0) 1 Tryz.underlying30 hi hz0 hz1 .i64 .i64 _ _ (n+n') rfl rfl rfl (by first|rfl|simp) (by rw [hz2];omega) qO (Ad _) ?_;intro w3 hown3 hgrow3;have HB3:Below w2.heap.size w2 w3:=(Ac _ _).grown hgrow3 (Ad _) (fun k h=>(by cases h));have t1:=Bc HB3 u1;have t3:=Bc HB3 u3);have HB3:Below w2.heap.size w2 w3:=(Ac _ _).grown hgrow3 (Ad _) (fun k h=>by cases h);rw [Nat.mul_one,show Value.cells (.int .u32 0)=#[.int .u32 0] from rfl,toList_madeCells_one] at hown3;clear hgrow3 t1 t3;have HLT:=Ae (Ew z.natAbs);have HLT':=Ae (Ew z'.natAbs);go_loopw [26] (fun v26 wr=>∃(i:Nat) (l:Ξ),i≤n∧v26=.int .i64 i∧Hid (Iv (dg z.natAbs) (dg z'.natAbs) i 0 0 l) ∧
   wr.ownsRow w2.heap.size 147 1 (.slice (some ⟨w2.heap.size,0,none⟩) (n+n') (n+n')) (n+n') (C7 l)∧Below w2.heap.size w2 wr) (fun v26 _=>n-(intOf v26).toNat)
 case atStart =>
  refine ⟨0,List.replicate (n+n') 0,Ba _,rfl,Ae ?_,?_,HB3⟩
  ·have:=Iv.start (dg z.natAbs) (dg z'.natAbs);rw [hlx.out,hly.out] at this;exact this
  ·rw [Kx];exact hown3
 case round =>
  obtain ⟨i,l,hik,rfl,HM,hown,hBr⟩:=hrel;have HBr:Below w.heap.size w wr:=HB.trans (hBr.mono HB.size);have HBz:=hBr.size;have hlt1:=(hown.lt w2.heap.size rfl).2;have t0:=Bc hBr u0;have t1:=Bc hBr u1;have t2:=Bc hBr u2;have t3:=Bc hBr u3;have t4:=Bc hBr u4;have t5:=Bc hBr u5;by_cases hlt:i<n
  ·obtain ⟨b,o,rfl,c1⟩:=(h.rd.keep HBr).at' hlt;obtain ⟨x,hx⟩:∃x:Nat,x=(dg z.natAbs).getD i 0:=⟨_,rfl⟩;rw [Fr,←hx] at c1;have hxl:x<1000000000:=by rw [hx];exact E7 HLT.out i
   have HX:=Ae hx;clear hx;go_wp2_with fail;go_loopw [8,34] (fun v8 v34 wi=>∃(k on:Nat) (l:Ξ),k≤n'∧v34=.int .i64 k∧v8=.int .u64 on∧on<1000000000∧Hid (Iv (dg z.natAbs) (dg z'.natAbs) i k on l) ∧
     wi.ownsRow w2.heap.size 147 1 (.slice (some ⟨w2.heap.size,0,none⟩) (n+n') (n+n')) (n+n') (C7 l)∧Below w2.heap.size w2 wi) (fun _ v34 _=>n'-(intOf v34).toNat)
   case atStart=>exact ⟨0,0,l,Ba _,rfl,rfl,by omega,HM,hown,hBr⟩
   case round =>
    clear hown hBr HBr HBz hlt1 t0 t1 t2 t3 t4 t5;obtain ⟨k,on,l1,hkk,rfl,rfl,hon,HM1,hown,hBr⟩:=hrel;have HBr:Below w.heap.size w wr:=HB.trans (hBr.mono HB.size);have HBz:=hBr.size;have hlt1:=(hown.lt w2.heap.size rfl).2;have t3:=Bc hBr u3;by_cases hkt:k<n'
    ·obtain ⟨b',o',rfl,c2⟩:=(h'.rd.keep HBr).at' hkt;obtain ⟨y,hy⟩:∃y:Nat,y=(dg z'.natAbs).getD k 0:=⟨_,rfl⟩;rw [Fr,←hy] at c2;have hyl:y<1000000000:=by rw [hy];exact E7 HLT'.out k
     have hlen:=HM1.out.len;rw [hlx.out,hly.out] at hlen;have hcell:=hown.cellAt (i+k) qA;rw [Oz qA] at hcell;have hfr:=hown.frozenAt (i+k);obtain ⟨u,hu⟩:∃u:Nat,u=l1.getD (i+k) 0:=⟨_,rfl⟩;have hul:u<1000000000:=by rw [hu];exact E7 HM1.out.lt _
     rw [←hu] at hcell;obtain ⟨t,ht⟩:∃t:Nat,t=on+x*y+u:=⟨_,rfl⟩;have hst:=Ae (HM1.out.step HLT.out HLT'.out (by rw [hlx.out];exact hlt) (by rw [hly.out];exact hkt) (show t=on+(dg z.natAbs).getD i 0*(dg z'.natAbs).getD k 0+l1.getD (i+k) 0 by rw [ht,HX.out,hy,hu]));have htl:=U1 hxl hyl hul hon;rw [←ht] at htl;have hq:((on:Int)+((x:Int)*(y:Int)+(u:Int)))=(t:Int):=by rw [ht];simp [Int.add_assoc]
     have hxy0:(0:Int)≤(x:Int)*(y:Int):=Int.mul_nonneg qA qA;have hij:((i:Int)+(k:Int)).toNat=i+k:=by omega
     have HQ:=Ae hq;have hxy1:(x:Int)*(y:Int)+(u:Int)+(on:Int)<1000000000000000000:=by omega
     have hm0:0≤((on:Int)+((x:Int)*(y:Int)+(u:Int)))%1000000000:=by omega
     have hm1:((on:Int)+((x:Int)*(y:Int)+(u:Int)))%1000000000<1000000000:=by omega
     have hd0:0≤((on:Int)+((x:Int)*(y:Int)+(u:Int)))/1000000000:=by omega
     have hd1:((on:Int)+((x:Int)*(y:Int)+(u:Int)))/1000000000<1000000000:=by omega
     have HST:=Ae (hown.stored (i+k) (.int .u32 (((on:Int)+((x:Int)*(y:Int)+(u:Int)))%1000000000))).1;clear hu hy ht hq hlen htl;go_wp2_with fail;go_roundw
     case rel =>
      refine ⟨k+1,t/1000000000,l1.set (i+k) (t%1000000000),by omega,by go_num,by rw [HQ.out];simp,?_,hst,?_,by go_grown⟩
      ·exact hst.out.few
      ·rw [Rz];have:=HST.out;rw [HQ.out] at this ⊢;simpa using this
     case measure=>(first|(simp [intOf];omega)|(simp [intOf];done))
    ·obtain rfl:k=n':=by omega
     have hlen:=HM1.out.len;rw [hlx.out,hly.out] at hlen;have hcell:=hown.cellAt (i+k) qA;rw [Oz qA] at hcell;have hfr:=hown.frozenAt (i+k);have hst:Hid (Iv (dg z.natAbs) (dg z'.natAbs) (i+1) 0 0 (l1.set (i+k) on)):=by
      have h1:=HM1.out;have h2:=hly.out;subst h2;exact Ae (h1.next (by rw [hlx.out];exact hlt))
     have hij:((i:Int)+(k:Int)).toNat=i+k:=by omega
     have HST:=Ae (hown.stored (i+k) (.int .u32 (on:Int))).1;clear hlen;go_wp2_with fail;go_roundw
     case rel =>
      refine ⟨i+1,l1.set (i+k) on,by omega,by go_num,hst,?_,by go_grown⟩;rw [Rz];exact HST.out
     case measure=>(first|(simp [intOf];omega)|(simp [intOf];done))
  ·obtain rfl:i=n:=by omega
   have hst:=HM.out;have h2:=hlx.out;have hrd:=Fz hown qA (fun j=>Dw (fun x hx=>by have:=hst.lt x hx;omega) j);have hfr:=Bg.of_owns hown;have hval:sgn (!(g==g')) (val l)=z*z':=by
    subst h2;rw [hst.done];exact vS h.neg h'.neg
   have HV:=Ae hval;clear hval h2;go_wp2_with fail;refine (E9 _ _ _ _ _ l hrd hst.lt).mono ?_;rintro e w5 ⟨g3,n3,rfl,hn3,hnum,hb⟩;have q4:=Bc hb t4;have q5:=Bc hb t5;have q6:w5.frozen? ⟨w.heap.size+1+1,0,none⟩=false:=(hb.frozen (by show w.heap.size+1+1<_;omega)).trans ((hBr.frozen (by show w.heap.size+1+1<_;omega)).trans v4);have q7:w5.frozen? ⟨w.heap.size+1+1,1,none⟩=false:=(hb.frozen (by show w.heap.size+1+1<_;omega)).trans ((hBr.frozen (by show w.heap.size+1+1<_;omega)).trans v5);have hfr5:Bg (w.heap.size+1+1+1) w5 (some ⟨w2.heap.size,0,none⟩) n3:=((hfr.keep hb).less qA).mono qA;have hz5:=hb.size;rw [HV.out] at hnum;have HB5:Below w.heap.size w w5:=HBr.trans (hb.mono HBr.size);go_wp2_with fail;refine bodyPost_ret (v:=.agg #[.bool g3,.slice (some ⟨w2.heap.size,0,none⟩) n3 n3]) (by simp [results,Tryz.results96,go_sem,q4,q5]) rfl ?_;refine ⟨g3,_,n3,n3,rfl,?_,?_,by go_grown⟩
   ·exact qEb
   ·exact qEc
theorem Zt (w:World) (M:Int) (m:Nat) (hM:M=m) (c1 c2:Value) (D:Nat→Int) (hm:m≤35184372088832)
  (hD:∀i,i<m→-4000000000000000000≤D i∧D i≤4000000000000000000)
  (hcall:∀(i:Nat) (W:World),i<m→Below w.heap.size w W→Θ 306 #[.int .i64 i,c1,c2] W fun e W'=>e=.returned (.int .i64 (D i))∧Below W.heap.size W W') :
  Θ 230 #[.int .i64 M,.func (.func 306) #[] #[c1,c2]] w (Je w m D):=by
 subst hM;exact jS w m c1 c2 D hm hD hcall
theorem uL (w:World) (A B:Nat) (a:Γ) (n c:Nat) (d:Ξ) (by':Nat) (hb:by'<1000000000) (i:Nat) (hd:RdL w a n c d) (hlt:lim d i<1000000000)
  (h1:w.cell? ⟨A,0,none⟩=some (.slice a n c)) (h2:w.cell? ⟨B,0,none⟩=some (.int .u32 by')) :
  Θ 306 #[.int .i64 i,.pointer (some ⟨A,0,none⟩),.pointer (some ⟨B,0,none⟩)] w fun e w'=>e=.returned (.int .i64 (lim d i*by'))∧Below w.heap.size w w':=by
 have hs:=hd.small i;have h0:0≤lim d i*(by':Int):=Int.mul_nonneg hs.1 qA;have h1':lim d i*(by':Int)≤999999999*999999999:=Int.mul_le_mul qA qA qA qA;go_enter Tryz.func306,Tryz.ntmps306;go_wp2;go_quiet ((first|(go_at_call 232;first|exact Ga (He _ _ _ _ d i (hd.keep (Bu _ (Ac _ _))))|exact E8 (He _ _ _ _ d i (hd.keep (Bu _ (Ac _ _)))))));exact qDm
theorem tM (d:Ξ) (k m:Nat) (h:d.length≤m):Cz (fun i=>lim d i*(k:Int)) m=((val d*k:Nat):Int):=by
 have e:Cz (fun i=>lim d i*(k:Int)) m=Cz (fun i=>(k:Int)*(fun i=>lim d i) i) m:=Nk (fun i _=>Int.mul_comm _ _);rw [e,Rn (fun i=>lim d i),show Cz (fun i=>lim d i) m=val d from Gm d m h];simp [Int.mul_comm]
def vJ (w:World) (n N:Nat) (e:Ending) (w':World):Prop :=
 ∃a,e=.returned (.slice a (n+1) (n+1))∧RdL w' a (n+1) (n+1) (fx (n+1) N)∧N<1000000000 ^ (n+1)∧Bg w.heap.size w' a (n+1)∧Below w.heap.size w w'
theorem dE (w:World) (a:Γ) (n c:Nat) (d:Ξ) (by':Nat) (hd:RdL w a n c d) (hlt:∀x∈d,x<1000000000) (hb:by'<1000000000) (hn:n<35184372088832) :
  Θ 261 #[.slice a n c,.int .u32 by'] w (vJ w n (val d*by')):=by
 have HB:=Ac w.heap.size w;have hlen:=hd.len;have HDD:Hid (∀i,i<n+1→-4000000000000000000≤(fun i=>lim d i*(by':Int)) i∧(fun i=>lim d i*(by':Int)) i≤4000000000000000000):=Ae (by
  intro i _;have hs:=hd.small i;have h0:0≤lim d i*(by':Int):=Int.mul_nonneg hs.1 qA;have h1':lim d i*(by':Int)≤999999999*999999999:=Int.mul_le_mul (by have:=Ma hlt i;omega) qA qA qA;show -4000000000000000000≤lim d i*(by':Int)∧lim d i*(by':Int)≤4000000000000000000
  omega)
 have HL:=Ae hlt;have HN:Hid (val d*by'<1000000000 ^ (n+1)):=Ae (by
  have h1:=Ez d hlt;rw [hlen] at h1;rw [Nat.pow_succ];exact Nat.mul_lt_mul'' h1 hb)
 clear hlt;go_enter Tryz.func261,Tryz.ntmps261;go_wp2_with fail;refine (Zt _ _ (n+1) qA _ _ (fun i=>lim d i*(by':Int)) qA HDD.out (fun i W hi hW=>uL W w.heap.size (w.heap.size+1) a n c d by' hb i (hd.keep (Al qF (hW.mono qB))) (by have:=Ma HL.out i;omega) (Bc hW qL) (Bc hW qL))).mono ?_;rintro e w4 ⟨ac,rfl,hr,hfr,hb4⟩;have HB4:=zI w hb4;rw [tM d by' (n+1) qA,fG] at hr;have hfr2:Bg w.heap.size w4 ac (n+1):=hfr.mono qB;go_wp2_with fail;go_ret;exact ⟨ac,rfl,hr,HN.out,hfr2,HB4⟩
@[go_sem ↓] theorem Ab4 (w:World) (g:Bool) (a:Γ) (n c:Nat):(Instr.field 32 (.agg #[.bool g,.slice a n c]) 1).run Tryz.prog w=.ok (.slice a n c) w:=by kernel_rfl
theorem wY (w:World) (a:Γ) (n c:Nat) (d:Ξ) (a':Γ) (n' c':Nat) (d':Ξ) (k:Nat) (hd:RdL w a n c d) (hd':RdL w a' n' c' d') (hlt:∀x∈d,x<1000000000) (hlt':∀x∈d',x<1000000000)
  (hk:k<1000000000) (hn':n'<35184372088832) :
  Θ 263 #[.slice a n c,.slice a' n' c',.int .u64 k] w fun e w'=>e=.returned (.bool (decide (val d<val d'*k)))∧Below w.heap.size w w':=by
 have HB:=Ac w.heap.size w;have HL:=Ae hlt;have HL':=Ae hlt';clear hlt hlt';go_enter Tryz.func263,Tryz.ntmps263;go_wp2_with fail;refine (Ml _ _ _ _ d hd).mono ?_;rintro e w1 ⟨a1,c1,rfl,hr1,hf1,hb1⟩;have HB1:=zI w hb1;go_wp2_with fail;refine (E9 _ _ _ _ _ d hr1 HL.out).mono ?_;rintro e w2 ⟨g2,n2,rfl,hn2,hnum2,hb2⟩;have HB2:Below w.heap.size w w2:=Al HB1 (hb2.mono HB1.size);go_wp2_with fail;refine (dE _ _ _ _ d' k (hd'.keep HB2) HL'.out hk hn').mono ?_;rintro e w3 ⟨a3,rfl,hr3,hN,hf3,hb3⟩;have HB3:Below w.heap.size w w3:=Al HB2 (hb3.mono HB2.size);have HN:=Ae (Pq _ _ hN);clear hN;go_wp2_with fail;refine (E9 _ _ _ _ _ _ hr3 (rL _ _)).mono ?_;rintro e w4 ⟨g4,n4,rfl,hn4,hnum4,hb4⟩;have HB4:Below w.heap.size w w4:=Al HB3 (hb4.mono HB3.size);have hr2:=(hnum2.rd.keep hb3).keep hb4;rw [Hs] at hr2;have hr4:=hnum4.rd;rw [Hs,HN.out] at hr4;clear hnum2 hnum4;go_wp2_with fail;refine (Es _ _ _ _ _ _ _ _ _ hr2 hr4 (Ch _) (Ch _)).mono ?_;rintro e w5 ⟨rfl,hb5⟩;have HB5:Below w.heap.size w w5:=Al HB4 (hb5.mono HB4.size);rw [Bq,Bq];have hr:∀x y:Nat,decide (Bz (x:Int) (y:Int)<0)=decide (x<y):=by
  intro x y;unfold Bz;rcases Nat.lt_trichotomy x y with h|h|h
  ·rw [if_pos qA];simp [h]
  ·rw [h,if_neg qA,if_pos rfl];simp
  ·rw [if_neg qA,if_neg qA];simp;omega
 replace hr:=hr (val d) (val d'*k);rw [Int.natCast_mul] at hr;have HR:=Ae hr;clear hr;go_wp2_with fail;go_ret;exact ⟨congrArg (fun b=>Ending.returned (.bool b)) HR.out,HB5⟩
theorem Vx (W:World) (g o n c k:Nat) (hk:k≤c):(Instr.sliceAt 30 (.slice (some ⟨g,o,none⟩) n c) none (some (.int .i64 (k:Int))) none).run Tryz.prog W=.ok (.slice (some ⟨g,o,none⟩) k c) W:=by
 exact qBg
theorem uK (W:World) (g o n c i k:Nat) (hi:i≤k) (hk:k≤c) (hc:i<c):(Instr.sliceAt 30 (.slice (some ⟨g,o,none⟩) n c) (some (.int .i64 (i:Int))) (some (.int .i64 (k:Int))) none).run Tryz.prog W=.ok (.slice (some ⟨g,o+i,none⟩) (k-i) (c-i)) W:=by
 have h0:(0:Int)≤(k:Int):=by omega
 have h3:(0:Int)≤(i:Int):=by omega
 have h4:c≠i:=by omega
 simp [Instr.sliceAt,Instr.slice,Instr.sliceBounds,Instr.sliceBound,go_sem,h0,h3,h4,hk,hi]
theorem RdL.front {w:World} {a:Γ} {n c:Nat} {d:Ξ} (h:RdL w a n c d) {k:Nat} (hk:k≤n):RdL w a k c (d.take k):=by
 have hl:=h.len;refine ⟨by rw [List.length_take];omega,Ah hk h.cap,Ah hk h.few,h.top,fun i=>?_,?_⟩
 ·rcases Nat.lt_or_ge i k with h1|h1
  ·have:lim (d.take k) i=lim d i:=by simp [lim,List.getD,List.getElem?_take,h1]
   rw [this];exact h.small i
  ·have:lim (d.take k) i=0:=by simp [lim,List.getD,List.getElem?_take,Nat.not_lt.2 h1]
   rw [this];omega
 ·rcases h.cell with h0|⟨b,o,ha,hc⟩
  ·exact .inl qA
  ·refine .inr ⟨b,o,ha,fun i hi=>?_⟩;have:lim (d.take k) i=lim d i:=by simp [lim,List.getD,List.getElem?_take,hi]
   rw [this];exact hc i qA
theorem RdL.mid {w:World} {b o n c:Nat} {d:Ξ} (h:RdL w (some ⟨b,o,none⟩) n c d) {i k:Nat} (hk:i+k≤n):RdL w (some ⟨b,o+i,none⟩) k (c-i) ((d.drop i).take k):=by
 have hl:=h.len;have hcp:=h.cap;have hfw:=h.few;have htp:=h.top;have e:∀j,j<k→lim ((d.drop i).take k) j=lim d (i+j):=fun j hj=>by simp [lim,List.getD,List.getElem?_take,hj,List.getElem?_drop]
 refine ⟨by rw [List.length_take,List.length_drop];omega,by omega,by omega,by omega,fun j=>?_,.inr ⟨b,o+i,rfl,fun j hj=>?_⟩⟩
 ·rcases Nat.lt_or_ge j k with h1|h1
  ·rw [e j h1];exact h.small _
  ·have:lim ((d.drop i).take k) j=0:=by simp [lim,List.getD,List.getElem?_take,Nat.not_lt.2 h1]
   rw [this];omega
 ·rw [e j hj,Nat.add_assoc];exact h.at qA
theorem Aar {d:Ξ} (h:∀x∈d,x<1000000000) (i k:Nat):∀x∈(d.drop i).take k,x<1000000000:=fun x hx=>h x (List.mem_of_mem_drop (List.mem_of_mem_take hx))
def Qq (w:World):Type:={ W:World // Below w.heap.size w W }
instance (w:World):Nonempty (Qq w):=⟨⟨w,Ac _ w⟩⟩
theorem G7 {P:Program} {f:FuncId} {args:Array Value} {w:World} {n:Qq w} {v:Value}
  (h:Calls P f args n.1 fun e w'=>e=.returned v∧Below n.1.heap.size n.1 w'):Calls P f args n.1 fun e w''=>e=.returned v∧∃m:Qq w,w''=m.1 :=
 h.mono fun _ w' ⟨he,hb⟩=>⟨he,⟨w',n.2.trans (hb.mono n.2.size)⟩,rfl⟩
theorem Cn {w:World} {p:Addr} {v:Value} (h:w.cell? p=some v):∀n:Qq w,n.1.cell? p=some v:=fun n=>Bc n.2 h
theorem Ci {P:Program} {id:Nat} {Q:Exit→Act→World→Prop} {a:Act} {w:World} {l:List Oper} (hm:P.follows .mixedOrders=true) (hB:Region.lexB .any l.toArray=true)
  (h:wpQuiet P l.toArray (fun w'=>∃n:Qq w,w'=n.1) (fun a'=>∀w',(∃n:Qq w,w'=n.1)→Q .normal a' w') l a):(Code.region id l.toArray true).wp P Q a w :=
 wp_region_quiet (C:=fun w'=>∃n:Qq w,w'=n.1) hm hB ⟨⟨w.drew,(Ac _ w).drew⟩,rfl⟩ (by simpa using h)
end Go.Proofs.YtnnhcbeiogaknaaGreatDoor
end
section
namespace Go.Proofs.YtnnhcbeiogaknaaGreatDoor
theorem lE {g V h two v1 X r s:Nat} (hg:g*V≤h) (hV:V=s+X*v1) (hh:h=r+X*two) (hr:r<X) (hv:0<v1):g≤two/v1:=by
 rw [Nat.le_div_iff_mul_le hv];refine Nat.le_of_lt_succ (Nat.lt_of_not_le fun hc=>?_);have h1:X*(two+1)≤X*(g*v1):=At X hc;have h2:X*(g*v1)≤g*V:=by
  rw [hV,Nat.mul_add,Nat.mul_left_comm X g v1];exact Nat.le_add_left _ _
 rw [Nat.mul_add,Nat.mul_one] at h1;omega
theorem aN {g V h two v1 v2 h3 I5 X r s guess:Nat} (hg:g*V≤h) (hV:V=s+X*(v2+1000000000*v1)) (hh:h=r+X*(h3+1000000000*two)) (hr:r<X)
  (ho:two=I5+guess*v1) (hc:I5*1000000000+h3<guess*v2) (hle:g≤guess):g≤guess-1:=by
 rcases Nat.lt_or_ge g guess with h1|h1
 ·omega
 ·exfalso;obtain rfl:g=guess:=by omega
  have h2:X*(g*(v2+1000000000*v1))≤g*V:=by
   rw [hV,Nat.mul_add g s,Nat.mul_left_comm X g];exact Nat.le_add_left _ _
  have h3':X*(g*(v2+1000000000*v1))<X*(h3+1000000000*two+1):=by
   rw [Nat.mul_add X _ 1,Nat.mul_one];omega
  have h4:=Nat.lt_of_mul_lt_mul_left h3';rw [ho,Nat.mul_add g,Nat.mul_left_comm g 1000000000 v1,Nat.mul_add 1000000000] at h4;rw [Nat.mul_comm I5] at hc;omega
structure Gk (U0 V n m k:Nat) (u q:Ξ):Prop where
 ulen:u.length=m+n
 ult:∀x∈u,x<1000000000
 qlen:q.length=m
 qlt:∀x∈q,x<1000000000
 km:k≤m
 qz:∀j,j<k→q.getD j 0=0
 top:val (u.drop k)<V
 eq:val u+1000000000 ^ k*(V*val (q.drop k))=U0
theorem Gk.start {V n m:Nat} {u:Ξ} (hl:u.length=m+n) (hlt:∀x∈u,x<1000000000) (ht:val (u.drop m)<V):Gk (val u) V n m m u (List.replicate m 0) where
 ulen:=hl
 ult:=hlt
 qlen:=by simp
 qlt _ hx:=by rw [(List.mem_replicate.1 hx).2];omega
 km:=Ad _
 qz j hj:=by simp only [List.getD,List.getElem?_replicate];split<;>rfl
 top:=ht
 eq:=by rw [List.drop_of_length_le qG,show val []=0 from rfl,Nat.mul_zero,Nat.mul_zero,Nat.add_zero]
theorem Kl {l:Ξ} {n V:Nat} (h:val l<V) (hV:V≤1000000000 ^ n) (hn:n≤l.length):val (l.drop n)=0:=by
 have h1:=Ef l n hn;rcases Aq (val (l.drop n)) with h2|h2
 ·exact h2
 ·exfalso;have h3:1000000000 ^ n*1≤1000000000 ^ n*val (l.drop n):=At _ h2;rw [Nat.mul_one] at h3;omega
theorem Gk.rest {U0 V n m i:Nat} {u q:Ξ} (h:Gk U0 V n m (i+1) u q) (hV:V≤1000000000 ^ n):val (u.drop (i+(n+1)))=0:=by
 have h1:=h.km;have h2:=h.ulen;have:=Kl h.top hV (by rw [List.length_drop];omega);rw [List.drop_drop] at this;rw [show i+(n+1)=i+1+n by omega];exact this
theorem Gk.head {U0 V n m i:Nat} {u q:Ξ} (h:Gk U0 V n m (i+1) u q) (hV:V≤1000000000 ^ n):val ((u.drop i).take (n+1))=val (u.drop i):=by
 have h1:=h.km;have h2:=h.ulen;have h3:=Ef (u.drop i) (n+1) (by rw [List.length_drop];omega);rw [List.drop_drop,h.rest hV,Nat.mul_zero,Nat.add_zero] at h3;exact h3.symm
theorem Gk.head_lt {U0 V n m i:Nat} {u q:Ξ} (h:Gk U0 V n m (i+1) u q):val (u.drop i)<1000000000*V:=by
 have h1:=h.km;have h2:=h.ulen;have h3:=Ic u i qA;have h4:=E7 h.ult i;have h5:=h.top;have h6:1000000000*(val (u.drop (i+1))+1)≤1000000000*V:=At _ h5;rw [Nat.mul_add] at h6;omega
theorem Gk.step {U0 V n m i:Nat} {u q less:Ξ} (h:Gk U0 V n m (i+1) u q) (hV:V≤1000000000 ^ n) (hV0:0<V) (g:Nat) (hg:g=val (u.drop i)/V)
  (hl:less.length=n+1) (hlt:∀x∈less,x<1000000000) (hv:val less=val (u.drop i)-g*V) :
  Gk U0 V n m i (u.take i++(less++u.drop (i+less.length))) (q.set i g):=by
 have hkm:=h.km;have hul:=h.ulen;have hql:=h.qlen;have hr:=h.rest hV;have hg1:g<1000000000:=by rw [hg];exact (Nat.div_lt_iff_lt_mul hV0).2 h.head_lt
 have hmd:val (u.drop i)-g*V=val (u.drop i)%V:=by
  have:=Nat.div_add_mod (val (u.drop i)) V;rw [←hg,Nat.mul_comm] at this;omega
 have hdm:val (u.drop i)=val less+g*V:=by
  have:=Nat.div_add_mod (val (u.drop i)) V;rw [←hg,Nat.mul_comm V g] at this;omega
 have htk:(u.take i).length=i:=by rw [List.length_take];omega
 have hvl:val (less++u.drop (i+less.length))=val less:=by
  rw [Fq,hl,hr,Nat.mul_zero,Nat.add_zero]
 refine ⟨?_,?_,?_,Nm h.qlt hg1,by omega,?_,?_,?_⟩
 ·rw [A9,A9,htk,List.length_drop];omega
 ·intro x hx;rcases List.mem_append.1 hx with hx|hx
  ·exact h.ult x (List.mem_of_mem_take hx)
  ·rcases List.mem_append.1 hx with hx|hx
   ·exact hlt x hx
   ·exact h.ult x (List.mem_of_mem_drop hx)
 ·rw [List.length_set];exact hql
 ·intro j hj;rw [Hz qA];exact h.qz j qA
 ·rw [List.drop_left' htk,hvl,hv,hmd];exact Nat.mod_lt _ hV0
 ·have e1:val (u.take i++(less++u.drop (i+less.length)))=val (u.take i)+1000000000 ^ i*val less:=by rw [Fq,htk,hvl]
  have e2:val u=val (u.take i)+1000000000 ^ i*(val less+g*V):=by rw [←hdm];exact Ef u i qA
  have e3:val ((q.set i g).drop i)=g+1000000000*val (q.drop (i+1)):=by
   rw [Ic (q.set i g) i (by rw [List.length_set];omega),List.drop_set_of_lt qA]
   congr 1
   simp [List.getD,show i<q.length by omega]
  have e4:=h.eq;rw [e1,e3,←e4,e2,Nat.mul_add V,Nat.mul_add (1000000000 ^ i),Nat.mul_add (1000000000 ^ i),Nat.pow_succ,Nat.mul_comm V g];rw [Nat.mul_left_comm V 1000000000,Nat.mul_assoc (1000000000 ^ i) 1000000000];omega
theorem Gk.done {U0 V n m:Nat} {u q:Ξ} (h:Gk U0 V n m 0 u q) (hV0:0<V):val q=U0/V∧val u=U0%V:=by
 have h1:=h.eq;have h2:=h.top;rw [List.drop_zero] at h1 h2;rw [Nat.pow_zero,Nat.one_mul] at h1;have h3:=(Nat.div_mod_unique hV0).2 ⟨h1,h2⟩;exact ⟨h3.1.symm,h3.2.symm⟩
theorem Ti {l:Ξ} {n V:Nat} (h:val l<V) (hV:V≤1000000000 ^ n) (hn:n≤l.length):val (l.take n)=val l:=by
 have h1:=Ef l n hn;rw [Kl h hV hn,Nat.mul_zero,Nat.add_zero] at h1;exact h1.symm
theorem Gk.skip {U0 V n m i:Nat} {u q:Ξ} (h:Gk U0 V n m (i+1) u q) (hg:val (u.drop i)<V):Gk U0 V n m i u q where
 ulen:=h.ulen
 ult:=h.ult
 qlen:=h.qlen
 qlt:=h.qlt
 km:=by have:=h.km;omega
 qz j hj:=h.qz j qA
 top:=hg
 eq:=by
  have h1:=h.km;have h2:=h.qlen;have h3:=Ic q i qA;rw [h.qz i qA,Nat.zero_add] at h3;have h4:=h.eq;rw [h3,←h4,Nat.pow_succ,Nat.mul_left_comm V,Nat.mul_assoc]
theorem Kz {l:Ξ} {k:Nat} (h:l.length=k+1):l.drop k=[l.getD k 0]:=by
 rw [List.drop_eq_getElem_cons qA,List.drop_of_length_le qA];simp [List.getD,show k<l.length by omega]
theorem Kv {l:Ξ} {k:Nat} (h:l.length=k+1):val l=val (l.take k)+1000000000 ^ k*l.getD k 0:=by
 have h1:=Ef l k qA;rw [Kz h] at h1;simpa [val] using h1
theorem Zr {l:Ξ} {k:Nat} (h:l.length=k+2):val l=val (l.take k)+1000000000 ^ k*(l.getD k 0+1000000000*l.getD (k+1) 0):=by
 have h1:=Ef l k qA;rw [Ic l k qA,Kz (k:=k+1) qA] at h1;simpa [val] using h1
theorem sH {l:Ξ} {k:Nat} (h:l.length=k+3):val l=val (l.take k)+1000000000 ^ k*(l.getD k 0+1000000000*(l.getD (k+1) 0+1000000000*l.getD (k+2) 0)):=by
 have h1:=Ef l k qA;rw [Ic l k qA,Ic l (k+1) qA,Kz (k:=k+2) qA] at h1;simpa [val] using h1
theorem Gc {l:Ξ} (h:∀x∈l,x<1000000000) (k:Nat) (hk:k≤l.length):val (l.take k)<1000000000 ^ k:=by
 have h1:=Ez (l.take k) (fun x hx=>h x (List.mem_of_mem_take hx));rw [List.length_take,Nat.min_eq_left hk] at h1;exact h1
theorem gL {d:Ξ} {m:Nat} (h:Er d) (hl:d.length=m) (hm:1≤m):0<d.getD (m-1) 0:=by
 have h4:=h.2.resolve_left (fun e=>by rw [e] at hl;simp at hl;omega);rcases Aq (d.getD (m-1) 0) with h5|h5
 ·exfalso;apply h4;rw [List.getLast?_eq_getElem?,hl];have h6:m-1<d.length:=by omega
  rw [Ai h6];simp only [List.getD,Ai h6,Option.getD_some] at h5;rw [h5]
 ·exact h5
structure Aax (d d':Ξ) (n n' s:Nat):Prop where
 vlt:val d'*s<1000000000 ^ n'
 vpos:0<val d'*s
 ult:val d*s<1000000000 ^ (n+1)
 top:∀u:Ξ,u.length=n+1→val u=val d*s→val (u.drop (n+1-n'))<val d'*s
 v1:∀v:Ξ,v.length=n'→(∀x∈v,x<1000000000)→val v=val d'*s→0<v.getD (n'-1) 0
theorem iB {d d':Ξ} {n n' s t:Nat} (hd:∀x∈d,x<1000000000) (hd':∀x∈d',x<1000000000) (hl:d.length=n) (hl':d'.length=n') (h2:2≤n') (hle:n'≤n)
  (ht:t=d'.getD (n'-1) 0) (ht0:0<t) (hs:s=1000000000/(t+1)) (hs0:0<s) (hs2:s<1000000000):Aax d d' n n' s:=by
 have hst:s*(t+1)≤1000000000:=by rw [hs];exact Nat.div_mul_le_self _ _
 have hv:=Kv (l:=d') (k:=n'-1) qA;rw [←ht] at hv;have hr:=Gc hd' (n'-1) qA;generalize val (d'.take (n'-1))=r at hv hr;obtain ⟨X,hX⟩:∃X,X=1000000000 ^ (n'-1):=⟨_,rfl⟩;rw [←hX] at hv hr;have hXn:1000000000 ^ n'=X*1000000000:=by rw [hX,←Nat.pow_succ];congr 1;omega
 have hlow:X≤val d':=by
  rw [hv];have:X*1≤X*t:=At _ ht0;omega
 have hX0:0<X:=by rw [hX];exact Nat.pow_pos qA
 have hV0:0<val d'*s:=Nat.mul_pos qA hs0;have hVX:X*s≤val d'*s:=Nat.mul_le_mul_right _ hlow;refine ⟨?_,hV0,?_,?_,?_⟩
 ·have h1:val d'<X*(t+1):=by rw [hv,Nat.mul_add];omega
  have h3:val d'*s<X*(t+1)*s:=Nat.mul_lt_mul_of_pos_right h1 hs0;have h4:X*(t+1)*s≤X*1000000000:=by rw [Nat.mul_assoc,Nat.mul_comm (t+1)];exact At _ hst
  rw [hXn];omega
 ·have h1:=Ez d hd;rw [hl] at h1;rw [Nat.pow_succ];exact Nat.mul_lt_mul'' h1 hs2
 ·intro u hu hval;have h1:=Ef u (n+1-n') qA;have h3:=Ez d hd;rw [hl] at h3;have h4:val u<1000000000 ^ n*s:=by rw [hval];exact Nat.mul_lt_mul_of_pos_right h3 hs0
  have h5:1000000000 ^ n=1000000000 ^ (n+1-n')*X:=by rw [hX,←Nat.pow_add];congr 1;omega
  rw [h5,Nat.mul_assoc] at h4;have h6:1000000000 ^ (n+1-n')*val (u.drop (n+1-n'))<1000000000 ^ (n+1-n')*(X*s):=by omega
  have:=Nat.lt_of_mul_lt_mul_left h6;omega
 ·intro v hvl hvlt hval;have h1:=Kv (l:=v) (k:=n'-1) qA;have h3:=Gc hvlt (n'-1) qA;rw [←hX] at h1 h3;rcases Aq (v.getD (n'-1) 0) with h4|h4
  ·rw [h4,Nat.mul_zero,Nat.add_zero] at h1;have:X*1≤X*s:=At _ hs0;omega
  ·exact h4
structure Xy (v head:Ξ) (V g k:Nat) (two I5 guess:Nat):Prop where
 le:g≤guess
 small:guess≤999999999
 two:two=I5+guess*v.getD (k+1) 0
theorem Ys {v head:Ξ} {V g k two:Nat} (hv:v.length=k+2) (hh:head.length=k+3) (hvlt:∀x∈v,x<1000000000) (hhlt:∀x∈head,x<1000000000) (hV:val v=V) (hV0:0<v.getD (k+1) 0)
  (hg:g=val head/V) (hgs:g<1000000000) (h2:two=head.getD (k+2) 0*1000000000+head.getD (k+1) 0) :
  Xy v head V g k two (two-min (two/v.getD (k+1) 0) 999999999*v.getD (k+1) 0) (min (two/v.getD (k+1) 0) 999999999):=by
 have h1:=Kv (l:=v) (k:=k+1) hv;have h3:=Zr (l:=head) (k:=k+1) hh;have hr:=Gc hhlt (k+1) qA;have hle:g*V≤val head:=by rw [hg];exact Nat.div_mul_le_self _ _
 have hq:=lE (g:=g) (V:=V) (h:=val head) (two:=two) (v1:=v.getD (k+1) 0) (X:=1000000000 ^ (k+1)) (r:=val (head.take (k+1))) (s:=val (v.take (k+1))) hle (by rw [←hV,h1])
  (by rw [h3,h2,Nat.mul_comm (head.getD (k+2) 0),Nat.add_comm (1000000000*_)]) hr hV0
 refine ⟨by omega,by omega,?_⟩;have:min (two/v.getD (k+1) 0) 999999999*v.getD (k+1) 0≤two:=Ah (Nat.mul_le_mul_right _ (Nat.min_le_left _ _)) (Nat.div_mul_le_self _ _);omega
theorem Xu {v head:Ξ} {V g k two I5 guess:Nat} (h:Xy v head V g k two I5 guess) (hv:v.length=k+2) (hh:head.length=k+3) (hhlt:∀x∈head,x<1000000000) (hV:val v=V)
  (hg:g=val head/V) (h2:two=head.getD (k+2) 0*1000000000+head.getD (k+1) 0) (hc:I5*1000000000+head.getD k 0<guess*v.getD k 0) :
  1≤guess∧Xy v head V g k two (I5+v.getD (k+1) 0) (guess-1):=by
 have h1:=Zr (l:=v) (k:=k) hv;have h3:=sH (l:=head) (k:=k) hh;have hr:=Gc hhlt k qA;have hle:g*V≤val head:=by rw [hg];exact Nat.div_mul_le_self _ _
 have h0:1≤guess:=by
  rcases Aq guess with h0|h0
  ·rw [h0,Nat.zero_mul] at hc;omega
  ·exact h0
 refine ⟨h0,?_,by have:=h.small;omega,?_⟩
 ·exact aN (V:=V) (h:=val head) (v1:=v.getD (k+1) 0) (v2:=v.getD k 0) (h3:=head.getD k 0) (X:=1000000000 ^ k) (r:=val (head.take k)) (s:=val (v.take k)) hle (by rw [←hV,h1])
   (by rw [h3,h2,Nat.mul_comm (head.getD (k+2) 0),Nat.add_comm (1000000000*_) (head.getD (k+1) 0)]) hr h.two hc h.le
 ·have:=h.two;obtain ⟨x,rfl⟩:∃x,guess=x+1:=⟨guess-1,by omega⟩;rw [Nat.add_sub_cancel];rw [Nat.add_mul,Nat.one_mul] at this;omega
theorem dB {x y s:Nat} (hs:0<s):(x*s)/(y*s)=x/y∧((x*s)%(y*s))/s=x%y:=by
 refine ⟨Nat.mul_div_mul_right _ _ hs,?_⟩;rw [Nat.mul_mod_mul_right,Nat.mul_div_cancel _ hs]
theorem vT (m N:Nat):(fx (m+1) N).take m=fx m N:=by
 rw [xE,List.take_left' (Mb m N)]
end Go.Proofs.YtnnhcbeiogaknaaGreatDoor
end
