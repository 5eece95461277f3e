/- Decimal digits of a number given by its parts. -/
import Derived.Test.YtfijkfdfbnfmmaaGreatDoorQF3
set_option linter.unusedSimpArgs false
set_option linter.unusedVariables false
set_option maxRecDepth 100000
set_option maxHeartbeats 4000000
section
namespace Go.Proofs.YtfijkfdfbnfmmaaGreatDoor
open Proofs.Tryz
variable (x k:Nat) {j on t y i:Nat} {d l da db:Ξ}
def cI:Nat→Nat→List UInt8
 | 0,_=>[]
 | k+1,x=>cI k (x/10)++[UInt8.ofNat (48+x%10)]
theorem Vn:∀hi x:Nat,0<hi→x<10 ^ k→Lib.decDigits (hi*10 ^ k+x)=Lib.decDigits hi++cI k x:=by
 induction k with
 | zero =>
  intro hi x _ hx;have:x=0:=by simpa using hx
  simp [this,cI]
 | succ k ih =>
  intro hi x hh hx;have h1:10 ^ (k+1)=10 ^ k*10:=Nat.pow_succ ..;have h2:hi*10 ^ (k+1)=hi*10 ^ k*10:=by rw [h1,Nat.mul_assoc]
  have h3:0<hi*10 ^ k:=Nat.mul_pos hh (Nat.pow_pos qB);have h4:¬hi*10 ^ (k+1)+x<10:=qB;rw [Lib.decDigits,dif_neg h4];have h5:(hi*10 ^ (k+1)+x)/10=hi*10 ^ k+x/10:=qB;have h6:(hi*10 ^ (k+1)+x)%10=x%10:=qB;rw [h5,h6,ih hi (x/10) hh qB,cI,List.append_assoc]
theorem Si:∀x:Nat,x<10 ^ (k+1)→cI (k+1) x=List.replicate (k+1-(Lib.decDigits x).length) 48++Lib.decDigits x∧(Lib.decDigits x).length≤k+1:=by
 induction k with
 | zero =>
  intro x hx;have hx:x<10:=by simpa using hx
  rw [Lib.decDigits,dif_pos hx];simp [cI,Nat.mod_eq_of_lt hx]
 | succ k ih =>
  intro x hx;have h1:10 ^ (k+1+1)=10 ^ (k+1)*10:=Nat.pow_succ ..;obtain ⟨h2,h3⟩:=ih (x/10) qB;rw [cI,h2];by_cases h:x<10
  ·rw [Lib.decDigits,dif_pos (by omega:x/10<10),Lib.decDigits,dif_pos h];have h0:x/10=0:=qB;rw [h0,Nat.mod_eq_of_lt h];refine ⟨?_,qH⟩;simp only [List.length_cons,List.length_nil,Nat.zero_add,Nat.add_sub_cancel];rw [List.replicate_succ'];rfl
  ·have e:Lib.decDigits x=Lib.decDigits (x/10)++[UInt8.ofNat (48+x%10)]:=by rw [Lib.decDigits,dif_neg h]
   rw [e];simp only [A8,List.length_cons,List.length_nil,Nat.zero_add];refine ⟨?_,qB⟩;rw [List.append_assoc,show k+1+1-((Lib.decDigits (x/10)).length+1)=k+1-(Lib.decDigits (x/10)).length from qB]
theorem K4 (c:Nat):Lib.repeatL [48] c=List.replicate c 48:=by
 induction c with
 | zero=>rfl
 | succ c ih=>rw [Lib.repeatL,ih];rfl
def tx (l:Ξ):List UInt8:=if l=[] then [] else Lib.decDigits (val l)
theorem mW:tx []=[]:=rfl
theorem xX:tx [x]=Lib.decDigits x:=by
 rw [tx,if_neg qH,val,val,Nat.mul_zero,Nat.add_zero]
theorem uQ {x:Nat} (hx:x<1000000000):(Lib.decDigits x).length≤9:=(Si 8 x hx).2
theorem vA (l:Ξ) (hx:x<1000000000) (hl:l≠[]) (hv:0<val l):tx (x::l)=tx l++(Lib.repeatL [48] (9-(Lib.decDigits x).length)++Lib.decDigits x):=by
 rw [tx,if_neg qH,tx,if_neg hl,val,K4,←(Si 8 x hx).1,←Vn 9 (val l) x hv hx]
 congr 1
 rw [Nat.add_comm,Nat.mul_comm]
theorem Abk (n:Nat) (h:0<n):tx (dg n)=Lib.decDigits n:=by
 have h1:=Bq n;rw [tx,if_neg,h1];intro e;rw [e,val] at h1;omega
theorem dU (h:Dy d):∀j,Dy (d.drop j):=by
 intro j
 induction j generalizing d with
 | zero=>simpa using h
 | succ j ih =>
  cases d with
  | nil=>simpa using h
  | cons x d=>exact ih h.tail
theorem oP (h:j<d.length):d.drop j=(lim d j).toNat::d.drop (j+1):=by
 rw [List.drop_eq_getElem_cons h]
 congr 1
 simp [lim,List.getD,h]
theorem Nd:∀(l:Ξ) (j y:Nat),j<l.length→val (l.set j y)+1000000000 ^ j*l.getD j 0=val l+1000000000 ^ j*y
 | [],j,y,h=>by simp at h
 | x::l,0,y,_=>by simp [val];omega
 | x::l,j+1,y,h=>by
  have ih:=Nd l j y (by simpa using h);simp only [Aw,val,List.getD_cons_succ,Nat.pow_succ];have e1:1000000000 ^ j*1000000000*l.getD j 0=1000000000*(1000000000 ^ j*l.getD j 0):=by rw [Nat.mul_comm (1000000000 ^ j) 1000000000,Nat.mul_assoc]
  have e2:1000000000 ^ j*1000000000*y=1000000000*(1000000000 ^ j*y):=by rw [Nat.mul_comm (1000000000 ^ j) 1000000000,Nat.mul_assoc]
  rw [e1,e2];omega
theorem nQ {V W x:Nat} (hj:j<l.length) (h:val l+1000000000 ^ j*on=V+W) (ht:t=on+x*y+l.getD j 0) :
  val (l.set j (t%1000000000))+1000000000 ^ (j+1)*(t/1000000000)=V+(W+1000000000 ^ j*(x*y)):=by
 have h1:=Nd l j (t%1000000000) hj;have h2:=Nat.mod_add_div t 1000000000;have h3:1000000000 ^ j*t=1000000000 ^ j*(t%1000000000)+1000000000 ^ (j+1)*(t/1000000000):=by
  rw [Nat.pow_succ,Nat.mul_assoc,←Nat.mul_add,h2]
 have h4:1000000000 ^ j*t=1000000000 ^ j*on+1000000000 ^ j*(x*y)+1000000000 ^ j*l.getD j 0:=by rw [ht,Nat.mul_add,Nat.mul_add]
 omega
theorem pY {V W:Nat} (hj:j<l.length) (h:val l+1000000000 ^ j*on=V+W) (hz:l.getD j 0=0) :
  val (l.set j on)=V+W:=by
 have h1:=Nd l j on hj;rw [hz] at h1;omega
theorem Qs {x u:Nat} (hx:x<1000000000) (hy:y<1000000000) (hu:u<1000000000) (ho:on<1000000000):on+x*y+u<1000000000*1000000000:=by
 have h:=Nat.mul_le_mul (show x≤999999999 from qB) (show y≤999999999 from qB);omega
structure Hd (da db:Ξ) (i k on:Nat) (l:Ξ):Prop where
 len:l.length=da.length+db.length
 lt:∀x∈l,x<1000000000
 zero:∀j,i+db.length≤j→l.getD j 0=0
 few:on<1000000000
 eq:val l+1000000000 ^ (i+k)*on=val (da.take i)*val db+da.getD i 0*(1000000000 ^ i*val (db.take k))
theorem Hv (m:Nat):val (List.replicate m 0)=0:=Wc _ (fun x hx=>(List.mem_replicate.1 hx).2)
theorem Hd.start (da db:Ξ):Hd da db 0 0 0 (List.replicate (da.length+db.length) 0) where
 len:=qH
 lt _ hx:=by rw [(List.mem_replicate.1 hx).2];omega
 zero j _:=by simp only [List.getD,List.getElem?_replicate];split<;>rfl
 few:=qB
 eq:=by rw [Hv,List.take_zero,List.take_zero,show val []=0 from rfl,Nat.mul_zero,Nat.mul_zero,Nat.zero_mul]
theorem Gu {j':Nat} (h:j≠j'):(l.set j y).getD j' 0=l.getD j' 0:=by
 simp only [List.getD,List.getElem?_set_ne h]
theorem Ho (h:∀x∈l,x<1000000000) (hy:y<1000000000):∀x∈l.set j y,x<1000000000:=by
 intro x hx;rcases List.mem_or_eq_of_mem_set hx with hx|rfl
 ·exact h x hx
 ·exact hy
theorem Hd.step {k:Nat} (h:Hd da db i k on l) (ha:∀x∈da,x<1000000000) (hb:∀x∈db,x<1000000000) (hi:i<da.length) (hk:k<db.length) (ht:t=on+da.getD i 0*db.getD k 0+l.getD (i+k) 0) :
  Hd da db i (k+1) (t/1000000000) (l.set (i+k) (t%1000000000)) where
 len:=by rw [List.length_set];exact h.len
 lt:=Ho h.lt qB
 zero j hj:=by rw [Gu qB];exact h.zero j hj
 few:=by
  have:=Qs (Cx ha i) (Cx hb k) (Cx h.lt (i+k)) h.few;rw [←ht] at this;exact Nat.div_lt_of_lt_mul this
 eq:=by
  have hlen:=h.len;have:=nQ (j:=i+k) qB h.eq ht;rw [En db k,show i+(k+1)=i+k+1 from rfl,this,Nat.mul_add,Nat.mul_add,Nat.pow_add];have e:1000000000 ^ i*1000000000 ^ k*(da.getD i 0*db.getD k 0)=da.getD i 0*(1000000000 ^ i*(1000000000 ^ k*db.getD k 0)):=by
   rw [Nat.mul_left_comm,Nat.mul_assoc]
  rw [e]
theorem Hd.next (h:Hd da db i db.length on l) (hi:i<da.length) :
  Hd da db (i+1) 0 0 (l.set (i+db.length) on) where
 len:=by rw [List.length_set];exact h.len
 lt:=Ho h.lt h.few
 zero j hj:=by rw [Gu qB];exact h.zero j qB
 few:=qB
 eq:=by
  have hlen:=h.len;have:=pY (j:=i+db.length) qB h.eq (h.zero _ (Ad _));rw [List.take_length] at this;rw [Nat.mul_zero,Nat.add_zero,List.take_zero,show val []=0 from rfl,Nat.mul_zero,Nat.mul_zero,Nat.add_zero,this,En da i,Nat.add_mul,Nat.mul_comm (1000000000 ^ i) (da.getD i 0),Nat.mul_assoc]
theorem Hd.done (h:Hd da db da.length 0 0 l):val l=val da*val db:=by
 have:=h.eq;rw [List.take_length,List.take_zero,show val []=0 from rfl,Nat.mul_zero,Nat.mul_zero,Nat.mul_zero,Nat.add_zero,Nat.add_zero] at this;exact this
theorem gW {g g':Bool} {z z':Int} (h:g=decide (z<0)) (h':g'=decide (z'<0)):sgn (g != g') (val (dg z.natAbs)*val (dg z'.natAbs))=z*z':=by
 rw [Bq,Bq];have e:∀x:Int,x=sgn (decide (x<0)) x.natAbs:=by
  intro x;unfold sgn;by_cases k:x<0
  ·rw [decide_eq_true k];simp;omega
  ·rw [decide_eq_false k];simp;omega
 have e1:=e z;have e2:=e z';rw [←h] at e1;rw [←h'] at e2;generalize z.natAbs=A at *;generalize z'.natAbs=B at *;rw [e1,e2];clear h h' e1 e2
 cases g<;>cases g'<;>simp [sgn,Int.neg_mul,Int.mul_neg]
end Go.Proofs.YtfijkfdfbnfmmaaGreatDoor
end
section
namespace Go.Proofs.YtfijkfdfbnfmmaaGreatDoor
open Go.RowKit Proofs.Tryz
variable (d:Ξ) (k m:Nat) (W:World) {v:Value} {w:World} {l:Ξ}
theorem Fo:Cg (List.replicate m 0)=List.replicate m (.int .u32 0):=by simp [Cg]
theorem Ih {j:Nat} (h:j<l.length):(Cg l)[j]? = some (.int .u32 ((l.getD j 0:Nat):Int)):=by simp [Cg,List.getD,h]
theorem Lo (l:Ξ) (j y:Nat):Cg (l.set j y)=(Cg l).set j (.int .u32 y):=by simp [Cg,List.map_set]
theorem iN (w:World) (g:Bool) (a:Γ) (n c:Nat) (z:Int) (h:Bh w g a n c z) (g':Bool) (a':Γ) (n' c':Nat) (z':Int) (h':Bh w g' a' n' c' z')
  (br:n≤17592186044416) (bp:n'≤17592186044416) :
  Θ 165 #[.agg #[.bool g,.slice a n c],.agg #[.bool g',.slice a' n' c']] w (Di w (z*z')):=by
 obtain ⟨i0,hi,dw,ed,en⟩:=info_parts Dl;have HB:=Ac w w;have AK:=Ae h.rd.len;have DR:=Ae h'.rd.len;go_enter func165,ntmps165;go_wp2_with fail;go_region_held3 (fun W=>Z W w 0 (.bool g)∧Z W w 1 (.slice a n c)∧Z W (w+1) 0 (.bool g')∧Z W (w+1) 1 (.slice a' n' c')) (exact qK) (first
  | (go_at_call 219;(with_reducible refine (I1 _ g a n c z (h.keep qD)).mono ?_);rintro e w1 ⟨rfl,hb⟩;obtain ⟨hc,hf⟩:=Bg hb;have hz:=hb.size;(try simp only [Aj,Ak] at hz);replace HB:=zP w hb;obtain ⟨aw,bh⟩:=xd hc w g a n c;obtain ⟨bn,bo⟩:=xd hc (w+1) g' a' n' c';obtain ⟨bw,bx⟩:=zJ hc (w+1+1);obtain ⟨bz,cc⟩:=zK hf (w+1+1);obtain ⟨dy,dz⟩:=zK hf w;obtain ⟨dp,dt⟩:=zK hf (w+1))
  | (go_at_call 219;(with_reducible refine (I1 _ g' a' n' c' z' (h'.keep qD)).mono ?_);rintro e w1 ⟨rfl,hb⟩;obtain ⟨hc,hf⟩:=Bg hb;have hz:=hb.size;(try simp only [Aj,Ak] at hz);replace HB:=zP w hb;obtain ⟨aw,bh⟩:=xd hc w g a n c;obtain ⟨bn,bo⟩:=xd hc (w+1) g' a' n' c';obtain ⟨bw,bx⟩:=zJ hc (w+1+1);obtain ⟨bz,cc⟩:=zK hf (w+1+1);obtain ⟨dy,dz⟩:=zK hf w;obtain ⟨dp,dt⟩:=zK hf (w+1)))
 replace HB:xp w ((((w1.setCell (J w 0) (.bool g)).setCell (J w 1) (.slice a n c)).setCell (J (w+1) 0) (.bool g')).setCell (J (w+1) 1) (.slice a' n' c')):=qD;obtain ⟨w2,df⟩:∃w2,w2=((((w1.setCell (J w 0) (.bool g)).setCell (J w 1) (.slice a n c)).setCell (J (w+1) 0) (.bool g')).setCell (J (w+1) 1) (.slice a' n' c')):=⟨_,rfl⟩;rw [←df] at HB ⊢;have u0:Z w2 w 0 (.bool g):=by rw [df];simp [*,go_sem]
 have u1:Z w2 w 1 (.slice a n c):=by rw [df];simp [*,go_sem]
 have u2:Z w2 (w+1) 0 (.bool g'):=by rw [df];simp [*,go_sem]
 have u3:Z w2 (w+1) 1 (.slice a' n' c'):=by rw [df];simp [*,go_sem]
 have u4:Z w2 (w+1+1) 0 (.bool false):=by rw [df];simp [*,go_sem]
 have u5:Z w2 (w+1+1) 1 (.slice none 0 0):=by rw [df];simp [*,go_sem]
 have v4:Y w2 (w+1+1) 0:=by rw [df];simp [*,go_sem]
 have v5:Y w2 (w+1+1) 1:=by rw [df];simp [*,go_sem]
 have l9:w.heap.size+1+1<w2:=Aa w2 _ u4;clear df aw bh bn bo bw bx bz cc dy dz dp dt hz hc hf hb;go_wp2_with (refine wpList_make_full _ rfl _ _ 49 rfl w2 129 i0 (.int .u32 0) 1 underlying49 hi dw ed .i64 .i64 _ _ (n+n') rfl rfl rfl qZ (by rw [en];omega) qN (Ad _) ?_;intro w3 dh er;have ep:xp w2 w3:=(Ac _ _).grown er (Ad _) (fun k h=>(by cases h));have t1:=Bb ep u1;have t3:=Bb ep u3);have ep:xp w2 w3:=(Ac _ _).grown er (Ad _) (fun k h=>by cases h);rw [Nat.mul_one,show Value.cells (.int .u32 0)=#[.int .u32 0] from rfl,toList_madeCells_one] at dh;clear er t1 t3;have sr:=Ae (D0 z.natAbs);have ur:=Ae (D0 z'.natAbs);go_loopw [26] (fun v26 wr=>∃(i:Nat) (l:Ξ),i≤n∧v26=M i∧Hid (Hd (dg z.natAbs) (dg z'.natAbs) i 0 0 l) ∧
   wr.ownsRow w2 129 1 (.slice (E w2) (n+n') (n+n')) (n+n') (Cg l)∧xp w2 wr) (fun v26 _=>n-(intOf v26).toNat)
 case atStart =>
  refine ⟨0,List.replicate (n+n') 0,Ba _,rfl,Ae ?_,?_,ep⟩
  ·have:=Hd.start (dg z.natAbs) (dg z'.natAbs);rw [AK.out,DR.out] at this;exact this
  ·rw [Fo];exact dh
 case round =>
  obtain ⟨i,l,VD,rfl,HM,ah,jr⟩:=hrel;have dm:xp w wr:=xo HB jr;have qu:=jr.size;have tu:=(ah.lt w2 rfl).2;have t0:=Bb jr u0;have t1:=Bb jr u1;have t2:=Bb jr u2;have t3:=Bb jr u3;have t4:=Bb jr u4;have t5:=Bb jr u5;by_cases bj:i<n
  ·obtain ⟨b,o,rfl,c1⟩:=(h.rd.keep dm).at' bj;obtain ⟨x,hx⟩:∃x:Nat,x=(dg z.natAbs).getD i 0:=⟨_,rfl⟩;rw [Em,←hx] at c1;have AI:x<1000000000:=by rw [hx];exact Cx sr.out i
   have HX:=Ae hx;clear hx;go_wp2_with fail;go_loopw [8,34] (fun v8 v34 wi=>∃(k on:Nat) (l:Ξ),k≤n'∧v34=M k∧v8=.int .u64 on∧on<1000000000∧Hid (Hd (dg z.natAbs) (dg z'.natAbs) i k on l) ∧
     wi.ownsRow w2 129 1 (.slice (E w2) (n+n') (n+n')) (n+n') (Cg l)∧xp w2 wi) (fun _ v34 _=>n'-(intOf v34).toNat)
   case atStart=>exact ⟨0,0,l,Ba _,rfl,rfl,qB,HM,ah,jr⟩
   case round =>
    clear ah jr dm qu tu t0 t1 t2 t3 t4 t5;obtain ⟨k,on,l1,rm,rfl,rfl,NU,FF,ah,jr⟩:=hrel;have dm:xp w wr:=xo HB jr;have qu:=jr.size;have tu:=(ah.lt w2 rfl).2;have t3:=Bb jr u3;by_cases PR:k<n'
    ·obtain ⟨b',o',rfl,c2⟩:=(h'.rd.keep dm).at' PR;obtain ⟨y,hy⟩:∃y:Nat,y=(dg z'.natAbs).getD k 0:=⟨_,rfl⟩;rw [Em,←hy] at c2;have SF:y<1000000000:=by rw [hy];exact Cx ur.out k
     have hlen:=FF.out.len;rw [AK.out,DR.out] at hlen;have gz:=ah.cellAt (i+k) qB;rw [Ih qB] at gz;have eh:=ah.frozenAt (i+k);obtain ⟨u,hu⟩:∃u:Nat,u=l1.getD (i+k) 0:=⟨_,rfl⟩;have KQ:u<1000000000:=by rw [hu];exact Cx FF.out.lt _
     rw [←hu] at gz;obtain ⟨t,ht⟩:∃t:Nat,t=on+x*y+u:=⟨_,rfl⟩;have iv:=Ae (FF.out.step sr.out ur.out (by rw [AK.out];exact bj) (by rw [DR.out];exact PR) (show t=on+(dg z.natAbs).getD i 0*(dg z'.natAbs).getD k 0+l1.getD (i+k) 0 by rw [ht,HX.out,hy,hu]));have NV:=Qs AI SF KQ NU;rw [←ht] at NV;have hq:((on:Int)+((x:Int)*(y:Int)+(u:Int)))=(t:Int):=by rw [ht];simp [Int.add_assoc]
     have ald:(0:Int)≤(x:Int)*(y:Int):=Int.mul_nonneg qB qB;have BC:((i:Int)+(k:Int)).toNat=i+k:=qB;have HQ:=Ae hq;have ale:(x:Int)*(y:Int)+(u:Int)+(on:Int)<1000000000000000000:=qB;have AL:0≤((on:Int)+((x:Int)*(y:Int)+(u:Int)))%1000000000:=qB;have yf:((on:Int)+((x:Int)*(y:Int)+(u:Int)))%1000000000<1000000000:=qB;have iz:0≤((on:Int)+((x:Int)*(y:Int)+(u:Int)))/1000000000:=qB;have JH:((on:Int)+((x:Int)*(y:Int)+(u:Int)))/1000000000<1000000000:=qB;have qe:=Ae (ah.stored (i+k) (.int .u32 (((on:Int)+((x:Int)*(y:Int)+(u:Int)))%1000000000))).1;clear hu hy ht hq hlen NV;exact qBy
    ·obtain rfl:k=n':=qB;have hlen:=FF.out.len;rw [AK.out,DR.out] at hlen;have gz:=ah.cellAt (i+k) qB;rw [Ih qB] at gz;have eh:=ah.frozenAt (i+k);have iv:Hid (Hd (dg z.natAbs) (dg z'.natAbs) (i+1) 0 0 (l1.set (i+k) on)):=by
      have h1:=FF.out;have h2:=DR.out;subst h2;exact Ae (h1.next (by rw [AK.out];exact bj))
     exact qBv
  ·obtain rfl:i=n:=qB;have iv:=HM.out;have h2:=AK.out;have jx:=Da ah qB (fun j=>By (fun x hx=>by have:=iv.lt x hx;omega) j);have eh:=Bc.of_owns ah;have hval:sgn (!(g==g')) (val l)=z*z':=by
    subst h2;rw [iv.done];exact gW h.neg h'.neg
   have HV:=Ae hval;clear hval h2;go_wp2_with fail;refine (Ft _ _ _ _ _ l jx iv.lt).mono ?_;rintro e w5 ⟨g3,n3,rfl,ll,yj,hb⟩;have q4:=Bb hb t4;have q5:=Bb hb t5;have q6:Y w5 (w+1+1) 0:=(hb.frozen (by show w.heap.size+1+1<_;omega)).trans ((jr.frozen (by show w.heap.size+1+1<_;omega)).trans v4);have q7:Y w5 (w+1+1) 1:=(hb.frozen (by show w.heap.size+1+1<_;omega)).trans ((jr.frozen (by show w.heap.size+1+1<_;omega)).trans v5);have np:Bc (w+1+1+1) w5 (E w2) n3:=((eh.keep hb).less qB).mono qB;have DD:=hb.size;rw [HV.out] at yj;have oq:xp w w5:=xo dm hb;go_wp2_with fail;refine bodyPost_ret (v:=.agg #[.bool g3,.slice (E w2) n3 n3]) (by simp [results,results165,go_sem,q4,q5]) rfl ?_;refine ⟨g3,_,n3,n3,rfl,?_,?_,qD⟩
   ·exact qFy
   ·exact qGd
theorem bV (w:World) (zh:Int) (m:Nat) (hM:zh=m) (c1 c2:Value) (D:Nat→Int) (hm:m≤35184372088832)
  (hD:∀i,i<m→-4000000000000000000≤D i∧D i≤4000000000000000000)
  (ko:∀(i:Nat) (W:World),i<m→xp w W→Θ 347 #[M i,c1,c2] W fun e W'=>e=.returned (M (D i))∧xp W W') :
  Θ 290 #[M zh,.func (.func 347) #[] #[c1,c2]] w (Jr w m D):=by
 subst hM;exact kR w m c1 c2 D hm hD ko
theorem tM (w:World) (A B:Nat) (a:Γ) (n c:Nat) (d:Ξ) (fo:Nat) (hb:fo<1000000000) (i:Nat) (hd:RdL w a n c d) (bj:lim d i<1000000000)
  (h1:Z w A 0 (.slice a n c)) (h2:Z w B 0 (.int .u32 fo)) :
  Θ 347 #[M i,.pointer (E A),.pointer (E B)] w fun e w'=>e=.returned (M (lim d i*fo))∧xp w w':=by
 have hs:=hd.small i;have h0:0≤lim d i*(fo:Int):=Int.mul_nonneg hs.1 qB;have FD:lim d i*(fo:Int)≤999999999*999999999:=Int.mul_le_mul qB qB qB qB;go_enter func347,ntmps347;go_wp2;go_quiet ((first|(go_at_call 292;first|exact Gi (H8 _ _ _ _ d i (hd.keep (Bj _ (Ac _ _))))|exact Fj (H8 _ _ _ _ d i (hd.keep (Bj _ (Ac _ _)))))));exact qFe
theorem sL (h:d.length≤m):Dc (fun i=>lim d i*(k:Int)) m=((val d*k:Nat):Int):=by
 have e:Dc (fun i=>lim d i*(k:Int)) m=Dc (fun i=>(k:Int)*(fun i=>lim d i) i) m:=Oo (fun i _=>Int.mul_comm _ _);rw [e,St (fun i=>lim d i),show Dc (fun i=>lim d i) m=val d from Hg d m h];simp [Int.mul_comm]
def uF (w:World) (n N:Nat) (e:Ending) (w':World):Prop :=
 ∃a,e=.returned (.slice a (n+1) (n+1))∧RdL w' a (n+1) (n+1) (fx (n+1) N)∧N<1000000000 ^ (n+1)∧Bc w w' a (n+1)∧xp w w'
theorem eX (w:World) (a:Γ) (n c:Nat) (d:Ξ) (fo:Nat) (hd:RdL w a n c d) (bj:∀x∈d,x<1000000000) (hb:fo<1000000000) (hn:n<35184372088832) :
  Θ 319 #[.slice a n c,.int .u32 fo] w (uF w n (val d*fo)):=by
 have HB:=Ac w w;have hlen:=hd.len;have LC:Hid (∀i,i<n+1→-4000000000000000000≤(fun i=>lim d i*(fo:Int)) i∧(fun i=>lim d i*(fo:Int)) i≤4000000000000000000):=Ae (by
  intro i _;have hs:=hd.small i;have h0:0≤lim d i*(fo:Int):=Int.mul_nonneg hs.1 qB;have FD:lim d i*(fo:Int)≤999999999*999999999:=Int.mul_le_mul (by have:=Hi bj i;omega) qB qB qB;show -4000000000000000000≤lim d i*(fo:Int)∧lim d i*(fo:Int)≤4000000000000000000
  omega)
 have HL:=Ae bj;have HN:Hid (val d*fo<1000000000 ^ (n+1)):=Ae (by
  have h1:=Ep d bj;rw [hlen] at h1;rw [Nat.pow_succ];exact Nat.mul_lt_mul'' h1 hb)
 clear bj;go_enter func319,ntmps319;go_wp2_with fail;refine (bV _ _ (n+1) qB _ _ (fun i=>lim d i*(fo:Int)) qB LC.out (fun i W hi hW=>tM W w (w+1) a n c d fo hb i (hd.keep (Al qD (hW.mono qA))) (by have:=Hi HL.out i;omega) (Bb hW qJ) (Bb hW qJ))).mono ?_;rintro e w4 ⟨ac,rfl,hr,eh,ec⟩;have o8:=zP w ec;rw [sL d fo (n+1) qB,gZ] at hr;have j6:Bc w w4 ac (n+1):=eh.mono qA;go_wp2_with fail;go_ret;exact ⟨ac,rfl,hr,HN.out,j6,o8⟩
@[go_sem ↓] theorem Aa6 (w:World) (g:Bool) (a:Γ) (n c:Nat):(Instr.field 51 (.agg #[.bool g,.slice a n c]) 1).run prog w=.ok (.slice a n c) w:=qE
theorem vS (w:World) (a:Γ) (n c:Nat) (d:Ξ) (a':Γ) (n' c':Nat) (d':Ξ) (k:Nat) (hd:RdL w a n c d) (ik:RdL w a' n' c' d') (bj:∀x∈d,x<1000000000) (rz:∀x∈d',x<1000000000)
  (hk:k<1000000000) (rk:n'<35184372088832) :
  Θ 321 #[.slice a n c,.slice a' n' c',.int .u64 k] w fun e w'=>e=.returned (.bool (decide (val d<val d'*k)))∧xp w w':=by
 have HB:=Ac w w;have HL:=Ae bj;have SB:=Ae rz;clear bj rz;go_enter func321,ntmps321;go_wp2_with fail;refine (Nm _ _ _ _ d hd).mono ?_;rintro e w1 ⟨a1,c1,rfl,lg,ln,br⟩;have ir:=zP w br;go_wp2_with fail;refine (Ft _ _ _ _ _ d lg HL.out).mono ?_;rintro e w2 ⟨g2,n2,rfl,vh,FG,bp⟩;have fg:xp w w2:=Al ir (bp.mono ir.size);go_wp2_with fail;refine (eX _ _ _ _ d' k (ik.keep fg) SB.out hk rk).mono ?_;rintro e w3 ⟨a3,rfl,nc,hN,sq,ea⟩;have ep:xp w w3:=Al fg (ea.mono fg.size);have HN:=Ae (Qw _ _ hN);clear hN;go_wp2_with fail;refine (Ft _ _ _ _ _ _ nc (pX _ _)).mono ?_;rintro e w4 ⟨g4,n4,rfl,JF,yv,ec⟩;have o8:xp w w4:=Al ep (ec.mono ep.size);have lf:=(FG.rd.keep ea).keep ec;rw [Ha] at lf;have su:=yv.rd;rw [Ha,HN.out] at su;clear FG yv;go_wp2_with fail;refine (Fb _ _ _ _ _ _ _ _ _ lf su (Cb _) (Cb _)).mono ?_;rintro e w5 ⟨rfl,dx⟩;have oq:xp w w5:=Al o8 (dx.mono o8.size);rw [Bq,Bq];have hr:∀x y:Nat,decide (Bz (x:Int) (y:Int)<0)=decide (x<y):=by
  intro x y;exact qDv
 replace hr:=hr (val d) (val d'*k);rw [Int.natCast_mul] at hr;have HR:=Ae hr;clear hr;go_wp2_with fail;go_ret;exact ⟨congrArg (fun b=>Ending.returned (.bool b)) HR.out,oq⟩
theorem Wy (g o n c k:Nat) (hk:k≤c):(Instr.sliceAt 49 (.slice (some ⟨g,o,none⟩) n c) none (some (M (k:Int))) none).run prog W=.ok (.slice (some ⟨g,o,none⟩) k c) W:=qBu
theorem tK (g o n c i k:Nat) (hi:i≤k) (hk:k≤c) (hc:i<c):(Instr.sliceAt 49 (.slice (some ⟨g,o,none⟩) n c) (some (M (i:Int))) (some (M (k:Int))) none).run prog W=.ok (.slice (some ⟨g,o+i,none⟩) (k-i) (c-i)) W:=by
 have h0:(0:Int)≤(k:Int):=qB;have h3:(0:Int)≤(i:Int):=qB;have h4:c≠i:=qB;simp [Instr.sliceAt,Instr.slice,Instr.sliceBounds,Instr.sliceBound,go_sem,h0,h3,h4,hk,hi]
theorem RdL.front {a:Γ} {n c:Nat} {d:Ξ} (h:RdL w a n c d) {k:Nat} (hk:k≤n):RdL w a k c (d.take k):=by
 have hl:=h.len;refine ⟨by rw [List.length_take];omega,Ah hk h.cap,Ah hk h.few,h.top,fun i=>?_,?_⟩
 ·rcases Nat.lt_or_ge i k with h1|h1
  ·have:lim (d.take k) i=lim d i:=by simp [lim,List.getD,List.getElem?_take,h1]
   rw [this];exact h.small i
  ·have:lim (d.take k) i=0:=by simp [lim,List.getD,List.getElem?_take,Nat.not_lt.2 h1]
   rw [this];omega
 ·rcases h.cell with h0|⟨b,o,ha,hc⟩
  ·exact .inl qB
  ·refine .inr ⟨b,o,ha,fun i hi=>?_⟩;have:lim (d.take k) i=lim d i:=by simp [lim,List.getD,List.getElem?_take,hi]
   rw [this];exact hc i qB
theorem RdL.mid {b o n c:Nat} {d:Ξ} (h:RdL w (some ⟨b,o,none⟩) n c d) {i k:Nat} (hk:i+k≤n):RdL w (some ⟨b,o+i,none⟩) k (c-i) ((d.drop i).take k):=by
 have hl:=h.len;have SU:=h.cap;have y9:=h.few;have htp:=h.top;have e:∀j,j<k→lim ((d.drop i).take k) j=lim d (i+j):=fun j hj=>by simp [lim,List.getD,List.getElem?_take,hj,List.getElem?_drop]
 refine ⟨by rw [List.length_take,List.length_drop];omega,qB,qB,qB,fun j=>?_,.inr ⟨b,o+i,rfl,fun j hj=>?_⟩⟩
 ·rcases Nat.lt_or_ge j k with h1|h1
  ·rw [e j h1];exact h.small _
  ·have:lim ((d.drop i).take k) j=0:=by simp [lim,List.getD,List.getElem?_take,Nat.not_lt.2 h1]
   rw [this];omega
 ·rw [e j hj,Nat.add_assoc];exact h.at qB
theorem yX {d:Ξ} (h:∀x∈d,x<1000000000) (i k:Nat):∀x∈(d.drop i).take k,x<1000000000:=fun x hx=>h x (List.mem_of_mem_drop (List.mem_of_mem_take hx))
def Cw (w:World):Type:={ W:World // xp w W }
instance (w:World):Nonempty (Cw w):=⟨⟨w,Ac _ w⟩⟩
theorem Cr {P:Program} {f:FuncId} {args:Array Value} {n:Cw w}
  (h:Calls P f args n.1 fun e w'=>e=.returned v∧Below n.1 n.1 w'):Calls P f args n.1 fun e GI=>e=.returned v∧∃m:Cw w,GI=m.1 :=
 h.mono fun _ w' ⟨he,hb⟩=>⟨he,⟨w',(xo n.2 hb)⟩,rfl⟩
theorem Abx {P:Program} {f:FuncId} {args:Array Value} {n:Cw w}
  (h:Calls P f args n.1 fun e w'=>e=.returned v∧n.1=w'):Calls P f args n.1 fun e GI=>e=.returned v∧∃m:Cw w,GI=m.1 :=
 h.mono fun _ _ ⟨he,hb⟩=>⟨he,n,hb.symm⟩
theorem Bk {p:Addr} (h:w.cell? p=some v):∀n:Cw w,n.1.cell? p=some v:=fun n=>Bb n.2 h
theorem Bi {P:Program} {id:Nat} {Q:Exit→Act→World→Prop} {a:Act} {l:List Oper} (hm:P.follows .mixedOrders=true) (hB:Region.lexB .any l.toArray=true)
  (h:wpQuiet P l.toArray (fun w'=>∃n:Cw w,w'=n.1) (fun a'=>∀w',(∃n:Cw w,w'=n.1)→Q .normal a' w') l a):(Code.region id l.toArray true).wp P Q a w :=
 wp_region_quiet (C:=fun w'=>∃n:Cw w,w'=n.1) hm hB ⟨⟨w.drew,(Ac _ w).drew⟩,rfl⟩ (by simpa using h)
end Go.Proofs.YtfijkfdfbnfmmaaGreatDoor
end
section
namespace Go.Proofs.YtfijkfdfbnfmmaaGreatDoor
open Proofs.Tryz
variable {g V s n m U0 i k:Nat} {u l q d v:Ξ}
theorem lV {h two v1 X r:Nat} (hg:g*V≤h) (hV:V=s+X*v1) (hh:h=r+X*two) (hr:r<X) (hv:0<v1):g≤two/v1:=by
 rw [Nat.le_div_iff_mul_le hv];refine Nat.le_of_lt_succ (Nat.lt_of_not_le fun hc=>?_);have h1:X*(two+1)≤X*(g*v1):=At X hc;have h2:X*(g*v1)≤g*V:=by
  rw [hV,Nat.mul_add,Nat.mul_left_comm X g v1];exact Nat.le_add_left _ _
 rw [Nat.mul_add,Nat.mul_one] at h1;omega
theorem cT {h two v1 v2 h3 J0 X r jl:Nat} (hg:g*V≤h) (hV:V=s+X*(v2+1000000000*v1)) (hh:h=r+X*(h3+1000000000*two)) (hr:r<X)
  (ho:two=J0+jl*v1) (hc:J0*1000000000+h3<jl*v2) (hle:g≤jl):g≤jl-1:=by
 rcases Nat.lt_or_ge g jl with h1|h1
 ·omega
 ·exfalso;obtain rfl:g=jl:=qB;have h2:X*(g*(v2+1000000000*v1))≤g*V:=by
   rw [hV,Nat.mul_add g s,Nat.mul_left_comm X g];exact Nat.le_add_left _ _
  have h3':X*(g*(v2+1000000000*v1))<X*(h3+1000000000*two+1):=by
   rw [Nat.mul_add X _ 1,Nat.mul_one];omega
  have h4:=Nat.lt_of_mul_lt_mul_left h3';rw [ho,Nat.mul_add g,Nat.mul_left_comm g 1000000000 v1,Nat.mul_add 1000000000] at h4;rw [Nat.mul_comm J0] at hc;omega
structure Hc (U0 V n m k:Nat) (u q:Ξ):Prop where
 ulen:u.length=m+n
 ult:∀x∈u,x<1000000000
 qlen:q.length=m
 qlt:∀x∈q,x<1000000000
 km:k≤m
 qz:∀j,j<k→q.getD j 0=0
 top:val (u.drop k)<V
 eq:val u+1000000000 ^ k*(V*val (q.drop k))=U0
theorem Hc.start (hl:u.length=m+n) (bj:∀x∈u,x<1000000000) (ht:val (u.drop m)<V):Hc (val u) V n m m u (List.replicate m 0) where
 ulen:=hl
 ult:=bj
 qlen:=qH
 qlt _ hx:=by rw [(List.mem_replicate.1 hx).2];omega
 km:=Ad _
 qz j hj:=by simp only [List.getD,List.getElem?_replicate];split<;>rfl
 top:=ht
 eq:=by rw [List.drop_of_length_le qH,show val []=0 from rfl,Nat.mul_zero,Nat.mul_zero,Nat.add_zero]
theorem K7 (h:val l<V) (hV:V≤1000000000 ^ n) (hn:n≤l.length):val (l.drop n)=0:=by
 have h1:=Ei l n hn;rcases Aq (val (l.drop n)) with h2|h2
 ·exact h2
 ·exfalso;have h3:1000000000 ^ n*1≤1000000000 ^ n*val (l.drop n):=At _ h2;rw [Nat.mul_one] at h3;omega
theorem Hc.rest (h:Hc U0 V n m (i+1) u q) (hV:V≤1000000000 ^ n):val (u.drop (i+(n+1)))=0:=by
 have h1:=h.km;have h2:=h.ulen;have:=K7 h.top hV (by rw [List.length_drop];omega);rw [List.drop_drop] at this;rw [show i+(n+1)=i+1+n from qB];exact this
theorem Hc.head (h:Hc U0 V n m (i+1) u q) (hV:V≤1000000000 ^ n):val ((u.drop i).take (n+1))=val (u.drop i):=by
 have h1:=h.km;have h2:=h.ulen;have h3:=Ei (u.drop i) (n+1) (by rw [List.length_drop];omega);rw [List.drop_drop,h.rest hV,Nat.mul_zero,Nat.add_zero] at h3;exact h3.symm
theorem Hc.head_lt (h:Hc U0 V n m (i+1) u q):val (u.drop i)<1000000000*V:=by
 have h1:=h.km;have h2:=h.ulen;have h3:=F5 u i qB;have h4:=Cx h.ult i;have h5:=h.top;have h6:1000000000*(val (u.drop (i+1))+1)≤1000000000*V:=At _ h5;rw [Nat.mul_add] at h6;omega
theorem Hc.step {less:Ξ} (h:Hc U0 V n m (i+1) u q) (hV:V≤1000000000 ^ n) (BO:0<V) (g:Nat) (hg:g=val (u.drop i)/V)
  (hl:less.length=n+1) (bj:∀x∈less,x<1000000000) (hv:val less=val (u.drop i)-g*V) :
  Hc U0 V n m i (u.take i++(less++u.drop (i+less.length))) (q.set i g):=by
 have hkm:=h.km;have KQ:=h.ulen;have uo:=h.qlen;have hr:=h.rest hV;have oh:g<1000000000:=by rw [hg];exact (Nat.div_lt_iff_lt_mul BO).2 h.head_lt
 have hmd:val (u.drop i)-g*V=val (u.drop i)%V:=by
  have:=Nat.div_add_mod (val (u.drop i)) V;rw [←hg,Nat.mul_comm] at this;omega
 have hdm:val (u.drop i)=val less+g*V:=by
  have:=Nat.div_add_mod (val (u.drop i)) V;rw [←hg,Nat.mul_comm V g] at this;omega
 have sx:(u.take i).length=i:=by rw [List.length_take];omega
 have IV:val (less++u.drop (i+less.length))=val less:=by
  rw [Fq,hl,hr,Nat.mul_zero,Nat.add_zero]
 refine ⟨?_,?_,?_,Ho h.qlt oh,qB,?_,?_,?_⟩
 ·rw [A8,A8,sx,List.length_drop];omega
 ·intro x hx;rcases List.mem_append.1 hx with hx|hx
  ·exact h.ult x (List.mem_of_mem_take hx)
  ·rcases List.mem_append.1 hx with hx|hx
   ·exact bj x hx
   ·exact h.ult x (List.mem_of_mem_drop hx)
 ·rw [List.length_set];exact uo
 ·intro j hj;rw [Gu qB];exact h.qz j qB
 ·rw [List.drop_left' sx,IV,hv,hmd];exact Nat.mod_lt _ BO
 ·have e1:val (u.take i++(less++u.drop (i+less.length)))=val (u.take i)+1000000000 ^ i*val less:=by rw [Fq,sx,IV]
  have e2:val u=val (u.take i)+1000000000 ^ i*(val less+g*V):=by rw [←hdm];exact Ei u i qB
  have e3:val ((q.set i g).drop i)=g+1000000000*val (q.drop (i+1)):=by
   rw [F5 (q.set i g) i (by rw [List.length_set];omega),List.drop_set_of_lt qB]
   congr 1
   simp [List.getD,show i<q.length from qB]
  have e4:=h.eq;rw [e1,e3,←e4,e2,Nat.mul_add V,Nat.mul_add (1000000000 ^ i),Nat.mul_add (1000000000 ^ i),Nat.pow_succ,Nat.mul_comm V g];rw [Nat.mul_left_comm V 1000000000,Nat.mul_assoc (1000000000 ^ i) 1000000000];omega
theorem Hc.done (h:Hc U0 V n m 0 u q) (BO:0<V):val q=U0/V∧val u=U0%V:=by
 have h1:=h.eq;have h2:=h.top;rw [List.drop_zero] at h1 h2;rw [Nat.pow_zero,Nat.one_mul] at h1;have h3:=(Nat.div_mod_unique BO).2 ⟨h1,h2⟩;exact ⟨h3.1.symm,h3.2.symm⟩
theorem Uo (h:val l<V) (hV:V≤1000000000 ^ n) (hn:n≤l.length):val (l.take n)=val l:=by
 have h1:=Ei l n hn;rw [K7 h hV hn,Nat.mul_zero,Nat.add_zero] at h1;exact h1.symm
theorem Hc.skip (h:Hc U0 V n m (i+1) u q) (hg:val (u.drop i)<V):Hc U0 V n m i u q where
 ulen:=h.ulen
 ult:=h.ult
 qlen:=h.qlen
 qlt:=h.qlt
 km:=by have:=h.km;omega
 qz j hj:=h.qz j qB
 top:=hg
 eq:=by
  have h1:=h.km;have h2:=h.qlen;have h3:=F5 q i qB;rw [h.qz i qB,Nat.zero_add] at h3;have h4:=h.eq;rw [h3,←h4,Nat.pow_succ,Nat.mul_left_comm V,Nat.mul_assoc]
theorem Lq (h:l.length=k+1):l.drop k=[l.getD k 0]:=by
 rw [List.drop_eq_getElem_cons qB,List.drop_of_length_le qB];simp [List.getD,show k<l.length from qB]
theorem Ll (h:l.length=k+1):val l=val (l.take k)+1000000000 ^ k*l.getD k 0:=by
 have h1:=Ei l k qB;rw [Lq h] at h1;simpa [val] using h1
theorem bF (h:l.length=k+2):val l=val (l.take k)+1000000000 ^ k*(l.getD k 0+1000000000*l.getD (k+1) 0):=by
 have h1:=Ei l k qB;rw [F5 l k qB,Lq (k:=k+1) qB] at h1;simpa [val] using h1
theorem rO (h:l.length=k+3):val l=val (l.take k)+1000000000 ^ k*(l.getD k 0+1000000000*(l.getD (k+1) 0+1000000000*l.getD (k+2) 0)):=by
 have h1:=Ei l k qB;rw [F5 l k qB,F5 l (k+1) qB,Lq (k:=k+2) qB] at h1;simpa [val] using h1
theorem Gz (h:∀x∈l,x<1000000000) (k:Nat) (hk:k≤l.length):val (l.take k)<1000000000 ^ k:=by
 have h1:=Ep (l.take k) (fun x hx=>h x (List.mem_of_mem_take hx));rw [List.length_take,Nat.min_eq_left hk] at h1;exact h1
theorem Yk (h:Dy d) (hl:d.length=m) (hm:1≤m):0<d.getD (m-1) 0:=by
 have h4:=h.2.resolve_left (fun e=>by rw [e] at hl;simp at hl;omega);rcases Aq (d.getD (m-1) 0) with h5|h5
 ·exfalso;apply h4;rw [List.getLast?_eq_getElem?,hl];have h6:m-1<d.length:=qB;rw [Ai h6];simp only [List.getD,Ai h6,Option.getD_some] at h5;rw [h5]
 ·exact h5
structure zV (d d':Ξ) (n n' s:Nat):Prop where
 vlt:val d'*s<1000000000 ^ n'
 vpos:0<val d'*s
 ult:val d*s<1000000000 ^ (n+1)
 top:∀u:Ξ,u.length=n+1→val u=val d*s→val (u.drop (n+1-n'))<val d'*s
 v1:∀v:Ξ,v.length=n'→(∀x∈v,x<1000000000)→val v=val d'*s→0<v.getD (n'-1) 0
theorem jL {d':Ξ} {n' t:Nat} (hd:∀x∈d,x<1000000000) (ik:∀x∈d',x<1000000000) (hl:d.length=n) (hl':d'.length=n') (h2:2≤n') (hle:n'≤n)
  (ht:t=d'.getD (n'-1) 0) (ht0:0<t) (hs:s=1000000000/(t+1)) (BG:0<s) (ki:s<1000000000):zV d d' n n' s:=by
 have iv:s*(t+1)≤1000000000:=by rw [hs];exact Nat.div_mul_le_self _ _
 have hv:=Ll (l:=d') (k:=n'-1) qB;rw [←ht] at hv;have hr:=Gz ik (n'-1) qB;generalize val (d'.take (n'-1))=r at hv hr;obtain ⟨X,hX⟩:∃X,X=1000000000 ^ (n'-1):=⟨_,rfl⟩;rw [←hX] at hv hr;have hXn:1000000000 ^ n'=X*1000000000:=by rw [hX,←Nat.pow_succ];congr 1;omega
 have qy:X≤val d':=by
  rw [hv];have:X*1≤X*t:=At _ ht0;omega
 have YB:0<X:=by rw [hX];exact Nat.pow_pos qB
 have BO:0<val d'*s:=Nat.mul_pos qB BG;have hVX:X*s≤val d'*s:=Nat.mul_le_mul_right _ qy;refine ⟨?_,BO,?_,?_,?_⟩
 ·have h1:val d'<X*(t+1):=by rw [hv,Nat.mul_add];omega
  have h3:val d'*s<X*(t+1)*s:=Nat.mul_lt_mul_of_pos_right h1 BG;have h4:X*(t+1)*s≤X*1000000000:=by rw [Nat.mul_assoc,Nat.mul_comm (t+1)];exact At _ iv
  rw [hXn];omega
 ·have h1:=Ep d hd;rw [hl] at h1;rw [Nat.pow_succ];exact Nat.mul_lt_mul'' h1 ki
 ·intro u hu hval;have h1:=Ei u (n+1-n') qB;have h3:=Ep d hd;rw [hl] at h3;have h4:val u<1000000000 ^ n*s:=by rw [hval];exact Nat.mul_lt_mul_of_pos_right h3 BG
  have h5:1000000000 ^ n=1000000000 ^ (n+1-n')*X:=by rw [hX,←Nat.pow_add];congr 1;omega
  rw [h5,Nat.mul_assoc] at h4;have h6:1000000000 ^ (n+1-n')*val (u.drop (n+1-n'))<1000000000 ^ (n+1-n')*(X*s):=qB;have:=Nat.lt_of_mul_lt_mul_left h6;omega
 ·intro v IV agc hval;have h1:=Ll (l:=v) (k:=n'-1) qB;have h3:=Gz agc (n'-1) qB;rw [←hX] at h1 h3;rcases Aq (v.getD (n'-1) 0) with h4|h4
  ·rw [h4,Nat.mul_zero,Nat.add_zero] at h1;have:X*1≤X*s:=At _ BG;omega
  ·exact h4
structure Zd (v head:Ξ) (V g k:Nat) (two J0 jl:Nat):Prop where
 le:g≤jl
 small:jl≤999999999
 two:two=J0+jl*v.getD (k+1) 0
theorem aB {head:Ξ} {two:Nat} (hv:v.length=k+2) (hh:head.length=k+3) (agc:∀x∈v,x<1000000000) (IW:∀x∈head,x<1000000000) (hV:val v=V) (BO:0<v.getD (k+1) 0)
  (hg:g=val head/V) (SH:g<1000000000) (h2:two=head.getD (k+2) 0*1000000000+head.getD (k+1) 0) :
  Zd v head V g k two (two-min (two/v.getD (k+1) 0) 999999999*v.getD (k+1) 0) (min (two/v.getD (k+1) 0) 999999999):=by
 have h1:=Ll (l:=v) (k:=k+1) hv;have h3:=bF (l:=head) (k:=k+1) hh;have hr:=Gz IW (k+1) qB;have hle:g*V≤val head:=by rw [hg];exact Nat.div_mul_le_self _ _
 have hq:=lV (g:=g) (V:=V) (h:=val head) (two:=two) (v1:=v.getD (k+1) 0) (X:=1000000000 ^ (k+1)) (r:=val (head.take (k+1))) (s:=val (v.take (k+1))) hle (by rw [←hV,h1])
  (by rw [h3,h2,Nat.mul_comm (head.getD (k+2) 0),Nat.add_comm (1000000000*_)]) hr BO
 refine ⟨qB,qB,?_⟩;have:min (two/v.getD (k+1) 0) 999999999*v.getD (k+1) 0≤two:=Ah (Nat.mul_le_mul_right _ (Nat.min_le_left _ _)) (Nat.div_mul_le_self _ _);omega
theorem Zb {head:Ξ} {two J0 jl:Nat} (h:Zd v head V g k two J0 jl) (hv:v.length=k+2) (hh:head.length=k+3) (IW:∀x∈head,x<1000000000) (hV:val v=V)
  (hg:g=val head/V) (h2:two=head.getD (k+2) 0*1000000000+head.getD (k+1) 0) (hc:J0*1000000000+head.getD k 0<jl*v.getD k 0) :
  1≤jl∧Zd v head V g k two (J0+v.getD (k+1) 0) (jl-1):=by
 have h1:=bF (l:=v) (k:=k) hv;have h3:=rO (l:=head) (k:=k) hh;have hr:=Gz IW k qB;have hle:g*V≤val head:=by rw [hg];exact Nat.div_mul_le_self _ _
 have h0:1≤jl:=by
  rcases Aq jl with h0|h0
  ·rw [h0,Nat.zero_mul] at hc;omega
  ·exact h0
 refine ⟨h0,?_,by have:=h.small;omega,?_⟩
 ·exact cT (V:=V) (h:=val head) (v1:=v.getD (k+1) 0) (v2:=v.getD k 0) (h3:=head.getD k 0) (X:=1000000000 ^ k) (r:=val (head.take k)) (s:=val (v.take k)) hle (by rw [←hV,h1])
   (by rw [h3,h2,Nat.mul_comm (head.getD (k+2) 0),Nat.add_comm (1000000000*_) (head.getD (k+1) 0)]) hr h.two hc h.le
 ·have:=h.two;obtain ⟨x,rfl⟩:∃x,jl=x+1:=⟨jl-1,qB⟩;rw [Nat.add_sub_cancel];rw [Nat.add_mul,Nat.one_mul] at this;omega
theorem eU {x y:Nat} (hs:0<s):(x*s)/(y*s)=x/y∧((x*s)%(y*s))/s=x%y:=by
 refine ⟨Nat.mul_div_mul_right _ _ hs,?_⟩;rw [Nat.mul_mod_mul_right,Nat.mul_div_cancel _ hs]
theorem uM (m N:Nat):(fx (m+1) N).take m=fx m N:=by
 rw [vW,List.take_left' (Mw m N)]
end Go.Proofs.YtfijkfdfbnfmmaaGreatDoor
end
