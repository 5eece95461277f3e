/- Plain: sums as lists of terms (key, above, below), the greatest key first; two of them added. -/
import Derived.Test.YtfijkfdfbnfmmaaGreatDoorQF11
set_option linter.unusedSimpArgs false
set_option linter.unusedVariables false
set_option maxRecDepth 100000
set_option maxHeartbeats 4000000
section
namespace Go.Proofs.YtfijkfdfbnfmmaaGreatDoor
open Go.RowKit Proofs.Tryz
abbrev PC:=Int×Int
abbrev PT:=Nat×Int×Int
abbrev Δ:=List PT
variable (a b:Δ) (w W:World) (x0 x1 x2 x3 y0 y1 y2 y3:Int) {k:Nat} {f g:Nat→Int} {a1 a2:Γ} {l:Δ} {d1 d2 d:Ξ}
def He (c d:PC):PC:=(Fh (c.1*d.2+d.1*c.2) (c.2*d.2),E5 (c.1*d.2+d.1*c.2) (c.2*d.2))
def Ct (c d:PC):PC:=(Fh (c.1*d.1) (c.2*d.2),E5 (c.1*d.1) (c.2*d.2))
structure CW (c:PC):Prop where
 pos:0<c.2
 red:Int.gcd c.1 c.2=1
theorem vQ {a b:Int} (hb:0<b):0<E5 a b:=by
 unfold E5;have hg:0<Int.gcd a b:=Int.gcd_pos_of_ne_zero_right _ qB;have hd:(Int.gcd a b:Int)∣b:=Int.gcd_dvd_right ..;obtain ⟨k,hk⟩:=hd;have tq:(0:Int)<(Int.gcd a b:Int):=by exact_mod_cast hg
 have:b/(Int.gcd a b:Int)=k:=by
  conv=>lhs;rw [hk]
  rw [←hk];exact Int.ediv_eq_of_eq_mul_right qB hk
 rw [this];have vn:0<(Int.gcd a b:Int)*k:=by rw [←hk];exact hb
 exact Int.pos_of_mul_pos_right vn qB
theorem uN {a b:Int} (hb:0<b):Int.gcd (Fh a b) (E5 a b)=1:=by
 unfold Fh E5;have hg:0<Int.gcd a b:=Int.gcd_pos_of_ne_zero_right _ qB;exact Int.gcd_ediv_gcd_ediv_gcd hg
theorem CW.low {a b:Int} (hb:0<b):CW (Fh a b,E5 a b):=⟨vQ hb,uN hb⟩
theorem CW.add {c d:PC} (hc:CW c) (hd:CW d):CW (He c d):=CW.low (Int.mul_pos hc.pos hd.pos)
theorem CW.mul {c d:PC} (hc:CW c) (hd:CW d):CW (Ct c d):=CW.low (Int.mul_pos hc.pos hd.pos)
theorem Yt {a b:Int} (h:Int.gcd a b=1):Fh a b=a:=by unfold Fh;rw [h];simp
theorem W6 {a b:Int} (h:Int.gcd a b=1):E5 a b=b:=by unfold E5;rw [h];simp
theorem Pk {c:PC} (hc:CW c):Ct c (1,1)=c:=by
 unfold Ct;simp only [Int.mul_one];rw [Yt hc.red,W6 hc.red]
abbrev Dh (l:Δ):Prop:=l.Pairwise (fun a b=>b.1<a.1)
abbrev On (l:Δ):Prop:=∀t∈l,CW t.2∧t.2.1≠0
structure PW (l:Δ):Prop where
 falls:Dh l
 good:On l
 key:∀t∈l,t.1<18446744073709551616
def lk:Δ→Nat→Option PC
 | [],_=>none
 | t::l,k=>if t.1=k then some t.2 else lk l k
theorem Ks (t:PT) (l:Δ) (k:Nat):lk (t::l) k=if t.1=k then some t.2 else lk l k:=rfl
theorem fE (h:∀t∈l,t.1≠k):lk l k=none:=by
 induction l with
 | nil=>rfl
 | cons t l ih =>
  rw [lk,if_neg (h t qH)];exact ih fun t' h'=>h t' (by simp [h'])
theorem Jf {c:PC} (h:lk l k=some c):(k,c)∈l:=by
 induction l with
 | nil=>cases h
 | cons t l ih =>
  rw [lk] at h
  split at h
  ·next e=>cases h;subst e;simp
  ·simp [ih h]
theorem J1 (hf:Dh l) {c:PC} (h:(k,c)∈l):lk l k=some c:=by
 induction l with
 | nil=>cases h
 | cons t l ih =>
  obtain ⟨h1,h2⟩:=List.pairwise_cons.1 hf;rw [lk];rcases List.mem_cons.1 h with rfl|h
  ·simp
  ·have:=h1 _ h;rw [if_neg (by simp at this;omega)];exact ih h2 h
theorem Mp:∀{l l':Δ},Dh l→Dh l'→(∀t,t∈l↔t∈l')→l=l'
 | [],[],_,_,_=>rfl
 | [],t::l',_,_,h=>by have:=(h t).2 qH;cases this
 | t::l,[],_,_,h=>by have:=(h t).1 qH;cases this
 | t::l,t'::l',hf,wk,h=>by
  obtain ⟨h1,h2⟩:=List.pairwise_cons.1 hf;obtain ⟨FD,KJ⟩:=List.pairwise_cons.1 wk;have e:t=t':=by
   rcases List.mem_cons.1 ((h t).1 qH) with e|m
   ·exact e
   ·rcases List.mem_cons.1 ((h t').2 qH) with e'|m'
    ·exact e'.symm
    ·have a:=h1 _ m';have b:=FD _ m;omega
  subst e;rw [Mp h2 KJ fun x=>?_];constructor
  ·intro hx;rcases List.mem_cons.1 ((h x).1 (by simp [hx])) with e|m
   ·subst e;have:=h1 _ hx;omega
   ·exact m
  ·intro hx;rcases List.mem_cons.1 ((h x).2 (by simp [hx])) with e|m
   ·subst e;have:=FD _ hx;omega
   ·exact m
def Cf:Δ→Δ→Δ
 | [],b=>b
 | x::a,[]=>x::a
 | x::a,y::b =>
  if y.1<x.1 then x::Cf a (y::b)
  else if x.1<y.1 then y::Cf (x::a) b
  else if (He x.2 y.2).1=0 then Cf a b else (x.1,He x.2 y.2)::Cf a b
termination_by a b=>a.length+b.length
def Yf:Option PC→Option PC→Option PC
 | none,y=>y
 | some c,none=>some c
 | some c,some d=>if (He c d).1=0 then none else some (He c d)
theorem V6 (x:Option PC):Yf x none=x:=by cases x<;>rfl
theorem M7 (K:Nat) (ha:∀t∈a,t.1<K) (hb:∀t∈b,t.1<K):∀t∈Cf a b,t.1<K:=by
 induction a,b using Cf.induct with
 | case1 b=>simpa [Cf] using hb
 | case2 x a=>simpa [Cf] using ha
 | case3 x a y b bj ih =>
  exact qEk
 | case4 x a y b h1 h2 ih =>
  exact qEh
 | case5 x a y b h1 h2 h3 ih =>
  exact qEx
 | case6 x a y b h1 h2 h3 ih =>
  rw [Cf,if_neg h1,if_neg h2,if_neg h3];intro t ht;rcases List.mem_cons.1 ht with rfl|ht
  ·exact ha x qH
  ·exact ih (fun t h=>ha t (by simp [h])) (fun t h=>hb t (by simp [h])) t ht
theorem Oi (ha:Dh a) (hb:Dh b):Dh (Cf a b):=by
 induction a,b using Cf.induct with
 | case1 b=>simpa [Cf] using hb
 | case2 x a=>simpa [Cf] using ha
 | case3 x a y b bj ih =>
  obtain ⟨h1,h2⟩:=List.pairwise_cons.1 ha;obtain ⟨k1,k2⟩:=List.pairwise_cons.1 hb;rw [Cf,if_pos bj];refine List.pairwise_cons.2 ⟨M7 _ _ _ h1 (fun t ht=>?_),ih h2 hb⟩;rcases List.mem_cons.1 ht with rfl|ht
  ·exact bj
  ·have:=k1 _ ht;omega
 | case4 x a y b hn bj ih =>
  obtain ⟨h1,h2⟩:=List.pairwise_cons.1 ha;obtain ⟨k1,k2⟩:=List.pairwise_cons.1 hb;rw [Cf,if_neg hn,if_pos bj];refine List.pairwise_cons.2 ⟨M7 _ _ _ (fun t ht=>?_) k1,ih ha k2⟩;rcases List.mem_cons.1 ht with rfl|ht
  ·exact bj
  ·have:=h1 _ ht;omega
 | case5 x a y b h1 h2 h3 ih =>
  rw [Cf,if_neg h1,if_neg h2,if_pos h3];exact ih (List.pairwise_cons.1 ha).2 (List.pairwise_cons.1 hb).2
 | case6 x a y b hn hm h3 ih =>
  obtain ⟨h1,h2⟩:=List.pairwise_cons.1 ha;obtain ⟨k1,k2⟩:=List.pairwise_cons.1 hb;rw [Cf,if_neg hn,if_neg hm,if_neg h3];refine List.pairwise_cons.2 ⟨M7 _ _ _ h1 (fun t ht=>?_),ih h2 k2⟩;have:=k1 _ ht;show t.1<x.1;omega
theorem Jl (h:∀t∈l,t.1<k):lk l k=none:=fE fun t ht e=>by have:=h t ht;omega
theorem uG (ha:Dh a) (hb:Dh b) (k:Nat):lk (Cf a b) k=Yf (lk a k) (lk b k):=by
 induction a,b using Cf.induct with
 | case1 b=>simp [Cf,lk,Yf]
 | case2 x a=>simp [Cf,lk,V6]
 | case3 x a y b bj ih =>
  obtain ⟨h1,h2⟩:=List.pairwise_cons.1 ha;obtain ⟨k1,k2⟩:=List.pairwise_cons.1 hb;rw [Cf,if_pos bj,lk];by_cases e:x.1=k
  ·have hn:lk (y::b) k=none:=Jl fun t ht=>by
    rcases List.mem_cons.1 ht with rfl|ht
    ·omega
    ·have:=k1 _ ht;omega
   rw [if_pos e,hn,V6,lk,if_pos e]
  ·rw [if_neg e,ih h2 hb,Ks x a k,if_neg e]
 | case4 x a y b hn bj ih =>
  obtain ⟨h1,h2⟩:=List.pairwise_cons.1 ha;obtain ⟨k1,k2⟩:=List.pairwise_cons.1 hb;rw [Cf,if_neg hn,if_pos bj,lk];by_cases e:y.1=k
  ·have hn:lk (x::a) k=none:=Jl fun t ht=>by
    rcases List.mem_cons.1 ht with rfl|ht
    ·omega
    ·have:=h1 _ ht;omega
   rw [if_pos e,hn,lk,if_pos e];rfl
  ·rw [if_neg e,ih ha k2,Ks y b k,if_neg e]
 | case5 x a y b hn hm h3 ih =>
  obtain ⟨h1,h2⟩:=List.pairwise_cons.1 ha;obtain ⟨k1,k2⟩:=List.pairwise_cons.1 hb;rw [Cf,if_neg hn,if_neg hm,if_pos h3,ih h2 k2,Ks x a k,Ks y b k];have exy:x.1=y.1:=qB;by_cases e:x.1=k
  ·have e':y.1=k:=qB;rw [if_pos e,if_pos e',Jl (by rw [←e];exact h1),Jl (by rw [←e'];exact k1)];simp [Yf,h3]
  ·have e':¬y.1=k:=qB;rw [if_neg e,if_neg e']
 | case6 x a y b hn hm h3 ih =>
  obtain ⟨h1,h2⟩:=List.pairwise_cons.1 ha;obtain ⟨k1,k2⟩:=List.pairwise_cons.1 hb;rw [Cf,if_neg hn,if_neg hm,if_neg h3,lk,Ks x a k,Ks y b k];have exy:x.1=y.1:=qB;by_cases e:x.1=k
  ·have e':y.1=k:=qB;rw [if_pos e,if_pos e',if_pos (by exact e)];simp [Yf,h3]
  ·have e':¬y.1=k:=qB;rw [if_neg e,if_neg e',if_neg (by exact e),ih h2 k2]
theorem lJ (ha:On a) (hb:On b):On (Cf a b):=by
 induction a,b using Cf.induct with
 | case1 b=>simpa [Cf] using hb
 | case2 x a=>simpa [Cf] using ha
 | case3 x a y b bj ih =>
  exact qEk
 | case4 x a y b h1 h2 ih =>
  exact qEh
 | case5 x a y b h1 h2 h3 ih =>
  exact qEx
 | case6 x a y b h1 h2 h3 ih =>
  rw [Cf,if_neg h1,if_neg h2,if_neg h3];intro t ht;rcases List.mem_cons.1 ht with rfl|ht
  ·exact ⟨(ha x qH).1.add (hb y qH).1,h3⟩
  ·exact ih (fun t h=>ha t (by simp [h])) (fun t h=>hb t (by simp [h])) t ht
theorem PW.add {a b:Δ} (ha:PW a) (hb:PW b):PW (Cf a b) :=
 ⟨Oi a b ha.falls hb.falls,lJ a b ha.good hb.good,M7 a b _ ha.key hb.key⟩
theorem Lr:(Cf a b).length≤a.length+b.length:=by
 induction a,b using Cf.induct with
 | case1 b=>simp [Cf]
 | case2 x a=>simp [Cf]
 | case3 x a y b bj ih=>rw [Cf,if_pos bj];simp at *;omega
 | case4 x a y b h1 h2 ih=>rw [Cf,if_neg h1,if_pos h2];simp at *;omega
 | case5 x a y b h1 h2 h3 ih=>rw [Cf,if_neg h1,if_neg h2,if_pos h3];simp at *;omega
 | case6 x a y b h1 h2 h3 ih=>rw [Cf,if_neg h1,if_neg h2,if_neg h3];simp at *;omega
def I4 (f:Nat→Option PC) (t:PT):Nat→Option PC:=fun k=>if k=t.1 then some (match f t.1 with|none=>t.2|some c=>He c t.2) else f k
def D2 (l:Δ):Nat→Option PC:=l.foldl I4 (fun _=>none)
theorem Qy (l:Δ) (t:PT):D2 (l++[t])=I4 (D2 l) t:=by simp [D2]
theorem Qh (l:Δ) (hl:Dh l) (f:Nat→Option PC) (k:Nat):l.foldl I4 f k=(match lk l k,f k with|none,y=>y|some c,none=>some c|some c,some d=>some (He d c)):=by
 induction l generalizing f with
 | nil=>simp [lk]
 | cons t l ih =>
  obtain ⟨h1,h2⟩:=List.pairwise_cons.1 hl;rw [List.foldl_cons,ih h2,lk];by_cases e:t.1=k
  ·rw [Jl (by rw [←e];exact h1),if_pos e,I4,if_pos e.symm,e]
   cases f k<;>rfl
  ·rw [if_neg e,I4,if_neg qB]
theorem aX (ha:Dh a) (hb:Dh b) (k:Nat):D2 (a++b) k=(match lk b k,lk a k with|none,y=>y|some c,none=>some c|some c,some d=>some (He d c)):=by
 have h1:D2 a k=lk a k:=by
  unfold D2;rw [Qh a ha]
  cases lk a k<;>rfl
 have:D2 (a++b)=b.foldl I4 (D2 a):=by simp [D2]
 rw [this,Qh b hb,h1]
theorem Sx {a b r:Δ} (ha:PW a) (hb:PW b) (hr:Dh r) (hm:∀t,t∈r↔(D2 (a++b) t.1=some t.2∧t.2.1≠0)):r=Cf a b:=by
 refine Mp hr (Oi a b ha.falls hb.falls) fun t=>?_
 obtain ⟨k,c⟩:=t;rw [hm];have e1:(k,c)∈Cf a b↔lk (Cf a b) k=some c:=⟨J1 (Oi a b ha.falls hb.falls),Jf⟩;rw [e1,uG a b ha.falls hb.falls,aX a b ha.falls hb.falls];show _∧c.1≠0↔_
 cases h1:lk a k with
 | none =>
  cases h2:lk b k with
  | none=>simp [Yf]
  | some d =>
   simp only [Yf,Option.some.injEq];constructor
   ·rintro ⟨rfl,_⟩;rfl
   ·rintro rfl;exact ⟨rfl,(hb.good _ (Jf h2)).2⟩
 | some d =>
  cases h2:lk b k with
  | none =>
   simp only [Yf,Option.some.injEq];constructor
   ·rintro ⟨rfl,_⟩;rfl
   ·rintro rfl;exact ⟨rfl,(ha.good _ (Jf h1)).2⟩
  | some d' =>
   simp only [Yf,Option.some.injEq]
   split
   ·next h0 =>
    constructor
    ·rintro ⟨rfl,di⟩;exact absurd h0 di
    ·intro h;cases h
   ·next h0 =>
    simp only [Option.some.injEq];constructor
    ·rintro ⟨rfl,_⟩;rfl
    ·rintro rfl;exact ⟨rfl,h0⟩
def Dd (f g:Nat→Int):Int:=if f 0≠g 0 then Bz (f 0) (g 0) else if f 1≠g 1 then Bz (f 1) (g 1) else if f 2≠g 2 then Bz (f 2) (g 2) else if f 3≠g 3 then Bz (f 3) (g 3) else 0
theorem Ht (hk:k<4) (h:∀j,j<k→f j=g j) (di:f k≠g k):Dd f g=Bz (f k) (g k):=by
 unfold Dd
 match k,hk with
 | 0,_=>rw [if_pos di]
 | 1,_=>rw [if_neg (by simp [h 0 qB]),if_pos di]
 | 2,_=>rw [if_neg (by simp [h 0 qB]),if_neg (by simp [h 1 qB]),if_pos di]
 | 3,_=>rw [if_neg (by simp [h 0 qB]),if_neg (by simp [h 1 qB]),if_neg (by simp [h 2 qB]),if_pos di]
theorem Nh (h:∀j,j<4→f j=g j):Dd f g=0:=by
 unfold Dd;rw [if_neg (by simp [h 0 qB]),if_neg (by simp [h 1 qB]),if_neg (by simp [h 2 qB]),if_neg (by simp [h 3 qB])]
theorem Hr (b b':Nat) (f g:Nat→Int) (hf:∀i,i<4→Z w b i (U (f i))) (hg:∀i,i<4→Z w b' i (U (g i))) :
  Θ 198 #[.slice (E b) 4 4,.slice (E b') 4 4] w fun e w'=>e=.returned (M (Dd f g))∧w=w':=by
 go_enter func198,ntmps198;have HF:=Ae hf;have HG:=Ae hg;clear hf hg;go_wp2;go_loopw [11] (fun v wr=>∃k:Nat,k≤4∧v=M k∧w=wr∧Hid (∀j,j<k→f j=g j)) (fun v _=>4-(intOf v).toNat)
 case atStart=>exact ⟨0,qB,rfl,rfl,Ae (fun j hj=>qB)⟩
 case round =>
  obtain ⟨k,hk,rfl,rfl,he⟩:=hrel;by_cases bj:k<4
  ·have c1:=HF.out k bj;have c2:=HG.out k bj;by_cases hq:f k=g k
   ·have ig:Bz (f k) (g k)=0:=by rw [hq,Du]
    have HQ:=Ae hq;clear hq;go_wp2_with (go_at_call 236;refine (Ry _ _ _).mono ?_;rintro e w1 ⟨rfl,rfl⟩;rw [ig]);go_roundw
    case rel=>exact ⟨k+1,qB,qH,by first|rfl|trivial,Ae (fun j hj=>by
     rcases Nat.lt_or_ge j k with h|h
     ·exact he.out j h
     ·obtain rfl:j=k:=qB;exact HQ.out)⟩
    case measure=>(first|(simp [intOf];omega)|(simp [intOf];done))
   ·have ig:(Bz (f k) (g k)==0)=false:=by rw [beq_eq_false_iff_ne];exact fun e=>hq (Do.1 e)
    have HQ:=Ae hq;clear hq;go_wp2_with (go_at_call 236;refine (Ry _ _ _).mono ?_;rintro e w1 ⟨rfl,rfl⟩);go_ret;exact ⟨by rw [Ht bj he.out HQ.out];rfl,rfl⟩
  ·obtain rfl:k=4:=qB;go_wp2;go_ret;exact ⟨by rw [Nh he.out];rfl,rfl⟩
theorem kO (B clock:Nat) (es:Array MapEntry) (key:Int) (v:Value) (hb:W.heap[B]? = some (.map es clock)) (hf:Instr.findNow (.int .u8) (.int .u8 key) es.toList 0=some none) :
  (Instr.mapUpdate 196 (.map (some B)) (.int .u8 key) v).run prog W=.ok () (W.putObj B (.map (es.push { key:=.int .u8 key,val:=v,born:=clock }) (clock+1))):=by
 have hc:(Instr.checkKey false 10000 22 (.int .u8 key)).run prog W=.ok () W:=MapKept.run_checkKey (k:=.int .u8 key) underlying22 (by simp [MapKept.IsKey]) false 9999;simp [Instr.mapUpdate,run_underlying underlying196,MapKept.run_getObj_map hb,hc,MapKept.run_findKey underlying22 hf,MapKept.run_setObj_map _ hb,Result.andThen,World.putObj]
theorem wU (B clock:Nat) (es:Array MapEntry) (key:Int) (hb:W.heap[B]? = some (.map es clock)) (hf:Instr.findNow (.int .u8) (.int .u8 key) es.toList 0=some none) :
  (Instr.lookup 196 (.map (some B)) (.int .u8 key) false).run prog W=.ok (.slice none 0 0) W:=qCb
theorem Ij {B:Nat} {w w':World} {r:Nat} (o:Obj) (h:Below B w w') (hr:B≤r):Below B w (w'.putObj r o) :=
 ⟨h.os,h.tape,h.output,by show w.heap.size≤(w'.heap.setIfInBounds r o).size;rw [Array.size_setIfInBounds];exact h.size,fun k hk=>by rw [World.putObj_heap_other qB];exact h.block k hk⟩
theorem Dw (r:Nat) (o:Obj):(w.putObj r o).heap.size=w.heap.size:=by simp [World.putObj]
theorem mP :
  Θ 143 #[] w fun e w'=>(∃B es clock,e=.returned (.map (some B))∧w'.heap[B]? = some (.map es clock)∧Instr.findNow (.int .u8) (.int .u8 0) es.toList 0=some none)∧xp w w':=by
 have xy:=@run_makeMap prog;have br:((w.alloc (.map #[] 0)).alloc (.cells #[.func (.func 196) #[] #[],.func (.func 144) #[] #[]] 198)).heap[w.heap.size]? = some (.map #[] 0):=qFb;have q1:=kO _ _ _ _ 1 (.slice (E (w+1)) 2 2) br rfl;have ir:xp w ((w.alloc (.map #[] 0)).alloc (.cells #[.func (.func 196) #[] #[],.func (.func 144) #[] #[]] 198)):=qD;have ed:((w.alloc (.map #[] 0)).alloc (.cells #[.func (.func 196) #[] #[],.func (.func 144) #[] #[]] 198)).heap.size=w.heap.size+2:=qH;have bp:((((w.alloc (.map #[] 0)).alloc (.cells #[.func (.func 196) #[] #[],.func (.func 144) #[] #[]] 198)).putObj w (.map #[{ key:=.int .u8 1,val:=.slice (E (w+1)) 2 2,born:=0 }] 1)).alloc (.cells #[.func (.func 196) #[] #[],.func (.func 197) #[] #[]] 198)).heap[w.heap.size]? = some (.map #[{ key:=.int .u8 1,val:=.slice (E (w+1)) 2 2,born:=0 }] 1):=qEb;have q2:=kO _ _ _ _ 2 (.slice (E (w+2)) 2 2) bp rfl;have fg:xp w ((((w.alloc (.map #[] 0)).alloc (.cells #[.func (.func 196) #[] #[],.func (.func 144) #[] #[]] 198)).putObj w (.map #[{ key:=.int .u8 1,val:=.slice (E (w+1)) 2 2,born:=0 }] 1)).alloc (.cells #[.func (.func 196) #[] #[],.func (.func 197) #[] #[]] 198)):=Below.alloc (Ij _ ir (Ad _)) (by rw [Dw];omega) _;have en:w.heap.size<((((w.alloc (.map #[] 0)).alloc (.cells #[.func (.func 196) #[] #[],.func (.func 144) #[] #[]] 198)).putObj w (.map #[{ key:=.int .u8 1,val:=.slice (E (w+1)) 2 2,born:=0 }] 1)).alloc (.cells #[.func (.func 196) #[] #[],.func (.func 197) #[] #[]] 198)).heap.size:=by rw [Aj,Dw];omega
 go_enter func143,ntmps143;go_wp2_with fail;go_ret;exact ⟨⟨w.heap.size,_,_,rfl,World.putObj_heap_same en,rfl⟩,Ij _ fg (Ad _)⟩
theorem Mq (f g:Nat→Int) (f0:f 0=x0) (f1:f 1=x1) (f2:f 2=x2) (f3:f 3=x3) (g0:g 0=y0) (g1:g 1=y1) (g2:g 2=y2) (g3:g 3=y3) :
  Θ 144 #[.agg #[U x0,U x1,U x2,U x3],.agg #[U y0,U y1,U y2,U y3]] w fun e w'=>e=.returned (M (Dd f g))∧xp w w':=by
 have HB:=Ac w w;go_enter func144,ntmps144;go_wp2_with fail;have HF:Hid (∀i,i<4→Z ((w.alloc (.cells #[U x0,U x1,U x2,U x3] 56)).alloc (.cells #[U y0,U y1,U y2,U y3] 56)) w i (U (f i))):=Ae (fun i hi=>by
  match i,hi with
  | 0,_=>rw [f0];simp [go_sem]
  | 1,_=>rw [f1];simp [go_sem]
  | 2,_=>rw [f2];simp [go_sem]
  | 3,_=>rw [f3];simp [go_sem])
 have HG:Hid (∀i,i<4→Z ((w.alloc (.cells #[U x0,U x1,U x2,U x3] 56)).alloc (.cells #[U y0,U y1,U y2,U y3] 56)) (w+1) i (U (g i))):=Ae (fun i hi=>by
  match i,hi with
  | 0,_=>rw [g0];simp [go_sem]
  | 1,_=>rw [g1];simp [go_sem]
  | 2,_=>rw [g2];simp [go_sem]
  | 3,_=>rw [g3];simp [go_sem])
 have fg:xp w ((w.alloc (.cells #[U x0,U x1,U x2,U x3] 56)).alloc (.cells #[U y0,U y1,U y2,U y3] 56)):=qD;clear f0 f1 f2 f3 g0 g1 g2 g3;generalize ((w.alloc (.cells #[U x0,U x1,U x2,U x3] 56)).alloc (.cells #[U y0,U y1,U y2,U y3] 56))=w1 at *;go_quiet (((first|(go_at_call 198;exact Gi (Hr _ _ _ f g HF.out HG.out))|(go_at_call 198;exact Fj (Hr _ _ _ f g HF.out HG.out)))));go_wp2_with fail;go_ret;exact ⟨rfl,Bj _ fg⟩
def Bn (x0 x1 x2 x3:Int):Nat→Int
 | 0=>x0
 | 1=>x1
 | 2=>x2
 | _=>x3
theorem Yp :
  Θ 76 #[.int .u8 0,.agg #[U x0,U x1,U x2,U x3],.agg #[U y0,U y1,U y2,U y3]] w fun e w'=>e=.returned (M (Dd (Bn x0 x1 x2 x3) (Bn y0 y1 y2 y3)))∧xp w w':=by
 have HB:=Ac w w;go_enter func76,ntmps76;go_wp2_with fail;refine (mP _).mono ?_;rintro e w1 ⟨⟨B,es,clock,rfl,KY,VS⟩,hb⟩;obtain ⟨hc,hf⟩:=Bg hb;have hz:=hb.size;(try simp only [Aj,Ak] at hz);replace HB:=zP w hb;have s0:∀i,i<4→Z w1 w i (U (Bn x0 x1 x2 x3 i)):=fun i hi=>(hc _ _ qA).trans (by
  match i,hi with
  | 0,_=>simp [go_sem,Bn]
  | 1,_=>simp [go_sem,Bn]
  | 2,_=>simp [go_sem,Bn]
  | 3,_=>simp [go_sem,Bn])
 have s1:∀i,i<4→Z w1 (w+1) i (U (Bn y0 y1 y2 y3 i)):=fun i hi=>(hc _ _ qA).trans (by
  match i,hi with
  | 0,_=>simp [go_sem,Bn]
  | 1,_=>simp [go_sem,Bn]
  | 2,_=>simp [go_sem,Bn]
  | 3,_=>simp [go_sem,Bn])
 have GP:=s0 0 qB;have GQ:=s0 1 qB;have GR:=s0 2 qB;have GS:=s0 3 qB;have GU:=s1 0 qB;have GV:=s1 1 qB;have GW:=s1 2 qB;have GX:=s1 3 qB;simp only [Bn] at GP GQ GR GS GU GV GW GX;have q1:=wU w1 B clock es 0 KY VS;clear s0 s1 hc hf KY VS;go_wp2_with fail;go_loop [14] (fun v=>v=M 0) (fun _=>0)
 case atStart=>rfl
 case round =>
  subst hrel;go_wp2_with fail;refine (Mq _ _ _ _ _ _ _ _ _ (Bn x0 x1 x2 x3) (Bn y0 y1 y2 y3) rfl rfl rfl rfl rfl rfl rfl rfl).mono ?_;rintro e w2 ⟨rfl,bp⟩;go_wp2_with fail;go_ret;exact ⟨rfl,(xo HB bp)⟩
theorem X5 :
  Θ 161 #[.agg #[U x0,U x1,U x2,U x3],.agg #[U y0,U y1,U y2,U y3]] w fun e w'=>e=.returned (M (Dd (Bn y0 y1 y2 y3) (Bn x0 x1 x2 x3)))∧xp w w':=by
 have HB:=Ac w w;go_enter func161,ntmps161;go_wp2_with fail;refine (Yp _ _ _ _ _ _ _ _ _).mono ?_;exact qDr
def Tm.mono (t:Tm):Nat→Int:=Bn t.m0 t.m1 t.m2 t.m3
def TOk (t:Tm):Prop:=FOk t.g1 t.d1 t.g2 t.d2∧t.d1≠[]
def uJ (p:Nat→Tm) (j:Nat):Prop:=TOk (p j)∧(0<j→Dd (p j).mono (p (j-1)).mono<0)
def POk (p:Nat→Tm) (n:Nat):Prop:=∀j,j<n→uJ p j
theorem In {w:World} {g1:Bool} {n1 c1:Nat} {g2:Bool} {n2 c2:Nat} (h1:RdL w a1 n1 c1 d1) (h2:RdL w a2 n2 c2 d2) (h:FOk g1 d1 g2 d2) :
  Bo w g1 a1 n1 c1 (if g1 then -(val d1:Int) else val d1) g2 a2 n2 c2 (val d2):=by
 obtain ⟨o1,o2,e2,di,hg⟩:=h;have N2:=Fa h2 o2;rw [e2] at N2;simp only [Bool.false_eq_true,if_false] at N2;refine ⟨Fa h1 o1,by rw [e2];exact N2,?_,?_⟩
 ·have:=Cz o2.1 di;omega
 ·rw [←hg]
  cases g1<;>simp [Int.gcd]
theorem Ox {g:Bool} (h:Lf g d):(if g then -(val d:Int) else (val d:Int))=0↔d=[]:=by
 constructor
 ·intro h1;apply Decidable.byContradiction;intro di;have:=Cz h.1 di
  cases g<;>simp at h1<;>omega
 ·rintro rfl
  cases g<;>simp [val]
theorem pS (a:Γ) (n c:Nat) (p:Nat→Tm) (hp:RdP w a n c p) (mh:∀k,k<n→(p k).n1≤35184372087808∧(p k).n2≤35184372087808) (r:Bool) (hr:POk p n↔r=true) :
  Θ 90 #[.slice a n c] w fun e w'=>e=.returned (.bool r)∧Below w w w':=by
 have HB:=Ac w w;have hn:=hp.few;have HR:=Ae hr;have HS:=Ae mh;clear hr mh;go_enter func90,ntmps90;go_wp2_with fail;go_loopw [7] (fun v wr=>∃k:Nat,k≤n∧v=M k∧Below w w wr∧Hid (POk p k)) (fun v _=>n-(intOf v).toNat)
 case atStart=>exact ⟨0,Ba _,rfl,HB,Ae (fun j hj=>absurd hj (Nat.not_lt_zero _))⟩
 case round =>
  obtain ⟨k,hk,rfl,dm,he⟩:=hrel;clear HB;by_cases bj:k<n
  ·obtain ⟨b,o,rfl,ij⟩:=hp.cell.resolve_left qB;have uy:=hp.keep dm;have HT:=uy.tm k bj;obtain ⟨e0,e1,e2,e3,e4,e5,e6,e7⟩:=uy.at bj;have hs:=HS.out k bj;have ZS:=Ae ij;clear ij
   cases k with
   | zero =>
    obtain ⟨t,ht⟩:∃t,t=p 0:=⟨_,rfl⟩;rw [←ht] at HT e0 e1 e2 e3 e4 e5 e6 e7 hs;have GY:=Ae ht;clear ht;simp only [Nat.zero_mul,Nat.add_zero] at e0 e1 e2 e3 e4 e5 e6 e7;have KZ:=dm.size;go_upto_region 4 with fail
    have ir:Below w w (wr.alloc (.cells #[.bool t.g1,.slice t.a1 t.n1 t.c1,.bool t.g2,.slice t.a2 t.n2 t.c2,U t.m0,U t.m1,U t.m2,U t.m3] 58)):=qD;have c0:Z (wr.alloc (.cells #[.bool t.g1,.slice t.a1 t.n1 t.c1,.bool t.g2,.slice t.a2 t.n2 t.c2,U t.m0,U t.m1,U t.m2,U t.m3] 58)) wr 0 (.bool t.g1):=qJ;have c1:Z (wr.alloc (.cells #[.bool t.g1,.slice t.a1 t.n1 t.c1,.bool t.g2,.slice t.a2 t.n2 t.c2,U t.m0,U t.m1,U t.m2,U t.m3] 58)) wr 1 (.slice t.a1 t.n1 t.c1):=qJ;have c2:Z (wr.alloc (.cells #[.bool t.g1,.slice t.a1 t.n1 t.c1,.bool t.g2,.slice t.a2 t.n2 t.c2,U t.m0,U t.m1,U t.m2,U t.m3] 58)) wr 2 (.bool t.g2):=qJ;have c3:Z (wr.alloc (.cells #[.bool t.g1,.slice t.a1 t.n1 t.c1,.bool t.g2,.slice t.a2 t.n2 t.c2,U t.m0,U t.m1,U t.m2,U t.m3] 58)) wr 3 (.slice t.a2 t.n2 t.c2):=qJ;have c4:Z (wr.alloc (.cells #[.bool t.g1,.slice t.a1 t.n1 t.c1,.bool t.g2,.slice t.a2 t.n2 t.c2,U t.m0,U t.m1,U t.m2,U t.m3] 58)) wr 4 (U t.m0):=qJ;have c5:Z (wr.alloc (.cells #[.bool t.g1,.slice t.a1 t.n1 t.c1,.bool t.g2,.slice t.a2 t.n2 t.c2,U t.m0,U t.m1,U t.m2,U t.m3] 58)) wr 5 (U t.m1):=qJ;have c6:Z (wr.alloc (.cells #[.bool t.g1,.slice t.a1 t.n1 t.c1,.bool t.g2,.slice t.a2 t.n2 t.c2,U t.m0,U t.m1,U t.m2,U t.m3] 58)) wr 6 (U t.m2):=qJ;have c7:Z (wr.alloc (.cells #[.bool t.g1,.slice t.a1 t.n1 t.c1,.bool t.g2,.slice t.a2 t.n2 t.c2,U t.m0,U t.m1,U t.m2,U t.m3] 58)) wr 7 (U t.m3):=qJ;have br:Below wr wr (wr.alloc (.cells #[.bool t.g1,.slice t.a1 t.n1 t.c1,.bool t.g2,.slice t.a2 t.n2 t.c2,U t.m0,U t.m1,U t.m2,U t.m3] 58)):=qD;replace HT:=HT.keep br;generalize (wr.alloc (.cells #[.bool t.g1,.slice t.a1 t.n1 t.c1,.bool t.g2,.slice t.a2 t.n2 t.c2,U t.m0,U t.m1,U t.m2,U t.m3] 58))=w1 at *;generalize wr.heap.size=B at *;have jh:t.n1<35184372088829:=qB;have ki:t.n2<35184372088829:=qB;replace c0:=Bk c0;replace c1:=Bk c1;replace c2:=Bk c2;replace c3:=Bk c3;replace c4:=Bk c4;replace c5:=Bk c5;replace c6:=Bk c6;replace c7:=Bk c7;clear br uy dm;by_cases rb:FOk t.g1 t.d1 t.g2 t.d2
    ·have hF:=Ae rb;have HA:=In HT.top HT.low rb;have fb:=Ox rb.1;generalize (if t.g1 then -(val t.d1:Int) else (val t.d1:Int))=z at *;clear rb;by_cases dw:z=0
     ·have iz:=Ae (fb.1 dw);have hz:Bz z 0=0:=by rw [dw];exact Du 0
      have mf:r=false:=qCk;subst mf;clear dw fb;(refine Bi qE qE ?_;(repeat (go_big_quiet_step (first|(go_at_call 159;exact Cr (F4 _ t.g1 t.a1 t.n1 t.c1 t.d1 (HT.top.keep (Subtype.property _)) t.g2 t.a2 t.n2 t.c2 t.d2 (HT.low.keep (Subtype.property _)) ki jh true ⟨fun _=>rfl,fun _=>hF.out⟩))|(go_at_call 160;exact Cr (Ie _ _ _ _ _ _ _ _ _ _ _ (HA.keep (Subtype.property _)) ki jh)))));refine wpQuiet_nil ?_;intro _ cw;obtain ⟨nq,cw⟩:=cw;subst cw);exact qCq
     ·have iz:=Ae (fun e=>dw (fb.2 e));have hz:(Bz z 0==0)=false:=by rw [beq_eq_false_iff_ne];exact fun e=>dw (Do.1 e)
      clear dw fb;(refine Bi qE qE ?_;(repeat (go_big_quiet_step (first|(go_at_call 159;exact Cr (F4 _ t.g1 t.a1 t.n1 t.c1 t.d1 (HT.top.keep (Subtype.property _)) t.g2 t.a2 t.n2 t.c2 t.d2 (HT.low.keep (Subtype.property _)) ki jh true ⟨fun _=>rfl,fun _=>hF.out⟩))|(go_at_call 160;exact Cr (Ie _ _ _ _ _ _ _ _ _ _ _ (HA.keep (Subtype.property _)) ki jh)))));refine wpQuiet_nil ?_;intro _ cw;obtain ⟨nq,cw⟩:=cw;subst cw);go_wp2_with fail;go_roundw
      case rel=>exact ⟨1,qB,rfl,(xo ir nq.2),Ae (fun i hi=>by have h0:i=0:=qB;subst h0;exact ⟨by rw [←GY.out];exact ⟨hF.out,iz.out⟩,fun h=>absurd h qB⟩)⟩
      case measure=>simp [intOf];omega
    ·exact qBj
   | succ j =>
    obtain ⟨t,ht⟩:∃t,t=p (j+1):=⟨_,rfl⟩;rw [←ht] at HT e0 e1 e2 e3 e4 e5 e6 e7 hs;have GY:=Ae ht;clear ht;have KZ:=dm.size;have hjn:j<n:=qB;go_upto_region 4 with fail
    clear e0 e1 e2 e3 e4 e5 e6 e7;obtain ⟨_,_,_,_,e4,e5,e6,e7⟩:=uy.at (show j<n from qB);obtain ⟨u,hu⟩:∃u,u=p j:=⟨_,rfl⟩;rw [←hu] at e4 e5 e6 e7;have HUK:=Ae hu;clear hu;have ir:Below w w (wr.alloc (.cells #[.bool t.g1,.slice t.a1 t.n1 t.c1,.bool t.g2,.slice t.a2 t.n2 t.c2,U t.m0,U t.m1,U t.m2,U t.m3] 58)):=qD;have c0:Z (wr.alloc (.cells #[.bool t.g1,.slice t.a1 t.n1 t.c1,.bool t.g2,.slice t.a2 t.n2 t.c2,U t.m0,U t.m1,U t.m2,U t.m3] 58)) wr 0 (.bool t.g1):=qJ;have c1:Z (wr.alloc (.cells #[.bool t.g1,.slice t.a1 t.n1 t.c1,.bool t.g2,.slice t.a2 t.n2 t.c2,U t.m0,U t.m1,U t.m2,U t.m3] 58)) wr 1 (.slice t.a1 t.n1 t.c1):=qJ;have c2:Z (wr.alloc (.cells #[.bool t.g1,.slice t.a1 t.n1 t.c1,.bool t.g2,.slice t.a2 t.n2 t.c2,U t.m0,U t.m1,U t.m2,U t.m3] 58)) wr 2 (.bool t.g2):=qJ;have c3:Z (wr.alloc (.cells #[.bool t.g1,.slice t.a1 t.n1 t.c1,.bool t.g2,.slice t.a2 t.n2 t.c2,U t.m0,U t.m1,U t.m2,U t.m3] 58)) wr 3 (.slice t.a2 t.n2 t.c2):=qJ;have c4:Z (wr.alloc (.cells #[.bool t.g1,.slice t.a1 t.n1 t.c1,.bool t.g2,.slice t.a2 t.n2 t.c2,U t.m0,U t.m1,U t.m2,U t.m3] 58)) wr 4 (U t.m0):=qJ;have c5:Z (wr.alloc (.cells #[.bool t.g1,.slice t.a1 t.n1 t.c1,.bool t.g2,.slice t.a2 t.n2 t.c2,U t.m0,U t.m1,U t.m2,U t.m3] 58)) wr 5 (U t.m1):=qJ;have c6:Z (wr.alloc (.cells #[.bool t.g1,.slice t.a1 t.n1 t.c1,.bool t.g2,.slice t.a2 t.n2 t.c2,U t.m0,U t.m1,U t.m2,U t.m3] 58)) wr 6 (U t.m2):=qJ;have c7:Z (wr.alloc (.cells #[.bool t.g1,.slice t.a1 t.n1 t.c1,.bool t.g2,.slice t.a2 t.n2 t.c2,U t.m0,U t.m1,U t.m2,U t.m3] 58)) wr 7 (U t.m3):=qJ;have br:Below wr wr (wr.alloc (.cells #[.bool t.g1,.slice t.a1 t.n1 t.c1,.bool t.g2,.slice t.a2 t.n2 t.c2,U t.m0,U t.m1,U t.m2,U t.m3] 58)):=qD;have e4:=Bb br e4;have e5:=Bb br e5;have e6:=Bb br e6;have e7:=Bb br e7;replace HT:=HT.keep br;generalize (wr.alloc (.cells #[.bool t.g1,.slice t.a1 t.n1 t.c1,.bool t.g2,.slice t.a2 t.n2 t.c2,U t.m0,U t.m1,U t.m2,U t.m3] 58))=w1 at *;generalize wr.heap.size=B at *;have jh:t.n1<35184372088829:=qB;have ki:t.n2<35184372088829:=qB;replace c0:=Bk c0;replace c1:=Bk c1;replace c2:=Bk c2;replace c3:=Bk c3;replace c4:=Bk c4;replace c5:=Bk c5;replace c6:=Bk c6;replace c7:=Bk c7;replace e4:=Bk e4;replace e5:=Bk e5;replace e6:=Bk e6;replace e7:=Bk e7;clear br uy dm;by_cases rb:FOk t.g1 t.d1 t.g2 t.d2
    ·have hF:=Ae rb;have HA:=In HT.top HT.low rb;have fb:=Ox rb.1;generalize (if t.g1 then -(val t.d1:Int) else (val t.d1:Int))=z at *;clear rb;by_cases dw:z=0
     ·have iz:=Ae (fb.1 dw);have hz:Bz z 0=0:=by rw [dw];exact Du 0
      have mf:r=false:=qCk;subst mf;clear dw fb;(refine Bi qE qE ?_;(repeat (go_big_quiet_step (first|(go_at_call 159;exact Cr (F4 _ t.g1 t.a1 t.n1 t.c1 t.d1 (HT.top.keep (Subtype.property _)) t.g2 t.a2 t.n2 t.c2 t.d2 (HT.low.keep (Subtype.property _)) ki jh true ⟨fun _=>rfl,fun _=>hF.out⟩))|(go_at_call 160;exact Cr (Ie _ _ _ _ _ _ _ _ _ _ _ (HA.keep (Subtype.property _)) ki jh))|(go_at_call 161;exact Cr (X5 _ _ _ _ _ _ _ _ _)))));refine wpQuiet_nil ?_;intro _ cw;obtain ⟨nq,cw⟩:=cw;subst cw);exact qCq
     ·have iz:=Ae (fun e=>dw (fb.2 e));have hz:(Bz z 0==0)=false:=by rw [beq_eq_false_iff_ne];exact fun e=>dw (Do.1 e)
      clear dw fb;by_cases sw:Dd (Bn t.m0 t.m1 t.m2 t.m3) (Bn u.m0 u.m1 u.m2 u.m3)<0
      ·have hl:=Ae sw;have BF:decide (0≤Dd (Bn t.m0 t.m1 t.m2 t.m3) (Bn u.m0 u.m1 u.m2 u.m3))=false:=by rw [decide_eq_false_iff_not];omega
       clear sw;(refine Bi qE qE ?_;(repeat (go_big_quiet_step (first|(go_at_call 159;exact Cr (F4 _ t.g1 t.a1 t.n1 t.c1 t.d1 (HT.top.keep (Subtype.property _)) t.g2 t.a2 t.n2 t.c2 t.d2 (HT.low.keep (Subtype.property _)) ki jh true ⟨fun _=>rfl,fun _=>hF.out⟩))|(go_at_call 160;exact Cr (Ie _ _ _ _ _ _ _ _ _ _ _ (HA.keep (Subtype.property _)) ki jh))|(go_at_call 161;exact Cr (X5 _ _ _ _ _ _ _ _ _)))));refine wpQuiet_nil ?_;intro _ cw;obtain ⟨nq,cw⟩:=cw;subst cw);go_wp2_with fail;go_roundw
       case rel=>exact ⟨j+1+1,qB,qH,(xo ir nq.2),Ae (fun i hi=>by
       rcases Nat.lt_or_ge i (j+1) with h|h
       ·exact he.out i h
       ·obtain rfl:i=j+1:=qB;exact ⟨by rw [←GY.out];exact ⟨hF.out,iz.out⟩,fun _=>by rw [←GY.out,Nat.add_sub_cancel,←HUK.out];exact hl.out⟩)⟩
       case measure=>simp [intOf];omega
      ·have BF:decide (0≤Dd (Bn t.m0 t.m1 t.m2 t.m3) (Bn u.m0 u.m1 u.m2 u.m3))=true:=by rw [decide_eq_true_iff];omega
       have mf:r=false:=qEt;subst mf;clear sw;(refine Bi qE qE ?_;(repeat (go_big_quiet_step (first|(go_at_call 159;exact Cr (F4 _ t.g1 t.a1 t.n1 t.c1 t.d1 (HT.top.keep (Subtype.property _)) t.g2 t.a2 t.n2 t.c2 t.d2 (HT.low.keep (Subtype.property _)) ki jh true ⟨fun _=>rfl,fun _=>hF.out⟩))|(go_at_call 160;exact Cr (Ie _ _ _ _ _ _ _ _ _ _ _ (HA.keep (Subtype.property _)) ki jh))|(go_at_call 161;exact Cr (X5 _ _ _ _ _ _ _ _ _)))));refine wpQuiet_nil ?_;intro _ cw;obtain ⟨nq,cw⟩:=cw;subst cw);exact qCq
    ·exact qBj
  ·exact qFd
theorem Fz (a:Γ) (n c:Nat) (p:Nat→Tm) (hp:RdP w a n c p) (mh:∀k,k<n→(p k).n1≤1000000∧(p k).n2≤1000000) (r:Bool) (hr:POk p n↔r=true) :
  Θ 90 #[.slice a n c] w fun e w'=>e=.returned (.bool r)∧xp w w' :=
 pS w a n c p hp (fun k hk=>⟨Ah (mh k hk).1 qB,Ah (mh k hk).2 qB⟩) r hr
end Go.Proofs.YtfijkfdfbnfmmaaGreatDoor
end
