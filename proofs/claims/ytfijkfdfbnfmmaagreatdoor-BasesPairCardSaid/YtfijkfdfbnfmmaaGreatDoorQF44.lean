/- Package spells: Text of a sum. -/
import Derived.Test.YtfijkfdfbnfmmaaGreatDoorQF43
set_option linter.unusedSimpArgs false
set_option linter.unusedVariables false
set_option maxRecDepth 100000
set_option maxHeartbeats 4000000
section
namespace Go.Proofs.YtfijkfdfbnfmmaaGreatDoor
open Go.RowKit Proofs.Tryz
variable (w:World) (m:Nat→Nat) (l:List (List UInt8)) (neg:Nat→Bool) (a:Γ) (c k:Nat) {g1 g2:Bool} {p q:Int} {n1 c1 n2 c2:Nat} {a1 a2:Γ}
def I6 (m:Nat→Nat) (k:Nat):List UInt8:=Lib.join (Ez m k) [32]
theorem eB:I6 m 0=[]:=rfl
theorem eT (h:¬0<m k):I6 m (k+1)=I6 m k:=by rw [I6,Ez,if_neg h,List.append_nil];rfl
theorem fC (h:0<m k):I6 m (k+1)=if I6 m k=[] then Ek k (m k) else I6 m k++32::Ek k (m k):=by
 rw [I6,Ez,if_pos h];by_cases hl:Ez m k=[]
 ·rw [if_pos (by rw [I6,hl];rfl),hl,List.nil_append,Lib.join_one]
 ·rw [if_neg (show ¬I6 m k=[] from fun e=>hl ((Qg (iT k)).1 e)),I7 hl qH,Lib.join_one];rfl
def Mc (p:Nat→Tm) (k:Nat):Bool:=(p k).g1
def Ld (p:Nat→Tm) (k:Nat):List UInt8:=E6 (val (p k).d1) (val (p k).d2)
def Le (p:Nat→Tm) (k:Nat):Nat→Nat:=D9 (p k).m0 (p k).m1 (p k).m2 (p k).m3
def Ue (p:Nat→Tm) (n:Nat):List UInt8:=if n=0 then [48] else Se (Mc p) (Ld p) (Le p) n
def Od (p:Nat→Tm) (n:Nat):Prop:=∀k,k<n→(p k).n1≤10000∧(p k).n2≤10000
theorem Od.few {p:Nat→Tm} {n:Nat} (h:Od p n):∀k,k<n→(p k).n1≤1000000∧(p k).n2≤1000000:=fun k hk=>by have:=h k hk;omega
theorem Vr {w:World} (h:Bo w g1 a1 n1 c1 p g2 a2 n2 c2 q):(E6 p q).length≤9*n1+9*n2+5:=by
 have h1:=Oz h.top;have h2:=Oz h.low;rw [E6,A8]
 split
 ·simp only [List.length_nil];omega
 ·simp only [List.length_cons];omega
theorem kY (hm:∀k,k<4→m k<65536):∀k,k≤4→(I6 m k).length≤8*k:=by
 intro k
 induction k with
 | zero=>intro _;rw [eB];simp
 | succ k ih =>
  intro hk;have h1:=ih qB;by_cases h:0<m k
  ·have h2:(Ek k (m k)).length≤7:=by
    have:=Hh (m k) (hm k qB);rw [Ek]
    split
    ·simp only [List.length_cons];omega
    ·simp
   rw [fC m k h]
   split
   ·omega
   ·simp only [A8,List.length_cons];omega
  ·rw [eT m k h];omega
theorem jP (t l:List UInt8):(Wg t l).length≤t.length+l.length+1:=by
 unfold Wg
 split
 ·omega
 ·split
  ·omega
  ·simp only [A8,List.length_cons];omega
theorem yQ (base:Nat) (L:List (List UInt8)) (g n c:Nat) (ah:w.ownsRow base 9 1 (.slice (E g) n c) n (Gk L)) (hn:0<n) (qv:n≤1000000000) (hlen:(Lib.join L [32]).length≤140737488355328) :
  Θ 156 #[.slice (E g) n c,.string ⟨#[32]⟩] w (Gs w (Lib.join L [32])):=by
 have hl:L.length=n:=by have:=ah.1;rw [G6] at this;omega
 have hm:(L.map fun t=>(⟨t.toArray⟩:ByteArray)).map (fun x:ByteArray=>x.data.toList)=L:=by
  rw [List.map_map];have:((fun x:ByteArray=>x.data.toList)∘fun t:List UInt8=>(⟨t.toArray⟩:ByteArray))=id:=by funext t;simp
  rw [this,List.map_id]
 have oz:n≤c:=by
  rcases ah.2 with ⟨h',_⟩|⟨g',KE,cur,h',_,_,ri,_⟩
  ·simp at h'
  ·simp only [Value.slice.injEq] at h';omega
 have hj:=Tryz.strings_Join g 0 c (L.map fun t=>(⟨t.toArray⟩:ByteArray)) ⟨#[32]⟩ w (fun j x hx=>by
   have yi:j<L.length:=by
    rcases Nat.lt_or_ge j L.length with h1|h1
    ·exact h1
    ·rw [List.getElem?_eq_none (by rw [List.length_map];exact h1)] at hx;cases hx
   rw [Nat.zero_add,ah.cellAt j qB];rw [List.getElem?_map,Ai yi] at hx;simp only [Option.map_some,Option.some.injEq] at hx;rw [Gk,List.getElem?_map,Ai yi,←hx]
   rfl) ((ah.lt g rfl).2) (by rw [List.length_map];omega) (by rw [List.length_map];omega) (by rw [hm];exact hlen)
 rw [hm,List.length_map,hl] at hj;exact hj
theorem rX (t:Nat→List UInt8) (m:Nat→Nat→Nat) (k:Nat) (ht:∀j,j<k→(t j).length≤190000) (hm:∀j,j<k→(I6 (m j) 4).length≤32):(Se neg t m k).length≤200000*k:=by
 induction k with
 | zero=>simp [Se]
 | succ k ih =>
  have h1:=ih (fun j hj=>ht j qB) (fun j hj=>hm j qB);have h2:=jP (t k) (I6 (m k) 4);have h3:=ht k qB;have h4:=hm k qB;rw [Se];simp only [A8];have h5:(if k=0 then (if neg k then [45] else []) else (if neg k then [32,45,32] else ([32,43,32]:List UInt8))).length≤3:=by
   split<;>split<;>simp
  show _+_+(Wg (t k) (I6 (m k) 4)).length≤_;omega
theorem Oq (t:List UInt8) (m:Nat→Nat):0<(Ef t m).length∧(Ef t m).length≤5:=by
 have h1:=Ts m 4;obtain ⟨x,l,e⟩:=Iw t m;refine ⟨by rw [e];simp,?_⟩;unfold Ef
 split
 ·simp only [List.length_cons];omega
 ·omega
theorem fH (neg:Bool) (l:List (List UInt8)):(Kr neg l).length=l.length:=by cases l<;>rfl
theorem Y7 (t:Nat→List UInt8) (m:Nat→Nat→Nat) (k:Nat):(Jw neg t m k).length≤6*k:=by
 induction k with
 | zero=>simp [Jw]
 | succ k ih =>
  have h1:=Oq (t 0) (m 0);have h2:=Oq (t k) (m k);rw [Jw]
  split
  ·rw [fH];omega
  ·simp only [A8,List.length_singleton];omega
theorem rC {t:List UInt8} {m:Nat→Nat} {x:List UInt8} {l:List (List UInt8)} (h:Ef t m=x::l) (hm:∀k,k<4→m k<65536):x.length≤t.length+7:=by
 have key:∀k,k≤4→∀y∈Ez m k,y.length≤7:=by
  intro k
  induction k with
  | zero=>intro _ y hy;cases hy
  | succ k ih =>
   intro hk y hy;rw [Ez,List.mem_append] at hy;rcases hy with hy|hy
   ·exact ih qB y hy
   ·split at hy
    ·rw [Ao] at hy;subst hy;have:=Hh (m k) (hm k qB);rw [Ek]
     split
     ·simp only [List.length_cons];omega
     ·simp
    ·cases hy
 unfold Ef at h
 split at h
 ·rw [List.cons.injEq] at h;rw [←h.1];omega
 ·have:=key 4 qB x (by rw [h];exact List.mem_cons_self ..);omega
theorem Xm:Kr false l=l:=by cases l<;>rfl
theorem Bo.abs {w:World} (h:Bo w g1 a1 n1 c1 p g2 a2 n2 c2 q):Bo w false a1 n1 c1 ((p.natAbs:Nat):Int) g2 a2 n2 c2 q :=
 ⟨h.top.abs,h.low,h.pos,by have:=h.red;simpa [Int.gcd] using this⟩
theorem lA (wo:World) (a:Γ) (n c:Nat) (p:Nat→Tm) (hp:RdP wo a n c p) (mh:Od p n) (hn:n≤1000000) (hr:POk p n) (hT:Tab wo) (FR:0<n) :
  Θ 86 #[.slice a n c] wo (Gs wo (Ue p n)):=by
 obtain ⟨i0,hi,dw,ed,en⟩:=info_parts xE;have HR:=Ae hr;have HS:=Ae mh;clear hr mh;have hnz:((n:Int)==0)=false:=by rw [beq_eq_false_iff_ne];omega
 go_enter func86,ntmps86;go_wp2_with fail;refine (Fz wo a n c p hp (Od.few HS.out) true ⟨fun _=>rfl,fun _=>HR.out⟩).mono ?_;rintro e w1 ⟨rfl,br⟩;have BE:=hp.keep br;have hT1:=hT.keep br;clear hp;go_wp2_with fail;go_loopw [3,20] (fun v3 v20 w=>∃k:Nat,k≤n∧v20=M k∧w.ownsRow w1 9 1 v3 (Jw (Mc p) (Ld p) (Le p) k).length (Gk (Jw (Mc p) (Ld p) (Le p) k))∧(k=0→v3=.slice none 0 0)∧xp w1 w) (fun _ v20 _=>n-(intOf v20).toNat)
 case atStart=>exact ⟨0,qB,rfl,World.ownsRow_nil _ _ _ _,fun _=>rfl,Ac _ _⟩
 case round =>
  obtain ⟨k,hk,rfl,ah,nu,jr⟩:=hrel;obtain ⟨w,rfl⟩:∃w:World,w=wr:=⟨_,rfl⟩;have HBo:xp wo w:=xo br jr;have HB:=Ac w w;by_cases bj:k<n
  ·obtain ⟨b,o,rfl,ij⟩:=BE.cell.resolve_left qB;have uy:=BE.keep jr;have HT:=uy.tm k bj;obtain ⟨e0,e1,e2,e3,e4,e5,e6,e7⟩:=uy.at bj;have hs:=HS.out k bj;have hF:=(HR.out k bj).1.1;have UD:=Ae (show Jw (Mc p) (Ld p) (Le p) (k+1)=if k=0 then Kr (Mc p 0) (Ef (Ld p 0) (Le p 0)) else Jw (Mc p) (Ld p) (Le p) k++[if (p k).g1 then [45] else [43]]++Ef (E6 (val (p k).d1) (val (p k).d2)) (D9 (p k).m0 (p k).m1 (p k).m2 (p k).m3) from rfl);have MY:=Ae (show k=0→Jw (Mc p) (Ld p) (Le p) (k+1)=Kr (p k).g1 (Ef (E6 (val (p k).d1) (val (p k).d2)) (D9 (p k).m0 (p k).m1 (p k).m2 (p k).m3)) from fun h=>by subst h;rfl);have MZ:=Ae (show k≠0→Jw (Mc p) (Ld p) (Le p) (k+1)=Jw (Mc p) (Ld p) (Le p) k++[if (p k).g1 then [45] else [43]]++Ef (E6 (val (p k).d1) (val (p k).d2)) (D9 (p k).m0 (p k).m1 (p k).m2 (p k).m3) from fun h=>by rw [UD.out,if_neg h]);have AN:=Y7 (Mc p) (Ld p) (Le p) k;have hwl:=Oq (E6 (val (p k).d1) (val (p k).d2)) (D9 (p k).m0 (p k).m1 (p k).m2 (p k).m3);have HA:=(In HT.top HT.low hF).abs;rw [show ((if (p k).g1 then -(val (p k).d1:Int) else (val (p k).d1:Int)).natAbs)=val (p k).d1 by split<;>simp] at HA;obtain ⟨WL,hWL⟩:∃WL,WL=Ef (E6 (val (p k).d1) (val (p k).d2)) (D9 (p k).m0 (p k).m1 (p k).m2 (p k).m3):=⟨_,rfl⟩;have HWL:=Ae hWL;rw [←hWL] at MY MZ hwl;clear hWL UD;generalize Jw (Mc p) (Ld p) (Le p) k=L at *;generalize p k=t at *;have ZS:=Ae ij;clear ij uy;have agv:=Ae nu;clear nu;have u0:=HT.s0;have u1:=HT.s1;have u2:=HT.s2;have u3:=HT.s3;have hTw:Tab w:=hT1.keep jr
   cases hg:t.g1
   ·skip
    rw [hg] at e0 MY MZ;clear hg;go_wp2_with fail;refine (Zv _ _ _ _ _ _ _ _ _).mono ?_;rintro e w2 ⟨rfl,hb⟩;obtain ⟨hc,hf⟩:=Bg hb;have hz:=hb.size;(try simp only [Aj,Ak] at hz);replace HB:=zP w hb;obtain ⟨aw,bh,ei,ej⟩:=xe hc w false t.a1 t.n1 t.c1 t.g2 t.a2 t.n2 t.c2;have CE:=zE hc (w) 4 (U t.m0);have CF:=zE hc (w) 5 (U t.m1);have CG:=zE hc (w) 6 (U t.m2);have CH:=zE hc (w) 7 (U t.m3);have qp:w.heap.size<w2:=qB;clear hc hf hb hz;go_wp2_with fail;refine (gD _ _ _ _ _ _ _ _ _ _ _ (HA.keep qD) qB qB (hTw.keep qD) _ _ _ _ u0 u1 u2 u3).mono ?_;rintro e w3 ⟨v,rfl,jw,ea⟩;rw [←HWL.out] at jw;have ep:=zP w ea;have nw:w2.heap.size<w3:=by have:=ea.size;simp at this;omega
    have dh:=Bf ah ep;have jw:=Kp jw (show w.heap.size+1≤_ from qL);obtain ⟨g,cap,rfl,qq,FQ⟩:=jw.form hwl.1;have JV:=Ae (fun k hk=>(ah.lt k hk).2);clear ah aw bh ei ej CE CF CG CH;have OR:xp w1 w3:=xo jr ep;have hzw:=jr.size;by_cases qp:k=0
    ·subst qp;obtain rfl:=agv.out rfl;obtain ⟨hL,_⟩:L.length=0∧True:=by
      rcases dh.2 with ⟨_,h0⟩|⟨g',KE,cur,h',_⟩
      ·exact ⟨h0,trivial⟩
      ·simp at h'
     obtain rfl:L=[]:=List.eq_nil_of_length_eq_zero hL;clear hL;have qe:=Ae (MY.out rfl);have II:=Ae (Ko jw);go_wp2_with (at_builtin;refine wpList_append_own _ rfl _ _ 131 rfl w1 9 i0 (.string ⟨#[]⟩) 1 16 underlying131 hi dw ed en rfl qI _ _ _ rfl dh (J g 0) WL.length cap (Gk WL) rfl (by rw [G6];omega) II.out (Nf _) qN qB qB ?_;intro v5 w5 pj xr _);go_roundw
     case rel =>
      refine ⟨1,qB,by go_num,?_,fun h=>qB,OR.grown xr OR.size (fun k hk=>(dh.lt k hk).1)⟩;rw [qe.out,Xm];simpa [Gk] using pj
     case measure=>simp [intOf];omega
    ·have qe:=Ae (MZ.out qp);have hkp:0<k:=qB;clear qp;go_upto_region 16 with (at_builtin;refine wpList_append_own _ rfl _ _ 131 rfl w1 9 i0 (.string ⟨#[]⟩) 1 16 underlying131 hi dw ed en rfl qI _ _ _ rfl (dh.alloc (.cells #[.string ⟨#[43]⟩] 9)) (J w3 0) 1 1 [.string ⟨#[43]⟩] rfl rfl (cell_one_new _ _ _) (by simp [Value.oneCell']) qN qB qA ?_;intro v4 w4 jk nv _)
     have EX:=(jw.alloc (.cells #[.string ⟨#[43]⟩] 9)).kept nv (.inr (fun e=>by have:=JV.out g e.symm;omega));exact qBg
   ·skip
    rw [hg] at e0 MY MZ;clear hg;go_wp2_with fail;refine (Zv _ _ _ _ _ _ _ _ _).mono ?_;rintro e w2 ⟨rfl,hb⟩;obtain ⟨hc,hf⟩:=Bg hb;have hz:=hb.size;(try simp only [Aj,Ak] at hz);replace HB:=zP w hb;obtain ⟨aw,bh,ei,ej⟩:=xe hc w true t.a1 t.n1 t.c1 t.g2 t.a2 t.n2 t.c2;have CE:=zE hc (w) 4 (U t.m0);have CF:=zE hc (w) 5 (U t.m1);have CG:=zE hc (w) 6 (U t.m2);have CH:=zE hc (w) 7 (U t.m3);have qp:w.heap.size<w2:=qB;clear hc hf hb hz;go_wp2_with fail;refine (gD _ _ _ _ _ _ _ _ _ _ _ (HA.keep qD) qB qB (hTw.keep qD) _ _ _ _ u0 u1 u2 u3).mono ?_;rintro e w3 ⟨v,rfl,jw,ea⟩;rw [←HWL.out] at jw;have ep:=zP w ea;have nw:w2.heap.size<w3:=by have:=ea.size;simp at this;omega
    have dh:=Bf ah ep;have jw:=Kp jw (show w.heap.size+1≤_ from qL);obtain ⟨g,cap,rfl,qq,FQ⟩:=jw.form hwl.1;have JV:=Ae (fun k hk=>(ah.lt k hk).2);clear ah aw bh ei ej CE CF CG CH;have OR:xp w1 w3:=xo jr ep;have hzw:=jr.size;by_cases qp:k=0
    ·subst qp;obtain rfl:=agv.out rfl;obtain ⟨hL,_⟩:L.length=0∧True:=by
      rcases dh.2 with ⟨_,h0⟩|⟨g',KE,cur,h',_⟩
      ·exact ⟨h0,trivial⟩
      ·simp at h'
     obtain rfl:L=[]:=List.eq_nil_of_length_eq_zero hL;clear hL;have qe:=Ae (MY.out rfl);obtain ⟨x,l,AI⟩:=Iw (E6 (val t.d1) (val t.d2)) (D9 t.m0 t.m1 t.m2 t.m3);have awq:=rC AI (fun j hj=>by
      match j,hj with
      | 0,_=>exact u0
      | 1,_=>exact u1
      | 2,_=>exact u2
      | 3,_=>exact u3)
     have hft:=Vr HA;rw [←HWL.out] at AI;subst AI;have tr:Z w3 g 0 (.string ⟨x.toArray⟩):=by rw [jw.cellAt 0 qH];rfl
     have hf0:=jw.frozenAt 0;have agw:(⟨#[45]⟩:ByteArray).size+(⟨x.toArray⟩:ByteArray).size≤9223372036854775807:=by show 1+x.length≤_;omega
     have RU:((⟨#[45]⟩:ByteArray)++(⟨x.toArray⟩:ByteArray))=⟨(45::x).toArray⟩:=H7 [45] x;have TU:(x::l).length=l.length+1:=rfl;have iv:=jw.stored 0 (.string ⟨(45::x).toArray⟩);have agx:(w3.setCell (J g 0) (.string ⟨(45::x).toArray⟩)).ownsRow (w+1) 9 1 (.slice (E g) (l.length+1) cap) (l.length+1) (Gk ((45::x)::l)):=iv.1;have NA:xp w1 (w3.setCell (J g 0) (.string ⟨(45::x).toArray⟩)):=OR.grown iv.2 OR.size (fun k hk=>by cases hk;omega);go_upto_region 16 with fail
     clear tr hf0 iv jw dh;generalize (w3.setCell (J g 0) (.string ⟨(45::x).toArray⟩))=w6 at *;have II:=Ae (Ko agx);have DF:=NA.size;clear agw RU;go_wp2_with (at_builtin;refine wpList_append_own _ rfl _ _ 131 rfl w1 9 i0 (.string ⟨#[]⟩) 1 16 underlying131 hi dw ed en rfl qI _ _ _ rfl (World.ownsRow_nil _ _ _ _) (J g 0) (l.length+1) cap (Gk ((45::x)::l)) rfl (by rw [G6];simp) II.out (Nf _) qN qB qB ?_;intro v5 w5 pj xr _);go_roundw
     case rel =>
      refine ⟨1,qB,by go_num,?_,fun h=>qB,NA.grown xr NA.size (fun k hk=>by cases hk)⟩;rw [qe.out];simpa [Gk,Kr] using pj
     case measure=>simp [intOf];omega
    ·have qe:=Ae (MZ.out qp);have hkp:0<k:=qB;clear qp;go_upto_region 16 with (at_builtin;refine wpList_append_own _ rfl _ _ 131 rfl w1 9 i0 (.string ⟨#[]⟩) 1 16 underlying131 hi dw ed en rfl qI _ _ _ rfl (dh.alloc (.cells #[.string ⟨#[45]⟩] 9)) (J w3 0) 1 1 [.string ⟨#[45]⟩] rfl rfl (cell_one_new _ _ _) (by simp [Value.oneCell']) qN qB qA ?_;intro v4 w4 jk nv _)
     have EX:=(jw.alloc (.cells #[.string ⟨#[45]⟩] 9)).kept nv (.inr (fun e=>by have:=JV.out g e.symm;omega));exact qBg
  ·obtain rfl:k=n:=qB;have hj:=rI (Mc p) (Ld p) (Le p) k;have qe:=Ae (show Ue p k=Lib.join (Jw (Mc p) (Ld p) (Le p) k) [32] by rw [Ue,if_neg qB,hj]);have yi:(Lib.join (Jw (Mc p) (Ld p) (Le p) k) [32]).length≤200000*k:=by
    rw [hj];refine rX _ _ _ _ (fun j hj=>?_) (fun j hj=>?_)
    ·have h1:=(In (BE.tm j hj).top (BE.tm j hj).low (HR.out j hj).1.1).abs;rw [show ((if (p j).g1 then -(val (p j).d1:Int) else (val (p j).d1:Int)).natAbs)=val (p j).d1 by split<;>simp] at h1;have h2:=Vr h1;have h3:=HS.out j hj;show (E6 _ _).length≤190000;omega
    ·have h1:=BE.tm j hj;exact kY _ (fun i hi=>by
      match i,hi with
      | 0,_=>exact h1.s0
      | 1,_=>exact h1.s1
      | 2,_=>exact h1.s2
      | 3,_=>exact h1.s3) 4 qB
   have YR:0<(Jw (Mc p) (Ld p) (Le p) k).length:=List.length_pos_iff.2 (gM _ _ _ FR);have AN:=Y7 (Mc p) (Ld p) (Le p) k;clear hj;generalize Jw (Mc p) (Ld p) (Le p) k=L at *;obtain ⟨g,cap,rfl,qq,FQ⟩:=ah.form YR;go_wp2_with fail;refine (yQ _ _ L g _ cap ah YR qB qB).mono ?_;rintro e w2 ⟨rfl,bp⟩;go_wp2_with fail;go_ret;exact ⟨by rw [qe.out];rfl,(xo HBo bp)⟩
theorem oJ (n c:Nat) (p:Nat→Tm) (hp:RdP w a n c p) (mh:Od p n) (hr:¬POk p n) :
  Θ 86 #[.slice a n c] w (Gs w [48]):=by
 have HR:=Ae hr;clear hr;go_enter func86,ntmps86;go_wp2_with fail;refine (Fz w a n c p hp (mh.few) false ⟨fun h=>absurd h HR.out,fun e=>(by cases e)⟩).mono ?_;exact qDk
theorem lW (p:Nat→Tm) (hp:RdP w a 0 c p) :
  Θ 86 #[.slice a 0 c] w (Gs w [48]):=by
 go_enter func86,ntmps86;go_wp2_with fail;refine (Fz w a 0 c p hp (fun k hk=>absurd hk (Nat.not_lt_zero _)) true ⟨fun _=>rfl,fun _=>fun j hj=>absurd hj (Nat.not_lt_zero _)⟩).mono ?_;exact qDk
noncomputable def U8 (p:Nat→Tm) (n:Nat):List UInt8:=@ite _ (POk p n) (Classical.propDecidable _) (Ue p n) [48]
theorem uZ (n c:Nat) (p:Nat→Tm) (hp:RdP w a n c p) (mh:Od p n) (hn:n≤1000000) (hT:Tab w) :
  Θ 86 #[.slice a n c] w (Gs w (U8 p n)):=by
 unfold U8;by_cases hr:POk p n
 ·rw [if_pos hr];rcases Aq n with rfl|h
  ·rw [Ue,if_pos rfl];exact lW w a c p hp
  ·exact lA w a n c p hp mh hn hr hT h
 ·rw [if_neg hr];exact oJ w a n c p hp mh hr
def tmK (l:Δ) (k:Nat):PT:=l.getD k (0,0,1)
def txL (l:Δ):List UInt8:=if l=[] then [48] else Se (fun k=>decide ((tmK l k).2.1<0)) (fun k=>E6 ((tmK l k).2.1.natAbs:Int) ((tmK l k).2.2.natAbs:Int)) (fun k=>D9 (exN (tmK l k).1 0) (exN (tmK l k).1 1) (exN (tmK l k).1 2) (exN (tmK l k).1 3)) l.length
theorem eR {neg agy:Nat→Bool} {t t':Nat→List UInt8} {m m':Nat→Nat→Nat}:∀{k:Nat},(∀j,j<k→neg j=agy j∧t j=t' j∧m j=m' j)→Se neg t m k=Se agy t' m' k:=by
 intro k
 induction k with
 | zero=>intro _;rfl
 | succ k ih =>
  intro h;obtain ⟨h1,h2,h3⟩:=h k (Ag k);rw [Se,Se,ih fun j hj=>h j qB,h1,h2,h3]
theorem pT {w:World} {B:Nat} {a:Γ} {n c:Nat} {l:Δ} (h:Be w B a n c l) {p:Nat→Tm} (hp:RdP w a n c p) (hx:∀i x,l[i]? = some x→Ey (p i) x∧Nw B (p i).n1 (p i).a1∧Nw B (p i).n2 (p i).a2):Ue p n=txL l:=by
 have hn:=h.len;unfold Ue txL;by_cases h0:l=[]
 ·rw [if_pos h0,if_pos (by rw [←hn,h0];rfl)]
 ·rw [if_neg h0,if_neg (by rw [←hn];exact fun e=>h0 (List.length_eq_zero_iff.1 e)),hn];refine eR fun j hj=>?_
  have hl:l[j]? = some l[j]:=Ai qB;have ht:=(hx j _ hl).1;have hr:=hp.tm j hj;have e:tmK l j=l[j]:=by unfold tmK;rw [List.getD_eq_getElem?_getD,hl];rfl
  rw [e];refine ⟨ht.g1,?_,?_⟩
  ·unfold Ld;rw [ht.d1,ht.d2,Bq,Bq]
  ·unfold Le;obtain ⟨k0,k1,k2,k3⟩:=Dz hr.s1 hr.s2 hr.s3 hr.s0;rw [ht.key] at k0 k1 k2 k3;rw [k0,k1,k2,k3]
theorem tT (B:Nat) (a:Γ) (n c:Nat) (l:Δ) (h:Be w B a n c l) (hl:PW l) (hf:Cj 10000 l) (hn:n≤1000000) (hT:Tab w) :
  Θ 86 #[.slice a n c] w (Gs w (txL l)):=by
 obtain ⟨p,hp,hx⟩:=h.ts;have kx:=h.pok hl hp hx;have hs:Od p n:=fun k hk=>h.few hf hp hx k hk
 have:=uZ w a n c p hp hs hn hT;unfold U8 at this;rw [if_pos kx,pT h hp hx] at this;exact this
end Go.Proofs.YtfijkfdfbnfmmaaGreatDoor
end
