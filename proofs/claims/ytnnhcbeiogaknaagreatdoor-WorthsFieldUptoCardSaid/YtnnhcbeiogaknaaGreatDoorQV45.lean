/- Package spells: Text of a sum. -/
import Derived.Test.YtnnhcbeiogaknaaGreatDoorQV44
set_option linter.unusedSimpArgs false
set_option linter.unusedVariables false
set_option maxRecDepth 100000
set_option maxHeartbeats 4000000
section
namespace Go.Proofs.YtnnhcbeiogaknaaGreatDoor
open Go.RowKit
def Is (m:Nat→Nat) (k:Nat):List UInt8:=Lib.join (Eh m k) [32]
theorem cG (m:Nat→Nat):Is m 0=[]:=rfl
theorem cZ (m:Nat→Nat) (k:Nat) (h:¬0<m k):Is m (k+1)=Is m k:=by rw [Is,Eh,if_neg h,List.append_nil];rfl
theorem dI (m:Nat→Nat) (k:Nat) (h:0<m k):Is m (k+1)=if Is m k=[] then D0 k (m k) else Is m k++32::D0 k (m k):=by
 rw [Is,Eh,if_pos h];by_cases hl:Eh m k=[]
 ·rw [if_pos (by rw [Is,hl];rfl),hl,List.nil_append,Lib.join_one]
 ·rw [if_neg (show ¬Is m k=[] from fun e=>hl ((Pc (fZ k)).1 e)),It hl qG,Lib.join_one];rfl
def Li (p:Nat→Tm) (k:Nat):Bool:=(p k).g1
def Kr (p:Nat→Tm) (k:Nat):List UInt8:=Eo (val (p k).d1) (val (p k).d2)
def Ks (p:Nat→Tm) (k:Nat):Nat→Nat:=Dl (p k).m0 (p k).m1 (p k).m2 (p k).m3
def Tc (p:Nat→Tm) (n:Nat):List UInt8:=if n=0 then [48] else Q0 (Li p) (Kr p) (Ks p) n
def Mx (p:Nat→Tm) (n:Nat):Prop:=∀k,k<n→(p k).n1≤10000∧(p k).n2≤10000
theorem Mx.few {p:Nat→Tm} {n:Nat} (h:Mx p n):∀k,k<n→(p k).n1≤1000000∧(p k).n2≤1000000:=fun k hk=>by have:=h k hk;omega
theorem Uq {w:World} {g1:Bool} {a1:Γ} {n1 c1:Nat} {p:Int} {g2:Bool} {a2:Γ} {n2 c2:Nat} {q:Int} (h:Bj w g1 a1 n1 c1 p g2 a2 n2 c2 q):(Eo p q).length≤9*n1+9*n2+5:=by
 have h1:=Nu h.top;have h2:=Nu h.low;rw [Eo,A9]
 split
 ·simp only [List.length_nil];omega
 ·simp only [List.length_cons];omega
theorem jX (m:Nat→Nat) (hm:∀k,k<4→m k<65536):∀k,k≤4→(Is m k).length≤8*k:=by
 intro k
 induction k with
 | zero=>intro _;rw [cG];simp
 | succ k ih =>
  intro hk;have h1:=ih qA;by_cases h:0<m k
  ·have h2:(D0 k (m k)).length≤7:=by
    have:=Gq (m k) (hm k qA);rw [D0]
    split
    ·simp only [List.length_cons];omega
    ·simp
   rw [dI m k h]
   split
   ·omega
   ·simp only [A9,List.length_cons];omega
  ·rw [cZ m k h];omega
theorem iL (t l:List UInt8):(Vj t l).length≤t.length+l.length+1:=by
 unfold Vj
 split
 ·omega
 ·split
  ·omega
  ·simp only [A9,List.length_cons];omega
theorem Aaj (w:World) (base:Nat) (L:List (List UInt8)) (g n c:Nat) (hown:w.ownsRow base 9 1 (.slice (some ⟨g,0,none⟩) n c) n (Fv L)) (hn:0<n) (hn1:n≤1000000000) (hlen:(Lib.join L [32]).length≤140737488355328) :
  Θ 163 #[.slice (some ⟨g,0,none⟩) n c,.string ⟨#[32]⟩] w (Fo w (Lib.join L [32])):=by
 have hl:L.length=n:=by have:=hown.1;rw [Gf] at this;omega
 have hm:(L.map fun t=>(⟨t.toArray⟩:ByteArray)).map (fun x:ByteArray=>x.data.toList)=L:=by
  rw [List.map_map];have:((fun x:ByteArray=>x.data.toList)∘fun t:List UInt8=>(⟨t.toArray⟩:ByteArray))=id:=by funext t;simp
  rw [this,List.map_id]
 have hcap:n≤c:=by
  rcases hown.2 with ⟨h',_⟩|⟨g',cap',cur,h',_,_,hnc,_⟩
  ·simp at h'
  ·simp only [Value.slice.injEq] at h';omega
 have hj:=Tryz.strings_Join g 0 c (L.map fun t=>(⟨t.toArray⟩:ByteArray)) ⟨#[32]⟩ w (fun j x hx=>by
   have hjl:j<L.length:=by
    rcases Nat.lt_or_ge j L.length with h1|h1
    ·exact h1
    ·rw [List.getElem?_eq_none (by rw [List.length_map];exact h1)] at hx;cases hx
   rw [Nat.zero_add,hown.cellAt j qA];rw [List.getElem?_map,Ai hjl] at hx;simp only [Option.map_some,Option.some.injEq] at hx;rw [Fv,List.getElem?_map,Ai hjl,←hx]
   rfl) ((hown.lt g rfl).2) (by rw [List.length_map];omega) (by rw [List.length_map];omega) (by rw [hm];exact hlen)
 rw [hm,List.length_map,hl] at hj;exact hj
theorem sW (neg:Nat→Bool) (t:Nat→List UInt8) (m:Nat→Nat→Nat) (k:Nat) (ht:∀j,j<k→(t j).length≤190000) (hm:∀j,j<k→(Is (m j) 4).length≤32):(Q0 neg t m k).length≤200000*k:=by
 induction k with
 | zero=>simp [Q0]
 | succ k ih =>
  have h1:=ih (fun j hj=>ht j qA) (fun j hj=>hm j qA);have h2:=iL (t k) (Is (m k) 4);have h3:=ht k qA;have h4:=hm k qA;rw [Q0];simp only [A9];have h5:(if k=0 then (if neg k then [45] else []) else (if neg k then [32,45,32] else ([32,43,32]:List UInt8))).length≤3:=by
   split<;>split<;>simp
  show _+_+(Vj (t k) (Is (m k) 4)).length≤_;omega
theorem Np (t:List UInt8) (m:Nat→Nat):0<(Dq t m).length∧(Dq t m).length≤5:=by
 have h1:=Sk m 4;obtain ⟨x,l,e⟩:=Ib t m;refine ⟨by rw [e];simp,?_⟩;unfold Dq
 split
 ·simp only [List.length_cons];omega
 ·omega
theorem dO (neg:Bool) (l:List (List UInt8)):(J9 neg l).length=l.length:=by cases l<;>rfl
theorem Xs (neg:Nat→Bool) (t:Nat→List UInt8) (m:Nat→Nat→Nat) (k:Nat):(Jj neg t m k).length≤6*k:=by
 induction k with
 | zero=>simp [Jj]
 | succ k ih =>
  have h1:=Np (t 0) (m 0);have h2:=Np (t k) (m k);rw [Jj]
  split
  ·rw [dO];omega
  ·simp only [A9,List.length_singleton];omega
theorem rX {t:List UInt8} {m:Nat→Nat} {x:List UInt8} {l:List (List UInt8)} (h:Dq t m=x::l) (hm:∀k,k<4→m k<65536):x.length≤t.length+7:=by
 have key:∀k,k≤4→∀y∈Eh m k,y.length≤7:=by
  intro k
  induction k with
  | zero=>intro _ y hy;cases hy
  | succ k ih =>
   intro hk y hy;rw [Eh,List.mem_append] at hy;rcases hy with hy|hy
   ·exact ih qA y hy
   ·split at hy
    ·rw [Ao] at hy;subst hy;have:=Gq (m k) (hm k qA);rw [D0]
     split
     ·simp only [List.length_cons];omega
     ·simp
    ·cases hy
 unfold Dq at h
 split at h
 ·rw [List.cons.injEq] at h;rw [←h.1];omega
 ·have:=key 4 qA x (by rw [h];exact List.mem_cons_self ..);omega
theorem Wq (l:List (List UInt8)):J9 false l=l:=by cases l<;>rfl
theorem Bj.abs {w:World} {g1:Bool} {a1:Γ} {n1 c1:Nat} {p:Int} {g2:Bool} {a2:Γ} {n2 c2:Nat} {q:Int} (h:Bj w g1 a1 n1 c1 p g2 a2 n2 c2 q):Bj w false a1 n1 c1 ((p.natAbs:Nat):Int) g2 a2 n2 c2 q :=
 ⟨h.top.abs,h.low,h.pos,by have:=h.red;simpa [Int.gcd] using this⟩
theorem kD (wo:World) (a:Γ) (n c:Nat) (p:Nat→Tm) (hp:RdP wo a n c p) (hsm:Mx p n) (hn:n≤1000000) (hr:POk p n) (hT:Tab wo) (hn0:0<n) :
  Θ 90 #[.slice a n c] wo (Fo wo (Tc p n)):=by
 obtain ⟨i0,hi,hz0,hz1,hz2⟩:=info_parts yM;have HR:=Ae hr;have HS:=Ae hsm;clear hr hsm;have hnz:((n:Int)==0)=false:=by rw [beq_eq_false_iff_ne];omega
 go_enter Tryz.func90,Tryz.ntmps90;go_wp2_with fail;refine (E4 wo a n c p hp (Mx.few HS.out) true ⟨fun _=>rfl,fun _=>HR.out⟩).mono ?_;rintro e w1 ⟨rfl,hb1⟩;have hp1:=hp.keep hb1;have hT1:=hT.keep hb1;clear hp;go_wp2_with fail;go_loopw [3,20] (fun v3 v20 w=>∃k:Nat,k≤n∧v20=.int .i64 k∧w.ownsRow w1.heap.size 9 1 v3 (Jj (Li p) (Kr p) (Ks p) k).length (Fv (Jj (Li p) (Kr p) (Ks p) k))∧(k=0→v3=.slice none 0 0)∧Below w1.heap.size w1 w) (fun _ v20 _=>n-(intOf v20).toNat)
 case atStart=>exact ⟨0,by omega,rfl,World.ownsRow_nil _ _ _ _,fun _=>rfl,Ac _ _⟩
 case round =>
  obtain ⟨k,hk,rfl,hown,hnil,hBr⟩:=hrel;obtain ⟨w,rfl⟩:∃w:World,w=wr:=⟨_,rfl⟩;have HBo:Below wo.heap.size wo w:=hb1.trans (hBr.mono hb1.size);have HB:=Ac w.heap.size w;by_cases hlt:k<n
  ·obtain ⟨b,o,rfl,hcl⟩:=hp1.cell.resolve_left qA;have hpr:=hp1.keep hBr;have HT:=hpr.tm k hlt;obtain ⟨e0,e1,e2,e3,e4,e5,e6,e7⟩:=hpr.at hlt;have hs:=HS.out k hlt;have hF:=(HR.out k hlt).1.1;have HSTEP:=Ae (show Jj (Li p) (Kr p) (Ks p) (k+1)=if k=0 then J9 (Li p 0) (Dq (Kr p 0) (Ks p 0)) else Jj (Li p) (Kr p) (Ks p) k++[if (p k).g1 then [45] else [43]]++Dq (Eo (val (p k).d1) (val (p k).d2)) (Dl (p k).m0 (p k).m1 (p k).m2 (p k).m3) from rfl);have HST0:=Ae (show k=0→Jj (Li p) (Kr p) (Ks p) (k+1)=J9 (p k).g1 (Dq (Eo (val (p k).d1) (val (p k).d2)) (Dl (p k).m0 (p k).m1 (p k).m2 (p k).m3)) from fun h=>by subst h;rfl);have HST1:=Ae (show k≠0→Jj (Li p) (Kr p) (Ks p) (k+1)=Jj (Li p) (Kr p) (Ks p) k++[if (p k).g1 then [45] else [43]]++Dq (Eo (val (p k).d1) (val (p k).d2)) (Dl (p k).m0 (p k).m1 (p k).m2 (p k).m3) from fun h=>by rw [HSTEP.out,if_neg h]);have hll:=Xs (Li p) (Kr p) (Ks p) k;have hwl:=Np (Eo (val (p k).d1) (val (p k).d2)) (Dl (p k).m0 (p k).m1 (p k).m2 (p k).m3);have HA:=(Mi HT.top HT.low hF).abs;rw [show ((if (p k).g1 then -(val (p k).d1:Int) else (val (p k).d1:Int)).natAbs)=val (p k).d1 by split<;>simp] at HA;obtain ⟨WL,hWL⟩:∃WL,WL=Dq (Eo (val (p k).d1) (val (p k).d2)) (Dl (p k).m0 (p k).m1 (p k).m2 (p k).m3):=⟨_,rfl⟩;have HWL:=Ae hWL;rw [←hWL] at HST0 HST1 hwl;clear hWL HSTEP;generalize Jj (Li p) (Kr p) (Ks p) k=L at *;generalize p k=t at *;have HCL:=Ae hcl;clear hcl hpr;have HNIL:=Ae hnil;clear hnil;have u0:=HT.s0;have u1:=HT.s1;have u2:=HT.s2;have u3:=HT.s3;have hTw:Tab w:=hT1.keep hBr
   cases hg:t.g1
   ·skip
    rw [hg] at e0 HST0 HST1;clear hg;go_wp2_with fail;refine (Yj _ _ _ _ _ _ _ _ _).mono ?_;rintro e w2 ⟨rfl,hb⟩;obtain ⟨hc,hf⟩:=Bl hb;have hz:=hb.size;(try simp only [Aj,Ak] at hz);replace HB:=zI w hb;obtain ⟨s0_0,s0_1⟩:=qZ hc (w.heap.size) (.bool false) (.slice t.a1 t.n1 t.c1);obtain ⟨s0_2,s0_3⟩:=zD hc (w.heap.size) (.bool t.g2) (.slice t.a2 t.n2 t.c2);have s0_4:=qX hc (w.heap.size) 4 (.int .u16 t.m0);have s0_5:=qX hc (w.heap.size) 5 (.int .u16 t.m1);have s0_6:=qX hc (w.heap.size) 6 (.int .u16 t.m2);have s0_7:=qX hc (w.heap.size) 7 (.int .u16 t.m3);have hk0:w.heap.size<w2.heap.size:=by omega
    clear hc hf hb hz;go_wp2_with fail;refine (eI _ _ _ _ _ _ _ _ _ _ _ (HA.keep qF) qA qA (hTw.keep qF) _ _ _ _ u0 u1 u2 u3).mono ?_;rintro e w3 ⟨v,rfl,hownw,hb3⟩;rw [←HWL.out] at hownw;have HB3:=zI w hb3;have hk3:w2.heap.size<w3.heap.size:=by have:=hb3.size;simp at this;omega
    have hown3:=Bo hown HB3;have hownw:=J7 hownw (show w.heap.size+1≤_ by simp;omega);obtain ⟨g,cap,rfl,hgb,hgc⟩:=hownw.form hwl.1;have hv3:=Ae (fun k hk=>(hown.lt k hk).2);clear hown s0_0 s0_1 s0_2 s0_3 s0_4 s0_5 s0_6 s0_7;have hB3:Below w1.heap.size w1 w3:=hBr.trans (HB3.mono hBr.size);have hzw:=hBr.size;by_cases hk0:k=0
    ·subst hk0;obtain rfl:=HNIL.out rfl;obtain ⟨hL,_⟩:L.length=0∧True:=by
      rcases hown3.2 with ⟨_,h0⟩|⟨g',cap',cur,h',_⟩
      ·exact ⟨h0,trivial⟩
      ·simp at h'
     obtain rfl:L=[]:=List.eq_nil_of_length_eq_zero hL;clear hL;have HST:=Ae (HST0.out rfl);have HCS:=Ae (J6 hownw);go_wp2_with (at_builtin;refine wpList_append_own _ rfl _ _ 205 rfl w1.heap.size 9 i0 (.string ⟨#[]⟩) 1 16 Tryz.underlying205 hi hz0 hz1 hz2 rfl qI _ _ _ rfl hown3 ⟨g,0,none⟩ WL.length cap (Fv WL) rfl (by rw [Gf];omega) HCS.out (Mf _) qO qA qA ?_;intro v5 w5 hown5 hgrow5 _);go_roundw
     case rel =>
      refine ⟨1,by omega,by go_num,?_,fun h=>by omega,hB3.grown hgrow5 hB3.size (fun k hk=>(hown3.lt k hk).1)⟩;rw [HST.out,Wq];simpa [Fv] using hown5
     case measure=>simp [intOf];omega
    ·have HST:=Ae (HST1.out hk0);have hkp:0<k:=by omega
     clear hk0;go_upto_region 16 with (at_builtin;refine wpList_append_own _ rfl _ _ 205 rfl w1.heap.size 9 i0 (.string ⟨#[]⟩) 1 16 Tryz.underlying205 hi hz0 hz1 hz2 rfl qI _ _ _ rfl (hown3.alloc (.cells #[.string ⟨#[43]⟩] 9)) ⟨w3.heap.size,0,none⟩ 1 1 [.string ⟨#[43]⟩] rfl rfl (cell_one_new _ _ _) (by simp [Value.oneCell']) qO qA qB ?_;intro v4 w4 hown4 hgrow4 _)
     have hownw4:=(hownw.alloc (.cells #[.string ⟨#[43]⟩] 9)).kept hgrow4 (.inr (fun e=>by have:=hv3.out g e.symm;omega));exact qAv
   ·skip
    rw [hg] at e0 HST0 HST1;clear hg;go_wp2_with fail;refine (Yj _ _ _ _ _ _ _ _ _).mono ?_;rintro e w2 ⟨rfl,hb⟩;obtain ⟨hc,hf⟩:=Bl hb;have hz:=hb.size;(try simp only [Aj,Ak] at hz);replace HB:=zI w hb;obtain ⟨s0_0,s0_1⟩:=qZ hc (w.heap.size) (.bool true) (.slice t.a1 t.n1 t.c1);obtain ⟨s0_2,s0_3⟩:=zD hc (w.heap.size) (.bool t.g2) (.slice t.a2 t.n2 t.c2);have s0_4:=qX hc (w.heap.size) 4 (.int .u16 t.m0);have s0_5:=qX hc (w.heap.size) 5 (.int .u16 t.m1);have s0_6:=qX hc (w.heap.size) 6 (.int .u16 t.m2);have s0_7:=qX hc (w.heap.size) 7 (.int .u16 t.m3);have hk0:w.heap.size<w2.heap.size:=by omega
    clear hc hf hb hz;go_wp2_with fail;refine (eI _ _ _ _ _ _ _ _ _ _ _ (HA.keep qF) qA qA (hTw.keep qF) _ _ _ _ u0 u1 u2 u3).mono ?_;rintro e w3 ⟨v,rfl,hownw,hb3⟩;rw [←HWL.out] at hownw;have HB3:=zI w hb3;have hk3:w2.heap.size<w3.heap.size:=by have:=hb3.size;simp at this;omega
    have hown3:=Bo hown HB3;have hownw:=J7 hownw (show w.heap.size+1≤_ by simp;omega);obtain ⟨g,cap,rfl,hgb,hgc⟩:=hownw.form hwl.1;have hv3:=Ae (fun k hk=>(hown.lt k hk).2);clear hown s0_0 s0_1 s0_2 s0_3 s0_4 s0_5 s0_6 s0_7;have hB3:Below w1.heap.size w1 w3:=hBr.trans (HB3.mono hBr.size);have hzw:=hBr.size;by_cases hk0:k=0
    ·subst hk0;obtain rfl:=HNIL.out rfl;obtain ⟨hL,_⟩:L.length=0∧True:=by
      rcases hown3.2 with ⟨_,h0⟩|⟨g',cap',cur,h',_⟩
      ·exact ⟨h0,trivial⟩
      ·simp at h'
     obtain rfl:L=[]:=List.eq_nil_of_length_eq_zero hL;clear hL;have HST:=Ae (HST0.out rfl);obtain ⟨x,l,hxl⟩:=Ib (Eo (val t.d1) (val t.d2)) (Dl t.m0 t.m1 t.m2 t.m3);have hxlen:=rX hxl (fun j hj=>by
      match j,hj with
      | 0,_=>exact u0
      | 1,_=>exact u1
      | 2,_=>exact u2
      | 3,_=>exact u3)
     have hft:=Uq HA;rw [←HWL.out] at hxl;subst hxl;have hx0:w3.cell? ⟨g,0,none⟩=some (.string ⟨x.toArray⟩):=by rw [hownw.cellAt 0 qG];rfl
     have hf0:=hownw.frozenAt 0;have hcat:(⟨#[45]⟩:ByteArray).size+(⟨x.toArray⟩:ByteArray).size≤9223372036854775807:=by show 1+x.length≤_;omega
     have happ:((⟨#[45]⟩:ByteArray)++(⟨x.toArray⟩:ByteArray))=⟨(45::x).toArray⟩:=Hc [45] x;have hlc:(x::l).length=l.length+1:=rfl;have hst:=hownw.stored 0 (.string ⟨(45::x).toArray⟩);have hown6:(w3.setCell ⟨g,0,none⟩ (.string ⟨(45::x).toArray⟩)).ownsRow (w.heap.size+1) 9 1 (.slice (some ⟨g,0,none⟩) (l.length+1) cap) (l.length+1) (Fv ((45::x)::l)):=hst.1;have hB6:Below w1.heap.size w1 (w3.setCell ⟨g,0,none⟩ (.string ⟨(45::x).toArray⟩)):=hB3.grown hst.2 hB3.size (fun k hk=>by cases hk;omega);go_upto_region 16 with fail
     clear hx0 hf0 hst hownw hown3;generalize (w3.setCell ⟨g,0,none⟩ (.string ⟨(45::x).toArray⟩))=w6 at *;have HCS:=Ae (J6 hown6);have hz6:=hB6.size;clear hcat happ;go_wp2_with (at_builtin;refine wpList_append_own _ rfl _ _ 205 rfl w1.heap.size 9 i0 (.string ⟨#[]⟩) 1 16 Tryz.underlying205 hi hz0 hz1 hz2 rfl qI _ _ _ rfl (World.ownsRow_nil _ _ _ _) ⟨g,0,none⟩ (l.length+1) cap (Fv ((45::x)::l)) rfl (by rw [Gf];simp) HCS.out (Mf _) qO qA qA ?_;intro v5 w5 hown5 hgrow5 _);go_roundw
     case rel =>
      refine ⟨1,by omega,by go_num,?_,fun h=>by omega,hB6.grown hgrow5 hB6.size (fun k hk=>by cases hk)⟩;rw [HST.out];simpa [Fv,J9] using hown5
     case measure=>simp [intOf];omega
    ·have HST:=Ae (HST1.out hk0);have hkp:0<k:=by omega
     clear hk0;go_upto_region 16 with (at_builtin;refine wpList_append_own _ rfl _ _ 205 rfl w1.heap.size 9 i0 (.string ⟨#[]⟩) 1 16 Tryz.underlying205 hi hz0 hz1 hz2 rfl qI _ _ _ rfl (hown3.alloc (.cells #[.string ⟨#[45]⟩] 9)) ⟨w3.heap.size,0,none⟩ 1 1 [.string ⟨#[45]⟩] rfl rfl (cell_one_new _ _ _) (by simp [Value.oneCell']) qO qA qB ?_;intro v4 w4 hown4 hgrow4 _)
     have hownw4:=(hownw.alloc (.cells #[.string ⟨#[45]⟩] 9)).kept hgrow4 (.inr (fun e=>by have:=hv3.out g e.symm;omega));exact qAv
  ·obtain rfl:k=n:=by omega
   have hj:=sD (Li p) (Kr p) (Ks p) k;have HST:=Ae (show Tc p k=Lib.join (Jj (Li p) (Kr p) (Ks p) k) [32] by rw [Tc,if_neg qA,hj]);have hjl:(Lib.join (Jj (Li p) (Kr p) (Ks p) k) [32]).length≤200000*k:=by
    rw [hj];refine sW _ _ _ _ (fun j hj=>?_) (fun j hj=>?_)
    ·have h1:=(Mi (hp1.tm j hj).top (hp1.tm j hj).low (HR.out j hj).1.1).abs;rw [show ((if (p j).g1 then -(val (p j).d1:Int) else (val (p j).d1:Int)).natAbs)=val (p j).d1 by split<;>simp] at h1;have h2:=Uq h1;have h3:=HS.out j hj;show (Eo _ _).length≤190000;omega
    ·have h1:=hp1.tm j hj;exact jX _ (fun i hi=>by
      match i,hi with
      | 0,_=>exact h1.s0
      | 1,_=>exact h1.s1
      | 2,_=>exact h1.s2
      | 3,_=>exact h1.s3) 4 qA
   have hlp:0<(Jj (Li p) (Kr p) (Ks p) k).length:=List.length_pos_iff.2 (eV _ _ _ hn0);have hll:=Xs (Li p) (Kr p) (Ks p) k;clear hj;generalize Jj (Li p) (Kr p) (Ks p) k=L at *;obtain ⟨g,cap,rfl,hgb,hgc⟩:=hown.form hlp;go_wp2_with fail;refine (Aaj _ _ L g _ cap hown hlp qA qA).mono ?_;rintro e w2 ⟨rfl,hb2⟩;go_wp2_with fail;go_ret;exact ⟨by rw [HST.out];rfl,HBo.trans (hb2.mono HBo.size)⟩
theorem nZ (w:World) (a:Γ) (n c:Nat) (p:Nat→Tm) (hp:RdP w a n c p) (hsm:Mx p n) (hr:¬POk p n) :
  Θ 90 #[.slice a n c] w (Fo w [48]):=by
 have HR:=Ae hr;clear hr;go_enter Tryz.func90,Tryz.ntmps90;go_wp2_with fail;refine (E4 w a n c p hp (hsm.few) false ⟨fun h=>absurd h HR.out,fun e=>(by cases e)⟩).mono ?_;exact qCl
theorem lG (w:World) (a:Γ) (c:Nat) (p:Nat→Tm) (hp:RdP w a 0 c p) :
  Θ 90 #[.slice a 0 c] w (Fo w [48]):=by
 go_enter Tryz.func90,Tryz.ntmps90;go_wp2_with fail;refine (E4 w a 0 c p hp (fun k hk=>absurd hk (Nat.not_lt_zero _)) true ⟨fun _=>rfl,fun _=>fun j hj=>absurd hj (Nat.not_lt_zero _)⟩).mono ?_;exact qCl
noncomputable def Tz (p:Nat→Tm) (n:Nat):List UInt8:=@ite _ (POk p n) (Classical.propDecidable _) (Tc p n) [48]
theorem wG (w:World) (a:Γ) (n c:Nat) (p:Nat→Tm) (hp:RdP w a n c p) (hsm:Mx p n) (hn:n≤1000000) (hT:Tab w) :
  Θ 90 #[.slice a n c] w (Fo w (Tz p n)):=by
 unfold Tz;by_cases hr:POk p n
 ·rw [if_pos hr];rcases Aq n with rfl|h
  ·rw [Tc,if_pos rfl];exact lG w a c p hp
  ·exact kD w a n c p hp hsm hn hr hT h
 ·rw [if_neg hr];exact nZ w a n c p hp hsm hr
def tmK (l:Δ) (k:Nat):PT:=l.getD k (0,0,1)
def txL (l:Δ):List UInt8:=if l=[] then [48] else Q0 (fun k=>decide ((tmK l k).2.1<0)) (fun k=>Eo ((tmK l k).2.1.natAbs:Int) ((tmK l k).2.2.natAbs:Int)) (fun k=>Dl (exN (tmK l k).1 0) (exN (tmK l k).1 1) (exN (tmK l k).1 2) (exN (tmK l k).1 3)) l.length
theorem cW {neg neg':Nat→Bool} {t t':Nat→List UInt8} {m m':Nat→Nat→Nat}:∀{k:Nat},(∀j,j<k→neg j=neg' j∧t j=t' j∧m j=m' j)→Q0 neg t m k=Q0 neg' t' m' k:=by
 intro k
 induction k with
 | zero=>intro _;rfl
 | succ k ih =>
  intro h;obtain ⟨h1,h2,h3⟩:=h k (Ag k);rw [Q0,Q0,ih fun j hj=>h j qA,h1,h2,h3]
theorem rB {w:World} {B:Nat} {a:Γ} {n c:Nat} {l:Δ} (h:Bd w B a n c l) {p:Nat→Tm} (hp:RdP w a n c p) (hx:∀i x,l[i]? = some x→Ey (p i) x∧Nw B (p i).n1 (p i).a1∧Nw B (p i).n2 (p i).a2):Tc p n=txL l:=by
 have hn:=h.len;unfold Tc txL;by_cases h0:l=[]
 ·rw [if_pos h0,if_pos (by rw [←hn,h0];rfl)]
 ·rw [if_neg h0,if_neg (by rw [←hn];exact fun e=>h0 (List.length_eq_zero_iff.1 e)),hn];refine cW fun j hj=>?_
  have hl:l[j]? = some l[j]:=Ai qA;have ht:=(hx j _ hl).1;have hr:=hp.tm j hj;have e:tmK l j=l[j]:=by unfold tmK;rw [List.getD_eq_getElem?_getD,hl];rfl
  rw [e];refine ⟨ht.g1,?_,?_⟩
  ·unfold Kr;rw [ht.d1,ht.d2,Bq,Bq]
  ·unfold Ks;obtain ⟨k0,k1,k2,k3⟩:=Ec hr.s1 hr.s2 hr.s3 hr.s0;rw [ht.key] at k0 k1 k2 k3;rw [k0,k1,k2,k3]
theorem uX (w:World) (B:Nat) (a:Γ) (n c:Nat) (l:Δ) (h:Bd w B a n c l) (hl:PW l) (hf:Cj 10000 l) (hn:n≤1000000) (hT:Tab w) :
  Θ 90 #[.slice a n c] w (Fo w (txL l)):=by
 obtain ⟨p,hp,hx⟩:=h.ts;have hok:=h.pok hl hp hx;have hs:Mx p n:=fun k hk=>h.few hf hp hx k hk
 have:=wG w a n c p hp hs hn hT;unfold Tz at this;rw [if_pos hok,rB h hp hx] at this;exact this
theorem Uc (B b:Nat) (bs:List Value) (s:ByteArray) (w:World) (h:Lib.IsBuilderF 186 5 B b bs w) (hlen:bs.length+s.size≤140737488355328) (hBw:B≤w.heap.size) :
  Θ 134 #[.pointer (some ⟨b,0,none⟩),.string s] w fun e w'=>e=.returned (.tuple #[.int .i64 s.size,.nilIface])∧(Lib.BuilderAtF 186 5 B b (.pointer (some ⟨b,0,none⟩)) (bs++Lib.strCells s) w'∧Below B w w'∧Lib.OthersKept 5 (some b) w w') :=
 Any.Builder_WriteString_k fH Tj B b bs s w h hlen hBw
mutual
def txV:VT→List UInt8
 | .node f l xs=>if f then 91::(K4 true xs++[93]) else txL l
def K4:Bool→List VT→List UInt8
 | _,[]=>[]
 | b,x::xs=>(if b then [] else [44,32])++(txV x++K4 false xs)
end
theorem kO (x:VT):∀(xs:List VT) (b:Bool),K4 b (xs++[x])=K4 b xs++((if b&&xs.isEmpty then [] else [44,32])++txV x):=by
 intro xs
 induction xs with
 | nil=>intro b;simp [K4]
 | cons y xs ih =>
  intro b;rw [List.cons_append,K4,ih,K4];simp
theorem jY:∀(xs:List VT) (b:Bool) (i:Nat),(K4 b (xs.take i)).length≤(K4 b xs).length:=by
 intro xs
 induction xs with
 | nil=>intro b i;simp [K4]
 | cons y xs ih =>
  intro b i
  cases i with
  | zero=>simp [K4]
  | succ i=>rw [List.take_succ_cons,K4,K4];simp only [A9];have:=ih false i;omega
theorem OthersKept.of_below {e:TypeId} {b:Option Nat} {w w':World} (hb:Below w.heap.size w w'):Lib.OthersKept e b w w':=fun k o hk _ _=>(hb.block k (Ar.1 hk).1).trans hk
theorem Blk.others {W W':World} {b P:Nat} {vs:Array Value} {t:TypeId} (h:Blk W b vs t) (hk:Lib.OthersKept 5 (some P) W W') (hb:b≠P) (ht:t≠5):Blk W' b vs t:=hk b _ h (by simp;exact hb) (fun c fz e=>by cases e;exact ht rfl)
structure Txt (P pb:Nat) (bs:List UInt8) (w:World):Prop where
 b:Lib.IsBuilderF 186 5 P P (Lib.byteCells bs) w
 p:Blk w pb #[.func (.func 133) #[] #[.pointer (some ⟨P,0,none⟩),.pointer (some ⟨pb,0,none⟩)]] 187
 n:P≤w.heap.size
def Aal (P pb:Nat) (bs:List UInt8) (w:World) (e:Ending) (w':World):Prop:=e=.returned (.tuple #[])∧Txt P pb bs w'∧Below P w w'∧Lib.OthersKept 5 (some P) w w'
theorem Txt.keep {P pb:Nat} {bs:List UInt8} {w w':World} (h:Txt P pb bs w) (hb:Below w.heap.size w w'):Txt P pb bs w':=by
 have key:∀p,Lib.BuilderAtF 186 5 P P p (Lib.byteCells bs) w→Lib.BuilderAtF 186 5 P P p (Lib.byteCells bs) w':=by
  rintro p ⟨h1,v,h2,⟨k1,k2⟩,h4⟩;refine ⟨h1,v,(hb.block P (Ar.1 h2).1).trans h2,⟨k1,k2.imp id ?_⟩,h4⟩;rintro ⟨g,cap,cur,fz,e1,e2,e3,e4⟩;exact ⟨g,cap,cur,fz,e1,e2,(hb.block g (Ar.1 e3).1).trans e3,e4⟩
 exact ⟨h.b.imp (key _) (key _),h.p.keep hb,Ah h.n hb.size⟩
theorem Rg (P pb:Nat) (bs s:List UInt8) (w:World) (h:Txt P pb bs w) (hpb:pb≠P) (hlen:bs.length+s.length≤10000000) :
  Θ 134 #[.pointer (some ⟨P,0,none⟩),.string ⟨s.toArray⟩] w (fun e w'=>(∃v,e=.returned v)∧Txt P pb (bs++s) w'∧Below P w w'∧Lib.OthersKept 5 (some P) w w'):=by
 refine (Uc P P (Lib.byteCells bs) ⟨s.toArray⟩ w h.b (by rw [G3,Jz];omega) h.n).mono ?_;rintro e w' ⟨rfl,hb,hB,hO⟩;refine ⟨⟨_,rfl⟩,⟨.inr ?_,h.p.others hO hpb qI,Ah h.n hB.size⟩,hB,hO⟩;rw [I4] at hb;exact hb
theorem Ac5 (w0:World) (hT:Tab w0):∀(k:Nat) (t:VT),t.dep≤k→∀(d:Nat) (v0 v1 v2:Value) (P pb:Nat) (bs:List UInt8) (W:World),Bw w0 0 none v0 v1 v2 t→VT.Ok d t→Below w0.heap.size w0 W→w0.heap.size≤P→P<pb→Txt P pb bs W→bs.length+(txV t).length≤1000000 →
    Θ 133 #[.agg #[v0,v1,v2],.pointer (some ⟨P,0,none⟩),.pointer (some ⟨pb,0,none⟩)] W (Aal P pb (bs++txV t) W):=by
  intro k
  induction k with
  | zero=>intro t ht;cases t;rw [VT.dep] at ht;omega
  | succ k ih =>
    intro t ht d v0 v1 v2 P pb bs W h hok hW hP hpb hX hlen;obtain ⟨f,l,xs⟩:=t;rw [VT.dep] at ht;rw [Bw] at h;rw [VT.Ok] at hok;rw [txV] at hlen ⊢;obtain ⟨rfl,⟨a,n,c,rfl,hp,_⟩,a',c',rfl,k2,k3,k4,hrow⟩:=h;have HB:=Ac W.heap.size W;have hpl:pb<W.heap.size:=hX.p.lt;have hPl:P<W.heap.size:=by omega
    go_enter Tryz.func133,Tryz.ntmps133;cases f
    · obtain ⟨hxs,hl2,hpw,hfw⟩:xs=[]∧l.length≤2000∧PW l∧Cj 5000 l:=by
        rcases hok with ⟨_,h1,h2,h3,h4⟩|⟨h,_⟩
        · exact ⟨h1,h2,h3,h4⟩
        · cases h
      have hln:=hp.len;rw [if_neg qI] at hlen ⊢;clear ih hok hrow ht;go_wp2_with fail;refine Be ?_;intro w1 hw1;have b1:Below W.heap.size W w1:=by rw [hw1];go_grown
      clear hw1;have hW1:=hW.trans (b1.mono hW.size);refine (uX w1 0 a n c l (hp.keep hW1) hpw (fun t ht=>by have:=hfw t ht;omega) qA (hT.keep hW1)).mono ?_;rintro e w2 ⟨rfl,hb2⟩;have b2:=b1.trans (hb2.mono b1.size);go_wp2_with fail;refine (Rg P pb bs (txL l) w2 (hX.keep b2) qA qA).mono ?_;rintro e w3 ⟨⟨v,rfl⟩,hX3,hB3,hO3⟩;go_wp2_with fail;refine bodyPost_ret (v:=.tuple #[]) (by simp [results,Tryz.results133,go_sem]) rfl ⟨rfl,hX3,(b2.mono qA).trans hB3,(OthersKept.of_below b2).trans hO3⟩
    · obtain ⟨rfl,hl2,hd,hxo⟩:l=[]∧xs.length≤2000∧d≤64∧VT.OkL (d+1) xs:=by
        rcases hok with ⟨h,_⟩|⟨_,h1,h2,h3,h4⟩
        · cases h
        · exact ⟨h1,h2,h3,h4⟩
      rw [if_pos rfl] at hlen ⊢;have HI:=Ae (fun (x:VT) (hx:x∈xs) (v0 v1 v2:Value) (bs:List UInt8) (W:World) (hv:Bw w0 0 none v0 v1 v2 x) (h1:Below w0.heap.size w0 W) (h2:Txt P pb bs W) (h3:bs.length+(txV x).length≤1000000)=>ih x (by have:=VT.depL_mem (xs:=xs) hx;omega) (d+1) v0 v1 v2 P pb bs W hv (VT.OkL_iff.1 hxo x hx) h1 hP hpb h2 h3);have HR:=Ae hrow;obtain ⟨m,hm⟩:∃m,m=xs.length:=⟨_,rfl⟩;rw [←hm] at k2 hl2 ⊢;have HM:=Ae hm;have HL:=Ae hlen;clear ih hok hrow ht hm hp hlen;go_wp2_with fail;refine Be ?_;intro w1 hw1;have b1:Below W.heap.size W w1:=by rw [hw1];go_grown
      have A1:Blk w1 W.heap.size #[.bool true,.slice a n c,.slice a' m c'] 60:=by rw [hw1];exact Bi rfl _ _
      clear hw1;refine (Rg P pb bs [91] w1 (hX.keep b1) qA (by have:=HL.out;simp at this;simp;omega)).mono ?_;rintro e w2 ⟨⟨v,rfl⟩,hX2,hB2,hO2⟩;have A2:=A1.others hO2 qA qI;have x2:=A2.cell 2 _ rfl;have hBP:Below P W w2:=(b1.mono qA).trans hB2;have hOP:Lib.OthersKept 5 (some P) W w2:=(OthersKept.of_below b1).trans hO2;go_wp2_with fail;go_loopw [17] (fun v17 wr=>∃(i:Nat),i≤m∧v17=.int .i64 i∧Txt P pb (bs++91::K4 true (xs.take i)) wr∧Below P W wr∧Lib.OthersKept 5 (some P) W wr) (fun v17 _=>m-(intOf v17).toNat)
      case atStart=>exact ⟨0,by omega,rfl,hX2,hBP,hOP⟩
      case round =>
        obtain ⟨i,hi,rfl,hXr,HBr,HOr⟩:=hrel;clear hX2 hBP hOP hB2 hO2 b1 HB;have hzr:=HBr.size;by_cases hlt:i<m
        · obtain ⟨b,p,rfl,_,hv⟩:=HR.out.resolve_left (by intro e;have:=HM.out;rw [e] at this;simp at this;omega);obtain ⟨x,hx⟩:∃x,xs[i]? = some x:=⟨_,Ai (by rw [←HM.out];exact hlt)⟩;obtain ⟨u0,u1,u2,c0,c1,c2,hva⟩:=hv.at hx;obtain ⟨fx,ax,nx,cx,ay,ny,cy,rfl,rfl,rfl⟩:=hva.form;have hWr:=hW.trans (HBr.mono hP)
          (replace c0:=Bc hWr c0;replace c1:=Bc hWr c1;replace c2:=Bc hWr c2)
          have hsn:=kO x (xs.take i) true;have htk:xs.take (i+1)=xs.take i++[x]:=by rw [List.take_add_one,hx];rfl
          rw [←htk] at hsn;have hln:=jY xs true (i+1);have hlen:=HL.out;simp only [List.length_cons,A9,List.length_nil] at hlen;have hln2:=hln;rw [hsn] at hln2;simp only [A9] at hln2;have hil:(xs.take i).length=i:=by rw [List.length_take];have:=HM.out;omega
          have HX:=Ae (Ay hx (Ay hva hsn));have hbl:=Aa _ _ c0;have hprl:=hXr.p.lt;clear hx hva hv hsn;go_upto_if 23 with fail
          refine Cc ?_;intro w1 hw1;have k1:Below wr.heap.size wr w1:=by rw [hw1];go_grown
          have X1:Blk w1 wr.heap.size #[.bool fx,.slice ax nx cx,.slice ay ny cy] 60:=by rw [hw1];exact Bi rfl _ _
          clear hw1;have hX1:=hXr.keep k1;have hB1:=HBr.trans (k1.mono (show P≤wr.heap.size by omega));have hO1:=HOr.trans (OthersKept.of_below k1);clear hXr HBr HOr;go_cut [] (fun wc=>Txt P pb ((bs++91::K4 true (xs.take i))++(if true&&(xs.take i).isEmpty then [] else [44,32])) wc∧Below P W wc∧Lib.OthersKept 5 (some P) W wc∧Blk wc wr.heap.size #[.bool fx,.slice ax nx cx,.slice ay ny cy] 60)
          case first =>
            by_cases h0:i=0
            · subst h0;go_wp2_with fail;go_meet
              case rel=>exact ⟨by simpa using hX1,hB1,hO1,X1⟩
            · have hne : (xs.take i).isEmpty = false := by rw [List.isEmpty_eq_false_iff_exists_mem];rcases hq:xs.take i with _|⟨y,ys⟩;· rw [hq] at hil;simp at hil;omega
                                                           · exact ⟨y,List.mem_cons_self ..⟩
              rw [hne] at hln2;go_wp2_with fail;refine (Rg P pb _ [44,32] w1 hX1 qA (by simp at hln2 ⊢;omega)).mono ?_;rintro e w2 ⟨⟨v',rfl⟩,hX2,hB2,hO2⟩;go_wp2_with fail;go_meet
              case rel=>exact ⟨by rw [hne];exact hX2,hB1.trans hB2,hO1.trans hO2,X1.others hO2 qA qI⟩
          case rest =>
            obtain ⟨hXc,hBc,hOc,XC⟩:=hcut;have hWc:=hW.trans (hBc.mono hP);have hpc:=hXc.p.cell 0 _ rfl;have y0:=XC.cell 0 _ rfl;have y1:=XC.cell 1 _ rfl;have y2:=XC.cell 2 _ rfl;have hnl:((bs++91::K4 true (xs.take i))++(if true&&(xs.take i).isEmpty then [] else [44,32])).length+(txV x).length≤1000000:=by
              simp only [A9,List.length_cons];omega
            go_wp2_with fail;refine (HI.out x (A8 HX.out.1) _ _ _ _ wc HX.out.2.1 hWc hXc hnl).mono ?_;rintro e w3 ⟨rfl,hX3,hB3,hO3⟩;have hX4:Txt P pb (bs++91::K4 true (xs.take (i+1))) w3:=by
              rw [HX.out.2.2];simpa [List.append_assoc] using hX3
            go_wp2_with fail;go_roundw
            case rel=>exact ⟨i+1,by omega,by go_num,hX4,hBc.trans hB3,hOc.trans hO3⟩
            case measure=>(first|(simp [intOf];omega)|(simp [intOf];done))
        · obtain rfl:i=m:=by omega
          rw [As (by have:=HM.out;omega)] at hXr;go_wp2_with fail;refine (Rg P pb _ [93] wr hXr qA (by have:=HL.out;simp at this ⊢;omega)).mono ?_;rintro e w3 ⟨⟨v',rfl⟩,hX3,hB3,hO3⟩;go_wp2_with fail;refine bodyPost_end (v:=.tuple #[]) (by simp [results,Tryz.results133,go_sem]) rfl ⟨rfl,?_,HBr.trans hB3,HOr.trans hO3⟩;simpa [List.append_assoc] using hX3
theorem vV (w:World) (B:Nat) (o:Option Nat) (v0 v1 v2:Value) (t:VT) (h:Bw w B o v0 v1 v2 t) (hok:VT.Ok 1 t) (hT:Tab w) (hl:(txV t).length≤1000000) :
  Θ 75 #[.agg #[v0,v1,v2]] w (Fo w (txV t)):=by
 have HB:=Ac w.heap.size w;obtain ⟨f,a,n,c,a',n',c',rfl,rfl,rfl⟩:=h.form;have HV:=Ae h.read;clear h;go_enter Tryz.func75,Tryz.ntmps75;go_wp2_with fail;refine Be ?_;intro w1 hw1;have b1:Below w.heap.size w w1:=by rw [hw1];go_grown
 have A1:Blk w1 w.heap.size #[.bool f,.slice a n c,.slice a' n' c'] 60:=by rw [hw1];exact Bi rfl _ _
 clear hw1;refine (Dc (HV.out.keep b1) hok).mono ?_;rintro e w2 ⟨rfl,hb2⟩;have b2:=b1.trans (hb2.mono b1.size);have x0:=(A1.keep hb2).cell 0 _ rfl;have x1:=(A1.keep hb2).cell 1 _ rfl;have x2:=(A1.keep hb2).cell 2 _ rfl;have xl:=(A1.keep hb2).lt;go_wp2_with fail;refine Be ?_;intro w3 hw3;have k3:Below w2.heap.size w2 w3:=by rw [hw3];go_grown
 have P3:Blk w3 w2.heap.size #[.pointer none,.slice none 0 0] 186:=by rw [hw3];exact (Bi rfl _ _).alloc _
 have Q3:Blk w3 (w2.heap.size+1) #[.func (.func 133) #[] #[.pointer (some ⟨w2.heap.size,0,none⟩),.pointer (some ⟨w2.heap.size+1,0,none⟩)]] 187:=by rw [hw3];exact Bi qG _ _
 clear hw3;have hX:Txt w2.heap.size (w2.heap.size+1) [] w3:=⟨.inl ⟨Ad _,.slice none 0 0,P3,⟨rfl,.inl ⟨rfl,rfl⟩⟩,by simp [Value.ownBlock]⟩,Q3,k3.size⟩;have b3:=b2.trans (k3.mono b2.size);refine (Ac5 w2 (hT.keep b2) t.dep t (Ad _) 1 _ _ _ w2.heap.size (w2.heap.size+1) [] w3 (HV.out.keep b2) hok k3 (Ad _) qA hX (by simpa using hl)).mono ?_;rintro e w4 ⟨rfl,hX4,hB4,hO4⟩;rw [List.nil_append] at hX4;have b4:=b2.trans ((k3.trans hB4).mono b2.size);go_wp2_with fail;refine (Any.Builder_String_any_k Tryz.lays169 Tryz.Builder_Extra_169 w2.heap.size w2.heap.size (txV t) w4 hX4.b hX4.n).mono ?_;rintro e w5 ⟨rfl,hF5,hB5,hO5⟩;go_wp2_with fail;go_ret;exact ⟨rfl,b4.trans (hB5.mono b2.size)⟩
mutual
def szT:VT→Nat
 | .node _ l xs=>max 1 l.length+Hq xs
def Hq:List VT→Nat
 | []=>0
 | x::xs=>szT x+Hq xs
end
theorem iV (x:VT):∀xs:List VT,Hq (xs++[x])=Hq xs+szT x:=by
 intro xs
 induction xs with
 | nil=>simp [Hq]
 | cons y xs ih=>rw [List.cons_append,Hq,ih,Hq];omega
theorem iW:∀(xs:List VT) (i:Nat),Hq (xs.take i)≤Hq xs:=by
 intro xs
 induction xs with
 | nil=>intro i;simp [Hq]
 | cons y xs ih =>
  intro i
  cases i with
  | zero=>simp [Hq]
  | succ i=>rw [List.take_succ_cons,Hq,Hq];have:=ih i;omega
theorem zQ:∀(k:Nat) (t:VT),t.dep≤k→∀(w:World) (v0 v1 v2:Value) (sb:Nat),Bw w 0 none v0 v1 v2 t→szT t≤1000000→Blk w sb #[.func (.func 136) #[] #[.pointer (some ⟨sb,0,none⟩)]] 68 →
  Θ 136 #[.agg #[v0,v1,v2],.pointer (some ⟨sb,0,none⟩)] w (fun e w'=>e=.returned (.int .i64 (szT t))∧Below w.heap.size w w'):=by
 intro k
 induction k with
 | zero=>intro t ht;cases t;rw [VT.dep] at ht;omega
 | succ k ih =>
  intro t ht w v0 v1 v2 sb h hsz hS;obtain ⟨f,l,xs⟩:=t;rw [VT.dep] at ht;rw [Bw] at h;rw [szT] at hsz ⊢;obtain ⟨rfl,⟨a,n,c,rfl,hp,_⟩,a',c',rfl,k2,k3,k4,hrow⟩:=h;have HB:=Ac w.heap.size w;have hln:=hp.len;have HI:=Ae (fun (x:VT) (hx:x∈xs)=>ih x (by have:=VT.depL_mem (xs:=xs) hx;omega));have HR:=Ae hrow;obtain ⟨m,hm⟩:∃m,m=xs.length:=⟨_,rfl⟩;rw [←hm] at k2 ⊢;have hmm:m≤1000000:=by
   have:∀l:List VT,l.length≤Hq l:=fun l=>by
    induction l with
    | nil=>simp
    | cons y l ih=>obtain ⟨_,l',_⟩:=y;rw [Hq,szT,List.length_cons];omega
   have:=this xs;omega
  rw [show Hq xs=Hq (xs.take m) by rw [As qA]] at hsz ⊢;have HM:=Ae hm;have hsl:=hS.lt;clear ih hrow ht hm hp;rw [hln] at hsz ⊢;obtain ⟨q,hq⟩:∃q,q=max 1 n:=⟨_,rfl⟩;rw [←hq] at hsz ⊢;have hmx:max (1:Int) (n:Int)=(q:Int):=by omega
  go_enter Tryz.func136,Tryz.ntmps136;go_wp2_with fail;refine Cc ?_;intro w0 hw0;have b0:Below w.heap.size w w0:=by rw [hw0];go_grown
  clear hw0;go_loopw [4,14] (fun v4 v14 wr=>∃(i:Nat),i≤m∧v14=.int .i64 i∧v4=.int .i64 ((q+Hq (xs.take i):Nat):Int)∧Below w.heap.size w wr) (fun _ v14 _=>m-(intOf v14).toNat)
  case atStart=>exact ⟨0,by omega,rfl,by rw [List.take_zero,Hq,Nat.add_zero,hq],b0⟩
  case round =>
   obtain ⟨i,hi,rfl,rfl,HBr⟩:=hrel;clear b0 HB;by_cases hlt:i<m
   ·obtain ⟨b,p,rfl,_,hv⟩:=HR.out.resolve_left (by intro e;have:=HM.out;rw [e] at this;simp at this;omega);obtain ⟨x,hx⟩:∃x,xs[i]? = some x:=⟨_,Ai (by rw [←HM.out];exact hlt)⟩;obtain ⟨u0,u1,u2,c0,c1,c2,hva⟩:=hv.at hx;obtain ⟨fx,ax,nx,cx,ay,ny,cy,rfl,rfl,rfl⟩:=hva.form
    (replace c0:=Bc HBr c0;replace c1:=Bc HBr c1;replace c2:=Bc HBr c2)
    have htk:Hq (xs.take (i+1))=Hq (xs.take i)+szT x:=by rw [List.take_add_one,hx];exact iV x _
    have hle:Hq (xs.take (i+1))≤Hq (xs.take m):=by
     have:=iW (xs.take m) (i+1);rwa [List.take_take,Nat.min_eq_left qA] at this
    have HX:=Ae (Ay hx (Ay (hva.keep HBr) htk));have hbl:=Aa _ _ c0;have hSr:=hS.keep HBr;have hsc:=hSr.cell 0 _ rfl;have hsl2:=hSr.lt;have hsx:szT x≤1000000:=by omega
    have hzs:Hq (xs.take i)+szT x≤1000000:=by omega
    clear hx hva hv htk;go_wp2_with fail;refine Be ?_;intro w1 hw1;have k1:Below wr.heap.size wr w1:=by rw [hw1];go_grown
    clear hw1;refine (HI.out x (A8 HX.out.1) w1 _ _ _ sb (HX.out.2.1.keep k1) hsx (hSr.keep k1)).mono ?_;rintro e w2 ⟨rfl,hb2⟩;have b2:=HBr.trans ((k1.trans (hb2.mono k1.size)).mono HBr.size);go_wp2_with fail;go_roundw
    case rel=>exact ⟨i+1,by omega,by go_num,by rw [HX.out.2.2];go_num,b2⟩
    case measure=>(first|(simp [intOf];omega)|(simp [intOf];done))
   ·obtain rfl:i=m:=by omega
    go_wp2_with fail;go_ret;exact ⟨by go_num,HBr⟩
theorem wQ (w:World) (B:Nat) (o:Option Nat) (v0 v1 v2:Value) (t:VT) (h:Bw w B o v0 v1 v2 t) (hok:VT.Ok 1 t) (hl:szT t≤1000000) :
  Θ 76 #[.agg #[v0,v1,v2]] w (fun e w'=>e=.returned (.int .i64 (szT t))∧Below w.heap.size w w'):=by
 have HB:=Ac w.heap.size w;obtain ⟨f,a,n,c,a',n',c',rfl,rfl,rfl⟩:=h.form;have HV:=Ae h.read;clear h;go_enter Tryz.func76,Tryz.ntmps76;go_wp2_with fail;refine Be ?_;intro w1 hw1;have b1:Below w.heap.size w w1:=by rw [hw1];go_grown
 have A1:Blk w1 w.heap.size #[.bool f,.slice a n c,.slice a' n' c'] 60:=by rw [hw1];exact Bi rfl _ _
 clear hw1;refine (Dc (HV.out.keep b1) hok).mono ?_;rintro e w2 ⟨rfl,hb2⟩;have b2:=b1.trans (hb2.mono b1.size);have x0:=(A1.keep hb2).cell 0 _ rfl;have x1:=(A1.keep hb2).cell 1 _ rfl;have x2:=(A1.keep hb2).cell 2 _ rfl;have xl:=(A1.keep hb2).lt;go_wp2_with fail;refine Be ?_;intro w3 hw3;have k3:Below w2.heap.size w2 w3:=by rw [hw3];go_grown
 have Q3:Blk w3 w2.heap.size #[.func (.func 136) #[] #[.pointer (some ⟨w2.heap.size,0,none⟩)]] 68:=by rw [hw3];exact Bi rfl _ _
 clear hw3;have b3:=b2.trans (k3.mono b2.size);refine (zQ t.dep t (Ad _) w3 _ _ _ w2.heap.size (HV.out.keep b3) hl Q3).mono ?_;rintro e w4 ⟨rfl,hb4⟩;go_wp2_with fail;go_ret;exact ⟨rfl,b3.trans (hb4.mono b3.size)⟩
theorem gH:txV O6=[91,49,44,32,91,120,32,45,32,49,44,32,49,93,44,32,91,120,32,43,32,49,44,32,49,93,93]:=by decide +kernel
theorem Ach:Fd [(562949953421312,1,1)] pP=some none:=by decide +kernel
theorem yI:Sm [(562949953421312,((1,1):PC))]:=Sm.of (by decide +kernel)
theorem Aam:Sm [(281474976710656,((1,1):PC))]:=Sm.of (by decide +kernel)
theorem sm_1:Sm [(0,((1,1):PC))]:=Sm.of (by decide +kernel)
theorem Ab8:Sm [(0,((65,1):PC))]:=Sm.of (by decide +kernel)
def szA:VT:=.node true [] [.node false pP [],.node true [] []]
theorem Aat:VT.Ok 1 szA:=by
 rw [szA,VT.Ok];refine .inr ⟨rfl,rfl,by simp,by omega,VT.OkL_iff.2 fun x hx=>?_⟩;simp only [List.mem_cons,List.not_mem_nil,or_false] at hx;rcases hx with rfl|rfl
 ·exact Hf smP _
 ·rw [VT.Ok];exact .inr ⟨rfl,rfl,by simp,by omega,VT.OkL_iff.2 fun x hx=>by simp at hx⟩
theorem Lv (w:World) (hT:Tab w) (hV:If w) (h7:7<w.heap.size) :
  Θ 25 #[] w (fun e w'=>e=.returned (.bool true)∧Below w.heap.size w w'):=by
 have HB:=Ac w.heap.size w;have HH:=Ae (Ay hT hV);clear hT hV;go_enter Tryz.func25,Tryz.ntmps25;go_wp2_with fail;refine (Hj w _ _ rd1 qG HH.out.2 h7).mono ?_;rintro e w1 ⟨u0,u1,u2,rfl,hv,hb1⟩;obtain ⟨f,a,n,c,a',n',c',rfl,rfl,rfl⟩:=hv.form;have HVV:=Ae hv;clear hv;go_wp2_with fail;refine Be ?_;intro w2 hw2;have k2:Below w1.heap.size w1 w2:=by rw [hw2];go_grown
 have N2:Blk w2 w1.heap.size #[.bool f,.slice a n c,.slice a' n' c'] 60:=by rw [hw2];exact Bi rfl _ _
 clear hw2;have b2:=hb1.trans (k2.mono hb1.size);have V2:=HVV.out.read.keep k2;refine (iK w2 w1.heap.size 0 1 qA (by rw [Di,Di];exact ⟨⟨_,_,_,N2.cell 0 _ rfl,N2.cell 1 _ rfl,N2.cell 2 _ rfl,V2⟩,trivial⟩)).mono ?_;rintro e w3 ⟨p0,p1,p2,rfl,hv,hb3⟩;obtain ⟨vf,va,vn,vc,va',vn',vc',rfl,rfl,rfl⟩:=hv.form;have HF:=Ae hv;clear hv HVV V2 N2;have b3:=b2.trans (hb3.mono b2.size);go_wp2_with fail;refine Be ?_;intro w4 hw4;have k4:Below w3.heap.size w3 w4:=by rw [hw4];go_grown
 have F4:Blk w4 w3.heap.size #[.bool vf,.slice va vn vc,.slice va' vn' vc'] 60:=by rw [hw4];exact Bi rfl _ _
 clear hw4;have b4:=b3.trans (k4.mono b3.size);refine (Hj w4 _ _ rd2 qG (HH.out.2.keep b4) (by have:=Below.size b4;omega)).mono ?_;rintro e wx ⟨u0,u1,u2,rfl,hv,hbx⟩;obtain ⟨fx,ax,nx,cx,ax',nx',cx',rfl,rfl,rfl⟩:=hv.form;have bx:=Al b4 (hbx.mono (Below.size b4));have X:=Ae hv.read;clear hv;go_wp2_with fail;refine (Hj wx _ _ rd3 qG (HH.out.2.keep bx) (by have:=bx.size;omega)).mono ?_;rintro e w5 ⟨u0,u1,u2,rfl,hv,hby⟩;obtain ⟨fy,ay,ny,cy,ay',ny',cy',rfl,rfl,rfl⟩:=hv.form;have b5:=bx.trans (hby.mono bx.size);have XY:=Ae (Ay (X.out.keep hby) hv.read);have ky:=hbx.trans (hby.mono hbx.size);clear hv X bx hbx hby;go_wp2_with fail;refine (nB XY.out.1 XY.out.2 (Hf yI 1) (Hf smP 1) yI smP qI Ach).mono ?_;rintro e wz ⟨u0,u1,u2,rfl,hv,hbz⟩;have bz:=Al b5 (hbz.mono (Below.size b5));have kz:=Al ky (hbz.mono (Below.size ky));obtain ⟨fz,az,nz,cz,az',nz',cz',rfl,rfl,rfl⟩:=hv.form;clear hv hbz XY ky;go_wp2_with fail;refine Be ?_;intro w6 hw;have kn:Below wz.heap.size wz w6:=by rw [hw];go_grown
 clear hw;have b6:=bz.trans (kn.mono bz.size);have k6:=kz.trans (kn.mono kz.size);have F6:=Blk.keep F4 k6;clear kn kz bz;refine (Hj w6 _ _ rd4 qG (HH.out.2.keep b6) (by have:=Below.size b6;omega)).mono ?_;rintro e wx ⟨u0,u1,u2,rfl,hv,hbx⟩;obtain ⟨fx,ax,nx,cx,ax',nx',cx',rfl,rfl,rfl⟩:=hv.form;have bx:=Al b6 (hbx.mono (Below.size b6));have X:=Ae hv.read;clear hv;go_wp2_with fail;refine (Hj wx _ _ rd5 qG (HH.out.2.keep bx) (by have:=bx.size;omega)).mono ?_;rintro e w7 ⟨u0,u1,u2,rfl,hv,hby⟩;obtain ⟨fy,ay,ny,cy,ay',ny',cy',rfl,rfl,rfl⟩:=hv.form;have b7:=bx.trans (hby.mono bx.size);have XY:=Ae (Ay (X.out.keep hby) hv.read);have ky:=hbx.trans (hby.mono hbx.size);clear hv X bx hbx hby;go_wp2_with fail;refine (jB XY.out.1 XY.out.2 (Hf Aam 1) (Hf sm_1 1) (by decide +kernel) Aam.pw sm_1.pw).mono ?_;rintro e wz ⟨u0,u1,u2,rfl,hv,hbz⟩;have bz:=Al b7 (hbz.mono (Below.size b7));have kz:=Al ky (hbz.mono (Below.size ky));obtain ⟨fz,az,nz,cz,az',nz',cz',rfl,rfl,rfl⟩:=hv.form;clear hv hbz XY ky;go_wp2_with fail;refine Be ?_;intro w8 hw;have kn:Below wz.heap.size wz w8:=by rw [hw];go_grown
 clear hw;have b8:=bz.trans (kn.mono bz.size);have k8:=kz.trans (kn.mono kz.size);have F8:=Blk.keep F6 k8;clear kn kz bz;refine (Hj w8 _ _ rd4 qG (HH.out.2.keep b8) (by have:=Below.size b8;omega)).mono ?_;rintro e wx ⟨u0,u1,u2,rfl,hv,hbx⟩;obtain ⟨fx,ax,nx,cx,ax',nx',cx',rfl,rfl,rfl⟩:=hv.form;have bx:=Al b8 (hbx.mono (Below.size b8));have X:=Ae hv.read;clear hv;go_wp2_with fail;refine (Hj wx _ _ rd6 qG (HH.out.2.keep bx) (by have:=bx.size;omega)).mono ?_;rintro e w9 ⟨u0,u1,u2,rfl,hv,hby⟩;obtain ⟨fy,ay,ny,cy,ay',ny',cy',rfl,rfl,rfl⟩:=hv.form;have b9:=bx.trans (hby.mono bx.size);have XY:=Ae (Ay (X.out.keep hby) hv.read);have ky:=hbx.trans (hby.mono hbx.size);clear hv X bx hbx hby;go_wp2_with fail;refine (lS XY.out.1 XY.out.2 (Hf Aam 1) (Hf Ab8 1)).mono ?_;rintro e wz ⟨u0,u1,u2,rfl,hv,hbz⟩;have bz:=b9.trans (hbz.mono b9.size);have kz:=ky.trans (hbz.mono ky.size);obtain ⟨fz,az,nz,cz,az',nz',cz',rfl,rfl,rfl⟩:=hv.form;clear hv hbz XY ky;have F9:=F8.keep kz;have z0:=F9.cell 0 _ rfl;have z1:=F9.cell 1 _ rfl;have z2:=F9.cell 2 _ rfl;have zl:=F9.lt;go_wp2_with fail;refine Be ?_;intro wa hwa;have kn:Below wz.heap.size wz wa:=by rw [hwa];go_grown
 clear hwa;have ba:=bz.trans (kn.mono bz.size);have ka:=kz.trans (kn.mono kz.size);have VF:=HF.out.keep (((k4.trans (k6.mono k4.size)).trans (k8.mono (k4.trans (k6.mono k4.size)).size)).trans (ka.mono ((k4.trans (k6.mono k4.size)).trans (k8.mono (k4.trans (k6.mono k4.size)).size)).size));refine (vV wa _ _ _ _ _ _ VF fM (HH.out.1.keep ba) (by rw [gH];simp)).mono ?_;rintro e wb ⟨rfl,hbb⟩;have bb:=ba.trans (hbb.mono ba.size);rw [gH];clear hbb VF HF F4 F6 F8 F9 z0 z1 z2 zl k4 k6 k8 ka kz kn bz;go_wp2_with fail;refine (Hj wb _ _ rd3 qG (HH.out.2.keep bb) (by have:=bb.size;omega)).mono ?_;rintro e wx ⟨u0,u1,u2,rfl,hv,hbx⟩;obtain ⟨fx,ax,nx,cx,ax',nx',cx',rfl,rfl,rfl⟩:=hv.form;have bx:=bb.trans (hbx.mono bb.size);have X:=Ae hv.read;clear hv;go_wp2_with fail;refine Be ?_;intro wc hwc;have kc:Below wx.heap.size wx wc:=by rw [hwc];go_grown
 have N:Blk wc wx.heap.size #[.bool fx,.slice ax nx cx,.slice ax' nx' cx',.bool true,.slice none 0 0,.slice none 0 0] 60:=by rw [hwc];exact Bi rfl _ _
 clear hwc;have bc:=bx.trans (kc.mono bx.size);refine (wQ wc 0 none _ _ _ szA (by
  rw [szA,Bw];refine ⟨rfl,⟨_,_,_,rfl,Bd.nil _ 0,fun _ h=>by simp at h⟩,_,_,rfl,by simp,by omega,by simp,.inr ⟨_,_,rfl,fun _ h=>by simp at h,?_⟩⟩;rw [Di,Di,Di];refine ⟨⟨_,_,_,N.cell 0 _ rfl,N.cell 1 _ rfl,N.cell 2 _ rfl,X.out.keep kc⟩,⟨_,_,_,N.cell 3 _ rfl,N.cell 4 _ rfl,N.cell 5 _ rfl,?_⟩,trivial⟩;rw [Bw];exact ⟨rfl,⟨_,_,_,rfl,Bd.nil _ 0,fun _ h=>by simp at h⟩,_,_,rfl,by simp,by omega,by simp,.inl rfl⟩) Aat qI).mono ?_
 rintro e wd ⟨rfl,hbd⟩;have bd:=bc.trans (hbd.mono bc.size);rw [show szT szA=4 by decide];clear N X HH;go_wp2_with fail;exact bodyPost_ret (v:=.bool true) (by simp [results,Tryz.results25,go_sem]) rfl ⟨rfl,bd⟩
end Go.Proofs.YtnnhcbeiogaknaaGreatDoor
end
