/- Package spells: letter, amount. -/
import Derived.Test.YtnnhcbeiogaknaaGreatDoorQT13
set_option linter.unusedSimpArgs false
set_option linter.unusedVariables false
set_option maxRecDepth 100000
set_option maxHeartbeats 4000000
section
namespace Go.Proofs.YtnnhcbeiogaknaaGreatDoor
open Go.RowKit
theorem wN (n:Int) (h0:-9223372036854775808≤n) (h1:n≤9223372036854775807) (w:World) (hT:Tab w) :
  Calls Tryz.prog 284 #[.int .i64 n] w (Fe w (Lib.itoa n)) :=
 (Tryz.strconv_Itoa n h0 h1 w hT).mono fun _ _ ⟨h,k,os,hw⟩=>⟨h,by rw [hw];exact Rs _ _ _ (Ad _)⟩
def zR:Nat→UInt8
 | 0=>120
 | 1=>121
 | 2=>122
 | _=>116
def Dv (i n:Nat):List UInt8:=zR i::(if 1<n then 94::Lib.itoa (n:Int) else [])
theorem Gd (n:Nat) (h:n<65536):(Lib.itoa (n:Int)).length≤5:=by
 rw [Lib.itoa,if_neg qA,Int.toNat_natCast];exact (Qd 4 n qA).2
theorem mF (w:World) (n:Nat) (hn:n<65536) (hT:Tab w) :
  Calls Tryz.prog 223 #[.int .i64 0,.int .u16 n] w (Fe w (Dv 0 n)):=by
 have hl:=Gd n hn;have hcat1:(⟨#[94]⟩:ByteArray).size+(⟨(Lib.itoa (n:Int)).toArray⟩:ByteArray).size≤9223372036854775807:=by show 1+(Lib.itoa (n:Int)).length≤_;omega
 have happ1:((⟨#[94]⟩:ByteArray)++(⟨(Lib.itoa (n:Int)).toArray⟩:ByteArray))=⟨(94::Lib.itoa (n:Int)).toArray⟩:=Gp [94] _;have hnw:IntKind.i64.wrap (n:Int)=n:=IntWalk.i64_in _ qA;have hex:(⟨#[120,121,122,116]⟩:ByteArray).extract 0 1=⟨#[120]⟩:=by rfl
 by_cases h1:1<n
 ·have hcat2:(⟨#[120]⟩:ByteArray).size+(⟨(94::Lib.itoa (n:Int)).toArray⟩:ByteArray).size≤9223372036854775807:=by show 1+(94::Lib.itoa (n:Int)).length≤_;simp only [List.length_cons];omega
  have happ2:((⟨#[120]⟩:ByteArray)++(⟨(94::Lib.itoa (n:Int)).toArray⟩:ByteArray))=⟨(120::94::Lib.itoa (n:Int)).toArray⟩:=Gp [120] _;exact qAz
 ·exact qBl
theorem jF (w:World) (n:Nat) (hn:n<65536) (hT:Tab w) :
  Calls Tryz.prog 223 #[.int .i64 1,.int .u16 n] w (Fe w (Dv 1 n)):=by
 have hl:=Gd n hn;have hcat1:(⟨#[94]⟩:ByteArray).size+(⟨(Lib.itoa (n:Int)).toArray⟩:ByteArray).size≤9223372036854775807:=by show 1+(Lib.itoa (n:Int)).length≤_;omega
 have happ1:((⟨#[94]⟩:ByteArray)++(⟨(Lib.itoa (n:Int)).toArray⟩:ByteArray))=⟨(94::Lib.itoa (n:Int)).toArray⟩:=Gp [94] _;have hnw:IntKind.i64.wrap (n:Int)=n:=IntWalk.i64_in _ qA;have hex:(⟨#[120,121,122,116]⟩:ByteArray).extract 1 2=⟨#[121]⟩:=by rfl
 by_cases h1:1<n
 ·have hcat2:(⟨#[121]⟩:ByteArray).size+(⟨(94::Lib.itoa (n:Int)).toArray⟩:ByteArray).size≤9223372036854775807:=by show 1+(94::Lib.itoa (n:Int)).length≤_;simp only [List.length_cons];omega
  have happ2:((⟨#[121]⟩:ByteArray)++(⟨(94::Lib.itoa (n:Int)).toArray⟩:ByteArray))=⟨(121::94::Lib.itoa (n:Int)).toArray⟩:=Gp [121] _;exact qAz
 ·exact qBl
theorem mK (w:World) (n:Nat) (hn:n<65536) (hT:Tab w) :
  Calls Tryz.prog 223 #[.int .i64 2,.int .u16 n] w (Fe w (Dv 2 n)):=by
 have hl:=Gd n hn;have hcat1:(⟨#[94]⟩:ByteArray).size+(⟨(Lib.itoa (n:Int)).toArray⟩:ByteArray).size≤9223372036854775807:=by show 1+(Lib.itoa (n:Int)).length≤_;omega
 have happ1:((⟨#[94]⟩:ByteArray)++(⟨(Lib.itoa (n:Int)).toArray⟩:ByteArray))=⟨(94::Lib.itoa (n:Int)).toArray⟩:=Gp [94] _;have hnw:IntKind.i64.wrap (n:Int)=n:=IntWalk.i64_in _ qA;have hex:(⟨#[120,121,122,116]⟩:ByteArray).extract 2 3=⟨#[122]⟩:=by rfl
 by_cases h1:1<n
 ·have hcat2:(⟨#[122]⟩:ByteArray).size+(⟨(94::Lib.itoa (n:Int)).toArray⟩:ByteArray).size≤9223372036854775807:=by show 1+(94::Lib.itoa (n:Int)).length≤_;simp only [List.length_cons];omega
  have happ2:((⟨#[122]⟩:ByteArray)++(⟨(94::Lib.itoa (n:Int)).toArray⟩:ByteArray))=⟨(122::94::Lib.itoa (n:Int)).toArray⟩:=Gp [122] _;exact qAz
 ·exact qBl
theorem lE (w:World) (n:Nat) (hn:n<65536) (hT:Tab w) :
  Calls Tryz.prog 223 #[.int .i64 3,.int .u16 n] w (Fe w (Dv 3 n)):=by
 have hl:=Gd n hn;have hcat1:(⟨#[94]⟩:ByteArray).size+(⟨(Lib.itoa (n:Int)).toArray⟩:ByteArray).size≤9223372036854775807:=by show 1+(Lib.itoa (n:Int)).length≤_;omega
 have happ1:((⟨#[94]⟩:ByteArray)++(⟨(Lib.itoa (n:Int)).toArray⟩:ByteArray))=⟨(94::Lib.itoa (n:Int)).toArray⟩:=Gp [94] _;have hnw:IntKind.i64.wrap (n:Int)=n:=IntWalk.i64_in _ qA;have hex:(⟨#[120,121,122,116]⟩:ByteArray).extract 3 4=⟨#[116]⟩:=by rfl
 by_cases h1:1<n
 ·have hcat2:(⟨#[116]⟩:ByteArray).size+(⟨(94::Lib.itoa (n:Int)).toArray⟩:ByteArray).size≤9223372036854775807:=by show 1+(94::Lib.itoa (n:Int)).length≤_;simp only [List.length_cons];omega
  have happ2:((⟨#[116]⟩:ByteArray)++(⟨(94::Lib.itoa (n:Int)).toArray⟩:ByteArray))=⟨(116::94::Lib.itoa (n:Int)).toArray⟩:=Gp [116] _;exact qAz
 ·exact qBl
theorem lQ (w:World) (i n:Nat) (hi:i<4) (hn:n<65536) (hT:Tab w) :
  Calls Tryz.prog 223 #[.int .i64 i,.int .u16 n] w (Fe w (Dv i n)):=by
 match i,hi with
 | 0,_=>exact mF w n hn hT
 | 1,_=>exact jF w n hn hT
 | 2,_=>exact mK w n hn hT
 | 3,_=>exact lE w n hn hT
theorem Wx (w:World) (g1:Bool) (a1:Option Addr) (n1 c1:Nat) (g2:Bool) (a2:Option Addr) (n2 c2:Nat) :
  Calls Tryz.prog 161 #[.agg #[.bool g1,.slice a1 n1 c1,.bool g2,.slice a2 n2 c2]] w fun e w'=>e=.returned (.tuple #[.agg #[.bool false,.slice a1 n1 c1,.bool g2,.slice a2 n2 c2],.bool g1])∧Below w.heap.size w w':=by
 have HB:=Ac w.heap.size w;go_enter Tryz.func161,Tryz.ntmps161;go_wp2_with fail;refine bodyPost_ret (v:=.tuple #[.agg #[.bool false,.slice a1 n1 c1,.bool g2,.slice a2 n2 c2],.bool g1]) (by simp [results,Tryz.results161,go_sem]) rfl ?_;exact ⟨rfl,by go_grown⟩
theorem tO:(Tryz.prog.info? 9).map (fun i=>(i.zero,i.size,i.bytes))=some (some (.string ⟨#[]⟩),1,16):=by kernel_rfl
def Fm (l:List (List UInt8)):List Value:=l.map fun t=>Value.string ⟨t.toArray⟩
theorem Fz (l:List (List UInt8)):(Fm l).length=l.length:=by simp [Fm]
theorem Jl (l m:List (List UInt8)):Fm (l++m)=Fm l++Fm m:=by simp [Fm]
theorem Ld (l:List (List UInt8)):∀u∈Fm l,u.oneCell'=true:=by
 intro u hu;simp only [Fm,List.mem_map] at hu;obtain ⟨z,_,rfl⟩:=hu;rfl
def Ea (m:Nat→Nat):Nat→List (List UInt8)
 | 0=>[]
 | k+1=>Ea m k++(if 0<m k then [Dv k (m k)] else [])
theorem Q9 (m:Nat→Nat) (k:Nat):(Ea m k).length≤k:=by
 induction k with
 | zero=>simp [Ea]
 | succ k ih=>rw [Ea,A8];split<;>simp<;>omega
def Dk (t:List UInt8) (m:Nat→Nat):List (List UInt8):=if t≠[49]∨Ea m 4=[] then t::Ea m 4 else Ea m 4
def nD (w:World) (l:List (List UInt8)) (e:Ending) (w':World):Prop :=
 ∃v,e=.returned v∧w'.ownsRow w.heap.size 9 1 v l.length (Fm l)∧Below w.heap.size w w'
def De (m0 m1 m2 m3:Nat):Nat→Nat
 | 0=>m0
 | 1=>m1
 | 2=>m2
 | _=>m3
theorem Jf {w:World} {base base':Nat} {e:TypeId} {size:Nat} {v:Value} {n:Nat} {xs:List Value} (h:w.ownsRow base e size v n xs) (hb:base'≤base):w.ownsRow base' e size v n xs:=by
 exact qCx
theorem Je {w:World} {base g n c:Nat} {e:TypeId} {xs:List Value} (h:w.ownsRow base e 1 (.slice (some ⟨g,0,none⟩) n c) n xs):∀j u,xs[j]? = some u→w.cell? ((⟨g,0,none⟩:Addr).add j)=some u:=by
 intro j u hj;have hadd:(⟨g,0,none⟩:Addr).add j=⟨g,j,none⟩:=by unfold Addr.add;split<;>simp_all
 have hl:=h.1;have hjl:j<xs.length:=by
  rcases Nat.lt_or_ge j xs.length with h1|h1
  ·exact h1
  ·rw [List.getElem?_eq_none h1] at hj;cases hj
 rw [hadd,h.cellAt j qA];exact hj
theorem bF (w:World) (g1:Bool) (a1:Option Addr) (n1 c1:Nat) (p:Int) (g2:Bool) (a2:Option Addr) (n2 c2:Nat) (q:Int) (h:Bi w g1 a1 n1 c1 p g2 a2 n2 c2 q) (hs:n2≤1000000) (hb1:n1≤1000000) (hT:Tab w)
  (m0 m1 m2 m3:Nat) (h0:m0<65536) (h1:m1<65536) (h2:m2<65536) (h3:m3<65536) :
  Calls Tryz.prog 162 #[.agg #[.bool g1,.slice a1 n1 c1,.bool g2,.slice a2 n2 c2],.agg #[.int .u16 m0,.int .u16 m1,.int .u16 m2,.int .u16 m3]] w (nD w (Dk (Eg p q) (De m0 m1 m2 m3))):=by
 obtain ⟨i0,hi,hz0,hz1,hz2⟩:=info_parts tO;have HB:=Ac w.heap.size w;go_enter Tryz.func162,Tryz.ntmps162;go_wp2_with fail;go_loopw [4,9] (fun v4 v9 wr=>∃k:Nat,k≤4∧v9=.int .i64 k∧wr.ownsRow (w.heap.size+1+1) 9 1 v4 (Ea (De m0 m1 m2 m3) k).length (Fm (Ea (De m0 m1 m2 m3) k))∧w.heap.size+1<wr.heap.size∧wr.cell? ⟨w.heap.size,0,none⟩=some (.bool g1)∧wr.cell? ⟨w.heap.size,1,none⟩=some (.slice a1 n1 c1)∧wr.cell? ⟨w.heap.size,2,none⟩=some (.bool g2)∧wr.cell? ⟨w.heap.size,3,none⟩=some (.slice a2 n2 c2)∧Below w.heap.size w wr∧(Ea (De m0 m1 m2 m3) k=[]→v4=.slice none 0 0)) (fun _ v9 _=>4-(intOf v9).toNat)
 case atStart=>exact ⟨0,by omega,rfl,World.ownsRow_nil _ _ _ _,by simp,by simp [go_sem],by simp [go_sem],by simp [go_sem],by simp [go_sem],by go_grown,fun _=>rfl⟩
 case round =>
  obtain ⟨k,hk,rfl,hown,hlr,k0,k1,k2,k3,HBr,hnil⟩:=hrel;have HN:=Ae hnil;clear hnil;clear HB;by_cases hlt:k<4
  ·obtain ⟨x,hx⟩:∃x,x=De m0 m1 m2 m3 k:=⟨_,rfl⟩;have hxl:x<65536:=by
    rw [hx]
    match k,hlt with
    | 0,_=>exact h0
    | 1,_=>exact h1
    | 2,_=>exact h2
    | 3,_=>exact h3
   have hix:∀W:World,(Instr.index 76 (.agg #[.int .u16 m0,.int .u16 m1,.int .u16 m2,.int .u16 m3]) (.int .i64 k)).run Tryz.prog W=.ok (.int .u16 x) W:=by
    rw [hx]
    match k,hlt with
    | 0,_=>intro W;kernel_rfl
    | 1,_=>intro W;kernel_rfl
    | 2,_=>intro W;kernel_rfl
    | 3,_=>intro W;kernel_rfl
   have HX:=Ae hx;clear hx;by_cases hp:0<x
   ·go_wp2_with fail;refine (lQ wr k x hlt hxl (hT.keep HBr)).mono ?_;rintro e w2 ⟨rfl,hb2⟩;have hown2:=Bm hown hb2;have hsz2:=hb2.size;have HB2:=HBr.trans (hb2.mono HBr.size);have k0':=Bb hb2 k0;have k1':=Bb hb2 k1;have k2':=Bb hb2 k2;have k3':=Bb hb2 k3;have hll:=Q9 (De m0 m1 m2 m3) k;clear hown k0 k1 k2 k3;go_wp2_with (at_builtin;refine wpList_append_own _ rfl _ _ 205 rfl (w.heap.size+1+1) 9 i0 (.string ⟨#[]⟩) 1 16 Tryz.underlying205 hi hz0 hz1 hz2 rfl qJ _ _ _ rfl (hown2.alloc _) ⟨w2.heap.size,0,none⟩ 1 1 [.string ⟨(Dv k x).toArray⟩] rfl rfl (cell_one_new _ _ _) (by simp [Value.oneCell']) qO qA qB ?_;intro v' w3 hown3 hgrow3 _);have hb3:Below (w.heap.size+1+1) w2 w3:=((Ac (w.heap.size+1+1) w2).alloc qA _).grown hgrow3 qB (fun k hk=>(hown2.lt k hk).1);have hsz3:=hb3.size;go_roundw
    case rel =>
     have e:Ea (De m0 m1 m2 m3) (k+1)=Ea (De m0 m1 m2 m3) k++[Dv k x]:=by rw [Ea,←HX.out,if_pos hp]
     refine ⟨k+1,by omega,by simp,?_,by omega,(hb3.cell (by show w.heap.size<_;omega)).trans k0',(hb3.cell (by show w.heap.size<_;omega)).trans k1',(hb3.cell (by show w.heap.size<_;omega)).trans k2',(hb3.cell (by show w.heap.size<_;omega)).trans k3',HB2.trans (hb3.mono qA),fun h=>by rw [e] at h;simp at h⟩;rw [e,A8,List.length_singleton,Jl];exact hown3
    case measure=>simp [intOf];omega
   ·obtain rfl:x=0:=by omega
    go_wp2_with fail;go_roundw
    case rel =>
     have e:Ea (De m0 m1 m2 m3) (k+1)=Ea (De m0 m1 m2 m3) k:=by rw [Ea,if_neg (by rw [←HX.out];omega),List.append_nil]
     refine ⟨k+1,by omega,by simp,by rw [e];exact hown,hlr,k0,k1,k2,k3,HBr,fun h=>HN.out (by rw [←e];exact h)⟩
    case measure=>simp [intOf];omega
  ·obtain rfl:k=4:=by omega
   go_wp2_with fail;refine (sW _ _ _ _ _ _ _ _ _ _ _ (h.keep HBr) hs hb1 (hT.keep HBr)).mono ?_;rintro e w2 ⟨rfl,hb2⟩;have hown2:=Bm hown hb2;have hsz2:=hb2.size;have HB2:=HBr.trans (hb2.mono HBr.size);have hll:=Q9 (De m0 m1 m2 m3) 4;clear hown k0 k1 k2 k3;by_cases hl0:Ea (De m0 m1 m2 m3) 4=[]
   ·obtain rfl:=HN.out hl0;have HL:=Ae hl0;have hszw:=HB2.size;have hlit:=World.ownsRow_lit (base:=w.heap.size) (e:=9) (size:=1) w2 #[.string ⟨(Eg p q).toArray⟩] 1 qA qO rfl;have e:Dk (Eg p q) (De m0 m1 m2 m3)=[Eg p q]:=by rw [Dk,if_pos (.inr hl0),hl0]
    have HLIT:=Ae hlit;have HE:=Ae e;clear hlit e hl0;generalize Eg p q=T at *;go_wp2_with fail;all_goals
     go_ret;refine ⟨.slice (some ⟨w2.heap.size,0,none⟩) 1 1,rfl,?_,by go_grown⟩;have h9:=HLIT.out;have h8:=HE.out;first
      | (rw [h8];exact h9)
      | (rename_i hT9 _;subst hT9;rw [h8];exact h9)
      | (simp only [*] at h8 h9 ⊢;rw [h8];exact h9)
   ·have HL0:=Ae hl0;have hlp:0<(Ea (De m0 m1 m2 m3) 4).length:=by
     rcases Aq (Ea (De m0 m1 m2 m3) 4).length with h|h
     ·exact absurd (List.eq_nil_of_length_eq_zero h) hl0
     ·exact h
    have hlz:(((Ea (De m0 m1 m2 m3) 4).length:Int)==0)=false:=by rw [beq_eq_false_iff_ne];omega
    obtain ⟨g,cap,rfl,hgb,hgc⟩:=hown2.form hlp;have HW1:=Ae (show Eg p q=[49]→Dk (Eg p q) (De m0 m1 m2 m3)=Ea (De m0 m1 m2 m3) 4 from fun h=>by rw [Dk,if_neg (by simp [h,hl0])]);have HW2:=Ae (show Eg p q≠[49]→Dk (Eg p q) (De m0 m1 m2 m3)=Eg p q::Ea (De m0 m1 m2 m3) 4 from fun h=>by rw [Dk,if_pos (.inl h)]);clear hl0;have hszw:=HB2.size;generalize Eg p q=T at *;by_cases hT:T=[49]
    ·have HWE:=Ae (HW1.out hT);have HT:=Ae hT;subst hT;go_wp2_with fail;go_ret;refine ⟨_,rfl,?_,HB2⟩;rw [HWE.out];exact Jf hown2 qA
    ·have HWE:=Ae (HW2.out hT);have hT1:(T==[49])=false:=by rw [beq_eq_false_iff_ne];exact hT
     clear hT;have hlit:=World.ownsRow_lit (base:=w.heap.size) (e:=9) (size:=1) w2 #[.string ⟨T.toArray⟩] 1 qA qO rfl;have HLIT:=Ae hlit;have HCS:=Ae (Je (hown2.alloc (.cells #[.string ⟨T.toArray⟩] 9)));clear hlit;go_wp2_with (at_builtin;refine wpList_append_own _ rfl _ _ 205 rfl w.heap.size 9 i0 (.string ⟨#[]⟩) 1 16 Tryz.underlying205 hi hz0 hz1 hz2 rfl qJ _ _ _ rfl HLIT.out ⟨g,0,none⟩ (Ea (De m0 m1 m2 m3) 4).length cap (Fm (Ea (De m0 m1 m2 m3) 4)) rfl (by rw [Fz];omega) HCS.out (Ld _) qO qA qB ?_;intro v' w3 hown3 hgrow3 _);go_ret;refine ⟨_,rfl,?_,HB2.trans (((Ac w2.heap.size w2).alloc (Ad _) _).grown hgrow3 qG (fun k hk=>by cases hk;exact Ad _) |>.mono qA)⟩;rw [HWE.out];have e:(T::Ea (De m0 m1 m2 m3) 4).length=1+(Ea (De m0 m1 m2 m3) 4).length:=by simp;omega
     rw [e];exact hown3
end Go.Proofs.YtnnhcbeiogaknaaGreatDoor
end
section
namespace Go.Proofs.YtnnhcbeiogaknaaGreatDoor
theorem Ps (sep:List UInt8) (l m:List (List UInt8)):Lib.joinTail sep (l++m)=Lib.joinTail sep l++Lib.joinTail sep m:=by
 simp [Lib.joinTail]
theorem Hx {l m:List (List UInt8)} (hl:l≠[]) (hm:m≠[]):Lib.join (l++m) [32]=Lib.join l [32]++32::Lib.join m [32]:=by
 obtain ⟨x,l,rfl⟩:=List.exists_cons_of_ne_nil hl;obtain ⟨y,m,rfl⟩:=List.exists_cons_of_ne_nil hm;rw [List.cons_append,Lib.join_cons,Ps,Lib.join_cons,Lib.join_cons,List.append_assoc];simp [Lib.joinTail]
def Ub (t l:List UInt8):List UInt8:=if l=[] then t else if t=[49] then l else t++32::l
theorem Zz (i n:Nat):Dv i n≠[]:=by simp [Dv]
theorem dD {m:Nat→Nat} (k:Nat):∀x∈Ea m k,x≠[]:=by
 induction k with
 | zero=>intro x hx;cases hx
 | succ k ih =>
  intro x hx;rw [Ea,List.mem_append] at hx;rcases hx with hx|hx
  ·exact ih x hx
  ·split at hx
   ·rw [Ao] at hx;rw [hx];exact Zz _ _
   ·cases hx
theorem N9 {l:List (List UInt8)} (h:∀x∈l,x≠[]):Lib.join l [32]=[]↔l=[]:=by
 constructor
 ·intro e
  cases l with
  | nil=>rfl
  | cons x l =>
   rw [Lib.join_cons] at e;exact absurd (List.append_eq_nil_iff.1 e).1 (h x (List.mem_cons_self ..))
 ·rintro rfl;rfl
theorem Qo (t:List UInt8) (m:Nat→Nat):Lib.join (Dk t m) [32]=Ub t (Lib.join (Ea m 4) [32]):=by
 unfold Dk Ub;by_cases hl:Ea m 4=[]
 ·rw [if_pos (.inr hl),hl];simp [Lib.join_one,Lib.join_nil]
 ·have hj:¬Lib.join (Ea m 4) [32]=[]:=fun e=>hl ((N9 (dD 4)).1 e)
  rw [if_neg hj];by_cases ht:t=[49]
  ·rw [if_neg (by simp [ht,hl]),if_pos ht]
  ·rw [if_pos (.inl ht),if_neg ht,show t::Ea m 4=[t]++Ea m 4 from rfl,Hx qG hl,Lib.join_one]
theorem Hf (t:List UInt8) (m:Nat→Nat):∃x l,Dk t m=x::l:=by
 unfold Dk
 split
 ·exact ⟨_,_,rfl⟩
 ·rename_i h;simp only [not_or] at h;exact List.exists_cons_of_ne_nil h.2
def Jg (neg:Bool):List (List UInt8)→List (List UInt8)
 | []=>[]
 | x::l=>(if neg then 45::x else x)::l
theorem Xh (neg:Bool) {l:List (List UInt8)} (h:l≠[]):Lib.join (Jg neg l) [32]=(if neg then [45] else [])++Lib.join l [32]:=by
 obtain ⟨x,l,rfl⟩:=List.exists_cons_of_ne_nil h
 cases neg<;>simp [Jg,Lib.join_cons]
def It (neg:Nat→Bool) (t:Nat→List UInt8) (m:Nat→Nat→Nat):Nat→List (List UInt8)
 | 0=>[]
 | k+1=>if k=0 then Jg (neg 0) (Dk (t 0) (m 0)) else It neg t m k++[if neg k then [45] else [43]]++Dk (t k) (m k)
def Pz (neg:Nat→Bool) (t:Nat→List UInt8) (m:Nat→Nat→Nat):Nat→List UInt8
 | 0=>[]
 | k+1=>Pz neg t m k++(if k=0 then (if neg k then [45] else []) else (if neg k then [32,45,32] else [32,43,32]))++Ub (t k) (Lib.join (Ea (m k) 4) [32])
theorem bN (neg:Nat→Bool) (t:Nat→List UInt8) (m:Nat→Nat→Nat) {k:Nat} (hk:0<k):It neg t m k≠[]:=by
 match k,hk with
 | k+1,_ =>
  rw [It];obtain ⟨x,l,e⟩:=Hf (t 0) (m 0)
  split
  ·rw [e];simp [Jg]
  ·simp
theorem mO (neg:Nat→Bool) (t:Nat→List UInt8) (m:Nat→Nat→Nat) (k:Nat):Lib.join (It neg t m k) [32]=Pz neg t m k:=by
 induction k with
 | zero=>rfl
 | succ k ih =>
  rw [It,Pz];by_cases hk:k=0
  ·subst hk;obtain ⟨x,l,e⟩:=Hf (t 0) (m 0);rw [if_pos rfl,if_pos rfl,Xh _ (by rw [e];simp),Qo];rfl
  ·obtain ⟨x,l,e⟩:=Hf (t k) (m k);rw [if_neg hk,if_neg hk,List.append_assoc,Hx (bN neg t m qA) qG,Hx qG (by rw [e];simp),Lib.join_one,ih,Qo]
   cases neg k<;>simp
end Go.Proofs.YtnnhcbeiogaknaaGreatDoor
end
section
namespace Go.Proofs.YtnnhcbeiogaknaaGreatDoor
open Go.RowKit
def Hw (m:Nat→Nat) (k:Nat):List UInt8:=Lib.join (Ea m k) [32]
theorem Zj (m:Nat→Nat):Hw m 0=[]:=rfl
theorem Zr (m:Nat→Nat) (k:Nat) (h:¬0<m k):Hw m (k+1)=Hw m k:=by rw [Hw,Ea,if_neg h,List.append_nil];rfl
theorem Zy (m:Nat→Nat) (k:Nat) (h:0<m k):Hw m (k+1)=if Hw m k=[] then Dv k (m k) else Hw m k++32::Dv k (m k):=by
 rw [Hw,Ea,if_pos h];by_cases hl:Ea m k=[]
 ·rw [if_pos (by rw [Hw,hl];rfl),hl,List.nil_append,Lib.join_one]
 ·rw [if_neg (show ¬Hw m k=[] from fun e=>hl ((N9 (dD k)).1 e)),Hx hl qG,Lib.join_one];rfl
def Kj (p:Nat→Tm) (k:Nat):Bool:=(p k).g1
def Jv (p:Nat→Tm) (k:Nat):List UInt8:=Eg (val (p k).d1) (val (p k).d2)
def Jw (p:Nat→Tm) (k:Nat):Nat→Nat:=De (p k).m0 (p k).m1 (p k).m2 (p k).m3
def Rw (p:Nat→Tm) (n:Nat):List UInt8:=if n=0 then [48] else Pz (Kj p) (Jv p) (Jw p) n
def Lz (p:Nat→Tm) (n:Nat):Prop:=∀k,k<n→(p k).n1≤10000∧(p k).n2≤10000
theorem Lz.few {p:Nat→Tm} {n:Nat} (h:Lz p n):∀k,k<n→(p k).n1≤1000000∧(p k).n2≤1000000:=fun k hk=>by have:=h k hk;omega
theorem Th {w:World} {g1:Bool} {a1:Option Addr} {n1 c1:Nat} {p:Int} {g2:Bool} {a2:Option Addr} {n2 c2:Nat} {q:Int} (h:Bi w g1 a1 n1 c1 p g2 a2 n2 c2 q):(Eg p q).length≤9*n1+9*n2+5:=by
 have h1:=Mx h.top;have h2:=Mx h.low;rw [Eg,A8]
 split
 ·simp only [List.length_nil];omega
 ·simp only [List.length_cons];omega
theorem fN (m:Nat→Nat) (hm:∀k,k<4→m k<65536):∀k,k≤4→(Hw m k).length≤8*k:=by
 intro k
 induction k with
 | zero=>intro _;rw [Zj];simp
 | succ k ih =>
  intro hk;have h1:=ih qA;by_cases h:0<m k
  ·have h2:(Dv k (m k)).length≤7:=by
    have:=Gd (m k) (hm k qA);rw [Dv]
    split
    ·simp only [List.length_cons];omega
    ·simp
   rw [Zy m k h]
   split
   ·omega
   ·simp only [A8,List.length_cons];omega
  ·rw [Zr m k h];omega
theorem eE (t l:List UInt8):(Ub t l).length≤t.length+l.length+1:=by
 unfold Ub
 split
 ·omega
 ·split
  ·omega
  ·simp only [A8,List.length_cons];omega
theorem uZ (w:World) (base:Nat) (L:List (List UInt8)) (g n c:Nat) (hown:w.ownsRow base 9 1 (.slice (some ⟨g,0,none⟩) n c) n (Fm L)) (hn:0<n) (hn1:n≤1000000000) (hlen:(Lib.join L [32]).length≤140737488355328) :
  Calls Tryz.prog 163 #[.slice (some ⟨g,0,none⟩) n c,.string ⟨#[32]⟩] w (Fe w (Lib.join L [32])):=by
 have hl:L.length=n:=by have:=hown.1;rw [Fz] at this;omega
 have hm:(L.map fun t=>(⟨t.toArray⟩:ByteArray)).map (fun x:ByteArray=>x.data.toList)=L:=by
  rw [List.map_map];have:((fun x:ByteArray=>x.data.toList)∘fun t:List UInt8=>(⟨t.toArray⟩:ByteArray))=id:=by funext t;simp
  rw [this,List.map_id]
 have hcap:n≤c:=by
  rcases hown.2 with ⟨h',_⟩|⟨g',cap',cur,h',_,_,hnc,_⟩
  ·simp at h'
  ·simp only [Value.slice.injEq] at h';omega
 have hj:=Tryz.strings_Join g 0 c (L.map fun t=>(⟨t.toArray⟩:ByteArray)) ⟨#[32]⟩ w (fun j x hx=>by
   have hjl:j<L.length:=by
    rcases Nat.lt_or_ge j L.length with h1|h1
    ·exact h1
    ·rw [List.getElem?_eq_none (by rw [List.length_map];exact h1)] at hx;cases hx
   rw [Nat.zero_add,hown.cellAt j qA];rw [List.getElem?_map,Ai hjl] at hx;simp only [Option.map_some,Option.some.injEq] at hx;rw [Fm,List.getElem?_map,Ai hjl,←hx]
   rfl) ((hown.lt g rfl).2) (by rw [List.length_map];omega) (by rw [List.length_map];omega) (by rw [hm];exact hlen)
 rw [hm,List.length_map,hl] at hj;exact hj
theorem nE (neg:Nat→Bool) (t:Nat→List UInt8) (m:Nat→Nat→Nat) (k:Nat) (ht:∀j,j<k→(t j).length≤190000) (hm:∀j,j<k→(Hw (m j) 4).length≤32):(Pz neg t m k).length≤200000*k:=by
 induction k with
 | zero=>simp [Pz]
 | succ k ih =>
  have h1:=ih (fun j hj=>ht j qA) (fun j hj=>hm j qA);have h2:=eE (t k) (Hw (m k) 4);have h3:=ht k qA;have h4:=hm k qA;rw [Pz];simp only [A8];have h5:(if k=0 then (if neg k then [45] else []) else (if neg k then [32,45,32] else ([32,43,32]:List UInt8))).length≤3:=by
   split<;>split<;>simp
  show _+_+(Ub (t k) (Hw (m k) 4)).length≤_;omega
theorem Mr (t:List UInt8) (m:Nat→Nat):0<(Dk t m).length∧(Dk t m).length≤5:=by
 have h1:=Q9 m 4;obtain ⟨x,l,e⟩:=Hf t m;refine ⟨by rw [e];simp,?_⟩;unfold Dk
 split
 ·simp only [List.length_cons];omega
 ·omega
theorem aG (neg:Bool) (l:List (List UInt8)):(Jg neg l).length=l.length:=by cases l<;>rfl
theorem Wg (neg:Nat→Bool) (t:Nat→List UInt8) (m:Nat→Nat→Nat) (k:Nat):(It neg t m k).length≤6*k:=by
 induction k with
 | zero=>simp [It]
 | succ k ih =>
  have h1:=Mr (t 0) (m 0);have h2:=Mr (t k) (m k);rw [It]
  split
  ·rw [aG];omega
  ·simp only [A8,List.length_singleton];omega
theorem mJ {t:List UInt8} {m:Nat→Nat} {x:List UInt8} {l:List (List UInt8)} (h:Dk t m=x::l) (hm:∀k,k<4→m k<65536):x.length≤t.length+7:=by
 have key:∀k,k≤4→∀y∈Ea m k,y.length≤7:=by
  intro k
  induction k with
  | zero=>intro _ y hy;cases hy
  | succ k ih =>
   intro hk y hy;rw [Ea,List.mem_append] at hy;rcases hy with hy|hy
   ·exact ih qA y hy
   ·split at hy
    ·rw [Ao] at hy;subst hy;have:=Gd (m k) (hm k qA);rw [Dv]
     split
     ·simp only [List.length_cons];omega
     ·simp
    ·cases hy
 unfold Dk at h
 split at h
 ·rw [List.cons.injEq] at h;rw [←h.1];omega
 ·have:=key 4 qA x (by rw [h];exact List.mem_cons_self ..);omega
theorem U8 (l:List (List UInt8)):Jg false l=l:=by cases l<;>rfl
theorem Bi.abs {w:World} {g1:Bool} {a1:Option Addr} {n1 c1:Nat} {p:Int} {g2:Bool} {a2:Option Addr} {n2 c2:Nat} {q:Int} (h:Bi w g1 a1 n1 c1 p g2 a2 n2 c2 q):Bi w false a1 n1 c1 ((p.natAbs:Nat):Int) g2 a2 n2 c2 q :=
 ⟨h.top.abs,h.low,h.pos,by have:=h.red;simpa [Int.gcd] using this⟩
theorem fQ (wo:World) (a:Option Addr) (n c:Nat) (p:Nat→Tm) (hp:RdP wo a n c p) (hsm:Lz p n) (hn:n≤1000000) (hr:POk p n) (hT:Tab wo) (hn0:0<n) :
  Calls Tryz.prog 90 #[.slice a n c] wo (Fe wo (Rw p n)):=by
 obtain ⟨i0,hi,hz0,hz1,hz2⟩:=info_parts tO;have HR:=Ae hr;have HS:=Ae hsm;clear hr hsm;have hnz:((n:Int)==0)=false:=by rw [beq_eq_false_iff_ne];omega
 go_enter Tryz.func90,Tryz.ntmps90;go_wp2_with fail;refine (Ev wo a n c p hp (Lz.few HS.out) true ⟨fun _=>rfl,fun _=>HR.out⟩).mono ?_;rintro e w1 ⟨rfl,hb1⟩;have hp1:=hp.keep hb1;have hT1:=hT.keep hb1;clear hp;go_wp2_with fail;go_loopw [3,20] (fun v3 v20 w=>∃k:Nat,k≤n∧v20=.int .i64 k∧w.ownsRow w1.heap.size 9 1 v3 (It (Kj p) (Jv p) (Jw p) k).length (Fm (It (Kj p) (Jv p) (Jw p) k))∧(k=0→v3=.slice none 0 0)∧Below w1.heap.size w1 w) (fun _ v20 _=>n-(intOf v20).toNat)
 case atStart=>exact ⟨0,by omega,rfl,World.ownsRow_nil _ _ _ _,fun _=>rfl,Ac _ _⟩
 case round =>
  obtain ⟨k,hk,rfl,hown,hnil,hBr⟩:=hrel;obtain ⟨w,rfl⟩:∃w:World,w=wr:=⟨_,rfl⟩;have HBo:Below wo.heap.size wo w:=hb1.trans (hBr.mono hb1.size);have HB:=Ac w.heap.size w;by_cases hlt:k<n
  ·obtain ⟨b,o,rfl,hcl⟩:=hp1.cell.resolve_left qA;have hpr:=hp1.keep hBr;have HT:=hpr.tm k hlt;obtain ⟨e0,e1,e2,e3,e4,e5,e6,e7⟩:=hpr.at hlt;have hs:=HS.out k hlt;have hF:=(HR.out k hlt).1.1;have HSTEP:=Ae (show It (Kj p) (Jv p) (Jw p) (k+1)=if k=0 then Jg (Kj p 0) (Dk (Jv p 0) (Jw p 0)) else It (Kj p) (Jv p) (Jw p) k++[if (p k).g1 then [45] else [43]]++Dk (Eg (val (p k).d1) (val (p k).d2)) (De (p k).m0 (p k).m1 (p k).m2 (p k).m3) from rfl);have HST0:=Ae (show k=0→It (Kj p) (Jv p) (Jw p) (k+1)=Jg (p k).g1 (Dk (Eg (val (p k).d1) (val (p k).d2)) (De (p k).m0 (p k).m1 (p k).m2 (p k).m3)) from fun h=>by subst h;rfl);have HST1:=Ae (show k≠0→It (Kj p) (Jv p) (Jw p) (k+1)=It (Kj p) (Jv p) (Jw p) k++[if (p k).g1 then [45] else [43]]++Dk (Eg (val (p k).d1) (val (p k).d2)) (De (p k).m0 (p k).m1 (p k).m2 (p k).m3) from fun h=>by rw [HSTEP.out,if_neg h]);have hll:=Wg (Kj p) (Jv p) (Jw p) k;have hwl:=Mr (Eg (val (p k).d1) (val (p k).d2)) (De (p k).m0 (p k).m1 (p k).m2 (p k).m3);have HA:=(Lg HT.top HT.low hF).abs;rw [show ((if (p k).g1 then -(val (p k).d1:Int) else (val (p k).d1:Int)).natAbs)=val (p k).d1 by split<;>simp] at HA;obtain ⟨WL,hWL⟩:∃WL,WL=Dk (Eg (val (p k).d1) (val (p k).d2)) (De (p k).m0 (p k).m1 (p k).m2 (p k).m3):=⟨_,rfl⟩;have HWL:=Ae hWL;rw [←hWL] at HST0 HST1 hwl;clear hWL HSTEP;generalize It (Kj p) (Jv p) (Jw p) k=L at *;generalize p k=t at *;have HCL:=Ae hcl;clear hcl hpr;have HNIL:=Ae hnil;clear hnil;have u0:=HT.s0;have u1:=HT.s1;have u2:=HT.s2;have u3:=HT.s3;have hTw:Tab w:=hT1.keep hBr
   cases hg:t.g1
   ·skip
    rw [hg] at e0 HST0 HST1;clear hg;go_wp2_with fail;refine (Wx _ _ _ _ _ _ _ _ _).mono ?_;rintro e w2 ⟨rfl,hb⟩;obtain ⟨hc,hf⟩:=Bl hb;have hz:=hb.size;(try simp only [Aj,Ak] at hz);replace HB:=zI w hb;obtain ⟨s0_0,s0_1⟩:=qZ hc (w.heap.size) (.bool false) (.slice t.a1 t.n1 t.c1);obtain ⟨s0_2,s0_3⟩:=zD hc (w.heap.size) (.bool t.g2) (.slice t.a2 t.n2 t.c2);have s0_4:=qX hc (w.heap.size) 4 (.int .u16 t.m0);have s0_5:=qX hc (w.heap.size) 5 (.int .u16 t.m1);have s0_6:=qX hc (w.heap.size) 6 (.int .u16 t.m2);have s0_7:=qX hc (w.heap.size) 7 (.int .u16 t.m3);have hk0:w.heap.size<w2.heap.size:=by omega
    clear hc hf hb hz;go_wp2_with fail;refine (bF _ _ _ _ _ _ _ _ _ _ _ (HA.keep qF) qA qA (hTw.keep qF) _ _ _ _ u0 u1 u2 u3).mono ?_;rintro e w3 ⟨v,rfl,hownw,hb3⟩;rw [←HWL.out] at hownw;have HB3:=zI w hb3;have hk3:w2.heap.size<w3.heap.size:=by have:=hb3.size;simp at this;omega
    have hown3:=Bm hown HB3;have hownw:=Jf hownw (show w.heap.size+1≤_ by simp;omega);obtain ⟨g,cap,rfl,hgb,hgc⟩:=hownw.form hwl.1;have hv3:=Ae (fun k hk=>(hown.lt k hk).2);clear hown s0_0 s0_1 s0_2 s0_3 s0_4 s0_5 s0_6 s0_7;have hB3:Below w1.heap.size w1 w3:=hBr.trans (HB3.mono hBr.size);have hzw:=hBr.size;by_cases hk0:k=0
    ·subst hk0;obtain rfl:=HNIL.out rfl;obtain ⟨hL,_⟩:L.length=0∧True:=by
      rcases hown3.2 with ⟨_,h0⟩|⟨g',cap',cur,h',_⟩
      ·exact ⟨h0,trivial⟩
      ·simp at h'
     obtain rfl:L=[]:=List.eq_nil_of_length_eq_zero hL;clear hL;have HST:=Ae (HST0.out rfl);have HCS:=Ae (Je hownw);go_wp2_with (at_builtin;refine wpList_append_own _ rfl _ _ 205 rfl w1.heap.size 9 i0 (.string ⟨#[]⟩) 1 16 Tryz.underlying205 hi hz0 hz1 hz2 rfl qJ _ _ _ rfl hown3 ⟨g,0,none⟩ WL.length cap (Fm WL) rfl (by rw [Fz];omega) HCS.out (Ld _) qO qA qA ?_;intro v5 w5 hown5 hgrow5 _);go_roundw
     case rel =>
      refine ⟨1,by omega,by go_num,?_,fun h=>by omega,hB3.grown hgrow5 hB3.size (fun k hk=>(hown3.lt k hk).1)⟩;rw [HST.out,U8];simpa [Fm] using hown5
     case measure=>simp [intOf];omega
    ·have HST:=Ae (HST1.out hk0);have hkp:0<k:=by omega
     clear hk0;go_upto_region 16 with (at_builtin;refine wpList_append_own _ rfl _ _ 205 rfl w1.heap.size 9 i0 (.string ⟨#[]⟩) 1 16 Tryz.underlying205 hi hz0 hz1 hz2 rfl qJ _ _ _ rfl (hown3.alloc (.cells #[.string ⟨#[43]⟩] 9)) ⟨w3.heap.size,0,none⟩ 1 1 [.string ⟨#[43]⟩] rfl rfl (cell_one_new _ _ _) (by simp [Value.oneCell']) qO qA qB ?_;intro v4 w4 hown4 hgrow4 _)
     have hownw4:=(hownw.alloc (.cells #[.string ⟨#[43]⟩] 9)).kept hgrow4 (.inr (fun e=>by have:=hv3.out g e.symm;omega));exact qAt
   ·skip
    rw [hg] at e0 HST0 HST1;clear hg;go_wp2_with fail;refine (Wx _ _ _ _ _ _ _ _ _).mono ?_;rintro e w2 ⟨rfl,hb⟩;obtain ⟨hc,hf⟩:=Bl hb;have hz:=hb.size;(try simp only [Aj,Ak] at hz);replace HB:=zI w hb;obtain ⟨s0_0,s0_1⟩:=qZ hc (w.heap.size) (.bool true) (.slice t.a1 t.n1 t.c1);obtain ⟨s0_2,s0_3⟩:=zD hc (w.heap.size) (.bool t.g2) (.slice t.a2 t.n2 t.c2);have s0_4:=qX hc (w.heap.size) 4 (.int .u16 t.m0);have s0_5:=qX hc (w.heap.size) 5 (.int .u16 t.m1);have s0_6:=qX hc (w.heap.size) 6 (.int .u16 t.m2);have s0_7:=qX hc (w.heap.size) 7 (.int .u16 t.m3);have hk0:w.heap.size<w2.heap.size:=by omega
    clear hc hf hb hz;go_wp2_with fail;refine (bF _ _ _ _ _ _ _ _ _ _ _ (HA.keep qF) qA qA (hTw.keep qF) _ _ _ _ u0 u1 u2 u3).mono ?_;rintro e w3 ⟨v,rfl,hownw,hb3⟩;rw [←HWL.out] at hownw;have HB3:=zI w hb3;have hk3:w2.heap.size<w3.heap.size:=by have:=hb3.size;simp at this;omega
    have hown3:=Bm hown HB3;have hownw:=Jf hownw (show w.heap.size+1≤_ by simp;omega);obtain ⟨g,cap,rfl,hgb,hgc⟩:=hownw.form hwl.1;have hv3:=Ae (fun k hk=>(hown.lt k hk).2);clear hown s0_0 s0_1 s0_2 s0_3 s0_4 s0_5 s0_6 s0_7;have hB3:Below w1.heap.size w1 w3:=hBr.trans (HB3.mono hBr.size);have hzw:=hBr.size;by_cases hk0:k=0
    ·subst hk0;obtain rfl:=HNIL.out rfl;obtain ⟨hL,_⟩:L.length=0∧True:=by
      rcases hown3.2 with ⟨_,h0⟩|⟨g',cap',cur,h',_⟩
      ·exact ⟨h0,trivial⟩
      ·simp at h'
     obtain rfl:L=[]:=List.eq_nil_of_length_eq_zero hL;clear hL;have HST:=Ae (HST0.out rfl);obtain ⟨x,l,hxl⟩:=Hf (Eg (val t.d1) (val t.d2)) (De t.m0 t.m1 t.m2 t.m3);have hxlen:=mJ hxl (fun j hj=>by
      match j,hj with
      | 0,_=>exact u0
      | 1,_=>exact u1
      | 2,_=>exact u2
      | 3,_=>exact u3)
     have hft:=Th HA;rw [←HWL.out] at hxl;subst hxl;have hx0:w3.cell? ⟨g,0,none⟩=some (.string ⟨x.toArray⟩):=by rw [hownw.cellAt 0 qG];rfl
     have hf0:=hownw.frozenAt 0;have hcat:(⟨#[45]⟩:ByteArray).size+(⟨x.toArray⟩:ByteArray).size≤9223372036854775807:=by show 1+x.length≤_;omega
     have happ:((⟨#[45]⟩:ByteArray)++(⟨x.toArray⟩:ByteArray))=⟨(45::x).toArray⟩:=Gp [45] x;have hlc:(x::l).length=l.length+1:=rfl;have hst:=hownw.stored 0 (.string ⟨(45::x).toArray⟩);have hown6:(w3.setCell ⟨g,0,none⟩ (.string ⟨(45::x).toArray⟩)).ownsRow (w.heap.size+1) 9 1 (.slice (some ⟨g,0,none⟩) (l.length+1) cap) (l.length+1) (Fm ((45::x)::l)):=hst.1;have hB6:Below w1.heap.size w1 (w3.setCell ⟨g,0,none⟩ (.string ⟨(45::x).toArray⟩)):=hB3.grown hst.2 hB3.size (fun k hk=>by cases hk;omega);go_upto_region 16 with fail
     clear hx0 hf0 hst hownw hown3;generalize (w3.setCell ⟨g,0,none⟩ (.string ⟨(45::x).toArray⟩))=w6 at *;have HCS:=Ae (Je hown6);have hz6:=hB6.size;clear hcat happ;go_wp2_with (at_builtin;refine wpList_append_own _ rfl _ _ 205 rfl w1.heap.size 9 i0 (.string ⟨#[]⟩) 1 16 Tryz.underlying205 hi hz0 hz1 hz2 rfl qJ _ _ _ rfl (World.ownsRow_nil _ _ _ _) ⟨g,0,none⟩ (l.length+1) cap (Fm ((45::x)::l)) rfl (by rw [Fz];simp) HCS.out (Ld _) qO qA qA ?_;intro v5 w5 hown5 hgrow5 _);go_roundw
     case rel =>
      refine ⟨1,by omega,by go_num,?_,fun h=>by omega,hB6.grown hgrow5 hB6.size (fun k hk=>by cases hk)⟩;rw [HST.out];simpa [Fm,Jg] using hown5
     case measure=>simp [intOf];omega
    ·have HST:=Ae (HST1.out hk0);have hkp:0<k:=by omega
     clear hk0;go_upto_region 16 with (at_builtin;refine wpList_append_own _ rfl _ _ 205 rfl w1.heap.size 9 i0 (.string ⟨#[]⟩) 1 16 Tryz.underlying205 hi hz0 hz1 hz2 rfl qJ _ _ _ rfl (hown3.alloc (.cells #[.string ⟨#[45]⟩] 9)) ⟨w3.heap.size,0,none⟩ 1 1 [.string ⟨#[45]⟩] rfl rfl (cell_one_new _ _ _) (by simp [Value.oneCell']) qO qA qB ?_;intro v4 w4 hown4 hgrow4 _)
     have hownw4:=(hownw.alloc (.cells #[.string ⟨#[45]⟩] 9)).kept hgrow4 (.inr (fun e=>by have:=hv3.out g e.symm;omega));exact qAt
  ·obtain rfl:k=n:=by omega
   have hj:=mO (Kj p) (Jv p) (Jw p) k;have HST:=Ae (show Rw p k=Lib.join (It (Kj p) (Jv p) (Jw p) k) [32] by rw [Rw,if_neg qA,hj]);have hjl:(Lib.join (It (Kj p) (Jv p) (Jw p) k) [32]).length≤200000*k:=by
    rw [hj];refine nE _ _ _ _ (fun j hj=>?_) (fun j hj=>?_)
    ·have h1:=(Lg (hp1.tm j hj).top (hp1.tm j hj).low (HR.out j hj).1.1).abs;rw [show ((if (p j).g1 then -(val (p j).d1:Int) else (val (p j).d1:Int)).natAbs)=val (p j).d1 by split<;>simp] at h1;have h2:=Th h1;have h3:=HS.out j hj;show (Eg _ _).length≤190000;omega
    ·have h1:=hp1.tm j hj;exact fN _ (fun i hi=>by
      match i,hi with
      | 0,_=>exact h1.s0
      | 1,_=>exact h1.s1
      | 2,_=>exact h1.s2
      | 3,_=>exact h1.s3) 4 qA
   have hlp:0<(It (Kj p) (Jv p) (Jw p) k).length:=List.length_pos_iff.2 (bN _ _ _ hn0);have hll:=Wg (Kj p) (Jv p) (Jw p) k;clear hj;generalize It (Kj p) (Jv p) (Jw p) k=L at *;obtain ⟨g,cap,rfl,hgb,hgc⟩:=hown.form hlp;go_wp2_with fail;refine (uZ _ _ L g _ cap hown hlp qA qA).mono ?_;rintro e w2 ⟨rfl,hb2⟩;go_wp2_with fail;go_ret;exact ⟨by rw [HST.out];rfl,HBo.trans (hb2.mono HBo.size)⟩
theorem jW (w:World) (a:Option Addr) (n c:Nat) (p:Nat→Tm) (hp:RdP w a n c p) (hsm:Lz p n) (hr:¬POk p n) :
  Calls Tryz.prog 90 #[.slice a n c] w (Fe w [48]):=by
 have HR:=Ae hr;clear hr;go_enter Tryz.func90,Tryz.ntmps90;go_wp2_with fail;refine (Ev w a n c p hp (hsm.few) false ⟨fun h=>absurd h HR.out,fun e=>(by cases e)⟩).mono ?_;exact qCi
theorem gQ (w:World) (a:Option Addr) (c:Nat) (p:Nat→Tm) (hp:RdP w a 0 c p) :
  Calls Tryz.prog 90 #[.slice a 0 c] w (Fe w [48]):=by
 go_enter Tryz.func90,Tryz.ntmps90;go_wp2_with fail;refine (Ev w a 0 c p hp (fun k hk=>absurd hk (Nat.not_lt_zero _)) true ⟨fun _=>rfl,fun _=>fun j hj=>absurd hj (Nat.not_lt_zero _)⟩).mono ?_;exact qCi
noncomputable def Sr (p:Nat→Tm) (n:Nat):List UInt8:=@ite _ (POk p n) (Classical.propDecidable _) (Rw p n) [48]
theorem rK (w:World) (a:Option Addr) (n c:Nat) (p:Nat→Tm) (hp:RdP w a n c p) (hsm:Lz p n) (hn:n≤1000000) (hT:Tab w) :
  Calls Tryz.prog 90 #[.slice a n c] w (Fe w (Sr p n)):=by
 unfold Sr;by_cases hr:POk p n
 ·rw [if_pos hr];rcases Aq n with rfl|h
  ·rw [Rw,if_pos rfl];exact gQ w a c p hp
  ·exact fQ w a n c p hp hsm hn hr hT h
 ·rw [if_neg hr];exact jW w a n c p hp hsm hr
end Go.Proofs.YtnnhcbeiogaknaaGreatDoor
end
