/- Package limbs: Of; slices.Clone; wide; short. -/
import Derived.Test.YtnnhcbeiogaknaaGreatDoorQV2
set_option linter.unusedSimpArgs false
set_option linter.unusedVariables false
set_option maxRecDepth 100000
set_option maxHeartbeats 4000000
section
namespace Go.Proofs.YtnnhcbeiogaknaaGreatDoor
open Go.RowKit
def uE (w:World) (n:Nat) (d:Ξ) (e:Ending) (w':World):Prop :=
 ∃a c,e=.returned (.slice a n c)∧RdL w' a n c d∧Bg w.heap.size w' a c∧Below w.heap.size w w'
theorem Dw {d:Ξ} (h:∀x∈d,x<4294967296) (i:Nat):0≤lim d i∧lim d i<4294967296:=by
 by_cases hi:i<d.length
 ·have:=h _ (List.getElem_mem hi);exact qDb
 ·rw [eF (Nat.le_of_not_lt hi)];omega
theorem Pn {w:World} {base n:Nat} {v:Value} {d:Ξ} (h:w.ownsRow base 147 1 v n (C7 d)) (hn:n≤35184372088832) (hs:∀i,0≤lim d i∧lim d i<4294967296) :
  ∃a c,v=.slice a n c∧RdL w a n c d∧Bg base w a c:=by
 have hlen:d.length=n:=by have:=h.1;rw [Dm] at this;omega
 rcases h.2 with ⟨rfl,rfl⟩|⟨g,cap,cur,rfl,hb,hg,hnc,hcm,hcs,_⟩
 ·exact ⟨none,0,rfl,⟨hlen,Ad _,by omega,by omega,hs,.inl rfl⟩,.inl rfl⟩
 ·exact ⟨_,_,rfl,Fz h hn hs,.inr ⟨g,cur,rfl,hb,hg,by omega⟩⟩
theorem Zb {d:Ξ} {n:Nat} (hl:d.length=n) (j:Nat) (u:Value) (h:(C7 d)[j]? = some u):j<n∧u=.int .u32 (lim d j):=by
 have hj:j<d.length:=by
  rcases Nat.lt_or_ge j d.length with h1|h1
  ·exact h1
  ·rw [List.getElem?_eq_none (by rw [Dm];exact h1)] at h;cases h
 rw [Ym d j hj] at h;exact ⟨by omega,(Option.some.inj h).symm⟩
theorem Vk {w:World} {b o n c:Nat} {d:Ξ} (h:RdL w (some ⟨b,o,none⟩) n c d):∀j u,(C7 d)[j]? = some u→w.cell? ((⟨b,o,none⟩:Addr).add j)=some u:=by
 intro j u hj;obtain ⟨h1,rfl⟩:=Zb h.len j u hj;have hadd:(⟨b,o,none⟩:Addr).add j=⟨b,o+j,none⟩:=by unfold Addr.add;split<;>simp_all
 rw [hadd];exact h.at h1
theorem Y8 (d:Ξ):∀u∈C7 d,u.oneCell'=true:=by
 intro u hu;simp only [C7,List.mem_map] at hu;obtain ⟨z,_,rfl⟩:=hu;rfl
theorem Ml (w:World) (a:Γ) (n c:Nat) (d:Ξ) (hd:RdL w a n c d) :
  Θ 203 #[.slice a n c] w (uE w n d):=by
 obtain ⟨i0,hi,hz0,hz1,hz2⟩:=info_parts I1;have hn:=hd.few;have HB:=Ac w.heap.size w
 match a,hd with
 | none,hd =>
  have h0:n=0:=by
   rcases hd.cell with h|⟨b,o,h,_⟩
   ·exact h
   ·cases h
  subst h0;have hdn:d=[]:=List.eq_nil_of_length_eq_zero hd.len;have hq:=fun (W:World)=>Lib.run_eql_slice_nil (P:=Tryz.prog) W 30 147 none 0 c 0 0 Tryz.underlying30
  have HN:=Ae hdn;clear hdn;go_enter Tryz.func203,Tryz.ntmps203;go_wp2;go_ret;exact ⟨none,0,rfl,by rw [HN.out];exact ⟨rfl,Ad _,by omega,by omega,fun i=>by simp [lim],.inl rfl⟩,.inl rfl,HB⟩
 | some ad,hd =>
  have hsl:n=0∨∃b o,ad=⟨b,o,none⟩:=by
   rcases hd.cell with h|⟨b,o,h,_⟩
   ·exact .inl h
   ·exact .inr ⟨b,o,by cases h;rfl⟩
  have hcs:∀(W:World),Below w.heap.size w W→∀j u,(C7 d)[j]? = some u→W.cell? (ad.add j)=some u:=by
   intro W hW j u hj;rcases hsl with h0|⟨b,o,rfl⟩
   ·have:=(Zb hd.len j u hj).1;omega
   ·exact Vk (hd.keep hW) j u hj
  have HCS:=Ae hcs;clear hcs;have hq:=fun (W:World)=>Lib.run_eql_slice_nil (P:=Tryz.prog) W 30 147 (some ad) n c 0 0 Tryz.underlying30
  go_enter Tryz.func203,Tryz.ntmps203;have hlit:∀W:World,(W.alloc (.cells #[] 147)).ownsRow W.heap.size 147 1 (.slice (some ⟨W.heap.size,0,none⟩) 0 0) 0 []:=fun W=>World.ownsRow_lit (size:=1) W #[] 0 (Ad _) qO qG
  have HLIT:=Ae hlit;clear hlit;go_wp2_with (at_builtin;refine wpList_append_own _ rfl _ _ 30 rfl w.heap.size 147 i0 (.int .u32 0) 1 4 Tryz.underlying30 hi hz0 hz1 hz2 rfl qI _ _ _ rfl (HLIT.out w) ad n c (C7 d) rfl (by rw [Dm,hd.len];omega) (HCS.out _ qF) (Y8 d) qO qA qB ?_;intro v' w1 hown' hgrow hnil);rw [Nat.zero_add,List.nil_append] at hown';obtain ⟨a',c',rfl,hr,hfr⟩:=Pn hown' hn hd.small;go_ret;refine ⟨a',c',rfl,hr,hfr,?_⟩;exact ((Ac w.heap.size w).alloc (Ad _) _).grown hgrow qB (fun k h=>by cases h;exact Ad _)
theorem Yv (A:Nat) (hA:A≤9223372036854775808) (hA0:0<A):IntKind.u64.wrap (-IntKind.u64.wrap (-(A:Int)))=A:=by
 simp only [IntKind.wrap_u64];omega
theorem pow3:(1000000000:Nat) ^ 3=1000000000000000000000000000:=by decide
theorem mJ (l:Ξ) (x:Nat):val (l++[x])=val l+1000000000 ^ l.length*x:=by rw [Fq];simp [val]
theorem cC {l:Ξ} {v A:Nat} (h:val l+1000000000 ^ l.length*v=A) (hA:A≤9223372036854775808) (hv:0<v):l.length≤2:=by
 rcases Nat.lt_or_ge 2 l.length with h1|h1
 ·exfalso;have h2:1000000000 ^ 3≤1000000000 ^ l.length:=Nat.pow_le_pow_right qA h1;rw [pow3] at h2;have h3:1000000000 ^ l.length*1≤1000000000 ^ l.length*v:=At _ hv;omega
 ·exact h1
theorem Ye {l:Ξ} {v A:Nat} (h:val l+1000000000 ^ l.length*v=A):val (l++[v%1000000000])+1000000000 ^ (l++[v%1000000000]).length*(v/1000000000)=A:=by
 rw [mJ,A9,List.length_singleton,Nat.pow_succ,Nat.mul_assoc,Nat.add_assoc,←Nat.mul_add];have:v%1000000000+1000000000*(v/1000000000)=v:=by omega
 rw [this];exact h
theorem Ab1 (w:World) (A:Nat) (hA:A≤9223372036854775807):Θ 40 #[.int .i64 (A:Int)] w (Fc w (A:Int)):=by
 obtain ⟨i0,hi,hz0,hz1,hz2⟩:=info_parts I1;have HB:=Ac w.heap.size w;go_enter Tryz.func40,Tryz.ntmps40;go_wp2_with fail;go_loopw [3,4] (fun v3 v4 wr=>∃(l:Ξ) (v:Nat),v3=.int .u64 v∧Hid (val l+1000000000 ^ l.length*v=A)∧l.length≤3∧v≤9223372036854775808∧(∀x∈l,x<1000000000)∧wr.ownsRow (w.heap.size+1) 147 1 v4 l.length (C7 l)∧w.heap.size<wr.heap.size∧wr.cell? ⟨w.heap.size,0,none⟩=some (.bool false)∧wr.cell? ⟨w.heap.size,1,none⟩=some (.slice none 0 0)∧wr.frozen? ⟨w.heap.size,0,none⟩=false∧wr.frozen? ⟨w.heap.size,1,none⟩=false∧Below w.heap.size w wr) (fun v3 _ _=>(intOf v3).toNat)
 case atStart=>exact ⟨[],A,(by first|rfl|exact congrArg (Value.int .u64) (Yv A hA hA0)),Ae (by simp [val]),by simp,by omega,fun x hx=>(by cases hx),World.ownsRow_nil _ _ _ _,by simp,by simp [go_sem],by simp [go_sem],by simp [go_sem],by simp [go_sem],by go_grown⟩
 case round =>
  obtain ⟨l,v,rfl,hv,hl3,hvb,hlt,hown,hlr,k0,k1,f0,f1,HB⟩:=hrel;have HBz:=HB.size;have HLT:=Ae hlt;clear hlt;by_cases hp:0<v
  ·exact qAq
  ·obtain rfl:v=0:=by omega
   have hv0:=Ae (show val l=A by have:=hv.out;simpa using this);obtain ⟨a',c',rfl,hr,hfr⟩:=Pn hown qA (fun i=>Dw (fun x hx=>by have:=HLT.out x hx;omega) i);go_wp2_with fail;refine (E9 _ false a' l.length c' l hr HLT.out).mono ?_;exact qAs
theorem Abx (w:World) (A:Nat) (hA:A≤9223372036854775808) (hA0:0<A):Θ 40 #[.int .i64 (-(A:Int))] w (Fc w (-(A:Int))):=by
 obtain ⟨i0,hi,hz0,hz1,hz2⟩:=info_parts I1;have HB:=Ac w.heap.size w;have hneg:-(A:Int)<0:=by omega
 have hmin:-9223372036854775808≤-(A:Int):=by omega
 go_enter Tryz.func40,Tryz.ntmps40;go_wp2_with fail;go_loopw [3,4] (fun v3 v4 wr=>∃(l:Ξ) (v:Nat),v3=.int .u64 v∧Hid (val l+1000000000 ^ l.length*v=A)∧l.length≤3∧v≤9223372036854775808∧(∀x∈l,x<1000000000)∧wr.ownsRow (w.heap.size+1) 147 1 v4 l.length (C7 l)∧w.heap.size<wr.heap.size∧wr.cell? ⟨w.heap.size,0,none⟩=some (.bool false)∧wr.cell? ⟨w.heap.size,1,none⟩=some (.slice none 0 0)∧wr.frozen? ⟨w.heap.size,0,none⟩=false∧wr.frozen? ⟨w.heap.size,1,none⟩=false∧Below w.heap.size w wr) (fun v3 _ _=>(intOf v3).toNat)
 case atStart=>exact ⟨[],A,(by first|rfl|exact congrArg (Value.int .u64) (Yv A hA hA0)),Ae (by simp [val]),by simp,by omega,fun x hx=>(by cases hx),World.ownsRow_nil _ _ _ _,by simp,by simp [go_sem],by simp [go_sem],by simp [go_sem],by simp [go_sem],by go_grown⟩
 case round =>
  obtain ⟨l,v,rfl,hv,hl3,hvb,hlt,hown,hlr,k0,k1,f0,f1,HB⟩:=hrel;have HBz:=HB.size;have HLT:=Ae hlt;clear hlt;by_cases hp:0<v
  ·exact qAq
  ·obtain rfl:v=0:=by omega
   have hv0:=Ae (show val l=A by have:=hv.out;simpa using this);obtain ⟨a',c',rfl,hr,hfr⟩:=Pn hown qA (fun i=>Dw (fun x hx=>by have:=HLT.out x hx;omega) i);go_wp2_with fail;refine (E9 _ true a' l.length c' l hr HLT.out).mono ?_;exact qAs
theorem Qt (w:World) (z:Int) (h0:-9223372036854775808≤z) (h1:z≤9223372036854775807):Θ 40 #[.int .i64 z] w (Fc w z):=by
 rcases Int.lt_or_le z 0 with h|h
 ·have:=Abx w z.natAbs qA qA;rwa [show -(z.natAbs:Int)=z by omega] at this
 ·have:=Ab1 w z.natAbs qA;rwa [show (z.natAbs:Int)=z by omega] at this
theorem Ic (d:Ξ) (j:Nat) (h:j<d.length):val (d.drop j)=d.getD j 0+1000000000*val (d.drop (j+1)):=by
 rw [List.drop_eq_getElem_cons h,val];simp [List.getD,Ai h]
theorem aG (a H by':Nat) (hb:0<by') :
  (a+1000000000*H)/by'=(H%by'*1000000000+a)/by'+1000000000*(H/by')∧(a+1000000000*H)%by'=(H%by'*1000000000+a)%by':=by
 have e:a+1000000000*H=(H%by'*1000000000+a)+by'*(1000000000*(H/by')):=by
  have h1:=Nat.mod_add_div H by'
  generalize H%by'=r at *
  generalize H/by'=q at *
  subst h1;rw [Nat.mul_add,Nat.mul_left_comm by' 1000000000 q];omega
 constructor
 ·rw [e,Nat.add_mul_div_left _ _ hb]
 ·rw [e,Nat.add_mul_mod_self_left]
theorem Yz (a r by':Nat) (hb:0<by') (hr:r<by') (ha:a<1000000000):(r*1000000000+a)/by'<1000000000:=by
 rw [Nat.div_lt_iff_lt_mul hb];have:r*1000000000+1000000000≤by'*1000000000:=by
  have:=Nat.mul_le_mul_right 1000000000 (show r+1≤by' from hr);omega
 rw [Nat.mul_comm];omega
def rW (w:World) (n by':Nat) (d:Ξ) (e:Ending) (w':World):Prop :=
 ∃a q,e=.returned (.tuple #[.slice a n n,.int .u32 ((val d%by':Nat):Int)])∧RdL w' a n n q∧val q=val d/by'∧(∀x∈q,x<1000000000)∧Bg w.heap.size w' a n∧Below w.heap.size w w'
theorem gN (w:World) (a:Γ) (n c:Nat) (d:Ξ) (by':Nat) (hd:RdL w a n c d) (hlt:∀x∈d,x<1000000000) (hb0:0<by') (hb1:by'<4294967296) :
  Θ 208 #[.slice a n c,.int .u32 by'] w (rW w n by' d):=by
 obtain ⟨i0,hi,hz0,hz1,hz2⟩:=info_parts I1;have hlen:=hd.len;have hn:=hd.few;have HLT:=Ae hlt;clear hlt;go_enter Tryz.func208,Tryz.ntmps208;go_wp2_with (refine wpList_make_full _ rfl _ _ 30 rfl w.heap.size 147 i0 (.int .u32 0) 1 Tryz.underlying30 hi hz0 hz1 .i64 .i64 _ _ n rfl rfl rfl rfl (by rw [hz2];omega) qO (Ad _) ?_;intro w1 hown1 hgrow1);have HB:Below w.heap.size w w1:=(Ac _ _).grown hgrow1 (Ad _) (fun k h=>by cases h);rw [Nat.mul_one,show Value.cells (.int .u32 0)=#[.int .u32 0] from rfl,toList_madeCells_one] at hown1;clear hgrow1;go_loopw [6,7] (fun v6 v7 wr=>∃(k r:Nat) (q:Ξ),k≤n∧v7=.int .i64 ((k:Int)-1)∧v6=.int .u64 r∧r<by'∧Hid (r=val (d.drop k)%by')∧Hid (val q=val (d.drop k)/by')∧Hid (q.length=n-k)∧Hid (∀x∈q,x<1000000000) ∧
   wr.ownsRow w.heap.size 147 1 (.slice (some ⟨w.heap.size,0,none⟩) n n) n (List.replicate k (.int .u32 0)++C7 q)∧Below w.heap.size w wr) (fun _ v7 _=>(intOf v7+1).toNat)
 case atStart=>exact ⟨n,0,[],Ad _,rfl,rfl,hb0,Ae (by rw [List.drop_of_length_le qA];simp [val]),Ae (by rw [List.drop_of_length_le qA];simp [val]),Ae qG,Ae (fun x hx=>(by cases hx)),by simpa [C7] using hown1,HB⟩
 case round =>
  obtain ⟨k,r,q,hk,rfl,rfl,hrb,hr,hq,hql,hqlt,hown,HB⟩:=hrel;have HBz:=HB.size;have hlt1:=(hown.lt w.heap.size rfl).2;clear hown1
  match k with
  | 0 =>
   rw [show ((0:Nat):Int)-1=-1 from rfl];rw [List.replicate_zero,List.nil_append] at hown;go_wp2_with fail;go_ret2;refine ⟨_,q,?_,Fz hown hn (fun i=>Dw (fun x hx=>by have:=hqlt.out x hx;omega) i),?_,hqlt.out,.of_owns hown,HB⟩
   ·have:=hr.out;rw [List.drop_zero] at this;rw [←this];rfl
   ·have:=hq.out;rwa [List.drop_zero] at this
  | j+1 =>
   rw [show ((j+1:Nat):Int)-1=(j:Int) from by omega];obtain ⟨b,o,rfl,c1⟩:=(hd.keep HB).at' (i:=j) qA;have hs:=hd.small j;have ha:d.getD j 0<1000000000:=by
    rw [List.getD,Ai qA];exact HLT.out _ (List.getElem_mem qA)
   have hlim:lim d j=((d.getD j 0:Nat):Int):=rfl;have hst:=aG (d.getD j 0) (val (d.drop (j+1))) by' hb0
   rw [←Ic d j qA,←hr.out,←hq.out] at hst;have HST:=Ae hst;have hdg:=Yz (d.getD j 0) r by' hb0 hrb ha
   have hmod:=Nat.mod_lt (r*1000000000+d.getD j 0) hb0;have t1:((r:Int)*1000000000+lim d j)/(by':Int)=(((r*1000000000+d.getD j 0)/by':Nat):Int):=by rw [hlim];simp
   have t2:((r:Int)*1000000000+lim d j)%(by':Int)=(((r*1000000000+d.getD j 0)%by':Nat):Int):=by rw [hlim];simp
   have q1:0≤((r:Int)*1000000000+lim d j)/(by':Int):=by rw [t1];revert hdg;generalize (r*1000000000+d.getD j 0)/by'=X;intro h;omega
   have q2:((r:Int)*1000000000+lim d j)/(by':Int)≤999999999:=by rw [t1];revert hdg;generalize (r*1000000000+d.getD j 0)/by'=X;intro h;omega
   have q3:0≤((r:Int)*1000000000+lim d j)%(by':Int):=by rw [t2];revert hmod;generalize (r*1000000000+d.getD j 0)%by'=X;intro h;omega
   have q4:((r:Int)*1000000000+lim d j)%(by':Int)<by':=by rw [t2];revert hmod;generalize (r*1000000000+d.getD j 0)%by'=X;intro h;omega
   have T1:=Ae t1;have T2:=Ae t2;have HM:=Ae hmod;have HDG:=Ae hdg;have hcell:=hown.cellAt j qA;rw [Az qG,List.getElem?_replicate,if_pos qA] at hcell;have hfr:=hown.frozenAt j;have hb1':(by':Int)<4294967296:=by omega
   have hb0':(1:Int)≤by':=by omega
   clear t1 t2 hst hlim ha hmod hdg;go_wp2_with fail;go_roundw
   case rel =>
    refine ⟨j,(r*1000000000+d.getD j 0)%by',(r*1000000000+d.getD j 0)/by'::q,by omega,rfl,by rw [T2.out],HM.out,Ae HST.out.2.symm,Ae ?_,Ae ?_,Ae ?_,?_,by go_grown⟩
    ·rw [val];exact HST.out.1.symm
    ·have:=hql.out;simp;omega
    ·intro x hx;rcases List.mem_cons.1 hx with rfl|hx
     ·exact HDG.out
     ·exact hqlt.out x hx
    ·have:=(hown.stored j (.int .u32 (((r:Int)*1000000000+lim d j)/(by':Int)))).1;rw [List.set_append_left _ _ qG,List.replicate_succ',List.set_append_right _ _ qG] at this;simp only [List.length_replicate,Nat.sub_self,Av,List.append_assoc,List.singleton_append] at this;rw [T1.out] at this ⊢;exact this
   case measure=>(first|(simp [intOf];omega)|(simp [intOf];done))
end Go.Proofs.YtnnhcbeiogaknaaGreatDoor
end
section
namespace Go.Proofs.YtnnhcbeiogaknaaGreatDoor
open Go.RowKit Go.Shelf
attribute [local go_sem] Oper.semAt_some
def Mn {α:Type} (f:Nat→α) (k:Nat):List α:=(List.range k).map f
theorem Vd {α:Type} (f:Nat→α) (k:Nat):Mn f (k+1)=Mn f k++[f k]:=by simp [Mn,List.range_succ]
theorem Y9 {α:Type} (f:Nat→α) (k:Nat):(Mn f k).length=k:=by simp [Mn]
def Ji (d:Ξ) (n:Nat) (j:Nat):Nat×Int:=(n-1-j,lim d (n-1-j))
def KpB (n₀ Bs:Nat) (A B:World):Prop:=Below n₀ A B∧B.cell? ⟨Bs,0,none⟩=A.cell? ⟨Bs,0,none⟩
theorem KpB.refl (n₀ Bs:Nat) (A:World):KpB n₀ Bs A A:=⟨Ac _ _,rfl⟩
theorem KpB.trans {n₀ Bs:Nat} {A B C:World} (h:KpB n₀ Bs A B) (h':KpB n₀ Bs B C):KpB n₀ Bs A C:=⟨h.1.trans h'.1,h'.2.trans h.2⟩
theorem W8 (F:Fence) (m:Nat) (h7:F.fn 241) (hro:F.round=none) (hm:1≤m) (l Bs n₀ b off n cap:Nat) (d:Ξ) (hreach:n≤35184372088832) (hb:b<n₀) (J Jx:List (Nat×Int)→World→Prop)
  (hY:∀pre x W,J pre W→pre.length<n→YieldAt F (m-1) Tryz.prog l #[.int .i64 (x.1:Int),.int .u32 x.2] W fun e W' =>
   (e=.returned (.bool true)∧J (pre++[x]) W'∧KpB n₀ Bs W W')∨(e=.returned (.bool false)∧Jx (pre++[x]) W'))
  (W:World) (hBs:W.cell? ⟨Bs,0,none⟩=some (.slice (some ⟨b,off,none⟩) n cap)) (hc:∀j,j<n→W.cell? ⟨b,off+j,none⟩=some (.int .u32 (lim d j))) (h0:J [] W) :
  CallsIn F m Tryz.prog 241 #[.func (.yield l) #[] #[],.pointer (some ⟨Bs,0,none⟩)] W fun e W'=>(∃v,e=.returned v) ∧
   ((∃ys,ys=Mn (Ji d n) n∧J ys W')∨(∃pre,(∃k,k≤n∧pre=Mn (Ji d n) k)∧Jx pre W')):=by
 have HC:=Ae hc;clear hc;refine callsIn_of_wp Tryz.func241 rfl h7 ?_ hro;simp only [Tryz.ntmps241,List.size_toArray,List.length_cons,List.length_nil,Nat.reduceAdd,Nat.reduceSub,Array.replicate_succ,Array.replicate_zero,List.push_toArray,List.append_toArray,List.nil_append,List.cons_append]
 gi_wp2
 gi_loopw [3] (fun i wr=>∃k:Nat,k≤n∧i=.int .i64 ((n:Int)-1-k)∧J (Mn (Ji d n) k) wr∧KpB n₀ Bs W wr)
  (fun i _=>(intOf i+1).toNat)
 case atStart=>exact ⟨0,Ba _,by first|rfl|(simp;done)|(rw [IntWalk.i64_in _ qA];simp),h0,KpB.refl _ _ _⟩
 case round =>
  obtain ⟨k,hk,rfl,hJs,hnx⟩:=hrel;have hBk:wr.cell? ⟨Bs,0,none⟩=some (.slice (some ⟨b,off,none⟩) n cap):=hnx.2.trans hBs;by_cases hlt:k<n
  ·obtain ⟨fn,tmps,assign,body,hy,hR⟩:=hY _ (Ji d n k) wr hJs (by rw [Y9];exact hlt);dsimp only [Ji] at hy;obtain ⟨j,hj⟩:∃j,n=k+1+j:=⟨n-1-k,by omega⟩;have hj1:n-1-k=j:=by omega
   rw [hj1] at hy;have hcx:wr.cell? ⟨b,off+j,none⟩=some (.int .u32 (lim d j)):=(hnx.1.cell (p:=⟨b,off+j,none⟩) hb).trans (HC.out j qA);have hj2:((n:Int)-1-k)=(j:Int):=by omega
   rw [hj2];have hjn:j<n:=by omega
   have HJ:=Ae hj;clear hj hj1 hj2
   gi_wp2
   refine hR.mono ?_;rintro e W3 (⟨rfl,hJ3,hk3⟩|⟨rfl,hJx3⟩)
   ·gi_wp2
    go_roundw
    case rel=>exact ⟨k+1,by omega,by have:=HJ.out;simp;omega,by rw [Vd];exact hJ3,hnx.trans hk3⟩
    case measure=>simp [intOf]
   ·gi_wp2
    refine bodyPost_ret (results_none rfl _ _ _) rfl ?_;exact ⟨⟨_,rfl⟩,.inr ⟨_,⟨k+1,by omega,(Vd _ _).symm⟩,hJx3⟩⟩
  ·obtain rfl:k=n:=by omega
   have hm1:((k:Int)-1-k)=-1:=by omega
   rw [hm1]
   gi_wp2
   go_end0;exact ⟨⟨_,rfl⟩,.inl ⟨_,rfl,hJs⟩⟩
theorem Pm (F:Fence) (m:Nat) (h7:F.fn 241) (hro:F.round=none) (l Bs c:Nat) (a:Γ) (J:List (Nat×Int)→World→Prop) (W:World) (hBs:W.cell? ⟨Bs,0,none⟩=some (.slice a 0 c)) (h0:J [] W) :
  CallsIn F m Tryz.prog 241 #[.func (.yield l) #[] #[],.pointer (some ⟨Bs,0,none⟩)] W fun e W'=>(∃v,e=.returned v)∧J [] W':=by
 refine callsIn_of_wp Tryz.func241 rfl h7 ?_ hro;simp only [Tryz.ntmps241,List.size_toArray,List.length_cons,List.length_nil,Nat.reduceAdd,Nat.reduceSub,Array.replicate_succ,Array.replicate_zero,List.push_toArray,List.append_toArray,List.nil_append,List.cons_append]
 gi_wp2
 gi_loopw [3] (fun i wr=>i=.int .i64 (-1)∧J [] wr) (fun _ _=>0)
 case atStart=>exact ⟨rfl,h0⟩
 case round =>
  obtain ⟨rfl,hJs⟩:=hrel
  gi_wp2
  go_end0;exact ⟨⟨_,rfl⟩,hJs⟩
theorem Tv (a:Γ) (n c:Nat) (w:World) :
  Θ 178 #[.slice a n c] w fun e w'=>e=.returned (.func (.func 241) #[] #[.pointer (some ⟨w.heap.size,0,none⟩)])∧w'=w.alloc (.cells #[.slice a n c] 30):=by
 go_enter Tryz.func178,Tryz.ntmps178;go_wp2;go_ret;exact ⟨rfl,rfl⟩
theorem Ln (F:Fence) (m:Nat) (h7:F.fn 241) (hro:F.round=none) (hm:1≤m) (Bs n₀:Nat) (a:Γ) (n c:Nat) (d:Ξ) (w:World) (hBs:Bs<w.heap.size) (hn₀:n₀≤w.heap.size)
  (hc:w.cell? ⟨Bs,0,none⟩=some (.slice a n c)) (hd:RdL w a n c d) (hlow:n=0∨∃b o,a=some ⟨b,o,none⟩∧b<n₀) :
  SeqStopsK F m Tryz.prog 241 #[.pointer (some ⟨Bs,0,none⟩)] (fun x:Nat×Int=>#[Value.int .i64 (x.1:Int),Value.int .u32 x.2]) (KpB n₀ Bs) (fun ys=>ys=Mn (Ji d n) n)
   (fun pre=>∃k,k≤n∧pre=Mn (Ji d n) k) n w:=fun l J Jx W hW _ _ hY h0=>by
 have hc':=(hW.cell (p:=⟨Bs,0,none⟩) hBs).trans hc;rcases hlow with rfl|⟨b,o,rfl,hb⟩
 ·exact (Pm F m h7 hro l Bs c a J W hc' h0).mono fun e W' ⟨he,hj⟩=>⟨he,.inl ⟨_,rfl,hj⟩⟩
 ·exact W8 F m h7 hro hm l Bs n₀ b o n c d hd.few hb J Jx hY W hc' (fun j hj=>(hd.keep hW).at hj) h0
def bkW (f:Int→Int):List (Nat×Int)→Int:=List.foldl (fun s x=>f (f (s*1000000000)-f x.2)) 0
theorem tL (f:Int→Int) (x:Nat):bkW f (Mn (Ji [x] 1) 1)=f (f (0*1000000000)-f x):=rfl
theorem tK (f:Int→Int) (x y:Nat):bkW f (Mn (Ji [x,y] 2) 2)=f (f (f (f (0*1000000000)-f y)*1000000000)-f x):=rfl
theorem oR (f:Int→Int) (d:Ξ):bkW f (Mn (Ji d 0) 0)=0:=rfl
theorem gP (x:Nat):val [x]=x:=by rw [val,val,Nat.mul_zero,Nat.add_zero]
theorem uA (x y:Nat):val [x,y]=x+1000000000*y:=by rw [val,gP]
def bk (pre:List (Nat×Int)):Int:=bkW wrap64 pre
theorem uJ (pre:List (Nat×Int)) (x:Nat×Int):bk (pre++[x])=wrap64 (wrap64 (bk pre*1000000000)-wrap64 x.2):=by simp [bk,bkW]
theorem Abk (x y:Int) (hx:0≤x) (hx':x<1000000000) (hy:0≤y) (hy':y<1000000000) :
  wrap64 (wrap64 (wrap64 (wrap64 (0*1000000000)-wrap64 y)*1000000000)-wrap64 x)=-(x+1000000000*y):=by
 rw [Int.zero_mul,IntWalk.wrap64_in 0 qA,IntWalk.wrap64_in y qA,IntWalk.wrap64_in x qA,IntWalk.wrap64_in (0-y) qA,IntWalk.wrap64_in ((0-y)*1000000000) qA,IntWalk.wrap64_in _ qA];omega
theorem Aah (x:Int) (hx:0≤x) (hx':x<1000000000) :
  wrap64 (wrap64 (0*1000000000)-wrap64 x)=-x:=by
 rw [Int.zero_mul,IntWalk.wrap64_in 0 qA,IntWalk.wrap64_in x qA,IntWalk.wrap64_in (0-x) qA];omega
theorem wC (x:Nat) (hx:x<1000000000):bk (Mn (Ji [x] 1) 1)=-(val [x]:Int):=by
 rw [bk,tL,Aah x qA qA,gP]
theorem xG (x y:Nat) (hx:x<1000000000) (hy:y<1000000000):bk (Mn (Ji [x,y] 2) 2)=-(val [x,y]:Int):=by
 rw [bk,tK,Abk x y qA qA qA qA,uA];rw [Int.natCast_add,Int.natCast_mul];rfl
theorem tG (d:Ξ) (hd:∀x∈d,x<1000000000) {n:Nat} (hl:d.length=n) (h2:n≤2):bk (Mn (Ji d n) n)=-(val d:Int):=by
 subst hl
 match d with
 | []=>rw [bk,show ([]:Ξ).length=0 from rfl,oR];rfl
 | [x]=>exact wC x (hd x qG)
 | [x,y]=>exact xG x y (hd x qG) (hd y qG)
 | x::y::t::l=>simp at h2
def W9 (w:World) (z:Int) (e:Ending) (w':World):Prop:=e=.returned (.tuple #[.int .i64 z,.int .i64 0])∧Below w.heap.size w w'
theorem Wa (w:World) (g:Bool) (a:Γ) (n c:Nat) (z:Int) (h:Bh w g a n c z) (h0:0≤z) (h2:n≤2) :
  Θ 108 #[.agg #[.bool g,.slice a n c]] w (W9 w z):=by
 have HB:=Ac w.heap.size w;have ho:=Ae h.okay;refine (callsIn_wide (n:=3)).1 ?_;refine callsIn_of_wp_marks Tryz.func108 rfl trivial ?_ rfl;refine wpIn_wide.2 ?_;simp only [Tryz.ntmps108,List.size_toArray,List.length_cons,List.length_nil,Nat.reduceAdd,Nat.reduceSub,Array.replicate_succ,Array.replicate_zero,List.push_toArray,List.append_toArray,List.nil_append,List.cons_append];have hzb:z<1000000000000000000:=by
  exact qCk
 have hg:g=false:=by rw [h.neg];simp;omega
 subst hg;have hcm1:Bz z (-9223372036854775808)=1:=Ee qA;have hcm2:Bz z 9223372036854775807=-1:=Dx qA;go_wp2_with fail;refine (Cy _ _ _ _ _ (dg z.natAbs) (h.rd.keep qF) true ⟨fun _=>rfl,fun _=>ho.out⟩).mono ?_;rintro e w1 ⟨rfl,hb⟩;obtain ⟨hc,hf⟩:=Bl hb;have hz:=hb.size;(try simp only [Aj,Ak] at hz);replace HB:=zI w hb;obtain ⟨s0_0,s0_1⟩:=qZ hc (w.heap.size) (.bool false) (.slice a n c);clear hc hf hb;go_wp2_with fail;go_region_held3 (fun W=>W.cell? ⟨w.heap.size,0,none⟩=some (.bool false)∧W.cell? ⟨w.heap.size,1,none⟩=some (.slice a n c)) (first|((try dsimp only);(repeat' apply Ay);all_goals (first|(with_reducible assumption)|(go_keep;done)|(simp [*,go_sem];done)))) (first
  | (go_at_call 40;(with_reducible refine (Qt _ (-9223372036854775808) qA qA).mono ?_);rintro e w2 ⟨g2,a2,n2,c2,rfl,hm,_,hb⟩;have hB2:=Al (by go_grown:Below w1.heap.size w1 _) (hb.mono qB);have s0_0:=Bc hB2 s0_0;have s0_1:=Bc hB2 s0_1;replace HB:=Al HB (hB2.mono HB.size);have hz2:=hB2.size)
  | (go_at_call 40;(with_reducible refine (Qt _ 9223372036854775807 qA qA).mono ?_);rintro e w2 ⟨g2,a2,n2,c2,rfl,hm2,_,hb⟩;have hB2:=Al (by go_grown:Below w3.heap.size w3 _) (hb.mono qB);have s0_0:=Bc hB2 s0_0;have s0_1:=Bc hB2 s0_1;replace HB:=Al HB (hB2.mono HB.size);have hz2:=hB2.size)
  | (go_at_call 63;(with_reducible refine (S9 _ _ _ _ _ _ (h.keep qF) _ _ _ _ (-9223372036854775808) (hm.keep qF)).mono ?_);rintro e w3 ⟨rfl,hb⟩;clear hm;rw [hcm1];have hB2:=Al (by go_grown:Below w2.heap.size w2 _) (hb.mono qB);have s0_0:=Bc hB2 s0_0;have s0_1:=Bc hB2 s0_1;replace HB:=Al HB (hB2.mono HB.size);have hz3:=hB2.size)
  | (go_at_call 63;(with_reducible refine (S9 _ _ _ _ _ _ (h.keep qF) _ _ _ _ 9223372036854775807 (hm2.keep qF)).mono ?_);rintro e w4 ⟨rfl,hb⟩;rw [hcm2];have hB2:=Al (by go_grown:Below w2.heap.size w2 _) (hb.mono qB);have s0_0:=Bc hB2 s0_0;have s0_1:=Bc hB2 s0_1;replace HB:=Al HB (hB2.mono HB.size);have hz3:=hB2.size))
 have hk0:w.heap.size<w4.heap.size:=by omega
 go_wp2_with fail;refine (Tv _ _ _ _).mono ?_;rintro e w5 ⟨rfl,rfl⟩;go_wp2_with fail;have hlow:n=0∨∃b o,a=some ⟨b,o,none⟩∧b<w4.heap.size:=by
  exact qBx
 have bP:=Boxed.new w4 2 (.int .i64 0);have bS:=Boxed.new (w4.alloc (.cells #[.int .i64 0] 2)) 30 (.slice a n c);rw [Aj] at bS;have hB0:Below w4.heap.size w4 ((w4.alloc (.cells #[.int .i64 0] 2)).alloc (.cells #[.slice a n c] 30)):=((Ac _ w4).alloc (Ad _) _).alloc qG _;have hrd:=h.rd.keep (HB.trans (hB0.mono HB.size));have bPc:((w4.alloc (.cells #[.int .i64 0] 2)).alloc (.cells #[.slice a n c] 30)).cell? ⟨w4.heap.size,0,none⟩=some (.int .i64 0):=(bP.alloc _).cell;have bPf:((w4.alloc (.cells #[.int .i64 0] 2)).alloc (.cells #[.slice a n c] 30)).frozen? ⟨w4.heap.size,0,none⟩=false:=(bP.alloc _).frozen;have bSc:=bS.cell;have hsz0:((w4.alloc (.cells #[.int .i64 0] 2)).alloc (.cells #[.slice a n c] 30)).heap.size=w4.heap.size+2:=by simp
 generalize ((w4.alloc (.cells #[.int .i64 0] 2)).alloc (.cells #[.slice a n c] 30))=w5 at *;clear bP bS;refine (wpIn_wide (n:=3)).1 ?_;refine wpIn_rangeFunc_ownG (F:=Fence.wide) rfl qA (gf:=241) (lb:=#[.pointer (some ⟨w4.heap.size+1,0,none⟩)]) rfl trivial (enters_of Tryz.func241 qC rfl)
  (Ln Fence.wide 2 trivial rfl qA (w4.heap.size+1) w4.heap.size a n c (dg z.natAbs) w5 qA qA bSc hrd hlow)
  (fun h1 h2=>KpB.trans h1 h2)
  (fun W l o o' hl ho hc1 hc2=>⟨belowK_b qA W l o o' hl ho hc1 hc2,Af (World.putObj_heap_other (fun e=>by have e:w4.heap.size+1=l:=e;omega))⟩)
  (Ac _ _) (fun _=>rfl)
  (fun pre W=>(W.cell? ⟨w4.heap.size,0,none⟩=some (.int .i64 (bk pre))∧W.frozen? ⟨w4.heap.size,0,none⟩=false)∧Below w4.heap.size w4 W)
  (fun _ _ _=>False)
  (OwnFrom.and (Own.from (fun s A B row hs hg hr=>⟨cell_kept hs.1 hg hr,(frozen_kept hs.1 hg hr).trans hs.2⟩) _) (ownFrom_below qA qA))
  (fun _ _ _ _ _ hs _ _=>hs)
  ⟨⟨bPc,bPf⟩,hB0⟩ ?a1 ?assign ?body ?done ?stop
 case assign =>
  intro l x W K hK
  gi_wp2
  exact hK
 case body =>
  exact qBd
 case done =>
  rintro D ys W hD rfl ⟨⟨hc,hf⟩,hB⟩ hK;rw [tG _ (Ew _) h.rd.len h2,Bq] at hc;have hneg:-(-((z.natAbs:Nat):Int))=z:=by omega
  have hnw:IntKind.i64.wrap z=z:=IntWalk.i64_in _ qA;have s0:=Bc hB s0_0;go_wp2_with fail;have hza:((z.natAbs:Nat):Int)=z:=by omega
  rw [hza];refine ⟨by simp,.inl ⟨_,_,rfl,run_takeDeferred ((KeepsOthers.setCell W ⟨w4.heap.size,0,none⟩ _).same D _ hK rfl),?_⟩⟩;refine ⟨.tuple #[.int .i64 z,.int .i64 0],?_,rfl,?_⟩
  ·simp [results,Tryz.results108,go_sem]
  ·exact (HB.trans (hB.mono HB.size) |>.setCell (p:=⟨w4.heap.size,0,none⟩) (by show w.heap.size≤w4.heap.size;omega) _).trans (belowK_b (w:=w) (Ad _) _ D _ _ qA ((KeepsOthers.setCell W ⟨w4.heap.size,0,none⟩ _).same D _ hK rfl) rfl rfl)
 case stop =>
  rintro D c pre W _ _ h _;exact h.elim
end Go.Proofs.YtnnhcbeiogaknaaGreatDoor
end
