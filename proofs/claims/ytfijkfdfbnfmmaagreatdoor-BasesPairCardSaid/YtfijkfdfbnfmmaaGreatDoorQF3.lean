/- Package limbs: Of; slices.Clone; wide; short. -/
import Derived.Test.YtfijkfdfbnfmmaaGreatDoorQF2
set_option linter.unusedSimpArgs false
set_option linter.unusedVariables false
set_option maxRecDepth 100000
set_option maxHeartbeats 4000000
section
namespace Go.Proofs.YtfijkfdfbnfmmaaGreatDoor
open Go.RowKit Proofs.Tryz
variable (w:World) (A:Nat) (a:Γ) {n:Nat} {d l:Ξ}
def tE (w:World) (n:Nat) (d:Ξ) (e:Ending) (w':World):Prop :=
 ∃a c,e=.returned (.slice a n c)∧RdL w' a n c d∧Bc w w' a c∧xp w w'
theorem By (h:∀x∈d,x<4294967296) (i:Nat):0≤lim d i∧lim d i<4294967296:=by
 by_cases hi:i<d.length
 ·have:=h _ (List.getElem_mem hi);exact qEj
 ·rw [Mm (Nat.le_of_not_lt hi)];omega
theorem Er {w:World} {base:Nat} {v:Value} (h:w.ownsRow base 129 1 v n (Cg d)) (hn:n≤35184372088832) (hs:∀i,0≤lim d i∧lim d i<4294967296) :
  ∃a c,v=.slice a n c∧RdL w a n c d∧Bc base w a c:=by
 have hlen:d.length=n:=by have:=h.1;rw [C5] at this;omega
 rcases h.2 with ⟨rfl,rfl⟩|⟨g,cap,cur,rfl,hb,hg,ri,qd,sj,_⟩
 ·exact ⟨none,0,rfl,⟨hlen,Ad _,qB,qB,hs,.inl rfl⟩,.inl rfl⟩
 ·exact ⟨_,_,rfl,Da h hn hs,.inr ⟨g,cur,rfl,hb,hg,qB⟩⟩
theorem aM (hl:d.length=n) (j:Nat) (u:Value) (h:(Cg d)[j]? = some u):j<n∧u=.int .u32 (lim d j):=by
 have hj:j<d.length:=by
  rcases Nat.lt_or_ge j d.length with h1|h1
  ·exact h1
  ·rw [List.getElem?_eq_none (by rw [C5];exact h1)] at h;cases h
 rw [Zz d j hj] at h;exact ⟨qB,(Option.some.inj h).symm⟩
theorem Jy {w:World} {b o c:Nat} (h:RdL w (some ⟨b,o,none⟩) n c d):∀j u,(Cg d)[j]? = some u→w.cell? ((J b o:Addr).add j)=some u:=by
 intro j u hj;obtain ⟨h1,rfl⟩:=aM h.len j u hj;have vu:(J b o:Addr).add j=⟨b,o+j,none⟩:=by unfold Addr.add;split<;>simp_all
 rw [vu];exact h.at h1
theorem Mf (d:Ξ):∀u∈Cg d,u.oneCell'=true:=by
 intro u hu;simp only [Cg,List.mem_map] at hu;obtain ⟨z,_,rfl⟩:=hu;rfl
theorem Nm (n c:Nat) (d:Ξ) (hd:RdL w a n c d) :
  Θ 251 #[.slice a n c] w (tE w n d):=by
 obtain ⟨i0,hi,dw,ed,en⟩:=info_parts Dl;have hn:=hd.few;have HB:=Ac w w
 match a,hd with
 | none,hd =>
  have h0:n=0:=by
   rcases hd.cell with h|⟨b,o,h,_⟩
   ·exact h
   ·cases h
  subst h0;have DQ:d=[]:=List.eq_nil_of_length_eq_zero hd.len;have hq:=fun (W:World)=>Lib.run_eql_slice_nil (P:=prog) W 49 129 none 0 c 0 0 underlying49
  have HN:=Ae DQ;clear DQ;go_enter func251,ntmps251;go_wp2;go_ret;exact ⟨none,0,rfl,by rw [HN.out];exact ⟨rfl,Ad _,qB,qB,fun i=>by simp [lim],.inl rfl⟩,.inl rfl,HB⟩
 | some ad,hd =>
  have MA:n=0∨∃b o,ad=⟨b,o,none⟩:=by
   rcases hd.cell with h|⟨b,o,h,_⟩
   ·exact .inl h
   ·exact .inr ⟨b,o,by cases h;rfl⟩
  have sj:∀(W:World),xp w W→∀j u,(Cg d)[j]? = some u→W.cell? (ad.add j)=some u:=by
   intro W hW j u hj;rcases MA with h0|⟨b,o,rfl⟩
   ·have:=(aM hd.len j u hj).1;omega
   ·exact Jy (hd.keep hW) j u hj
  have II:=Ae sj;clear sj;have hq:=fun (W:World)=>Lib.run_eql_slice_nil (P:=prog) W 49 129 (some ad) n c 0 0 underlying49
  go_enter func251,ntmps251;have CL:∀W:World,(W.alloc (.cells #[] 129)).ownsRow W 129 1 (.slice (E W) 0 0) 0 []:=fun W=>World.ownsRow_lit (size:=1) W #[] 0 (Ad _) qN qH
  have MC:=Ae CL;clear CL;go_wp2_with (at_builtin;refine wpList_append_own _ rfl _ _ 49 rfl w 129 i0 (.int .u32 0) 1 4 underlying49 hi dw ed en rfl qI _ _ _ rfl (MC.out w) ad n c (Cg d) rfl (by rw [C5,hd.len];omega) (II.out _ qD) (Mf d) qN qB qA ?_;intro v' w1 ji vy nu);rw [Nat.zero_add,List.nil_append] at ji;obtain ⟨a',c',rfl,hr,eh⟩:=Er ji hn hd.small;go_ret;refine ⟨a',c',rfl,hr,eh,?_⟩;exact ((Ac w w).alloc (Ad _) _).grown vy qA (fun k h=>by cases h;exact Ad _)
theorem Pn (hA:A≤9223372036854775808) (OY:0<A):IntKind.u64.wrap (-IntKind.u64.wrap (-(A:Int)))=A:=by
 simp only [IntKind.wrap_u64];omega
theorem pow3:(1000000000:Nat) ^ 3=1000000000000000000000000000:=qI
theorem S6 (l:Ξ) (x:Nat):val (l++[x])=val l+1000000000 ^ l.length*x:=by rw [Fq];simp [val]
theorem dX {v A:Nat} (h:val l+1000000000 ^ l.length*v=A) (hA:A≤9223372036854775808) (hv:0<v):l.length≤2:=by
 rcases Nat.lt_or_ge 2 l.length with h1|h1
 ·exfalso;have h2:1000000000 ^ 3≤1000000000 ^ l.length:=Nat.pow_le_pow_right qB h1;rw [pow3] at h2;have h3:1000000000 ^ l.length*1≤1000000000 ^ l.length*v:=At _ hv;omega
 ·exact h1
theorem Zq {v A:Nat} (h:val l+1000000000 ^ l.length*v=A):val (l++[v%1000000000])+1000000000 ^ (l++[v%1000000000]).length*(v/1000000000)=A:=by
 rw [S6,A8,List.length_singleton,Nat.pow_succ,Nat.mul_assoc,Nat.add_assoc,←Nat.mul_add];have:v%1000000000+1000000000*(v/1000000000)=v:=qB;rw [this];exact h
theorem Aa4 (hA:A≤9223372036854775807):Θ 166 #[M (A:Int)] w (Di w (A:Int)):=by
 obtain ⟨i0,hi,dw,ed,en⟩:=info_parts Dl;have HB:=Ac w w;go_enter func166,ntmps166;go_wp2_with fail;go_loopw [3,4] (fun v3 v4 wr=>∃(l:Ξ) (v:Nat),v3=.int .u64 v∧Hid (val l+1000000000 ^ l.length*v=A)∧l.length≤3∧v≤9223372036854775808∧(∀x∈l,x<1000000000)∧wr.ownsRow (w+1) 129 1 v4 l.length (Cg l)∧w.heap.size<wr∧Z wr w 0 (.bool false)∧Z wr w 1 (.slice none 0 0)∧Y wr w 0∧Y wr w 1∧xp w wr) (fun v3 _ _=>(intOf v3).toNat)
 case atStart=>exact ⟨[],A,(by first|rfl|exact congrArg (Value.int .u64) (Pn A hA OY)),Ae (by simp [val]),qH,qB,fun x hx=>(by cases hx),World.ownsRow_nil _ _ _ _,qH,qJ,qJ,qJ,qJ,qD⟩
 case round =>
  obtain ⟨l,v,rfl,hv,UR,hvb,bj,ah,pb,k0,k1,f0,f1,HB⟩:=hrel;have qu:=HB.size;have sr:=Ae bj;clear bj;by_cases hp:0<v
  ·exact qAj
  ·obtain rfl:v=0:=qB;have NQ:=Ae (show val l=A by have:=hv.out;simpa using this);obtain ⟨a',c',rfl,hr,eh⟩:=Er ah qB (fun i=>By (fun x hx=>by have:=sr.out x hx;omega) i);go_wp2_with fail;refine (Ft _ false a' l.length c' l hr sr.out).mono ?_;exact qBa
theorem Aa0 (hA:A≤9223372036854775808) (OY:0<A):Θ 166 #[M (-(A:Int))] w (Di w (-(A:Int))):=by
 obtain ⟨i0,hi,dw,ed,en⟩:=info_parts Dl;have HB:=Ac w w;have tj:-(A:Int)<0:=qB;have abu:-9223372036854775808≤-(A:Int):=qB;go_enter func166,ntmps166;go_wp2_with fail;go_loopw [3,4] (fun v3 v4 wr=>∃(l:Ξ) (v:Nat),v3=.int .u64 v∧Hid (val l+1000000000 ^ l.length*v=A)∧l.length≤3∧v≤9223372036854775808∧(∀x∈l,x<1000000000)∧wr.ownsRow (w+1) 129 1 v4 l.length (Cg l)∧w.heap.size<wr∧Z wr w 0 (.bool false)∧Z wr w 1 (.slice none 0 0)∧Y wr w 0∧Y wr w 1∧xp w wr) (fun v3 _ _=>(intOf v3).toNat)
 case atStart=>exact ⟨[],A,(by first|rfl|exact congrArg (Value.int .u64) (Pn A hA OY)),Ae (by simp [val]),qH,qB,fun x hx=>(by cases hx),World.ownsRow_nil _ _ _ _,qH,qJ,qJ,qJ,qJ,qD⟩
 case round =>
  obtain ⟨l,v,rfl,hv,UR,hvb,bj,ah,pb,k0,k1,f0,f1,HB⟩:=hrel;have qu:=HB.size;have sr:=Ae bj;clear bj;by_cases hp:0<v
  ·exact qAj
  ·obtain rfl:v=0:=qB;have NQ:=Ae (show val l=A by have:=hv.out;simpa using this);obtain ⟨a',c',rfl,hr,eh⟩:=Er ah qB (fun i=>By (fun x hx=>by have:=sr.out x hx;omega) i);go_wp2_with fail;refine (Ft _ true a' l.length c' l hr sr.out).mono ?_;exact qBa
theorem Yx (z:Int) (h0:-9223372036854775808≤z) (h1:z≤9223372036854775807):Θ 166 #[M z] w (Di w z):=by
 rcases Int.lt_or_le z 0 with h|h
 ·have:=Aa0 w z.natAbs qB qB;rwa [show -(z.natAbs:Int)=z from qB] at this
 ·have:=Aa4 w z.natAbs qB;rwa [show (z.natAbs:Int)=z from qB] at this
theorem F5 (d:Ξ) (j:Nat) (h:j<d.length):val (d.drop j)=d.getD j 0+1000000000*val (d.drop (j+1)):=by
 rw [List.drop_eq_getElem_cons h,val];simp [List.getD,Ai h]
theorem S8 (a H fo:Nat) (hb:0<fo) :
  (a+1000000000*H)/fo=(H%fo*1000000000+a)/fo+1000000000*(H/fo)∧(a+1000000000*H)%fo=(H%fo*1000000000+a)%fo:=by
 have e:a+1000000000*H=(H%fo*1000000000+a)+fo*(1000000000*(H/fo)):=by
  have h1:=Nat.mod_add_div H fo
  generalize H%fo=r at *
  generalize H/fo=q at *
  subst h1;rw [Nat.mul_add,Nat.mul_left_comm fo 1000000000 q];omega
 constructor
 ·rw [e,Nat.add_mul_div_left _ _ hb]
 ·rw [e,Nat.add_mul_mod_self_left]
theorem Rx (a r fo:Nat) (hb:0<fo) (hr:r<fo) (ha:a<1000000000):(r*1000000000+a)/fo<1000000000:=by
 rw [Nat.div_lt_iff_lt_mul hb];have:r*1000000000+1000000000≤fo*1000000000:=by
  have:=Nat.mul_le_mul_right 1000000000 (show r+1≤fo from hr);omega
 rw [Nat.mul_comm];omega
def aT (w:World) (n fo:Nat) (d:Ξ) (e:Ending) (w':World):Prop :=
 ∃a q,e=.returned (.tuple #[.slice a n n,.int .u32 ((val d%fo:Nat):Int)])∧RdL w' a n n q∧val q=val d/fo∧(∀x∈q,x<1000000000)∧Bc w w' a n∧xp w w'
theorem jB (n c:Nat) (d:Ξ) (fo:Nat) (hd:RdL w a n c d) (bj:∀x∈d,x<1000000000) (lz:0<fo) (br:fo<4294967296) :
  Θ 288 #[.slice a n c,.int .u32 fo] w (aT w n fo d):=by
 obtain ⟨i0,hi,dw,ed,en⟩:=info_parts Dl;have hlen:=hd.len;have hn:=hd.few;have sr:=Ae bj;clear bj;go_enter func288,ntmps288;go_wp2_with (refine wpList_make_full _ rfl _ _ 49 rfl w 129 i0 (.int .u32 0) 1 underlying49 hi dw ed .i64 .i64 _ _ n rfl rfl rfl rfl (by rw [en];omega) qN (Ad _) ?_;intro w1 du dn);have HB:xp w w1:=(Ac _ _).grown dn (Ad _) (fun k h=>by cases h);rw [Nat.mul_one,show Value.cells (.int .u32 0)=#[.int .u32 0] from rfl,toList_madeCells_one] at du;clear dn;go_loopw [6,7] (fun v6 v7 wr=>∃(k r:Nat) (q:Ξ),k≤n∧v7=M ((k:Int)-1)∧v6=.int .u64 r∧r<fo∧Hid (r=val (d.drop k)%fo)∧Hid (val q=val (d.drop k)/fo)∧Hid (q.length=n-k)∧Hid (∀x∈q,x<1000000000) ∧
   wr.ownsRow w 129 1 (.slice (E w) n n) n (List.replicate k (.int .u32 0)++Cg q)∧xp w wr) (fun _ v7 _=>(intOf v7+1).toNat)
 case atStart=>exact ⟨n,0,[],Ad _,rfl,rfl,lz,Ae (by rw [List.drop_of_length_le qB];simp [val]),Ae (by rw [List.drop_of_length_le qB];simp [val]),Ae qH,Ae (fun x hx=>(by cases hx)),by simpa [Cg] using du,HB⟩
 case round =>
  obtain ⟨k,r,q,hk,rfl,rfl,hrb,hr,hq,uo,ju,ah,HB⟩:=hrel;have qu:=HB.size;have tu:=(ah.lt w rfl).2;clear du
  match k with
  | 0 =>
   exact qBt
  | j+1 =>
   rw [show ((j+1:Nat):Int)-1=(j:Int) from qB];obtain ⟨b,o,rfl,c1⟩:=(hd.keep HB).at' (i:=j) qB;have hs:=hd.small j;have ha:d.getD j 0<1000000000:=by
    rw [List.getD,Ai qB];exact sr.out _ (List.getElem_mem qB)
   have qw:lim d j=((d.getD j 0:Nat):Int):=rfl;have iv:=S8 (d.getD j 0) (val (d.drop (j+1))) fo lz
   rw [←F5 d j qB,←hr.out,←hq.out] at iv;have qe:=Ae iv;have PG:=Rx (d.getD j 0) r fo lz hrb ha
   have tz:=Nat.mod_lt (r*1000000000+d.getD j 0) lz;have t1:((r:Int)*1000000000+lim d j)/(fo:Int)=(((r*1000000000+d.getD j 0)/fo:Nat):Int):=by rw [qw];simp
   have t2:((r:Int)*1000000000+lim d j)%(fo:Int)=(((r*1000000000+d.getD j 0)%fo:Nat):Int):=by rw [qw];simp
   have q1:0≤((r:Int)*1000000000+lim d j)/(fo:Int):=by rw [t1];revert PG;generalize (r*1000000000+d.getD j 0)/fo=X;intro h;omega
   have q2:((r:Int)*1000000000+lim d j)/(fo:Int)≤999999999:=by rw [t1];revert PG;generalize (r*1000000000+d.getD j 0)/fo=X;intro h;omega
   have q3:0≤((r:Int)*1000000000+lim d j)%(fo:Int):=by rw [t2];revert tz;generalize (r*1000000000+d.getD j 0)%fo=X;intro h;omega
   have q4:((r:Int)*1000000000+lim d j)%(fo:Int)<fo:=by rw [t2];revert tz;generalize (r*1000000000+d.getD j 0)%fo=X;intro h;omega
   have T1:=Ae t1;have T2:=Ae t2;have HM:=Ae tz;have HDG:=Ae PG;have gz:=ah.cellAt j qB;rw [Ay qH,List.getElem?_replicate,if_pos qB] at gz;have eh:=ah.frozenAt j;have KM:(fo:Int)<4294967296:=qB;have ak1:(1:Int)≤fo:=qB
   clear t1 t2 iv qw ha tz PG;go_wp2_with fail;go_roundw
   case rel =>
    refine ⟨j,(r*1000000000+d.getD j 0)%fo,(r*1000000000+d.getD j 0)/fo::q,qB,rfl,by rw [T2.out],HM.out,Ae qe.out.2.symm,Ae ?_,Ae ?_,Ae ?_,?_,qD⟩
    ·rw [val];exact qe.out.1.symm
    ·have:=uo.out;simp;omega
    ·intro x hx;rcases List.mem_cons.1 hx with rfl|hx
     ·exact HDG.out
     ·exact ju.out x hx
    ·have:=(ah.stored j (.int .u32 (((r:Int)*1000000000+lim d j)/(fo:Int)))).1;exact qCr
   case measure=>(first|(simp [intOf];omega)|(simp [intOf];done))
end Go.Proofs.YtfijkfdfbnfmmaaGreatDoor
end
section
namespace Go.Proofs.YtfijkfdfbnfmmaaGreatDoor
open Proofs.Tryz
open Go.RowKit Go.Shelf
variable (a:Γ) (w:World) (f:Int→Int) (x y:Nat) (d:Ξ) (pre:List (Nat×Int))
attribute [local go_sem] Oper.semAt_some
def Nq {α:Type} (f:Nat→α) (k:Nat):List α:=(List.range k).map f
theorem Wa {α:Type} (f:Nat→α) (k:Nat):Nq f (k+1)=Nq f k++[f k]:=by simp [Nq,List.range_succ]
theorem aL {α:Type} (f:Nat→α) (k:Nat):(Nq f k).length=k:=by simp [Nq]
def Jv (d:Ξ) (n:Nat) (j:Nat):Nat×Int:=(n-1-j,lim d (n-1-j))
def KpB (n₀ Bs:Nat) (A B:World):Prop:=Below n₀ A B∧B.cell? ⟨Bs,0,none⟩=A.cell? (J Bs 0)
theorem KpB.refl (n₀ Bs:Nat) (A:World):KpB n₀ Bs A A:=⟨Ac _ _,rfl⟩
theorem KpB.trans {n₀ Bs:Nat} {A B C:World} (h:KpB n₀ Bs A B) (h':KpB n₀ Bs B C):KpB n₀ Bs A C:=⟨h.1.trans h'.1,h'.2.trans h.2⟩
theorem X8 (F:Fence) (m:Nat) (h7:F.fn 318) (JO:F.round=none) (hm:1≤m) (l Bs n₀ b off n cap:Nat) (d:Ξ) (ue:n≤35184372088832) (hb:b<n₀) (ze Jx:List (Nat×Int)→World→Prop)
  (hY:∀pre x W,ze pre W→pre.length<n→YieldAt F (m-1) prog l #[M (x.1:Int),.int .u32 x.2] W fun e W' =>
   (e=.returned (.bool true)∧ze (pre++[x]) W'∧KpB n₀ Bs W W')∨(e=.returned (.bool false)∧Jx (pre++[x]) W'))
  (W:World) (hBs:Z W Bs 0 (.slice (some ⟨b,off,none⟩) n cap)) (hc:∀j,j<n→Z W b (off+j) (.int .u32 (lim d j))) (h0:ze [] W) :
  CallsIn F m prog 318 #[.func (.yield l) #[] #[],.pointer (E Bs)] W fun e W'=>(∃v,e=.returned v) ∧
   ((∃ys,ys=Nq (Jv d n) n∧ze ys W')∨(∃pre,(∃k,k≤n∧pre=Nq (Jv d n) k)∧Jx pre W')):=by
 have HC:=Ae hc;clear hc;refine callsIn_of_wp func318 rfl h7 ?_ JO;simp only [ntmps318,List.size_toArray,List.length_cons,List.length_nil,Nat.reduceAdd,Nat.reduceSub,Array.replicate_succ,Array.replicate_zero,List.push_toArray,List.append_toArray,List.nil_append,List.cons_append]
 gi_wp2
 gi_loopw [3] (fun i wr=>∃k:Nat,k≤n∧i=M ((n:Int)-1-k)∧ze (Nq (Jv d n) k) wr∧KpB n₀ Bs W wr)
  (fun i _=>(intOf i+1).toNat)
 case atStart=>exact ⟨0,Ba _,by first|rfl|(simp;done)|(rw [IntWalk.i64_in _ qB];simp),h0,KpB.refl _ _ _⟩
 case round =>
  obtain ⟨k,hk,rfl,hJs,AO⟩:=hrel;have uf:Z wr Bs 0 (.slice (some ⟨b,off,none⟩) n cap):=AO.2.trans hBs;by_cases bj:k<n
  ·obtain ⟨fn,tmps,assign,body,hy,hR⟩:=hY _ (Jv d n k) wr hJs (by rw [aL];exact bj);dsimp only [Jv] at hy;obtain ⟨j,hj⟩:∃j,n=k+1+j:=⟨n-1-k,qB⟩;have hj1:n-1-k=j:=qB;rw [hj1] at hy;have SS:Z wr b (off+j) (.int .u32 (lim d j)):=(AO.1.cell (p:=⟨b,off+j,none⟩) hb).trans (HC.out j qB);have hj2:((n:Int)-1-k)=(j:Int):=qB;rw [hj2];have hjn:j<n:=qB;have HJ:=Ae hj;clear hj hj1 hj2
   gi_wp2
   refine hR.mono ?_;rintro e W3 (⟨rfl,hJ3,nw⟩|⟨rfl,hJx3⟩)
   ·gi_wp2
    go_roundw
    case rel=>exact ⟨k+1,qB,by have:=HJ.out;simp;omega,by rw [Wa];exact hJ3,AO.trans nw⟩
    case measure=>simp [intOf]
   ·gi_wp2
    refine bodyPost_ret (results_none rfl _ _ _) rfl ?_;exact ⟨⟨_,rfl⟩,.inr ⟨_,⟨k+1,qB,(Wa _ _).symm⟩,hJx3⟩⟩
  ·obtain rfl:k=n:=qB;have yf:((k:Int)-1-k)=-1:=qB;rw [yf]
   gi_wp2
   go_end0;exact ⟨⟨_,rfl⟩,.inl ⟨_,rfl,hJs⟩⟩
theorem Qt (F:Fence) (m:Nat) (h7:F.fn 318) (JO:F.round=none) (l Bs c:Nat) (a:Γ) (ze:List (Nat×Int)→World→Prop) (W:World) (hBs:Z W Bs 0 (.slice a 0 c)) (h0:ze [] W) :
  CallsIn F m prog 318 #[.func (.yield l) #[] #[],.pointer (E Bs)] W fun e W'=>(∃v,e=.returned v)∧ze [] W':=by
 refine callsIn_of_wp func318 rfl h7 ?_ JO;simp only [ntmps318,List.size_toArray,List.length_cons,List.length_nil,Nat.reduceAdd,Nat.reduceSub,Array.replicate_succ,Array.replicate_zero,List.push_toArray,List.append_toArray,List.nil_append,List.cons_append]
 gi_wp2
 gi_loopw [3] (fun i wr=>i=M (-1)∧ze [] wr) (fun _ _=>0)
 case atStart=>exact ⟨rfl,h0⟩
 case round =>
  obtain ⟨rfl,hJs⟩:=hrel
  gi_wp2
  go_end0;exact ⟨⟨_,rfl⟩,hJs⟩
theorem fT (n c:Nat) (w:World) :
  Θ 287 #[.slice a n c] w fun e w'=>e=.returned (.func (.func 318) #[] #[.pointer (E w)])∧w'=w.alloc (.cells #[.slice a n c] 49):=by
 go_enter func287,ntmps287;go_wp2;go_ret;exact ⟨rfl,rfl⟩
theorem U4 (F:Fence) (m:Nat) (h7:F.fn 318) (JO:F.round=none) (hm:1≤m) (Bs n₀:Nat) (a:Γ) (n c:Nat) (d:Ξ) (w:World) (hBs:Bs<w.heap.size) (hn₀:n₀≤w.heap.size)
  (hc:Z w Bs 0 (.slice a n c)) (hd:RdL w a n c d) (qy:n=0∨∃b o,a=some ⟨b,o,none⟩∧b<n₀) :
  SeqStopsK F m prog 318 #[.pointer (E Bs)] (fun x:Nat×Int=>#[Value.int .i64 (x.1:Int),Value.int .u32 x.2]) (KpB n₀ Bs) (fun ys=>ys=Nq (Jv d n) n)
   (fun pre=>∃k,k≤n∧pre=Nq (Jv d n) k) n w:=fun l ze Jx W hW _ _ hY h0=>by
 have jf:=(hW.cell (p:=⟨Bs,0,none⟩) hBs).trans hc;rcases qy with rfl|⟨b,o,rfl,hb⟩
 ·exact (Qt F m h7 JO l Bs c a ze W jf h0).mono fun e W' ⟨he,hj⟩=>⟨he,.inl ⟨_,rfl,hj⟩⟩
 ·exact X8 F m h7 JO hm l Bs n₀ b o n c d hd.few hb ze Jx hY W jf (fun j hj=>(hd.keep hW).at hj) h0
def bkW (f:Int→Int):List (Nat×Int)→Int:=List.foldl (fun s x=>f (f (s*1000000000)-f x.2)) 0
theorem sK:bkW f (Nq (Jv [x] 1) 1)=f (f (0*1000000000)-f x):=rfl
theorem sJ:bkW f (Nq (Jv [x,y] 2) 2)=f (f (f (f (0*1000000000)-f y)*1000000000)-f x):=rfl
theorem oS:bkW f (Nq (Jv d 0) 0)=0:=rfl
theorem jD:val [x]=x:=by rw [val,val,Nat.mul_zero,Nat.add_zero]
theorem sY:val [x,y]=x+1000000000*y:=by rw [val,jD]
def bk (pre:List (Nat×Int)):Int:=bkW wrap64 pre
theorem tJ (x:Nat×Int):bk (pre++[x])=wrap64 (wrap64 (bk pre*1000000000)-wrap64 x.2):=by simp [bk,bkW]
theorem Aap (x y:Int) (hx:0≤x) (FL:x<1000000000) (hy:0≤y) (hy':y<1000000000) :
  wrap64 (wrap64 (wrap64 (wrap64 (0*1000000000)-wrap64 y)*1000000000)-wrap64 x)=-(x+1000000000*y):=by
 rw [Int.zero_mul,IntWalk.wrap64_in 0 qB,IntWalk.wrap64_in y qB,IntWalk.wrap64_in x qB,IntWalk.wrap64_in (0-y) qB,IntWalk.wrap64_in ((0-y)*1000000000) qB,IntWalk.wrap64_in _ qB];omega
theorem yN (x:Int) (hx:0≤x) (FL:x<1000000000) :
  wrap64 (wrap64 (0*1000000000)-wrap64 x)=-x:=by
 rw [Int.zero_mul,IntWalk.wrap64_in 0 qB,IntWalk.wrap64_in x qB,IntWalk.wrap64_in (0-x) qB];omega
theorem uU (hx:x<1000000000):bk (Nq (Jv [x] 1) 1)=-(val [x]:Int):=by
 rw [bk,sK,yN x qB qB,jD]
theorem wA (hx:x<1000000000) (hy:y<1000000000):bk (Nq (Jv [x,y] 2) 2)=-(val [x,y]:Int):=by
 rw [bk,sJ,Aap x y qB qB qB qB,sY];rw [Int.natCast_add,Int.natCast_mul];rfl
theorem Aa2 (hd:∀x∈d,x<1000000000) {n:Nat} (hl:d.length=n) (h2:n≤2):bk (Nq (Jv d n) n)=-(val d:Int):=by
 subst hl
 match d with
 | []=>rw [bk,show ([]:Ξ).length=0 from rfl,oS];rfl
 | [x]=>exact uU x (hd x qH)
 | [x,y]=>exact wA x y (hd x qH) (hd y qH)
 | x::y::t::l=>simp at h2
def vK (w:World) (z:Int) (e:Ending) (w':World):Prop:=e=.returned (.tuple #[M z,M 0])∧xp w w'
theorem mM (g:Bool) (a:Γ) (n c:Nat) (z:Int) (h:Bh w g a n c z) (h0:0≤z) (h2:n≤2) :
  Θ 250 #[.agg #[.bool g,.slice a n c]] w (vK w z):=by
 have HB:=Ac w w;have ho:=Ae h.okay;refine (callsIn_wide (n:=3)).1 ?_;refine callsIn_of_wp_marks func250 rfl trivial ?_ rfl;refine wpIn_wide.2 ?_;simp only [ntmps250,List.size_toArray,List.length_cons,List.length_nil,Nat.reduceAdd,Nat.reduceSub,Array.replicate_succ,Array.replicate_zero,List.push_toArray,List.append_toArray,List.nil_append,List.cons_append];have hzb:z<1000000000000000000:=by
  have h3:=Ep (dg z.natAbs) (D0 _);have h4:=h.rd.len;have h5:=Nat.pow_le_pow_right (show 0<1000000000 from qB) (show (dg z.natAbs).length≤2 from qB);rw [Bq] at h3;omega
 have hg:g=false:=by rw [h.neg];simp;omega
 subst hg;have anu:Bz z (-9223372036854775808)=1:=C7 qB;have anv:Bz z 9223372036854775807=-1:=C6 qB;go_wp2_with fail;refine (De _ _ _ _ _ (dg z.natAbs) (h.rd.keep qD) true ⟨fun _=>rfl,fun _=>ho.out⟩).mono ?_;rintro e w1 ⟨rfl,hb⟩;obtain ⟨hc,hf⟩:=Bg hb;have hz:=hb.size;(try simp only [Aj,Ak] at hz);replace HB:=zP w hb;obtain ⟨aw,bh⟩:=xd hc w false a n c;clear hc hf hb;go_wp2_with fail;go_region_held3 (fun W=>Z W w 0 (.bool false)∧Z W w 1 (.slice a n c)) (exact qK) (first
  | (go_at_call 166;(with_reducible refine (Yx _ (-9223372036854775808) qB qB).mono ?_);rintro e w2 ⟨g2,a2,n2,c2,rfl,hm,_,hb⟩;have uv:=Al (by go_grown:xp w1 _) (hb.mono qA);have aw:=Bb uv aw;have bh:=Bb uv bh;replace HB:=Al HB (uv.mono HB.size);have en:=uv.size)
  | (go_at_call 166;(with_reducible refine (Yx _ 9223372036854775807 qB qB).mono ?_);rintro e w2 ⟨g2,a2,n2,c2,rfl,OZ,_,hb⟩;have uv:=Al (by go_grown:xp w3 _) (hb.mono qA);have aw:=Bb uv aw;have bh:=Bb uv bh;replace HB:=Al HB (uv.mono HB.size);have en:=uv.size)
  | (go_at_call 249;(with_reducible refine (iD _ _ _ _ _ _ (h.keep qD) _ _ _ _ (-9223372036854775808) (hm.keep qD)).mono ?_);rintro e w3 ⟨rfl,hb⟩;clear hm;rw [anu];have uv:=Al (by go_grown:xp w2 _) (hb.mono qA);have aw:=Bb uv aw;have bh:=Bb uv bh;replace HB:=Al HB (uv.mono HB.size);have BD:=uv.size)
  | (go_at_call 249;(with_reducible refine (iD _ _ _ _ _ _ (h.keep qD) _ _ _ _ 9223372036854775807 (OZ.keep qD)).mono ?_);rintro e w4 ⟨rfl,hb⟩;rw [anv];have uv:=Al (by go_grown:xp w2 _) (hb.mono qA);have aw:=Bb uv aw;have bh:=Bb uv bh;replace HB:=Al HB (uv.mono HB.size);have BD:=uv.size))
 have qp:w.heap.size<w4:=qB;go_wp2_with fail;refine (fT _ _ _ _).mono ?_;rintro e w5 ⟨rfl,rfl⟩;go_wp2_with fail;have qy:n=0∨∃b o,a=some ⟨b,o,none⟩∧b<w4.heap.size:=by
  rcases h.rd.cell with h1|⟨b,o,h1,h3⟩
  ·exact .inl h1
  ·rcases Aq n with h5|h5
   ·exact .inl h5
   ·refine .inr ⟨b,o,h1,?_⟩;have:b<w.heap.size:=Aa w (J b (o+0)) (h3 0 h5);omega
 have bP:=Boxed.new w4 2 (M 0);have bS:=Boxed.new (w4.alloc (.cells #[M 0] 2)) 49 (.slice a n c);rw [Aj] at bS;have hB0:xp w4 ((w4.alloc (.cells #[M 0] 2)).alloc (.cells #[.slice a n c] 49)):=((Ac _ w4).alloc (Ad _) _).alloc qH _;have jx:=h.rd.keep (xo HB hB0);have bPc:Z ((w4.alloc (.cells #[M 0] 2)).alloc (.cells #[.slice a n c] 49)) w4 0 (M 0):=(bP.alloc _).cell;have bPf:Y ((w4.alloc (.cells #[M 0] 2)).alloc (.cells #[.slice a n c] 49)) w4 0:=(bP.alloc _).frozen;have bSc:=bS.cell;have qi:((w4.alloc (.cells #[M 0] 2)).alloc (.cells #[.slice a n c] 49)).heap.size=w4.heap.size+2:=qH;generalize ((w4.alloc (.cells #[M 0] 2)).alloc (.cells #[.slice a n c] 49))=w5 at *;clear bP bS;refine (wpIn_wide (n:=3)).1 ?_;refine wpIn_rangeFunc_ownG (F:=Fence.wide) rfl qB (gf:=318) (lb:=#[.pointer (E (w4+1))]) rfl trivial (enters_of func318 qE rfl)
  (U4 Fence.wide 2 trivial rfl qB (w4+1) w4 a n c (dg z.natAbs) w5 qB qB bSc jx qy)
  (fun h1 h2=>KpB.trans h1 h2)
  (fun W l o o' hl ho VY FP=>⟨belowK_b qB W l o o' hl ho VY FP,Af (World.putObj_heap_other (fun e=>by have e:w4.heap.size+1=l:=e;omega))⟩)
  (Ac _ _) (fun _=>rfl)
  (fun pre W=>(Z W w4 0 (M (bk pre))∧Y W w4 0)∧xp w4 W)
  (fun _ _ _=>False)
  (OwnFrom.and (Own.from (fun s A B row hs hg hr=>⟨cell_kept hs.1 hg hr,(frozen_kept hs.1 hg hr).trans hs.2⟩) _) (ownFrom_below qB qB))
  (fun _ _ _ _ _ hs _ _=>hs)
  ⟨⟨bPc,bPf⟩,hB0⟩ ?a1 ?assign ?body ?done ?stop
 case assign =>
  intro l x W K hK
  gi_wp2
  exact hK
 case body =>
  rintro l pre x W ⟨⟨hc,hf⟩,hB⟩ _
  gi_wp2
  exact ⟨(KeepsOthers.setCell _ _ _).from _,⟨(Ac _ W).setCell (p:=⟨w4,0,none⟩) (Ad _) _,World.cell?_setCell_far _ _ _ _ (by show w4.heap.size≠w4.heap.size+1;omega)⟩,⟨by rw [tJ];exact World.cell?_setCell_same' _ _ _ (by rw [hc];rfl),by rw [World.frozen?_setCell];exact hf⟩,hB.setCell (p:=⟨w4,0,none⟩) (Ad _) _⟩
 case done =>
  rintro D ys W hD rfl ⟨⟨hc,hf⟩,hB⟩ hK;rw [Aa2 _ (D0 _) h.rd.len h2,Bq] at hc;have tj:-(-((z.natAbs:Nat):Int))=z:=qB;have hnw:IntKind.i64.wrap z=z:=IntWalk.i64_in _ qB;have s0:=Bb hB aw;go_wp2_with fail;have hza:((z.natAbs:Nat):Int)=z:=qB;rw [hza];refine ⟨qH,.inl ⟨_,_,rfl,run_takeDeferred ((KeepsOthers.setCell W (J w4 0) _).same D _ hK rfl),?_⟩⟩;refine ⟨.tuple #[M z,M 0],?_,rfl,?_⟩
  ·simp [results,results250,go_sem]
  ·exact ((xo HB hB) |>.setCell (p:=⟨w4,0,none⟩) (by show w.heap.size≤w4;omega) _).trans (belowK_b (w:=w) (Ad _) _ D _ _ qB ((KeepsOthers.setCell W (J w4 0) _).same D _ hK rfl) rfl rfl)
 case stop =>
  rintro D c pre W _ _ h _;exact h.elim
end Go.Proofs.YtfijkfdfbnfmmaaGreatDoor
end
