/- Package factors: split's take: a factor is put behind the others, the rest is what is left of it. -/
import Derived.Test.YtnnhcbeiogaknaaGreatDoorQV38
set_option linter.unusedSimpArgs false
set_option linter.unusedVariables false
set_option maxRecDepth 100000
set_option maxHeartbeats 4000000
section
namespace Go.Proofs.YtnnhcbeiogaknaaGreatDoor
open Go.RowKit
def Acz (w:World) (Ob Rb Pb Br B':Nat) (L:List (Δ)) (f r2:Δ) (N:Nat) (w':World):Prop :=
 ∃v g,B1 w' Ob v∧(∃cur,w'.heap[Ob]? = some (.cells cur 97 (0,0)))∧Gg w' Br B' v (L++[f])∧Blk w' Rb #[.int .i64 0,.slice (some ⟨g,0,none⟩) (N+1) (N+1)] 92∧RdZ w' (some ⟨g,0,none⟩) (N+1) (zAt r2)∧w'.cell? ⟨Pb,0,none⟩=some (.int .i64 0)∧∀B,B≤Ob→B≤Rb→B≤w.heap.size→Below B w w'
theorem oU (w:World) (Ob Rb Pb Br B':Nat) (v:Value) (L:List (Δ)) (hL:L.length≤1000) (hO:B1 w Ob v) (hOt:∃cur,w.heap[Ob]? = some (.cells cur 97 (0,0))) (hrow:Gg w Br B' v L) (hOB:Ob<Br) (hRB:Rb<Br) (hPB:Pb<Br) (hBw:Br≤w.heap.size) (hBB:B'≤w.heap.size) (hOR:Ob≠Rb) (hPO:Pb≠Ob) (hPR:Pb≠Rb)
  (a:Γ) (n c:Nat) (fr:Nat→Int) (hR:Blk w Rb #[.int .i64 0,.slice a n c] 92) (hRz:RdZ w a n fr) (hn0:1≤n) (hv0:L=[]→v=.slice none 0 0) (hn:n≤1001) (hfr:∀k,k<n→-1099511627776≤fr k∧fr k≤1099511627776) (p0:w.cell? ⟨Pb,0,none⟩=some (.int .i64 0))
  (aq:Γ) (nq cq:Nat) (fq:Nat→Int) (hQ:RdZ w aq nq fq) (hnq:nq≤1001) (hfq:∀k,k<nq→-1099511627776≤fq k∧fq k≤1099511627776)
  (rq rr e r2:Δ) (h1:Ir fq nq=some rq) (h1s:Sm rq) (h2:Ir fr n=some rr) (h2s:Sm rr) (hfs:Sm (Ck rq)) (h3:Fd rr (Ck rq)=some (some e)) (hes:Sm e) (h4:Ck e=r2) (h4s:Sm r2) (h4n:r2≠[]) (N:Nat) (hN:C6 r2 0=(N:Int)) (hN1:N≤1000) (hz:∀t∈r2,-1099511627776≤t.2.1∧t.2.1≤1099511627776) :
  Θ 109 #[.agg #[.int .i64 0,.slice aq nq cq],.pointer (some ⟨Ob,0,none⟩),.pointer (some ⟨Rb,0,none⟩),.pointer (some ⟨Pb,0,none⟩)] w (fun e w'=>e=.returned (.tuple #[])∧Acz w Ob Rb Pb Br B' L (Ck rq) r2 N w'):=by
 have HB:=Ac w.heap.size w;have HK:=Ae (Ay h1 (Ay h2 (Ay h3 (Ay h4 (Ay hN (Ay hz (Ay hfr hfq)))))));clear h1 h2 h3 hN hz hfr hfq;go_enter Tryz.func109,Tryz.ntmps109;go_wp2_with fail;refine Be ?_;intro w0 hw0;have b0:Below w.heap.size w w0:=by rw [hw0];go_grown
 clear hw0;refine (lU w0 aq nq cq fq (hQ.keep b0) hnq HK.out.2.2.2.2.2.2.2 rq HK.out.1).mono ?_;rintro e1 w1 ⟨a1,n1,c1,rfl,hp1,ho1,hb1⟩;have b1:=b0.trans (hb1.mono b0.size);go_wp2_with fail;refine (Kb hp1 h1s).mono ?_;rintro e1 w2 ⟨a2,n2,c2,rfl,hp2,ho2,hb2⟩;have b2:=b1.trans (hb2.mono b1.size);have O2:=hO.keep b2;have R2:=hR.keep b2;have hrow2:=hrow.keep b2;have hOt2:∃cur,w2.heap[Ob]? = some (.cells cur 97 (0,0)):=by obtain ⟨cur,e⟩:=hOt;exact ⟨cur,(b2.block _ (Ar.1 e).1).trans e⟩
 have p2:=Bc b2 p0;have hz2:=hRz.keep b2;clear hO hR hrow hOt p0 hRz hp1 ho1 hQ;obtain ⟨xs,hown,hxs⟩:=hrow2.ex;obtain ⟨i0,hi,hz0,hz1,hz2'⟩:=info_parts Jb;have HXS:=Ae hxs;have HOW:=Ae hown;have hge:=Hd hown;have hs2:=b2.size;have hs1:=b1.size;have hs0:=b0.size;have k2:Below w2.heap.size w2 (w2.alloc (.cells #[.slice a2 n2 c2] 25)):=Below.alloc (Ac _ _) (Ad _) _;have O3:=O2.keep k2;have HQ2:=Ae (Ay hp2 ho2);have hne1:some Ob≠v.ownBlock:=fun e=>by have:=hge _ e.symm;omega
 clear hxs hown hrow2 hp2 ho2;have oc:=O2.c0;go_upto_region 3 with (at_builtin;refine wpList_append_own _ rfl _ _ 97 rfl Br 25 i0 (.slice none 0 0) 1 24 Tryz.underlying97 hi hz0 hz1 hz2' rfl qI _ L.length xs rfl (Bo HOW.out k2) ⟨w2.heap.size,0,none⟩ 1 1 [.slice a2 n2 c2] rfl rfl (cell_one_new _ _ _) (by simp [Value.oneCell']) qO qA qB ?_;intro v7 w7 hown7 hgrow7 _;obtain ⟨a7,c7,rfl⟩:=K7 hown7;have O7:=O3.row hgrow7 hne1;have oc7:=O7.c0;have of7:=O7.f0;have ol7:=O7.lt)
 refine Cc ?_;intro w8 hw8;have HRow:=Gg.next (v:=v) (v':=.slice a7 (L.length+1) c7) (l:=Ck rq) (L:=L) (Bo HOW.out k2) (fun i' l' hl'=>by
  obtain ⟨a9,n9,c9,e9,hp9,ho9⟩:=HXS.out i' l' hl';exact ⟨a9,n9,c9,e9,hp9.keep k2,ho9.keep k2⟩) ((HQ2.out.1.mono qA).keep k2) ((HQ2.out.2.mono qA).keep k2) hown7 hgrow7
 have hap:∀g,a=some ⟨g,0,none⟩→g≠Ob∧some g≠v.ownBlock:=fun g e=>by
  obtain ⟨g',e',hc⟩:=hz2.ex;rw [e] at e'
  cases e'
  have h0:=hc 0 qA;refine ⟨fun e=>?_,fun e=>?_⟩
  ·subst e;rw [O2.c0] at h0;obtain ⟨_,_,e⟩:=K7 HOW.out;rw [e] at h0;simp at h0
  ·rcases L with _|⟨l0,L⟩
   ·rw [hv0 rfl] at e;cases e
   ·obtain ⟨a9,n9,c9,e9,_⟩:=HXS.out 0 l0 rfl;have hc9:=World.ownsRow.cells HOW.out e.symm 0 _ e9;rw [show (⟨g,0,none⟩:Addr).add 0=⟨g,0,none⟩ from rfl,h0] at hc9;simp at hc9
 have g8:w7.grownBy w8 (some Ob):=by rw [hw8];exact Bf _ (A7 _ _)
 have hz7:=hgrow7.size;simp only [Aj] at hz7;have hzw8:w8.heap.size=w7.heap.size:=by rw [hw8];simp
 have hRz8:RdZ w8 a n fr:=by
  obtain ⟨g,e,hc⟩:=hz2.ex;have:=hap g e;exact ⟨g,e,fun k hk=>g8.cell (hgrow7.cell (Bc k2 (hc k hk)) this.2) (by simp;exact this.1)⟩
 have R8:=((R2.keep k2).row hgrow7 (fun e=>by have:=hge _ e.symm;omega)).row g8 (by simp;exact hOR.symm);have p8:=g8.cell (hgrow7.cell (Bc k2 p2) (fun e=>by have:Br≤Pb:=hge _ e.symm;omega)) (by simp;exact hPO);have hOt8:∃cur,w8.heap[Ob]? = some (.cells cur 97 (0,0)):=by
  rw [hw8];refine Vw ?_ 0 _;exact qBw
 have O8:B1 w8 Ob (.slice a7 (L.length+1) c7):=by rw [hw8];exact O7.set _
 have HR8:Gg w8 Br B' (.slice a7 (L.length+1) c7) (L++[Ck rq]):=by
  obtain ⟨xs8,h81,h82⟩:=HRow.ex;have hOt7:∃cur,w7.heap[Ob]? = some (.cells cur 97 (0,0)):=by
   exact qBw
  refine ⟨xs8,by rw [hw8];exact Oa h81 hOB,fun i l hl=>?_⟩;obtain ⟨a9,n9,c9,e9,hp9,ho9⟩:=h82 i l hl;have:=Dz hp9 ho9 (KpT.of_grown g8 (fun k e=>by cases e;exact W4 hOt7));exact ⟨a9,n9,c9,e9,this⟩
 have hB8:∀B,B≤Ob→B≤Rb→B≤w.heap.size→Below B w w8:=fun B h1 h2 h3=>by
  have h7:Below B w w7:=(((b2.mono h3).trans (k2.mono qA)).grown hgrow7 qJ (fun k hk=>by have:=hge k hk;omega));rw [hw8];exact h7.setCell (p:=⟨Ob,0,none⟩) h1 _
 have HQ7:Bd w8 0 a2 n2 c2 (Ck rq):=by
  have h9:=Dz ((HQ2.out.1.keep k2)) ((HQ2.out.2.keep k2)) (KpT.of_grown hgrow7 (fun k e=>by
   obtain ⟨cur,hcur⟩:=Pg (Bo HOW.out k2) e;rintro (⟨c,e⟩|⟨c,e⟩)<;>(rw [hcur] at e;simp at e)))
  have hOt7:∃cur,w7.heap[Ob]? = some (.cells cur 97 (0,0)):=by
   exact qBw
  exact (Dz h9.1 h9.2 (KpT.of_grown g8 (fun k e=>by cases e;exact W4 hOt7))).1.mono (Ba _)
 clear hw8 g8 hgrow7 hown7 O7 oc7 of7 ol7 HRow O3 k2 hap hne1 hge;have r0:=R8.cell 0 _ rfl;have r1:=R8.cell 1 _ rfl;go_wp2_with fail;refine (lU w8 a n c fr hRz8 hn HK.out.2.2.2.2.2.2.1 rr HK.out.2.1).mono ?_;rintro e1 w9 ⟨a9,n9,c9,rfl,hp9,ho9,hb9⟩;go_wp2_with fail;refine (Mc w9 _ n9 c9 0 n2 c2 a9 a2 rr (Ck rq) hp9 h2s (HQ7.keep hb9) hfs (some e) HK.out.2.2.1).mono ?_;rintro e1 w10 ⟨hb10,a10,n10,c10,rfl,hp10⟩;have hz8:=hb9.size;have hz9:=hb10.size;have k10:Below w8.heap.size w8 w10:=hb9.trans (hb10.mono hz8);replace r0:=Bc k10 r0;replace r1:=Bc k10 r1;replace p8:=Bc k10 p8;have R10:=R8.keep k10;have O10:=O8.keep k10;have HP10:=Ae hp10;have f0:=R10.frozen 0;have f1:=R10.frozen 1;have rl:=R10.lt;have pl:Pb<w10.heap.size:=Aa _ _ p8;clear hp10 hp9 ho9 R8 O8;go_wp2_with fail;go_region_held3 (fun W=>W.cell? ⟨Pb,0,none⟩=some (.int .i64 0)) (first|((try dsimp only);(repeat' apply Ay);all_goals (first|(with_reducible assumption)|(go_keep;done)|(simp [*,go_sem];done)))) (first
  | (go_at_call 22;(with_reducible refine (Kb (HP10.out.keep qF) hes).mono ?_);rintro e2 w11 ⟨a11,n11,c11,rfl,hp11,ho11,hb11⟩;have hc11:Below w10.heap.size w10 w11:=(by first|exact hb11|exact Al qF (hb11.mono qB));replace p8:=Bc hc11 p8;have z11:=hc11.size;have HP11:=Ae hp11;clear hp11 ho11)
  | (go_at_call 50;(with_reducible refine (bM _ _ n11 c11 a11 r2 (h4▸HP11.out.keep qF) h4s h4n N HK.out.2.2.2.2.1 hN1 1099511627776 qA qA HK.out.2.2.2.2.2.1).mono ?_);rintro e2 w12 ⟨g,hgf,rfl,hz12,hb12⟩;have hc12:Below w10.heap.size w10 w12:=hc11.trans (by first|exact hb12.mono qB|exact Al qF (hb12.mono qB));replace p8:=Bc hb12 p8;have z12:=hc12.size;have HZ12:=Ae hz12;replace r0:=Bc hc12 r0;replace r1:=Bc hc12 r1;have R12:=R10.keep hc12;have O12:=O10.keep hc12;have f0:=R12.frozen 0;have f1:=R12.frozen 1;have rl12:=R12.lt;clear hz12))
 go_wp2_with fail;have g13:w12.grownBy ((w12.setCell ⟨Rb,0,none⟩ (.int .i64 0)).setCell ⟨Rb,1,none⟩ (.slice (some ⟨g,0,none⟩) (N+1) (N+1))) (some Rb):=Bf _ (Bf _ (A7 _ _));have R13:=(R12.set 0 (.int .i64 0)).set 1 (.slice (some ⟨g,0,none⟩) (N+1) (N+1));have k12:Below w8.heap.size w8 w12:=k10.trans (hc12.mono qA);have HR12:=HR8.keep k12;have hOt12:∃cur,w12.heap[Ob]? = some (.cells cur 97 (0,0)):=by obtain ⟨cur,e⟩:=hOt8;exact ⟨cur,(k12.block _ (Ar.1 e).1).trans e⟩
 refine bodyPost_end (v:=.tuple #[]) (by simp [results,Tryz.results109,go_sem]) rfl ⟨rfl,.slice a7 (L.length+1) c7,g,O12.row g13 (by simp;exact hOR),?_,?_,R13,?_,g13.cell p8 (by simp;exact hPR),fun B h1 h2 h3=>?_⟩
 ·obtain ⟨cur,e⟩:=hOt12;exact ⟨cur,(g13.block Ob (Ar.1 e).1 (by simp;exact hOR)).trans e⟩
 ·obtain ⟨xs8,h81,h82⟩:=HR12.ex;refine ⟨xs8,Oa (Oa h81 hRB) hRB,fun i l hl=>?_⟩;obtain ⟨a9,n9,c9,e9,hp9,ho9⟩:=h82 i l hl;have:=Dz hp9 ho9 (KpT.of_grown g13 (fun k e=>by
   cases e
   have hRB12:w12.heap[Rb]? = _:=R12;rintro (⟨c,e⟩|⟨c,e⟩)<;>(rw [hRB12] at e;simp at e)))
  exact ⟨a9,n9,c9,e9,this⟩
 ·obtain ⟨g',e,hc⟩:=HZ12.out.ex;cases e
  exact ⟨g,rfl,fun k hk=>g13.cell (hc k hk) qJ⟩
 ·exact (((hB8 B h1 h2 h3).trans (k12.mono (by have:=(hB8 B h1 h2 h3).size;omega))).setCell (p:=⟨Rb,0,none⟩) h2 _).setCell (p:=⟨Rb,1,none⟩) h2 _
def lf (t:Int) (k:Nat):Int:=if k=0 then -t else 1
theorem fa_1:Ir (lf 1) 2=some pM:=by decide +kernel
theorem fa_2:Ir (zAt pA) 3=some pA:=by decide +kernel
theorem fa_3:Fd pA pM=some (some pP):=by decide +kernel
theorem Aa5:Ck pM=pM:=by decide +kernel
theorem vH:Ck pP=pP:=by decide +kernel
theorem fa_6:Ir (zAt pP) 2=some pP:=by decide +kernel
theorem fa_7:Fd pP pP=some (some [(0,1,1)]):=by decide +kernel
theorem fa_8:Ck [(0,((1,1):PC))]=[(0,1,1)]:=by decide +kernel
theorem fa_9:C6 pP 0=((1:Nat):Int):=by decide +kernel
theorem Acp:C6 [(0,((1,1):PC))] 0=((0:Nat):Int):=by decide +kernel
theorem Acq:∀k,k<3→-1099511627776≤zAt pA k∧zAt pA k≤1099511627776:=by decide +kernel
theorem yJ:∀k,k<2→-1099511627776≤zAt pP k∧zAt pP k≤1099511627776:=by decide +kernel
theorem Acs:∀k,k<2→-1099511627776≤lf 1 k∧lf 1 k≤1099511627776:=by decide +kernel
theorem Acn:∀t∈pP,-1099511627776≤t.2.1∧t.2.1≤1099511627776:=by decide +kernel
theorem Ada:∀t∈[(0,((1,1):PC))],-1099511627776≤t.2.1∧t.2.1≤1099511627776:=by decide +kernel
theorem Acv:cT (zAt pA) 3 1 1:=by unfold cT;decide +kernel
theorem Ab7:cT (zAt pA) 3 (-1) 1:=by unfold cT;decide +kernel
theorem Acu:(nvZ (zAt pA) 3 1 1 3).1=0:=by decide +kernel
theorem pS:C6 pA 0=((2:Nat):Int):=by decide +kernel
theorem Acy:∀t∈pA,-1099511627776≤t.2.1∧t.2.1≤1099511627776:=by decide +kernel
theorem Aca:∀t∈Ck pA,-100≤t.2.1∧t.2.1≤100:=by decide +kernel
theorem yN:Ck pA=pA:=by decide +kernel
theorem smA:Sm pA:=Sm.of (by decide +kernel)
theorem Acx:Mt pA:=by intro t ht;simp [pA] at ht;rcases ht with rfl|rfl<;>decide
theorem Gg.setP {w:World} {Br B' R o:Nat} {v u:Value} {L:List (Δ)} (h:Gg w Br B' v L) (hR:R<Br) (hp:¬Uj w R):Gg (w.setCell ⟨R,o,none⟩ u) Br B' v L:=by
 obtain ⟨xs,h1,h2⟩:=h.ex;refine ⟨xs,Oa h1 hR,fun i l hl=>?_⟩;obtain ⟨a,n,c,e,hp',ho⟩:=h2 i l hl;exact ⟨a,n,c,e,Dz hp' ho (KpT.of_grown (row:=some R) (Bf _ (A7 _ _)) (fun k e=>by cases e;exact hp))⟩
theorem vP (w:World) (a:Γ) (c:Nat) (h:RdZ w a 3 (zAt pA)):Θ 51 #[.agg #[.int .i64 0,.slice a 3 c]] w (fun e w'=>∃v,e=.returned v∧Gg w' w.heap.size 0 v [pM,pP]∧Below w.heap.size w w'):=by
 have HB:=Ac w.heap.size w;go_enter Tryz.func51,Tryz.ntmps51;go_wp2_with fail;refine Cc ?_;intro w0 hw0;have b0:Below w.heap.size w w0:=by rw [hw0];go_grown
 have z0:w0.heap.size=w.heap.size+1+1+1:=by rw [hw0];simp
 have P0:w0.cell? ⟨w.heap.size,0,none⟩=some (.int .i64 0):=by rw [hw0];simp [go_sem]
 have O0:Blk w0 (w.heap.size+1) #[.slice none 0 0] 97:=by rw [hw0];exact (Bi qG _ _).alloc _
 have R0:Blk w0 (w.heap.size+1+1) #[.int .i64 0,.slice a 3 c] 92:=by rw [hw0];exact Bi qG _ _
 have h0:=h.keep b0;clear hw0;have x0:=R0.cell 0 _ rfl;have x1:=R0.cell 1 _ rfl;refine wp_loop_rounds 2 ?_;rw [rounds_succ];go_wp2_with fail;refine (Yq w0 0 a 2 c qA).mono ?_;rintro e w1 ⟨rfl,hb1⟩;replace x0:=Bc hb1 x0;replace x1:=Bc hb1 x1;go_wp2_with fail;refine (rM w1 a 3 c (zAt pA) (h0.keep hb1) qA qA (.inr (by decide +kernel)) (.inl (by decide +kernel)) Acv Ab7 1 (.inl ⟨rfl,Acu⟩)).mono ?_;rintro e w2 ⟨G,cq,hcq,hG,rfl,g0,g1,hb2⟩;have z1:=hb1.size;have z2:=hb2.size;have k2:Below w0.heap.size w0 w2:=hb1.trans (hb2.mono z1);go_wp2_with fail;refine Be ?_;intro w3 hw3;have k23:Below w2.heap.size w2 w3:=by rw [hw3];go_grown
 have k3:Below w0.heap.size w0 w3:=k2.trans (k23.mono k2.size);clear hw3;have O3:=O0.keep k3;have z3:=k3.size;refine (oU w3 (w.heap.size+1) (w.heap.size+1+1) w.heap.size w0.heap.size 0 (.slice none 0 0) [] qG ⟨O3.cell 0 _ rfl,O3.frozen 0⟩ ⟨_,O3⟩ (Gg.nil _ _ _) qA qA qA z3 (Ba _) qA qA qA
  a 3 c (zAt pA) (R0.keep k3) (h0.keep k3) qA (fun _=>rfl) qA Acq (Bc k3 P0) (some ⟨G,0,none⟩) 2 cq (lf 1) ⟨G,rfl,fun k hk=>by
   rcases k with _|_|k
   ·exact Bc k23 g0
   ·exact Bc k23 g1
   ·omega⟩ qA Acs pM pA pP pP fa_1 smM fa_2 smA (by rw [Aa5];exact smM) (by rw [Aa5];exact fa_3) smP vH smP qI 1 fa_9 qA Acn).mono ?_
 rintro e w4 ⟨rfl,v4,G4,O4,Ot4,row4,R4,Z4,P4,B4⟩;have k4:=B4 w.heap.size qA qA qA;have y0:=R4.cell 0 _ rfl;have y1:=R4.cell 1 _ rfl;clear O0 R0 P0 x0 x1 h0 O3;go_wp2_with fail;rw [rounds_succ];go_wp2_with fail;refine (Yq w4 0 _ 1 _ qA).mono ?_;rintro e w5 ⟨rfl,hb5⟩;replace y0:=Bc hb5 y0;replace y1:=Bc hb5 y1;go_wp2_with fail;refine wp_loop_rounds 1 ?_;rw [rounds_succ];go_wp2_with fail;refine (Yq w5 0 _ 1 _ qA).mono ?_;rintro e w6 ⟨rfl,hb6⟩;replace y0:=Bc hb6 y0;replace y1:=Bc hb6 y1;go_wp2_with fail;refine (Yq w6 0 _ 1 _ qA).mono ?_;rintro e w7 ⟨rfl,hb7⟩;replace y0:=Bc hb7 y0;replace y1:=Bc hb7 y1;have k7:Below w4.heap.size w4 w7:=(hb5.trans (hb6.mono hb5.size)).trans (hb7.mono (by have:=hb5.size;have:=hb6.size;omega));have z4:=k4.size;have z7:=k7.size;go_wp2_with fail;refine (oU w7 (w.heap.size+1) (w.heap.size+1+1) w.heap.size w0.heap.size 0 v4 [Ck pM] qG (O4.keep k7) (by obtain ⟨cur,e⟩:=Ot4;exact ⟨cur,(k7.block _ (Ar.1 e).1).trans e⟩) (Gg.keep row4 k7) qA qA qA qA (Ba _) qA qA qA
  (some ⟨G4,0,none⟩) 2 2 (zAt pP) (R4.keep k7) (Z4.keep k7) qA (fun e=>by cases e) qA yJ (Bc k7 P4) (some ⟨G4,0,none⟩) 2 2 (zAt pP) (Z4.keep k7) qA yJ pP pP [(0,1,1)] [(0,1,1)] fa_6 smP fa_6 smP (by rw [vH];exact smP) (by rw [vH];exact fa_7) I8 fa_8 I8 qI 0 Acp qA Ada).mono ?_
 rintro e w8 ⟨rfl,v8,G8,O8,Ot8,row8,R8,Z8,P8,B8⟩;have k8:=B8 w.heap.size qA qA qA;have hb8:Below w.heap.size w w8:=(((b0.trans (k3.mono b0.size)).trans k4).trans (k7.mono qA)).trans k8;obtain ⟨xs8,h81,h82⟩:=row8.ex;obtain ⟨a8,c8,rfl⟩:=K7 h81;have hv:=O8.c0;have hvf:=O8.f0;have hvl:=O8.lt;have HRW:Gg w8 w0.heap.size 0 (.slice a8 2 c8) [pM,pP]:=by
  have:Gg w8 w0.heap.size 0 (.slice a8 2 c8) ([Ck pM]++[Ck pP]):=row8;rwa [Aa5,vH] at this
 have HF:=Ae (HRW.setP (R:=w.heap.size+1) (o:=0) (u:=.slice a8 2 c8) qA (W4 Ot8));have hbf:=hb8.setCell (p:=⟨w.heap.size+1,0,none⟩) (by show w.heap.size≤w.heap.size+1;omega) (.slice a8 2 c8);clear row8 HRW h81 h82;go_wp2_with fail;refine bodyPost_ret (v:=.slice a8 2 c8) (by simp [results,Tryz.results51,go_sem,hv,hvl]) rfl ?_;obtain ⟨xs9,h91,h92⟩:=HF.out.ex;exact ⟨_,rfl,⟨xs9,Kd h91 qA,h92⟩,hbf⟩
theorem eZ {w w':World} {a:Γ} {n c R:Nat} {d:Ξ} (h:RdL w a n c d) (hR:∀i z,w.cell? ⟨R,i,none⟩≠some (.int .u32 z)) (hg:w.grownBy w' (some R)):RdL w' a n c d:=by
 refine ⟨h.len,h.cap,h.few,h.top,h.small,h.cell.imp id fun⟨b,o,e,hc⟩=>⟨b,o,e,fun i hi=>hg.cell (hc i hi) fun e=>?_⟩⟩;cases e
 exact hR _ _ (hc i hi)
theorem Sr {w w':World} {R:Nat} {g1:Bool} {a1:Γ} {n1 c1:Nat} {p:Int} {g2:Bool} {a2:Γ} {n2 c2:Nat} {q:Int} (h:Bj w g1 a1 n1 c1 p g2 a2 n2 c2 q) (hR:∀i z,w.cell? ⟨R,i,none⟩≠some (.int .u32 z)) (hg:w.grownBy w' (some R)):Bj w' g1 a1 n1 c1 p g2 a2 n2 c2 q :=
 ⟨⟨h.top.neg,eZ h.top.rd hR hg⟩,⟨h.low.neg,eZ h.low.rd hR hg⟩,h.pos,h.red⟩
theorem vI:(Tryz.prog.info? 47).map (fun i=>(i.zero,i.size,i.bytes))=some (some (.agg #[.slice none 0 0,.int .i64 0]),2,32):=by kernel_rfl
def Aa6 (w:World) (e:Ending) (w':World):Prop:=∃g1 a1 n1 c1 g2 a2 n2 c2 G aM nM cM aP nP cP,e=.returned (.tuple #[.agg #[.bool g1,.slice a1 n1 c1,.bool g2,.slice a2 n2 c2],.slice (some ⟨G,0,none⟩) 2 2,.int .i64 0])∧Bj w' g1 a1 n1 c1 1 g2 a2 n2 c2 1 ∧
 w'.cell? ⟨G,0,none⟩=some (.slice aM nM cM)∧w'.cell? ⟨G,1,none⟩=some (.int .i64 1)∧w'.cell? ⟨G,2,none⟩=some (.slice aP nP cP)∧w'.cell? ⟨G,3,none⟩=some (.int .i64 1)∧Bd w' 0 aM nM cM pM∧Bm w' 0 aM nM cM∧Bd w' 0 aP nP cP pP∧Bm w' 0 aP nP cP∧Below w.heap.size w w'
theorem uH (w:World) (B n c:Nat) (a:Γ) (h:Bd w B a n c pA):Θ 14 #[.slice a n c] w (Aa6 w):=by
 have HB:=Ac w.heap.size w;go_enter Tryz.func14,Tryz.ntmps14;go_wp2_with fail;refine Be ?_;intro w0 hw0;have b0:Below w.heap.size w w0:=by rw [hw0];go_grown
 have C0:Blk w0 w.heap.size #[.bool false,.slice none 0 0,.bool false,.slice none 0 0] 34:=by rw [hw0];exact Bi rfl _ _
 clear hw0;have hz0:w.heap.size<w0.heap.size:=C0.lt;refine (oA w0 B n c a pA (h.keep b0) smA Acx 2 pS qA qA (by rw [yN];exact smA) (by rw [yN];exact pS) Aca).mono ?_;rintro e w1 ⟨g1,rfl,Z1,hb1⟩;have b1:=b0.trans (hb1.mono b0.size);replace C0:=C0.keep hb1;go_wp2_with fail;refine Be ?_;intro w2 hw2;have k2:Below w1.heap.size w1 w2:=by rw [hw2];go_grown
 have b2:=b1.trans (k2.mono b1.size);have X2:w2.cell? ⟨w1.heap.size,0,none⟩=some (.int .i64 0):=by rw [hw2];simp [go_sem]
 clear hw2;replace C0:=C0.keep k2;refine (Abn w2 B n c a (562949953421312,1,1) [(0,-1,1)] pA (h.keep b2) smA sqA).mono ?_;rintro e w3 ⟨q1,a1,n1,c1,q2,a2,n2,c2,G,a3,n3,c3,rfl,F3,G0,G1,P3,O3,hb3⟩;have b3:=b2.trans (hb3.mono b2.size);replace C0:=C0.keep hb3;replace X2:=Bc hb3 X2;have hwl:=C0.lt;have hRR:∀i z,w3.cell? ⟨w.heap.size,i,none⟩≠some (.int .u32 z):=fun i z e=>by
  have hC:w3.heap[w.heap.size]? = _:=C0;exact qDc
 have C3:=(((C0.set 0 (.bool q1)).set 1 (.slice a1 n1 c1)).set 2 (.bool q2)).set 3 (.slice a2 n2 c2);have b4:=Gu b3 (Ad w.heap.size) (.bool q1) (.slice a1 n1 c1) (.bool q2) (.slice a2 n2 c2);have g4:w3.grownBy ((((w3.setCell ⟨w.heap.size,0,none⟩ (.bool q1)).setCell ⟨w.heap.size,1,none⟩ (.slice a1 n1 c1)).setCell ⟨w.heap.size,2,none⟩ (.bool q2)).setCell ⟨w.heap.size,3,none⟩ (.slice a2 n2 c2)) (some w.heap.size):=Bf _ (Bf _ (Bf _ (Bf _ (A7 _ _))));have m0:=C0.cell 0 _ rfl;have m1:=C0.cell 1 _ rfl;have m2:=C0.cell 2 _ rfl;have m3:=C0.cell 3 _ rfl;have mf0:=C0.frozen 0;have mf1:=C0.frozen 1;have mf2:=C0.frozen 2;have mf3:=C0.frozen 3;have hGH:G≠w.heap.size:=fun e=>by rw [e,m0] at G0;cases G0
 have hz1:=hb1.size;have hz2:=k2.size;have F4:=Sr F3 hRR g4;have P4:=P3.butR g4 (fun k e=>by cases e;omega);have G04:=g4.cell G0 (by simp;exact hGH);have G14:=g4.cell G1 (by simp;exact hGH);have X4:=g4.cell X2 qJ;have hxl:=Aa _ _ X4;go_wp2_with fail;generalize (((w3.setCell ⟨w.heap.size,0,none⟩ (.bool q1)).setCell ⟨w.heap.size,1,none⟩ (.slice a1 n1 c1)).setCell ⟨w.heap.size,2,none⟩ (.bool q2)).setCell ⟨w.heap.size,3,none⟩ (.slice a2 n2 c2)=w4 at *;clear m0 m1 m2 m3 mf0 mf1 mf2 mf3 hRR C0 g4 F3 P3 O3 G0 G1 X2;refine wp_loop_rounds 2 ?_;rw [rounds_succ];go_wp2_with fail;refine Be ?_;intro w5 hw5;have k5:Below w4.heap.size w4 w5:=by rw [hw5];go_grown
 have S5:Blk w5 w4.heap.size #[.slice a3 n3 c3,.int .i64 1] 47:=by rw [hw5];exact Bi rfl _ _
 have b5:=b4.trans (k5.mono b4.size);clear hw5;refine (bM w5 _ n3 c3 a3 pA (P4.keep k5) smA qI 2 pS qA 1099511627776 qA qA Acy).mono ?_;rintro e w6 ⟨G6,hG6,rfl,Z6,hb6⟩;have b6:=b5.trans (hb6.mono b5.size);have S6:=S5.keep hb6;go_wp2_with fail;refine Be ?_;intro w7 hw7;have k7:Below w6.heap.size w6 w7:=by rw [hw7];go_grown
 have b7:=b6.trans (k7.mono b6.size);have S7:=S6.keep k7;clear hw7;refine (vP w7 (some ⟨G6,0,none⟩) 3 (Z6.keep k7)).mono ?_;rintro e w8 ⟨v8,rfl,row8,hb8⟩;have b8:=b7.trans (hb8.mono b7.size);have S8:=S7.keep hb8;obtain ⟨xs8,h81,h82⟩:=row8.ex;obtain ⟨a8,c8,rfl⟩:=K7 h81;obtain ⟨g8,rfl⟩:∃g,a8=some ⟨g,0,none⟩:=by
  rcases h81.2 with ⟨e,_⟩|⟨g,cap,cur,e,_⟩
  ·cases e
  ·cases e;exact ⟨g,rfl⟩
 obtain ⟨aM,nM,cM,eM,hM,oM⟩:=h82 0 pM rfl;obtain ⟨aP,nP,cP,eP,hP,oP⟩:=h82 1 pP rfl;have cM8:w8.cell? ⟨g8,0,none⟩=some (.slice aM nM cM):=World.ownsRow.cells h81 rfl 0 _ eM;have cP8:w8.cell? ⟨g8,1,none⟩=some (.slice aP nP cP):=World.ownsRow.cells h81 rfl 1 _ eP;have s0:=S8.cell 0 _ rfl;have s1:=S8.cell 1 _ rfl;have sl:=S8.lt;clear h81 h82 row8 eM eP;go_wp2_with fail;obtain ⟨i0,hi,hy0,hy1,hy2⟩:=info_parts vI;go_loopw [3,46] (fun v3 v46 wr=>∃(i:Nat),i≤2∧v46=.int .i64 i∧wr.ownsRow w8.heap.size 47 2 v3 i ([Value.slice aM nM cM,.int .i64 1,.slice aP nP cP,.int .i64 1].take (i*2))∧Below w8.heap.size w8 wr) (fun _ v46 _=>2-(intOf v46).toNat)
 case atStart=>exact ⟨0,by omega,rfl,World.ownsRow_nil _ _ _ _,Ac _ _⟩
 case round =>
  obtain ⟨i,hi2,rfl,hown,HBr⟩:=hrel;have HOW:=Ae hown;have hge:=Hd hown;replace cM8:=Bc HBr cM8;replace cP8:=Bc HBr cP8;replace s0:=Bc HBr s0;replace s1:=Bc HBr s1;have hs8:=HBr.size;clear hown;rcases i with _|_|i
  ·go_wp2_with (at_builtin;refine wpList_append_own _ rfl _ _ 40 rfl w8.heap.size 47 i0 _ 2 32 Tryz.underlying40 hi hy0 hy1 hy2 rfl qI _ 0 [] rfl (Bo HOW.out qF) ⟨wr.heap.size,0,none⟩ 1 1 [.slice aM nM cM,.int .i64 1] rfl rfl (Lt wr _ _) (by simp [Value.oneCell']) qO qA qB ?_;intro v7 w9 hown7 hgrow7 _);exact ⟨⟨1,by omega,rfl,hown7,(HBr.alloc HBr.size _).grown hgrow7 qJ (fun k hk=>by have:=hge k hk;omega)⟩,by decide⟩
  ·go_wp2_with (at_builtin;refine wpList_append_own _ rfl _ _ 40 rfl w8.heap.size 47 i0 _ 2 32 Tryz.underlying40 hi hy0 hy1 hy2 rfl qI _ 1 [.slice aM nM cM,.int .i64 1] rfl (Bo HOW.out qF) ⟨wr.heap.size,0,none⟩ 1 1 [.slice aP nP cP,.int .i64 1] rfl rfl (Lt wr _ _) (by simp [Value.oneCell']) qO qA qB ?_;intro v7 w9 hown7 hgrow7 _);exact ⟨⟨2,by omega,rfl,hown7,(HBr.alloc HBr.size _).grown hgrow7 qJ (fun k hk=>by have:=hge k hk;omega)⟩,by decide⟩
  ·obtain rfl:i=0:=by omega
   obtain ⟨gl,cl,hcl,rfl⟩:∃g cl,2≤cl∧u3=.slice (some ⟨g,0,none⟩) 2 cl:=by
    rcases HOW.out.2 with ⟨_,e⟩|⟨g,cap,cur,e,_,_,h,_⟩
    ·cases e
    ·exact ⟨g,cap,h,e⟩
   have l0:wr.cell? ⟨gl,0,none⟩=some (.slice aM nM cM):=World.ownsRow.cells HOW.out rfl 0 _ rfl;have l1:wr.cell? ⟨gl,1,none⟩=some (.int .i64 1):=World.ownsRow.cells HOW.out rfl 1 _ rfl;have l2:wr.cell? ⟨gl,2,none⟩=some (.slice aP nP cP):=World.ownsRow.cells HOW.out rfl 2 _ rfl;have l3:wr.cell? ⟨gl,3,none⟩=some (.int .i64 1):=World.ownsRow.cells HOW.out rfl 3 _ rfl;have hs5:=k5.size;have hs6:=hb6.size;have hs7:=k7.size;have hs88:=hb8.size;have kW:Below w4.heap.size w4 wr:=(((k5.trans (hb6.mono hs5)).trans (k7.mono qA)).trans (hb8.mono qA)).trans (HBr.mono qA);have bW:=b4.trans (kW.mono b4.size);have XW:=Bc kW X4;have FW:=F4.keep kW;have CW':=C3.keep kW;have m0:=CW'.cell 0 _ rfl;have m1:=CW'.cell 1 _ rfl;have m2:=CW'.cell 2 _ rfl;have m3:=CW'.cell 3 _ rfl;have HMP:=Ae (Ay (hM.keep HBr) (hP.keep HBr));go_wp2_with fail;rw [rounds_succ];go_wp2_with fail;refine (uM wr).mono ?_;rintro e w10 ⟨Lb,rfl,hLb,hb10⟩;have hs10:=hb10.size;go_wp2_with fail;refine (rF w10 gl cl aM nM cM 1 aP nP cP 1 117 #[.pointer (some ⟨Lb,0,none⟩)] (Bc hb10 l0) (Bc hb10 l1) (Bc hb10 l2) (Bc hb10 l3) (enters_of Tryz.func117 qC rfl) 1 qA qA
    (Ae fun W hW=>sJ W Lb nP cP nM cM aP aM 1 1 (Bc hW hLb) _ _ ((HMP.out.2.keep hb10).keep hW) ((HMP.out.1.keep hb10).keep hW))).mono ?_
   rintro e w11 ⟨rfl,hb11⟩;have k11:Below wr.heap.size wr w11:=hb10.trans (hb11.mono hs10);replace m0:=Bc k11 m0;replace m1:=Bc k11 m1;replace m2:=Bc k11 m2;replace m3:=Bc k11 m3;go_wp2_with fail;have C11:=CW'.keep k11;have cl11:=C11.lt;refine Cf (fun W=>W.cell? ⟨w.heap.size,0,none⟩=some (.bool q1)∧W.cell? ⟨w.heap.size,1,none⟩=some (.slice a1 n1 c1)∧W.cell? ⟨w.heap.size,2,none⟩=some (.bool q2)∧W.cell? ⟨w.heap.size,3,none⟩=some (.slice a2 n2 c2)) 3 qC qK (fun hHeld=>?_);(refine Bk.take 3 (i:=0) (v:=?_) rfl qC (fun _ _ _ h=>h) (Or.inl ⟨by rfl,?_⟩) qH ?_;rotate_left;(focus (intro w' hSw;(try dsimp only at hSw);go_simp;(try with_reducible rfl)));(try simp only [Act.put,Au,Av,Aw]));(refine Bk.take 2 (i:=1) (v:=?_) rfl qC (fun _ _ _ h=>h) (Or.inl ⟨by rfl,?_⟩) qH ?_;rotate_left;(focus (intro w' hSw;(try dsimp only at hSw);go_simp;(try with_reducible rfl)));(try simp only [Act.put,Au,Av,Aw]));(refine Bk.one (i:=2) rfl qC (fun K hK=>?_);go_simp;(go_at_call 54;(with_reducible refine (uU _ gl cl hcl).mono ?_);rintro e w12 ⟨rfl,hb12⟩;have hc12:Below w11.heap.size w11 w12:=(by first|exact hb12|exact Al qF (hb12.mono qB));replace m0:=Bc hc12 m0;replace m1:=Bc hc12 m1;replace m2:=Bc hc12 m2;replace m3:=Bc hc12 m3;have C12:=C11.keep hc12;have d0:=C12.frozen 0;have d1:=C12.frozen 1;have d2:=C12.frozen 2;have d3:=C12.frozen 3;have cl12:=C12.lt);(try go_wp2_with fail);refine hK.out _ _ (fun _=>qK) ?_;clear hK K;(try simp only [Act.put,Au,Av,Aw]));(refine Bk.one (i:=3) rfl qC (fun K hK=>?_);go_simp;refine hK.out _ _ (fun h=>absurd h qI) ?_;clear hK K;(try simp only [Act.put,Au,Av,Aw]));(refine Bk.one (i:=4) rfl qC (fun K hK=>?_);go_simp;refine hK.out _ _ (fun h=>absurd h qI) ?_;clear hK K;(try simp only [Act.put,Au,Av,Aw]));(refine Bk.one (i:=5) rfl qC (fun K hK=>?_);go_simp;refine hK.out _ _ (fun h=>absurd h qI) ?_;clear hK K;(try simp only [Act.put,Au,Av,Aw]));refine Bk.done qC ?_ _;have b12:=bW.trans ((k11.trans (hc12.mono (by have:=k11.size;omega))).mono bW.size);have F12:=((FW.keep k11).keep hc12);have g13:w12.grownBy ((((w12.setCell ⟨w.heap.size,0,none⟩ (.bool q1)).setCell ⟨w.heap.size,1,none⟩ (.slice a1 n1 c1)).setCell ⟨w.heap.size,2,none⟩ (.bool q2)).setCell ⟨w.heap.size,3,none⟩ (.slice a2 n2 c2)) (some w.heap.size):=Bf _ (Bf _ (Bf _ (Bf _ (A7 _ _))));have b13:=Gu b12 (Ad w.heap.size) (.bool q1) (.slice a1 n1 c1) (.bool q2) (.slice a2 n2 c2);have kk:=k11.trans (hc12.mono (by have:=k11.size;omega));have hRR:∀i z,w12.cell? ⟨w.heap.size,i,none⟩≠some (.int .u32 z):=fun i z e=>by
    have hC:w12.heap[w.heap.size]? = _:=C12;exact qDc
   go_wp2_with fail;refine bodyPost_ret (v:=.tuple #[.agg #[.bool q1,.slice a1 n1 c1,.bool q2,.slice a2 n2 c2],.slice (some ⟨gl,0,none⟩) 2 2,.int .i64 0]) (by simp [results,Tryz.results14,go_sem,m0,m1,m2,m3,cl12]) rfl ?_;have hRP:¬Uj w12 w.heap.size:=by
    have hC:w12.heap[w.heap.size]? = _:=C12;rintro (⟨c,e⟩|⟨c,e⟩)<;>(rw [hC] at e;simp at e)
   have hglH:gl≠w.heap.size:=fun e=>by
    have:=Bc kk l1;rw [e,m1] at this;cases this
   have hoM:=(oM.keep HBr).keep kk;have hoP:=(oP.keep HBr).keep kk;have hkT:=KpT.of_grown g13 (fun k e=>by cases e;exact hRP);exact ⟨q1,a1,n1,c1,q2,a2,n2,c2,gl,aM,nM,cM,aP,nP,cP,rfl,Sr F12 hRR g13,g13.cell (Bc kk l0) (by simp;exact hglH),g13.cell (Bc kk l1) (by simp;exact hglH),g13.cell (Bc kk l2) (by simp;exact hglH),g13.cell (Bc kk l3) (by simp;exact hglH),
    (Dz (HMP.out.1.keep kk) hoM hkT).1.mono (Ba _),(Dz (HMP.out.1.keep kk) hoM hkT).2.mono (Ba _),(Dz (HMP.out.2.keep kk) hoP hkT).1.mono (Ba _),(Dz (HMP.out.2.keep kk) hoP hkT).2.mono (Ba _),b13⟩
theorem vQ:(Tryz.prog.info? 60).map (fun i=>(i.zero,i.size,i.bytes))=some (some (.agg #[.bool false,.slice none 0 0,.slice none 0 0]),3,56):=by kernel_rfl
def Wl (w:World) (Br B:Nat) (v:Value) (ts:List VT):Prop :=
 ∃xs,w.ownsRow Br 60 3 v ts.length xs∧∀(i:Nat) (t:VT),ts[i]? = some t→∃u0 u1 u2 g,xs[i*3]? = some u0∧xs[i*3+1]? = some u1∧xs[i*3+2]? = some u2∧v.ownBlock=some g∧Bw w B (some g) u0 u1 u2 t
theorem Wl.next {w w':World} {Br B g:Nat} {v v':Value} {ts:List VT} {t:VT} {u0 u1 u2:Value} {cap:Nat} {xs:List Value} (h:w.ownsRow Br 60 3 v ts.length xs) (hxs:∀(i:Nat) (t:VT),ts[i]? = some t→∃u0 u1 u2 g,xs[i*3]? = some u0∧xs[i*3+1]? = some u1∧xs[i*3+2]? = some u2∧v.ownBlock=some g∧Bw w B (some g) u0 u1 u2 t)
  (ht:Bw w B (some w.heap.size) u0 u1 u2 t) (ht2:∀g,v.ownBlock=some g→Bw w B (some g) u0 u1 u2 t)
  (hv':v'=.slice (some ⟨g,0,none⟩) (ts.length+1) cap) (hown:w'.ownsRow Br 60 3 v' (ts.length+1) (xs++[u0,u1,u2])) (hg:w.grownBy w' v.ownBlock) (hgg:v.ownBlock=some g∨g=w.heap.size):Wl w' Br B v' (ts++[t]):=by
 have hlx:xs.length=ts.length*3:=h.1;have key:∀(t:VT) u0 u1 u2,(∀g,v.ownBlock=some g→Bw w B (some g) u0 u1 u2 t)→(v.ownBlock=none→Bw w B (some w.heap.size) u0 u1 u2 t)→Bw w' B (some g) u0 u1 u2 t:=fun t u0 u1 u2 k1 k2=>by
  cases hvo:v.ownBlock with
  | none =>
   have hb:Below w.heap.size w w':=by rw [hvo] at hg;exact ⟨hg.os,hg.tape,hg.output,hg.size,fun k hk=>hg.block k hk qG⟩
   have:=(k2 hvo).keep hb;rcases hgg with e|e
   ·rw [hvo] at e;cases e
   ·rw [e];exact this
  | some g0 =>
   have k:=k1 g0 hvo;obtain ⟨cur,hc⟩:=Pg h hvo;have hg0:w.grownBy w' (some g0):=by rw [←hvo];exact hg
   refine Bw.map (fun _ _=>⟨_,rfl⟩) (fun a n c l h1 h2=>?_) (fun b h1 ⟨p,v,hc⟩=>⟨fun g' e=>?_,fun p v h=>hg0.cell h (fun e=>(h1 g0 rfl).2 (Option.some.inj e))⟩) t.dep t (Ad _) k
   ·have:=X7 h1 (h2 g0 rfl) (fun cur' e=>by rw [hc] at e;simp at e) (fun cur' e=>by rw [hc] at e;simp at e) hg0;exact ⟨this.1,fun g' e=>this.2⟩
   ·cases e
    have h1':=h1 g0 rfl;have:b<w.heap.size:=Aa _ _ hc;refine ⟨h1'.1,?_⟩;rcases hgg with e|e
    ·rw [hvo] at e;cases e;exact h1'.2
    ·omega
 refine ⟨xs++[u0,u1,u2],by simpa using hown,fun i t' ht'=>?_⟩;have hvg:v'.ownBlock=some g:=by rw [hv'];rfl
 by_cases hi:i<ts.length
 ·rw [Az hi] at ht';obtain ⟨a0,a1,a2,g0,e0,e1,e2,e3,e4⟩:=hxs i t' ht';refine ⟨a0,a1,a2,g,by rw [Az qA];exact e0,by rw [Az qA];exact e1,by rw [Az qA];exact e2,hvg,key t' a0 a1 a2 (fun g' e=>?_) (fun e=>?_)⟩
  ·rw [e3] at e;cases e;exact e4
  ·rw [e3] at e;cases e
 ·obtain ⟨hlt,-⟩:=List.getElem?_eq_some_iff.1 ht';have:i=ts.length:=by simp at hlt;omega
  subst this;rw [A5 (Ad _)] at ht';simp at ht';subst ht';have e0:(xs++[u0,u1,u2])[ts.length*3]? = some u0:=by rw [A5 qA];simp [hlx]
  have e1:(xs++[u0,u1,u2])[ts.length*3+1]? = some u1:=by rw [A5 qA];simp [hlx]
  have e2:(xs++[u0,u1,u2])[ts.length*3+2]? = some u2:=by rw [A5 qA];simp [hlx]
  exact ⟨u0,u1,u2,g,e0,e1,e2,hvg,key t u0 u1 u2 ht2 (fun _=>ht)⟩
theorem Bw.set {w:World} {B g R o:Nat} {u v0 v1 v2:Value} {t:VT} (h:Bw w B (some g) v0 v1 v2 t) (hR:R<B) (hp:¬Uj w R):Bw (w.setCell ⟨R,o,none⟩ u) B (some g) v0 v1 v2 t:=by
 have hk:KpT w (w.setCell ⟨R,o,none⟩ u):=KpT.of_grown (row:=some R) (Bf _ (A7 _ _)) (fun k e=>by cases e;exact hp);exact Bw.map (fun _ h=>⟨_,rfl⟩) (fun a n c l h1 h2=>⟨(Dz h1 (h2 g rfl) hk).1,fun g' e=>(Dz h1 (h2 g rfl) hk).2⟩)
  (fun b h1 _=>⟨fun g' e=>by cases e;exact h1 g rfl,fun p v h=>(A6 _ _ _ _ (by have:=(h1 g rfl).1;show R≠b;omega)).trans h⟩) t.dep t (Ad _) h
theorem Blk.noPd {w:World} {R:Nat} {vs:Array Value} (h:Blk w R vs 60):¬Uj w R:=by
 have hC:w.heap[R]? = _:=h;rintro (⟨c,e⟩|⟨c,e⟩)<;>(rw [hC] at e;simp at e)
theorem Wl.vrow {w:World} {Br B g n cap:Nat} {ts:List VT} (h:Wl w Br B (.slice (some ⟨g,0,none⟩) n cap) ts):Di w B (some g) g 0 ts:=by
 obtain ⟨xs,k1,k2⟩:=h;refine Di.of fun i x hx=>?_
 obtain ⟨u0,u1,u2,g',e0,e1,e2,e3,e4⟩:=k2 i x hx;simp only [Value.ownBlock,Option.some.injEq] at e3;subst e3;have hc:=World.ownsRow.cells k1 (g:=g) rfl;have hadd:∀j,(⟨g,0,none⟩:Addr).add j=⟨g,j,none⟩:=fun j=>by unfold Addr.add;split<;>simp_all
 have c0:=hc _ _ e0;have c1:=hc _ _ e1;have c2:=hc _ _ e2;rw [hadd] at c0 c1 c2;exact ⟨u0,u1,u2,by rw [Nat.zero_add];exact c0,by rw [Nat.zero_add];exact c1,by rw [Nat.zero_add];exact c2,e4⟩
def jC (w:World) (t:VT) (e:Ending) (w':World):Prop:=∃u0 u1 u2,e=.returned (.agg #[u0,u1,u2])∧Bw w' w.heap.size (some w'.heap.size) u0 u1 u2 t∧Below w.heap.size w w'
def Qf (n:Nat):VT:=.node false (Im ((n:Int),1)) []
theorem Vz:∀n:Nat,n≤40→wt [(0,Ca ((n:Int),1) (1,1))]≤400000:=by decide +kernel
theorem xW:∀n:Nat,n≤40→Im ((n:Int),1)=if n=0 then [] else [(0,(n:Int),1)]:=by decide +kernel
theorem oL {w1:World} {R:Nat} {x0 x1 x2:Value} {t:TypeId} (h:Blk w1 R #[x0,x1,x2] t) (u0 u1 u2:Value):Blk (((w1.setCell ⟨R,0,none⟩ u0).setCell ⟨R,1,none⟩ u1).setCell ⟨R,2,none⟩ u2) R #[u0,u1,u2] t:=((h.set 0 u0).set 1 u1).set 2 u2
theorem Cd {w w1:World} {R:Nat} (h:Below w.heap.size w w1) (hR:w.heap.size≤R) (u0 u1 u2:Value):Below w.heap.size w (((w1.setCell ⟨R,0,none⟩ u0).setCell ⟨R,1,none⟩ u1).setCell ⟨R,2,none⟩ u2) :=
 ((h.setCell (p:=⟨R,0,none⟩) hR _).setCell (p:=⟨R,1,none⟩) hR _).setCell (p:=⟨R,2,none⟩) hR _
theorem Nl (w1:World) (R:Nat) (u0 u1 u2:Value):w1.grownBy (((w1.setCell ⟨R,0,none⟩ u0).setCell ⟨R,1,none⟩ u1).setCell ⟨R,2,none⟩ u2) (some R):=Bf _ (Bf _ (Bf _ (A7 _ _)))
theorem Py {w:World} {B B' B'' n c:Nat} {a:Γ} {l:Δ} {o:Option Nat} (h:Bd w B' a n c l) (ho:Bm w B'' a n c):Bw w B o (.bool false) (.slice a n c) (.slice none 0 0) (.node false l []):=by
 rw [Bw];exact ⟨rfl,⟨a,n,c,rfl,h.mono (Ba _),fun g e=>ho.mono (Ba _)⟩,none,0,rfl,by simp,by omega,fun _=>rfl,.inl rfl⟩
theorem Qi (w:World) (n:Nat) (hn:n≤40):Θ 137 #[.int .i64 n] w (jC w (Qf n)):=by
 have HB:=Ac w.heap.size w;go_enter Tryz.func137,Tryz.ntmps137;go_wp2_with fail;refine Be ?_;intro w0 hw0;have b0:Below w.heap.size w w0:=by rw [hw0];go_grown
 have R0:Blk w0 w.heap.size #[.bool false,.slice none 0 0,.slice none 0 0] 60:=by rw [hw0];exact Bi rfl _ _
 clear hw0;refine (Fh w0 n qA qA).mono ?_;rintro e w1 ⟨g1,a1,n1,c1,g2,a2,n2,c2,rfl,hF,hf1,hf2,hap,hb1⟩;have q1:=Co hF.top qA;have q2:=Co hF.low qI;have R1:=R0.keep hb1;have b1:=b0.trans (hb1.mono b0.size);go_wp2_with fail;refine (Rt w1 g1 a1 n1 c1 g2 a2 n2 c2 ((n:Int),1) hF qA qA (fun k=>Ah (Kf _ _) (Vz n hn))).mono ?_;rintro e w2 ⟨a3,n3,c3,rfl,P3,O3,hb2⟩;have R2:=R1.keep hb2;have b2:=b1.trans (hb2.mono b1.size);have r0:=R2.cell 0 _ rfl;have r1:=R2.cell 1 _ rfl;have r2:=R2.cell 2 _ rfl;have f0:=R2.frozen 0;have f1:=R2.frozen 1;have f2:=R2.frozen 2;have rl:=R2.lt;have rl1:=R1.lt;go_wp2_with fail;have g4:=Nl w2 w.heap.size (.bool false) (.slice a3 n3 c3) (.slice none 0 0);refine bodyPost_ret (v:=.agg #[.bool false,.slice a3 n3 c3,.slice none 0 0]) (by simp [results,Tryz.results137,go_sem,rl,r0,r1,r2]) rfl ?_;exact qCq
def N8 (w:World) (t:VT) (er:Int) (e:Ending) (w':World):Prop:=∃u0 u1 u2,e=.returned (.tuple #[.agg #[u0,u1,u2],.int .i64 er])∧Bw w' w.heap.size (some w'.heap.size) u0 u1 u2 t∧Below w.heap.size w w'
def fO:VT:=.node false [] []
theorem Kc {w1:World} {B g R:Nat} {v0 v1 v2:Value} {t:VT} (h:Bw w1 B (some g) v0 v1 v2 t) (hR:R<B) {x0 x1 x2:Value} (hb:Blk w1 R #[x0,x1,x2] 60) (u0 u1 u2:Value):Bw (((w1.setCell ⟨R,0,none⟩ u0).setCell ⟨R,1,none⟩ u1).setCell ⟨R,2,none⟩ u2) B (some g) v0 v1 v2 t:=((h.set hR hb.noPd).set hR (hb.set 0 u0).noPd).set hR ((hb.set 0 u0).set 1 u1).noPd
theorem Ab6 (w:World) (b:Bool):Θ 77 #[.bool b] w (N8 w (Qf (if b then 1 else 0)) 0):=by
 have HB:=Ac w.heap.size w;go_enter Tryz.func77,Tryz.ntmps77;cases b
 all_goals
  go_wp2_with fail;refine Be ?_;intro w0 hw0;have b0:Below w.heap.size w w0:=by rw [hw0];go_grown
  have R0:Blk w0 w.heap.size #[.bool false,.slice none 0 0,.slice none 0 0] 60:=by rw [hw0];exact Bi rfl _ _
  clear hw0
 ·refine (Qi w0 0 qA).mono ?_;exact qAx
 ·refine (Qi w0 1 qA).mono ?_;exact qAx
end Go.Proofs.YtnnhcbeiogaknaaGreatDoor
end
