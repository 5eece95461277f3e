/- Package factors: split's take: a factor is put behind the others, the rest is what is left of it. -/
import Derived.Test.YtnnhcbeiogaknaaGreatDoorQT36
set_option linter.unusedSimpArgs false
set_option linter.unusedVariables false
set_option maxRecDepth 100000
set_option maxHeartbeats 4000000
section
namespace Go.Proofs.YtnnhcbeiogaknaaGreatDoor
open Go.RowKit
def yQ (w:World) (Ob Rb Pb Br B':Nat) (L:List (List PT)) (f r2:List PT) (N:Nat) (w':World):Prop :=
 ∃v g,B1 w' Ob v∧(∃cur,w'.heap[Ob]? = some (.cells cur 97 (0,0)))∧F5 w' Br B' v (L++[f])∧Blk w' Rb #[.int .i64 0,.slice (some ⟨g,0,none⟩) (N+1) (N+1)] 92∧RdZ w' (some ⟨g,0,none⟩) (N+1) (zAt r2)∧w'.cell? ⟨Pb,0,none⟩=some (.int .i64 0)∧∀B,B≤Ob→B≤Rb→B≤w.heap.size→Below B w w'
theorem kP (w:World) (Ob Rb Pb Br B':Nat) (v:Value) (L:List (List PT)) (hL:L.length≤1000) (hO:B1 w Ob v) (hOt:∃cur,w.heap[Ob]? = some (.cells cur 97 (0,0))) (hrow:F5 w Br B' v L) (hOB:Ob<Br) (hRB:Rb<Br) (hPB:Pb<Br) (hBw:Br≤w.heap.size) (hBB:B'≤w.heap.size) (hOR:Ob≠Rb) (hPO:Pb≠Ob) (hPR:Pb≠Rb)
  (a:Option Addr) (n c:Nat) (fr:Nat→Int) (hR:Blk w Rb #[.int .i64 0,.slice a n c] 92) (hRz:RdZ w a n fr) (hn0:1≤n) (hv0:L=[]→v=.slice none 0 0) (hn:n≤1001) (hfr:∀k,k<n→-1099511627776≤fr k∧fr k≤1099511627776) (p0:w.cell? ⟨Pb,0,none⟩=some (.int .i64 0))
  (aq:Option Addr) (nq cq:Nat) (fq:Nat→Int) (hQ:RdZ w aq nq fq) (hnq:nq≤1001) (hfq:∀k,k<nq→-1099511627776≤fq k∧fq k≤1099511627776)
  (rq rr e r2:List PT) (h1:Hv fq nq=some rq) (h1s:Sm rq) (h2:Hv fr n=some rr) (h2s:Sm rr) (hfs:Sm (Ci rq)) (h3:Fs rr (Ci rq)=some (some e)) (hes:Sm e) (h4:Ci e=r2) (h4s:Sm r2) (h4n:r2≠[]) (N:Nat) (hN:Cz r2 0=(N:Int)) (hN1:N≤1000) (hz:∀t∈r2,-1099511627776≤t.2.1∧t.2.1≤1099511627776) :
  Calls Tryz.prog 109 #[.agg #[.int .i64 0,.slice aq nq cq],.pointer (some ⟨Ob,0,none⟩),.pointer (some ⟨Rb,0,none⟩),.pointer (some ⟨Pb,0,none⟩)] w (fun e w'=>e=.returned (.tuple #[])∧yQ w Ob Rb Pb Br B' L (Ci rq) r2 N w'):=by
 have HB:=Ac w.heap.size w;have HK:=Ae (Ay h1 (Ay h2 (Ay h3 (Ay h4 (Ay hN (Ay hz (Ay hfr hfq)))))));clear h1 h2 h3 hN hz hfr hfq;go_enter Tryz.func109,Tryz.ntmps109;go_wp2_with fail;refine Be ?_;intro w0 hw0;have b0:Below w.heap.size w w0:=by rw [hw0];go_grown
 clear hw0;refine (iE w0 aq nq cq fq (hQ.keep b0) hnq HK.out.2.2.2.2.2.2.2 rq HK.out.1).mono ?_;rintro e1 w1 ⟨a1,n1,c1,rfl,hp1,ho1,hb1⟩;have b1:=b0.trans (hb1.mono b0.size);go_wp2_with fail;refine (Jj hp1 h1s).mono ?_;rintro e1 w2 ⟨a2,n2,c2,rfl,hp2,ho2,hb2⟩;have b2:=b1.trans (hb2.mono b1.size);have O2:=hO.keep b2;have R2:=hR.keep b2;have hrow2:=hrow.keep b2;have hOt2:∃cur,w2.heap[Ob]? = some (.cells cur 97 (0,0)):=by obtain ⟨cur,e⟩:=hOt;exact ⟨cur,(b2.block _ (Ar.1 e).1).trans e⟩
 have p2:=Bb b2 p0;have hz2:=hRz.keep b2;clear hO hR hrow hOt p0 hRz hp1 ho1 hQ;obtain ⟨xs,hown,hxs⟩:=hrow2.ex;obtain ⟨i0,hi,hz0,hz1,hz2'⟩:=info_parts Mu;have HXS:=Ae hxs;have HOW:=Ae hown;have hge:=Ge hown;have hs2:=b2.size;have hs1:=b1.size;have hs0:=b0.size;have k2:Below w2.heap.size w2 (w2.alloc (.cells #[.slice a2 n2 c2] 25)):=Below.alloc (Ac _ _) (Ad _) _;have O3:=O2.keep k2;have HQ2:=Ae (Ay hp2 ho2);have hne1:some Ob≠v.ownBlock:=fun e=>by have:=hge _ e.symm;omega
 clear hxs hown hrow2 hp2 ho2;have oc:=O2.c0;go_upto_region 3 with (at_builtin;refine wpList_append_own _ rfl _ _ 97 rfl Br 25 i0 (.slice none 0 0) 1 24 Tryz.underlying97 hi hz0 hz1 hz2' rfl qJ _ L.length xs rfl (Bm HOW.out k2) ⟨w2.heap.size,0,none⟩ 1 1 [.slice a2 n2 c2] rfl rfl (cell_one_new _ _ _) (by simp [Value.oneCell']) qO qA qB ?_;intro v7 w7 hown7 hgrow7 _;obtain ⟨a7,c7,rfl⟩:=Nh hown7;have O7:=O3.row hgrow7 hne1;have oc7:=O7.c0;have of7:=O7.f0;have ol7:=O7.lt)
 refine By ?_;intro w8 hw8;have HRow:=F5.next (v:=v) (v':=.slice a7 (L.length+1) c7) (l:=Ci rq) (L:=L) (Bm HOW.out k2) (fun i' l' hl'=>by
  obtain ⟨a9,n9,c9,e9,hp9,ho9⟩:=HXS.out i' l' hl';exact ⟨a9,n9,c9,e9,hp9.keep k2,ho9.keep k2⟩) ((HQ2.out.1.mono qA).keep k2) ((HQ2.out.2.mono qA).keep k2) hown7 hgrow7
 have hap:∀g,a=some ⟨g,0,none⟩→g≠Ob∧some g≠v.ownBlock:=fun g e=>by
  obtain ⟨g',e',hc⟩:=hz2.ex;rw [e] at e'
  cases e'
  have h0:=hc 0 qA;refine ⟨fun e=>?_,fun e=>?_⟩
  ·subst e;rw [O2.c0] at h0;obtain ⟨_,_,e⟩:=Nh HOW.out;rw [e] at h0;simp at h0
  ·rcases L with _|⟨l0,L⟩
   ·rw [hv0 rfl] at e;cases e
   ·obtain ⟨a9,n9,c9,e9,_⟩:=HXS.out 0 l0 rfl;have hc9:=World.ownsRow.cells HOW.out e.symm 0 _ e9;rw [show (⟨g,0,none⟩:Addr).add 0=⟨g,0,none⟩ from rfl,h0] at hc9;simp at hc9
 have g8:w7.grownBy w8 (some Ob):=by rw [hw8];exact Bd _ (A6 _ _)
 have hz7:=hgrow7.size;simp only [Aj] at hz7;have hzw8:w8.heap.size=w7.heap.size:=by rw [hw8];simp
 have hRz8:RdZ w8 a n fr:=by
  obtain ⟨g,e,hc⟩:=hz2.ex;have:=hap g e;exact ⟨g,e,fun k hk=>g8.cell (hgrow7.cell (Bb k2 (hc k hk)) this.2) (by simp;exact this.1)⟩
 have R8:=((R2.keep k2).row hgrow7 (fun e=>by have:=hge _ e.symm;omega)).row g8 (by simp;exact hOR.symm);have p8:=g8.cell (hgrow7.cell (Bb k2 p2) (fun e=>by have:Br≤Pb:=hge _ e.symm;omega)) (by simp;exact hPO);have hOt8:∃cur,w8.heap[Ob]? = some (.cells cur 97 (0,0)):=by
  rw [hw8];refine Un ?_ 0 _;exact qBs
 have O8:B1 w8 Ob (.slice a7 (L.length+1) c7):=by rw [hw8];exact O7.set _
 have HR8:F5 w8 Br B' (.slice a7 (L.length+1) c7) (L++[Ci rq]):=by
  obtain ⟨xs8,h81,h82⟩:=HRow.ex;have hOt7:∃cur,w7.heap[Ob]? = some (.cells cur 97 (0,0)):=by
   exact qBs
  refine ⟨xs8,by rw [hw8];exact Kf h81 hOB,fun i l hl=>?_⟩;obtain ⟨a9,n9,c9,e9,hp9,ho9⟩:=h82 i l hl;have:=Du hp9 ho9 (KpT.of_grown g8 (fun k e=>by cases e;exact Vj hOt7));exact ⟨a9,n9,c9,e9,this⟩
 have hB8:∀B,B≤Ob→B≤Rb→B≤w.heap.size→Below B w w8:=fun B h1 h2 h3=>by
  have h7:Below B w w7:=(((b2.mono h3).trans (k2.mono qA)).grown hgrow7 qI (fun k hk=>by have:=hge k hk;omega));rw [hw8];exact h7.setCell (p:=⟨Ob,0,none⟩) h1 _
 have HQ7:Bc w8 0 a2 n2 c2 (Ci rq):=by
  have h9:=Du ((HQ2.out.1.keep k2)) ((HQ2.out.2.keep k2)) (KpT.of_grown hgrow7 (fun k e=>by
   obtain ⟨cur,hcur⟩:=Kv (Bm HOW.out k2) e;rintro (⟨c,e⟩|⟨c,e⟩)<;>(rw [hcur] at e;simp at e)))
  have hOt7:∃cur,w7.heap[Ob]? = some (.cells cur 97 (0,0)):=by
   exact qBs
  exact (Du h9.1 h9.2 (KpT.of_grown g8 (fun k e=>by cases e;exact Vj hOt7))).1.mono (A9 _)
 clear hw8 g8 hgrow7 hown7 O7 oc7 of7 ol7 HRow O3 k2 hap hne1 hge;have r0:=R8.cell 0 _ rfl;have r1:=R8.cell 1 _ rfl;go_wp2_with fail;refine (iE w8 a n c fr hRz8 hn HK.out.2.2.2.2.2.2.1 rr HK.out.2.1).mono ?_;rintro e1 w9 ⟨a9,n9,c9,rfl,hp9,ho9,hb9⟩;go_wp2_with fail;refine (Ng w9 _ n9 c9 0 n2 c2 a9 a2 rr (Ci rq) hp9 h2s (HQ7.keep hb9) hfs (some e) HK.out.2.2.1).mono ?_;rintro e1 w10 ⟨hb10,a10,n10,c10,rfl,hp10⟩;have hz8:=hb9.size;have hz9:=hb10.size;have k10:Below w8.heap.size w8 w10:=hb9.trans (hb10.mono hz8);replace r0:=Bb k10 r0;replace r1:=Bb k10 r1;replace p8:=Bb k10 p8;have R10:=R8.keep k10;have O10:=O8.keep k10;have HP10:=Ae hp10;have f0:=R10.frozen 0;have f1:=R10.frozen 1;have rl:=R10.lt;have pl:Pb<w10.heap.size:=Aa _ _ p8;clear hp10 hp9 ho9 R8 O8;go_wp2_with fail;go_region_held3 (fun W=>W.cell? ⟨Pb,0,none⟩=some (.int .i64 0)) (first|((try dsimp only);(repeat' apply Ay);all_goals (first|(with_reducible assumption)|(go_keep;done)|(simp [*,go_sem];done)))) (first
  | (go_at_call 22;(with_reducible refine (Jj (HP10.out.keep qF) hes).mono ?_);rintro e2 w11 ⟨a11,n11,c11,rfl,hp11,ho11,hb11⟩;have hc11:Below w10.heap.size w10 w11:=(by first|exact hb11|exact Al qF (hb11.mono qB));replace p8:=Bb hc11 p8;have z11:=hc11.size;have HP11:=Ae hp11;clear hp11 ho11)
  | (go_at_call 50;(with_reducible refine (Y9 _ _ n11 c11 a11 r2 (h4▸HP11.out.keep qF) h4s h4n N HK.out.2.2.2.2.1 hN1 1099511627776 qA qA HK.out.2.2.2.2.2.1).mono ?_);rintro e2 w12 ⟨g,hgf,rfl,hz12,hb12⟩;have hc12:Below w10.heap.size w10 w12:=hc11.trans (by first|exact hb12.mono qB|exact Al qF (hb12.mono qB));replace p8:=Bb hb12 p8;have z12:=hc12.size;have HZ12:=Ae hz12;replace r0:=Bb hc12 r0;replace r1:=Bb hc12 r1;have R12:=R10.keep hc12;have O12:=O10.keep hc12;have f0:=R12.frozen 0;have f1:=R12.frozen 1;have rl12:=R12.lt;clear hz12))
 go_wp2_with fail;have g13:w12.grownBy ((w12.setCell ⟨Rb,0,none⟩ (.int .i64 0)).setCell ⟨Rb,1,none⟩ (.slice (some ⟨g,0,none⟩) (N+1) (N+1))) (some Rb):=Bd _ (Bd _ (A6 _ _));have R13:=(R12.set 0 (.int .i64 0)).set 1 (.slice (some ⟨g,0,none⟩) (N+1) (N+1));have k12:Below w8.heap.size w8 w12:=k10.trans (hc12.mono qA);have HR12:=HR8.keep k12;have hOt12:∃cur,w12.heap[Ob]? = some (.cells cur 97 (0,0)):=by obtain ⟨cur,e⟩:=hOt8;exact ⟨cur,(k12.block _ (Ar.1 e).1).trans e⟩
 refine bodyPost_end (v:=.tuple #[]) (by simp [results,Tryz.results109,go_sem]) rfl ⟨rfl,.slice a7 (L.length+1) c7,g,O12.row g13 (by simp;exact hOR),?_,?_,R13,?_,g13.cell p8 (by simp;exact hPR),fun B h1 h2 h3=>?_⟩
 ·obtain ⟨cur,e⟩:=hOt12;exact ⟨cur,(g13.block Ob (Ar.1 e).1 (by simp;exact hOR)).trans e⟩
 ·obtain ⟨xs8,h81,h82⟩:=HR12.ex;refine ⟨xs8,Kf (Kf h81 hRB) hRB,fun i l hl=>?_⟩;obtain ⟨a9,n9,c9,e9,hp9,ho9⟩:=h82 i l hl;have:=Du hp9 ho9 (KpT.of_grown g13 (fun k e=>by
   cases e
   have hRB12:w12.heap[Rb]? = _:=R12;rintro (⟨c,e⟩|⟨c,e⟩)<;>(rw [hRB12] at e;simp at e)))
  exact ⟨a9,n9,c9,e9,this⟩
 ·obtain ⟨g',e,hc⟩:=HZ12.out.ex;cases e
  exact ⟨g,rfl,fun k hk=>g13.cell (hc k hk) qI⟩
 ·exact (((hB8 B h1 h2 h3).trans (k12.mono (by have:=(hB8 B h1 h2 h3).size;omega))).setCell (p:=⟨Rb,0,none⟩) h2 _).setCell (p:=⟨Rb,1,none⟩) h2 _
def lf (t:Int) (k:Nat):Int:=if k=0 then -t else 1
theorem zS:Hv (lf 1) 2=some pM:=by decide +kernel
theorem fa_2:Hv (zAt pA) 3=some pA:=by decide +kernel
theorem fa_3:Fs pA pM=some (some pP):=by decide +kernel
theorem vU:Ci pM=pM:=by decide +kernel
theorem pO:Ci pP=pP:=by decide +kernel
theorem xT:Hv (zAt pP) 2=some pP:=by decide +kernel
theorem zV:Fs pP pP=some (some [(0,1,1)]):=by decide +kernel
theorem zT:Ci [(0,((1,1):PC))]=[(0,1,1)]:=by decide +kernel
theorem fa_9:Cz pP 0=((1:Nat):Int):=by decide +kernel
theorem yG:Cz [(0,((1,1):PC))] 0=((0:Nat):Int):=by decide +kernel
theorem yH:∀k,k<3→-1099511627776≤zAt pA k∧zAt pA k≤1099511627776:=by decide +kernel
theorem tM:∀k,k<2→-1099511627776≤zAt pP k∧zAt pP k≤1099511627776:=by decide +kernel
theorem yJ:∀k,k<2→-1099511627776≤lf 1 k∧lf 1 k≤1099511627776:=by decide +kernel
theorem yE:∀t∈pP,-1099511627776≤t.2.1∧t.2.1≤1099511627776:=by decide +kernel
theorem zK:∀t∈[(0,((1,1):PC))],-1099511627776≤t.2.1∧t.2.1≤1099511627776:=by decide +kernel
theorem yM:Zo (zAt pA) 3 1 1:=by unfold Zo;decide +kernel
theorem xJ:Zo (zAt pA) 3 (-1) 1:=by unfold Zo;decide +kernel
theorem yK:(nvZ (zAt pA) 3 1 1 3).1=0:=by decide +kernel
theorem lN:Cz pA 0=((2:Nat):Int):=by decide +kernel
theorem yP:∀t∈pA,-1099511627776≤t.2.1∧t.2.1≤1099511627776:=by decide +kernel
theorem xP:∀t∈Ci pA,-100≤t.2.1∧t.2.1≤100:=by decide +kernel
theorem tP:Ci pA=pA:=by decide +kernel
theorem smA:Sm pA:=Sm.of (by decide +kernel)
theorem yO:Lu pA:=by intro t ht;simp [pA] at ht;rcases ht with rfl|rfl<;>decide
theorem F5.setP {w:World} {Br B' R o:Nat} {v u:Value} {L:List (List PT)} (h:F5 w Br B' v L) (hR:R<Br) (hp:¬Sl w R):F5 (w.setCell ⟨R,o,none⟩ u) Br B' v L:=by
 obtain ⟨xs,h1,h2⟩:=h.ex;refine ⟨xs,Kf h1 hR,fun i l hl=>?_⟩;obtain ⟨a,n,c,e,hp',ho⟩:=h2 i l hl;exact ⟨a,n,c,e,Du hp' ho (KpT.of_grown (row:=some R) (Bd _ (A6 _ _)) (fun k e=>by cases e;exact hp))⟩
theorem pW (w:World) (a:Option Addr) (c:Nat) (h:RdZ w a 3 (zAt pA)):Calls Tryz.prog 51 #[.agg #[.int .i64 0,.slice a 3 c]] w (fun e w'=>∃v,e=.returned v∧F5 w' w.heap.size 0 v [pM,pP]∧Below w.heap.size w w'):=by
 have HB:=Ac w.heap.size w;go_enter Tryz.func51,Tryz.ntmps51;go_wp2_with fail;refine By ?_;intro w0 hw0;have b0:Below w.heap.size w w0:=by rw [hw0];go_grown
 have z0:w0.heap.size=w.heap.size+1+1+1:=by rw [hw0];simp
 have P0:w0.cell? ⟨w.heap.size,0,none⟩=some (.int .i64 0):=by rw [hw0];simp [go_sem]
 have O0:Blk w0 (w.heap.size+1) #[.slice none 0 0] 97:=by rw [hw0];exact (Bj qG _ _).alloc _
 have R0:Blk w0 (w.heap.size+1+1) #[.int .i64 0,.slice a 3 c] 92:=by rw [hw0];exact Bj qG _ _
 have h0:=h.keep b0;clear hw0;have x0:=R0.cell 0 _ rfl;have x1:=R0.cell 1 _ rfl;refine wp_loop_rounds 2 ?_;rw [rounds_succ];go_wp2_with fail;refine (W9 w0 0 a 2 c qA).mono ?_;rintro e w1 ⟨rfl,hb1⟩;replace x0:=Bb hb1 x0;replace x1:=Bb hb1 x1;go_wp2_with fail;refine (lZ w1 a 3 c (zAt pA) (h0.keep hb1) qA qA (.inr (by decide +kernel)) (.inl (by decide +kernel)) yM xJ 1 (.inl ⟨rfl,yK⟩)).mono ?_;rintro e w2 ⟨G,cq,hcq,hG,rfl,g0,g1,hb2⟩;have z1:=hb1.size;have z2:=hb2.size;have k2:Below w0.heap.size w0 w2:=hb1.trans (hb2.mono z1);go_wp2_with fail;refine Be ?_;intro w3 hw3;have k23:Below w2.heap.size w2 w3:=by rw [hw3];go_grown
 have k3:Below w0.heap.size w0 w3:=k2.trans (k23.mono k2.size);clear hw3;have O3:=O0.keep k3;have z3:=k3.size;refine (kP w3 (w.heap.size+1) (w.heap.size+1+1) w.heap.size w0.heap.size 0 (.slice none 0 0) [] qG ⟨O3.cell 0 _ rfl,O3.frozen 0⟩ ⟨_,O3⟩ (F5.nil _ _ _) qA qA qA z3 (A9 _) qA qA qA
  a 3 c (zAt pA) (R0.keep k3) (h0.keep k3) qA (fun _=>rfl) qA yH (Bb k3 P0) (some ⟨G,0,none⟩) 2 cq (lf 1) ⟨G,rfl,fun k hk=>by
   rcases k with _|_|k
   ·exact Bb k23 g0
   ·exact Bb k23 g1
   ·omega⟩ qA yJ pM pA pP pP zS smM fa_2 smA (by rw [vU];exact smM) (by rw [vU];exact fa_3) smP pO smP qJ 1 fa_9 qA yE).mono ?_
 rintro e w4 ⟨rfl,v4,G4,O4,Ot4,row4,R4,Z4,P4,B4⟩;have k4:=B4 w.heap.size qA qA qA;have y0:=R4.cell 0 _ rfl;have y1:=R4.cell 1 _ rfl;clear O0 R0 P0 x0 x1 h0 O3;go_wp2_with fail;rw [rounds_succ];go_wp2_with fail;refine (W9 w4 0 _ 1 _ qA).mono ?_;rintro e w5 ⟨rfl,hb5⟩;replace y0:=Bb hb5 y0;replace y1:=Bb hb5 y1;go_wp2_with fail;refine wp_loop_rounds 1 ?_;rw [rounds_succ];go_wp2_with fail;refine (W9 w5 0 _ 1 _ qA).mono ?_;rintro e w6 ⟨rfl,hb6⟩;replace y0:=Bb hb6 y0;replace y1:=Bb hb6 y1;go_wp2_with fail;refine (W9 w6 0 _ 1 _ qA).mono ?_;rintro e w7 ⟨rfl,hb7⟩;replace y0:=Bb hb7 y0;replace y1:=Bb hb7 y1;have k7:Below w4.heap.size w4 w7:=(hb5.trans (hb6.mono hb5.size)).trans (hb7.mono (by have:=hb5.size;have:=hb6.size;omega));have z4:=k4.size;have z7:=k7.size;go_wp2_with fail;refine (kP w7 (w.heap.size+1) (w.heap.size+1+1) w.heap.size w0.heap.size 0 v4 [Ci pM] qG (O4.keep k7) (by obtain ⟨cur,e⟩:=Ot4;exact ⟨cur,(k7.block _ (Ar.1 e).1).trans e⟩) (F5.keep row4 k7) qA qA qA qA (A9 _) qA qA qA
  (some ⟨G4,0,none⟩) 2 2 (zAt pP) (R4.keep k7) (Z4.keep k7) qA (fun e=>by cases e) qA tM (Bb k7 P4) (some ⟨G4,0,none⟩) 2 2 (zAt pP) (Z4.keep k7) qA tM pP pP [(0,1,1)] [(0,1,1)] xT smP xT smP (by rw [pO];exact smP) (by rw [pO];exact zV) Ii zT Ii qJ 0 yG qA zK).mono ?_
 rintro e w8 ⟨rfl,v8,G8,O8,Ot8,row8,R8,Z8,P8,B8⟩;have k8:=B8 w.heap.size qA qA qA;have hb8:Below w.heap.size w w8:=(((b0.trans (k3.mono b0.size)).trans k4).trans (k7.mono qA)).trans k8;obtain ⟨xs8,h81,h82⟩:=row8.ex;obtain ⟨a8,c8,rfl⟩:=Nh h81;have hv:=O8.c0;have hvf:=O8.f0;have hvl:=O8.lt;have HRW:F5 w8 w0.heap.size 0 (.slice a8 2 c8) [pM,pP]:=by
  have:F5 w8 w0.heap.size 0 (.slice a8 2 c8) ([Ci pM]++[Ci pP]):=row8;rwa [vU,pO] at this
 have HF:=Ae (HRW.setP (R:=w.heap.size+1) (o:=0) (u:=.slice a8 2 c8) qA (Vj Ot8));have hbf:=hb8.setCell (p:=⟨w.heap.size+1,0,none⟩) (by show w.heap.size≤w.heap.size+1;omega) (.slice a8 2 c8);clear row8 HRW h81 h82;go_wp2_with fail;refine bodyPost_ret (v:=.slice a8 2 c8) (by simp [results,Tryz.results51,go_sem,hv,hvl]) rfl ?_;obtain ⟨xs9,h91,h92⟩:=HF.out.ex;exact ⟨_,rfl,⟨xs9,Ny h91 qA,h92⟩,hbf⟩
theorem bQ {w w':World} {a:Option Addr} {n c R:Nat} {d:List Nat} (h:RdL w a n c d) (hR:∀i z,w.cell? ⟨R,i,none⟩≠some (.int .u32 z)) (hg:w.grownBy w' (some R)):RdL w' a n c d:=by
 refine ⟨h.len,h.cap,h.few,h.top,h.small,h.cell.imp id fun⟨b,o,e,hc⟩=>⟨b,o,e,fun i hi=>hg.cell (hc i hi) fun e=>?_⟩⟩;cases e
 exact hR _ _ (hc i hi)
theorem Rh {w w':World} {R:Nat} {g1:Bool} {a1:Option Addr} {n1 c1:Nat} {p:Int} {g2:Bool} {a2:Option Addr} {n2 c2:Nat} {q:Int} (h:Bi w g1 a1 n1 c1 p g2 a2 n2 c2 q) (hR:∀i z,w.cell? ⟨R,i,none⟩≠some (.int .u32 z)) (hg:w.grownBy w' (some R)):Bi w' g1 a1 n1 c1 p g2 a2 n2 c2 q :=
 ⟨⟨h.top.neg,bQ h.top.rd hR hg⟩,⟨h.low.neg,bQ h.low.rd hR hg⟩,h.pos,h.red⟩
theorem pQ:(Tryz.prog.info? 47).map (fun i=>(i.zero,i.size,i.bytes))=some (some (.agg #[.slice none 0 0,.int .i64 0]),2,32):=by kernel_rfl
def vV (w:World) (e:Ending) (w':World):Prop:=∃g1 a1 n1 c1 g2 a2 n2 c2 G aM nM cM aP nP cP,e=.returned (.tuple #[.agg #[.bool g1,.slice a1 n1 c1,.bool g2,.slice a2 n2 c2],.slice (some ⟨G,0,none⟩) 2 2,.int .i64 0])∧Bi w' g1 a1 n1 c1 1 g2 a2 n2 c2 1 ∧
 w'.cell? ⟨G,0,none⟩=some (.slice aM nM cM)∧w'.cell? ⟨G,1,none⟩=some (.int .i64 1)∧w'.cell? ⟨G,2,none⟩=some (.slice aP nP cP)∧w'.cell? ⟨G,3,none⟩=some (.int .i64 1)∧Bc w' 0 aM nM cM pM∧Bk w' 0 aM nM cM∧Bc w' 0 aP nP cP pP∧Bk w' 0 aP nP cP∧Below w.heap.size w w'
theorem oN (w:World) (B n c:Nat) (a:Option Addr) (h:Bc w B a n c pA):Calls Tryz.prog 14 #[.slice a n c] w (vV w):=by
 have HB:=Ac w.heap.size w;go_enter Tryz.func14,Tryz.ntmps14;go_wp2_with fail;refine Be ?_;intro w0 hw0;have b0:Below w.heap.size w w0:=by rw [hw0];go_grown
 have C0:Blk w0 w.heap.size #[.bool false,.slice none 0 0,.bool false,.slice none 0 0] 34:=by rw [hw0];exact Bj rfl _ _
 clear hw0;have hz0:w.heap.size<w0.heap.size:=C0.lt;refine (jX w0 B n c a pA (h.keep b0) smA yO 2 lN qA qA (by rw [tP];exact smA) (by rw [tP];exact lN) xP).mono ?_;rintro e w1 ⟨g1,rfl,Z1,hb1⟩;have b1:=b0.trans (hb1.mono b0.size);replace C0:=C0.keep hb1;go_wp2_with fail;refine Be ?_;intro w2 hw2;have k2:Below w1.heap.size w1 w2:=by rw [hw2];go_grown
 have b2:=b1.trans (k2.mono b1.size);have X2:w2.cell? ⟨w1.heap.size,0,none⟩=some (.int .i64 0):=by rw [hw2];simp [go_sem]
 clear hw2;replace C0:=C0.keep k2;refine (wL w2 B n c a (562949953421312,1,1) [(0,-1,1)] pA (h.keep b2) smA sqA).mono ?_;rintro e w3 ⟨q1,a1,n1,c1,q2,a2,n2,c2,G,a3,n3,c3,rfl,F3,G0,G1,P3,O3,hb3⟩;have b3:=b2.trans (hb3.mono b2.size);replace C0:=C0.keep hb3;replace X2:=Bb hb3 X2;have hwl:=C0.lt;have hRR:∀i z,w3.cell? ⟨w.heap.size,i,none⟩≠some (.int .u32 z):=fun i z e=>by
  have hC:w3.heap[w.heap.size]? = _:=C0;exact qCz
 have C3:=(((C0.set 0 (.bool q1)).set 1 (.slice a1 n1 c1)).set 2 (.bool q2)).set 3 (.slice a2 n2 c2);have b4:=Gh b3 (Ad w.heap.size) (.bool q1) (.slice a1 n1 c1) (.bool q2) (.slice a2 n2 c2);have g4:w3.grownBy ((((w3.setCell ⟨w.heap.size,0,none⟩ (.bool q1)).setCell ⟨w.heap.size,1,none⟩ (.slice a1 n1 c1)).setCell ⟨w.heap.size,2,none⟩ (.bool q2)).setCell ⟨w.heap.size,3,none⟩ (.slice a2 n2 c2)) (some w.heap.size):=Bd _ (Bd _ (Bd _ (Bd _ (A6 _ _))));have m0:=C0.cell 0 _ rfl;have m1:=C0.cell 1 _ rfl;have m2:=C0.cell 2 _ rfl;have m3:=C0.cell 3 _ rfl;have mf0:=C0.frozen 0;have mf1:=C0.frozen 1;have mf2:=C0.frozen 2;have mf3:=C0.frozen 3;have hGH:G≠w.heap.size:=fun e=>by rw [e,m0] at G0;cases G0
 have hz1:=hb1.size;have hz2:=k2.size;have F4:=Rh F3 hRR g4;have P4:=P3.butR g4 (fun k e=>by cases e;omega);have G04:=g4.cell G0 (by simp;exact hGH);have G14:=g4.cell G1 (by simp;exact hGH);have X4:=g4.cell X2 qI;have hxl:=Aa _ _ X4;go_wp2_with fail;generalize (((w3.setCell ⟨w.heap.size,0,none⟩ (.bool q1)).setCell ⟨w.heap.size,1,none⟩ (.slice a1 n1 c1)).setCell ⟨w.heap.size,2,none⟩ (.bool q2)).setCell ⟨w.heap.size,3,none⟩ (.slice a2 n2 c2)=w4 at *;clear m0 m1 m2 m3 mf0 mf1 mf2 mf3 hRR C0 g4 F3 P3 O3 G0 G1 X2;refine wp_loop_rounds 2 ?_;rw [rounds_succ];go_wp2_with fail;refine Be ?_;intro w5 hw5;have k5:Below w4.heap.size w4 w5:=by rw [hw5];go_grown
 have S5:Blk w5 w4.heap.size #[.slice a3 n3 c3,.int .i64 1] 47:=by rw [hw5];exact Bj rfl _ _
 have b5:=b4.trans (k5.mono b4.size);clear hw5;refine (Y9 w5 _ n3 c3 a3 pA (P4.keep k5) smA qJ 2 lN qA 1099511627776 qA qA yP).mono ?_;rintro e w6 ⟨G6,hG6,rfl,Z6,hb6⟩;have b6:=b5.trans (hb6.mono b5.size);have S6:=S5.keep hb6;go_wp2_with fail;refine Be ?_;intro w7 hw7;have k7:Below w6.heap.size w6 w7:=by rw [hw7];go_grown
 have b7:=b6.trans (k7.mono b6.size);have S7:=S6.keep k7;clear hw7;refine (pW w7 (some ⟨G6,0,none⟩) 3 (Z6.keep k7)).mono ?_;rintro e w8 ⟨v8,rfl,row8,hb8⟩;have b8:=b7.trans (hb8.mono b7.size);have S8:=S7.keep hb8;obtain ⟨xs8,h81,h82⟩:=row8.ex;obtain ⟨a8,c8,rfl⟩:=Nh h81;obtain ⟨g8,rfl⟩:∃g,a8=some ⟨g,0,none⟩:=by
  rcases h81.2 with ⟨e,_⟩|⟨g,cap,cur,e,_⟩
  ·cases e
  ·cases e;exact ⟨g,rfl⟩
 obtain ⟨aM,nM,cM,eM,hM,oM⟩:=h82 0 pM rfl;obtain ⟨aP,nP,cP,eP,hP,oP⟩:=h82 1 pP rfl;have cM8:w8.cell? ⟨g8,0,none⟩=some (.slice aM nM cM):=World.ownsRow.cells h81 rfl 0 _ eM;have cP8:w8.cell? ⟨g8,1,none⟩=some (.slice aP nP cP):=World.ownsRow.cells h81 rfl 1 _ eP;have s0:=S8.cell 0 _ rfl;have s1:=S8.cell 1 _ rfl;have sl:=S8.lt;clear h81 h82 row8 eM eP;go_wp2_with fail;obtain ⟨i0,hi,hy0,hy1,hy2⟩:=info_parts pQ;go_loopw [3,46] (fun v3 v46 wr=>∃(i:Nat),i≤2∧v46=.int .i64 i∧wr.ownsRow w8.heap.size 47 2 v3 i ([Value.slice aM nM cM,.int .i64 1,.slice aP nP cP,.int .i64 1].take (i*2))∧Below w8.heap.size w8 wr) (fun _ v46 _=>2-(intOf v46).toNat)
 case atStart=>exact ⟨0,by omega,rfl,World.ownsRow_nil _ _ _ _,Ac _ _⟩
 case round =>
  obtain ⟨i,hi2,rfl,hown,HBr⟩:=hrel;have HOW:=Ae hown;have hge:=Ge hown;replace cM8:=Bb HBr cM8;replace cP8:=Bb HBr cP8;replace s0:=Bb HBr s0;replace s1:=Bb HBr s1;have hs8:=HBr.size;clear hown;rcases i with _|_|i
  ·go_wp2_with (at_builtin;refine wpList_append_own _ rfl _ _ 40 rfl w8.heap.size 47 i0 _ 2 32 Tryz.underlying40 hi hy0 hy1 hy2 rfl qJ _ 0 [] rfl (Bm HOW.out qF) ⟨wr.heap.size,0,none⟩ 1 1 [.slice aM nM cM,.int .i64 1] rfl rfl (G5 wr _ _) (by simp [Value.oneCell']) qO qA qB ?_;intro v7 w9 hown7 hgrow7 _);exact ⟨⟨1,by omega,rfl,hown7,(HBr.alloc HBr.size _).grown hgrow7 qI (fun k hk=>by have:=hge k hk;omega)⟩,by decide⟩
  ·go_wp2_with (at_builtin;refine wpList_append_own _ rfl _ _ 40 rfl w8.heap.size 47 i0 _ 2 32 Tryz.underlying40 hi hy0 hy1 hy2 rfl qJ _ 1 [.slice aM nM cM,.int .i64 1] rfl (Bm HOW.out qF) ⟨wr.heap.size,0,none⟩ 1 1 [.slice aP nP cP,.int .i64 1] rfl rfl (G5 wr _ _) (by simp [Value.oneCell']) qO qA qB ?_;intro v7 w9 hown7 hgrow7 _);exact ⟨⟨2,by omega,rfl,hown7,(HBr.alloc HBr.size _).grown hgrow7 qI (fun k hk=>by have:=hge k hk;omega)⟩,by decide⟩
  ·obtain rfl:i=0:=by omega
   obtain ⟨gl,cl,hcl,rfl⟩:∃g cl,2≤cl∧u3=.slice (some ⟨g,0,none⟩) 2 cl:=by
    rcases HOW.out.2 with ⟨_,e⟩|⟨g,cap,cur,e,_,_,h,_⟩
    ·cases e
    ·exact ⟨g,cap,h,e⟩
   have l0:wr.cell? ⟨gl,0,none⟩=some (.slice aM nM cM):=World.ownsRow.cells HOW.out rfl 0 _ rfl;have l1:wr.cell? ⟨gl,1,none⟩=some (.int .i64 1):=World.ownsRow.cells HOW.out rfl 1 _ rfl;have l2:wr.cell? ⟨gl,2,none⟩=some (.slice aP nP cP):=World.ownsRow.cells HOW.out rfl 2 _ rfl;have l3:wr.cell? ⟨gl,3,none⟩=some (.int .i64 1):=World.ownsRow.cells HOW.out rfl 3 _ rfl;have hs5:=k5.size;have hs6:=hb6.size;have hs7:=k7.size;have hs88:=hb8.size;have kW:Below w4.heap.size w4 wr:=(((k5.trans (hb6.mono hs5)).trans (k7.mono qA)).trans (hb8.mono qA)).trans (HBr.mono qA);have bW:=b4.trans (kW.mono b4.size);have XW:=Bb kW X4;have FW:=F4.keep kW;have CW':=C3.keep kW;have m0:=CW'.cell 0 _ rfl;have m1:=CW'.cell 1 _ rfl;have m2:=CW'.cell 2 _ rfl;have m3:=CW'.cell 3 _ rfl;have HMP:=Ae (Ay (hM.keep HBr) (hP.keep HBr));go_wp2_with fail;rw [rounds_succ];go_wp2_with fail;refine (oT wr).mono ?_;rintro e w10 ⟨Lb,rfl,hLb,hb10⟩;have hs10:=hb10.size;go_wp2_with fail;refine (lV w10 gl cl aM nM cM 1 aP nP cP 1 117 #[.pointer (some ⟨Lb,0,none⟩)] (Bb hb10 l0) (Bb hb10 l1) (Bb hb10 l2) (Bb hb10 l3) (enters_of Tryz.func117 qC rfl) 1 qA qA
    (Ae fun W hW=>mU W Lb nP cP nM cM aP aM 1 1 (Bb hW hLb) _ _ ((HMP.out.2.keep hb10).keep hW) ((HMP.out.1.keep hb10).keep hW))).mono ?_
   rintro e w11 ⟨rfl,hb11⟩;have k11:Below wr.heap.size wr w11:=hb10.trans (hb11.mono hs10);replace m0:=Bb k11 m0;replace m1:=Bb k11 m1;replace m2:=Bb k11 m2;replace m3:=Bb k11 m3;go_wp2_with fail;have C11:=CW'.keep k11;have cl11:=C11.lt;refine Bx (fun W=>W.cell? ⟨w.heap.size,0,none⟩=some (.bool q1)∧W.cell? ⟨w.heap.size,1,none⟩=some (.slice a1 n1 c1)∧W.cell? ⟨w.heap.size,2,none⟩=some (.bool q2)∧W.cell? ⟨w.heap.size,3,none⟩=some (.slice a2 n2 c2)) 3 qC qK (fun hHeld=>?_);(refine Bh.take 3 (i:=0) (v:=?_) rfl qC (fun _ _ _ h=>h) (Or.inl ⟨by rfl,?_⟩) qH ?_;rotate_left;(focus (intro w' hSw;(try dsimp only at hSw);go_simp;(try with_reducible rfl)));(try simp only [Act.put,Au,Av,Aw]));(refine Bh.take 2 (i:=1) (v:=?_) rfl qC (fun _ _ _ h=>h) (Or.inl ⟨by rfl,?_⟩) qH ?_;rotate_left;(focus (intro w' hSw;(try dsimp only at hSw);go_simp;(try with_reducible rfl)));(try simp only [Act.put,Au,Av,Aw]));(refine Bh.one (i:=2) rfl qC (fun K hK=>?_);go_simp;(go_at_call 54;(with_reducible refine (pD _ gl cl hcl).mono ?_);rintro e w12 ⟨rfl,hb12⟩;have hc12:Below w11.heap.size w11 w12:=(by first|exact hb12|exact Al qF (hb12.mono qB));replace m0:=Bb hc12 m0;replace m1:=Bb hc12 m1;replace m2:=Bb hc12 m2;replace m3:=Bb hc12 m3;have C12:=C11.keep hc12;have d0:=C12.frozen 0;have d1:=C12.frozen 1;have d2:=C12.frozen 2;have d3:=C12.frozen 3;have cl12:=C12.lt);(try go_wp2_with fail);refine hK.out _ _ (fun _=>qK) ?_;clear hK K;(try simp only [Act.put,Au,Av,Aw]));(refine Bh.one (i:=3) rfl qC (fun K hK=>?_);go_simp;refine hK.out _ _ (fun h=>absurd h qJ) ?_;clear hK K;(try simp only [Act.put,Au,Av,Aw]));(refine Bh.one (i:=4) rfl qC (fun K hK=>?_);go_simp;refine hK.out _ _ (fun h=>absurd h qJ) ?_;clear hK K;(try simp only [Act.put,Au,Av,Aw]));(refine Bh.one (i:=5) rfl qC (fun K hK=>?_);go_simp;refine hK.out _ _ (fun h=>absurd h qJ) ?_;clear hK K;(try simp only [Act.put,Au,Av,Aw]));refine Bh.done qC ?_ _;have b12:=bW.trans ((k11.trans (hc12.mono (by have:=k11.size;omega))).mono bW.size);have F12:=((FW.keep k11).keep hc12);have g13:w12.grownBy ((((w12.setCell ⟨w.heap.size,0,none⟩ (.bool q1)).setCell ⟨w.heap.size,1,none⟩ (.slice a1 n1 c1)).setCell ⟨w.heap.size,2,none⟩ (.bool q2)).setCell ⟨w.heap.size,3,none⟩ (.slice a2 n2 c2)) (some w.heap.size):=Bd _ (Bd _ (Bd _ (Bd _ (A6 _ _))));have b13:=Gh b12 (Ad w.heap.size) (.bool q1) (.slice a1 n1 c1) (.bool q2) (.slice a2 n2 c2);have kk:=k11.trans (hc12.mono (by have:=k11.size;omega));have hRR:∀i z,w12.cell? ⟨w.heap.size,i,none⟩≠some (.int .u32 z):=fun i z e=>by
    have hC:w12.heap[w.heap.size]? = _:=C12;exact qCz
   go_wp2_with fail;refine bodyPost_ret (v:=.tuple #[.agg #[.bool q1,.slice a1 n1 c1,.bool q2,.slice a2 n2 c2],.slice (some ⟨gl,0,none⟩) 2 2,.int .i64 0]) (by simp [results,Tryz.results14,go_sem,m0,m1,m2,m3,cl12]) rfl ?_;have hRP:¬Sl w12 w.heap.size:=by
    have hC:w12.heap[w.heap.size]? = _:=C12;rintro (⟨c,e⟩|⟨c,e⟩)<;>(rw [hC] at e;simp at e)
   have hglH:gl≠w.heap.size:=fun e=>by
    have:=Bb kk l1;rw [e,m1] at this;cases this
   have hoM:=(oM.keep HBr).keep kk;have hoP:=(oP.keep HBr).keep kk;have hkT:=KpT.of_grown g13 (fun k e=>by cases e;exact hRP);exact ⟨q1,a1,n1,c1,q2,a2,n2,c2,gl,aM,nM,cM,aP,nP,cP,rfl,Rh F12 hRR g13,g13.cell (Bb kk l0) (by simp;exact hglH),g13.cell (Bb kk l1) (by simp;exact hglH),g13.cell (Bb kk l2) (by simp;exact hglH),g13.cell (Bb kk l3) (by simp;exact hglH),
    (Du (HMP.out.1.keep kk) hoM hkT).1.mono (A9 _),(Du (HMP.out.1.keep kk) hoM hkT).2.mono (A9 _),(Du (HMP.out.2.keep kk) hoP hkT).1.mono (A9 _),(Du (HMP.out.2.keep kk) hoP hkT).2.mono (A9 _),b13⟩
end Go.Proofs.YtnnhcbeiogaknaaGreatDoor
end
