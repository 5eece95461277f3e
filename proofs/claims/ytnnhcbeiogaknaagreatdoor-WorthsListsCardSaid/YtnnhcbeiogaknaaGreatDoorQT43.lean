/- Parse of the shipped package. -/
import Derived.Test.YtnnhcbeiogaknaaGreatDoorQT42
set_option linter.unusedSimpArgs false
set_option linter.unusedVariables false
set_option maxRecDepth 100000
set_option maxHeartbeats 4000000
section
namespace Go.Proofs.YtnnhcbeiogaknaaGreatDoor
open Go.RowKit
theorem Sq (p q:Addr) (w:World) :
  CallsD Tryz.prog 159 #[.pointer (some p),.pointer (some q)] .returning w fun e u' w'=>e=.returned (.tuple #[])∧u'=.returning∧w'=w:=by
 have hnil:∀w:World,(binOp BinOp.neq 20 .nilIface .nilIface).run Tryz.prog w=.ok (.bool false) w:=fun _=>by kernel_rfl
 refine callsD_of_wpS Tryz.func159 rfl fun c₀ cs hu=>?_
 simp only [Tryz.ntmps159,List.size_toArray,List.length_cons,List.length_nil,Nat.reduceAdd,Nat.reduceSub,Array.replicate_succ,Array.replicate_zero,List.push_toArray,List.append_toArray,List.nil_append,List.cons_append];apply wpS_seq;apply wpS_region;simp [wpOpsS,go_sem,recoverD,hu,Exit.thenS];apply wpS_seq;apply wpS_region;simp [wpOpsS,go_sem,Exit.thenS,hnil];refine wpS_cond (t:=false) (by simp [Act.eval,Array.replicate]) ?_;exact qDk
theorem Cy {w w':World} {B R:Nat} (h:w.grownBy w' (some R)) (hR:B≤R) (hB:B≤w.heap.size):Below B w w':=⟨h.os,h.tape,h.output,h.size,fun k hk=>h.block k qA qI⟩
theorem Xs (b c:Nat) (w:World) (v1 v2:Value) (h1:w.cell? ⟨b,0,none⟩=some v1) (h2:w.cell? ⟨c,0,none⟩=some v2) (f1:w.frozen? ⟨b,0,none⟩=false) (f2:w.frozen? ⟨c,0,none⟩=false) (hne:b≠c) :
  CallsD Tryz.prog 159 #[.pointer (some ⟨b,0,none⟩),.pointer (some ⟨c,0,none⟩)] (.panicking Jt) w fun e u' w'=>e=.returned (.tuple #[])∧u'=.panicking [{ v:=.iface 201 (.agg #[]),recovered:=true }]∧w'=(w.setCell ⟨b,0,none⟩ (.slice none 0 0)).setCell ⟨c,0,none⟩ (.int .i64 4):=by
 have hta:∀w:World,(Instr.typeAssert (.iface 201 (.agg #[])) 20 201 false).run Tryz.prog w=.ok (.agg #[]) w:=fun _=>by kernel_rfl
 have hnil:∀w:World,(binOp BinOp.neq 20 (.iface 201 (.agg #[])) .nilIface).run Tryz.prog w=.ok (.bool true) w:=fun _=>by kernel_rfl
 refine callsD_of_wpS Tryz.func159 rfl fun c₀ cs hu=>?_
 simp only [Tryz.ntmps159,List.size_toArray,List.length_cons,List.length_nil,Nat.reduceAdd,Nat.reduceSub,Array.replicate_succ,Array.replicate_zero,List.push_toArray,List.append_toArray,List.nil_append,List.cons_append];apply wpS_seq;apply wpS_region;simp [wpOpsS,go_sem,recoverD,hu,Exit.thenS];apply wpS_seq;apply wpS_region;simp [wpOpsS,go_sem,Exit.thenS,hnil];refine wpS_cond (t:=true) (by simp [Act.eval,Array.replicate]) ?_;exact qDk
theorem nZ (w:World) (L:List UInt8) (hL:L.length<1000000000) (hV:Hu w) (h7:7<w.heap.size) :
  Calls Tryz.prog 89 #[.string ⟨L.toArray⟩] w fun e w'=>∃a n c,e=.returned (.tuple #[.slice a n c,.int .i64 (Ed L).2])∧Bc w' w.heap.size a n c (Ed L).1∧Bk w' w.heap.size a n c∧Below w.heap.size w w':=by
 go_enter_defers Tryz.func89,Tryz.ntmps89;by_cases h65:65536<L.length
 ·have h65':¬((L.length:Int)≤65536):=by omega
  have hz:Ed L=([],3):=by unfold Ed;rw [if_pos h65]
  rw [hz];go_wp2_with fail;simp [bodyPostD,Leaves,settle,results,Tryz.results89,go_sem];exact ⟨none,0,0,⟨rfl,rfl,rfl⟩,Bc.nil _ _,Bk.nil _ _,by go_grown⟩
 ·have h65':(L.length:Int)≤65536:=by omega
  obtain ⟨W0,hW0⟩:∃W0,W0=(((w.alloc (Obj.cells #[Value.slice none 0 0] 25)).alloc (Obj.cells #[Value.int IntKind.i64 0] 26)).alloc (Obj.cells #[Value.string { data:=L.toArray },Value.bool false] 204)):=⟨_,rfl⟩;have hr0:Ck W0 (w.heap.size+1+1) L false:=by rw [hW0];exact ⟨by simp [go_sem],by simp [go_sem],by simp [go_sem],by simp [go_sem]⟩
  have hb0:Below w.heap.size w W0:=by rw [hW0];go_grown
  have hV0:Hu W0:=hV.grown (Bw hb0 none) qG;have p0:W0.cell? ⟨w.heap.size,0,none⟩=some (.slice none 0 0):=by rw [hW0];simp [go_sem]
  have p1:W0.cell? ⟨w.heap.size+1,0,none⟩=some (.int .i64 0):=by rw [hW0];simp [go_sem]
  have q0:W0.frozen? ⟨w.heap.size,0,none⟩=false:=by rw [hW0];simp [go_sem]
  have q1:W0.frozen? ⟨w.heap.size+1,0,none⟩=false:=by rw [hW0];simp [go_sem]
  have hz0:w.heap.size+3≤W0.heap.size:=by rw [hW0];simp
  have hrs:=gV W0 (w.heap.size+1+1) L hr0 qA hV0 qA
  cases hx:Hc L with
  | none =>
   have hz:Ed L=([],4):=by unfold Ed;rw [if_neg h65,hx]
   rw [hz];go_wp2_with fail;rw [←hW0];refine hrs.mono ?_;rintro e w1 ⟨hg,hp⟩;rw [hx] at hp;subst hp;have c0:=hg.cell p0 qI;have c1:=hg.cell p1 qG;have d0:w1.frozen? ⟨w.heap.size,0,none⟩=false:=(Bv hg qA qI).trans q0;have d1:w1.frozen? ⟨w.heap.size+1,0,none⟩=false:=(Bv hg qA qG).trans q1;refine leaves_cons (f:=159) (args:=#[.pointer (some ⟨w.heap.size,0,none⟩),.pointer (some ⟨w.heap.size+1,0,none⟩)]) qG qL ?_;refine (Xs _ _ w1 _ _ c0 c1 d0 d1 qA).mono ?_;rintro e u' w2 ⟨rfl,rfl,rfl⟩;simp [c0,c1,Leaves,settle,results,Tryz.results89,go_sem];exact ⟨none,0,0,⟨rfl,rfl,rfl⟩,Bc.nil _ _,Bk.nil _ _,((hb0.trans (Cy hg qA qA)).trans (Cy (Bd _ (Cq _ _)) (Ad _) (by have:=hg.size;omega))).trans (Cy (R:=w.heap.size+1) (Bd _ (Cq _ _)) qA (by have:=hg.size;simp;omega))⟩
  | some x =>
   obtain ⟨l,m⟩:=x;cases m
   ·have hz:Ed L=(l,0):=by unfold Ed;rw [if_neg h65,hx];rfl
    rw [hz];go_wp2_with fail;rw [←hW0];refine hrs.mono ?_;rintro e w1 ⟨hg,hp⟩;rw [hx] at hp;obtain ⟨a,n,c,rfl,hP,hO,hr⟩:=hp;have c0:=hg.cell p0 qI;have c1:=hg.cell p1 qG;have d0:w1.frozen? ⟨w.heap.size,0,none⟩=false:=(Bv hg qA qI).trans q0;have d1:w1.frozen? ⟨w.heap.size+1,0,none⟩=false:=(Bv hg qA qG).trans q1;have t1:=hr.c1;go_wp2_with fail;refine leaves_cons (f:=159) (args:=#[.pointer (some ⟨w.heap.size,0,none⟩),.pointer (some ⟨w.heap.size+1,0,none⟩)]) qG qL ?_;refine (Sq _ _ _).mono ?_;rintro e u' w2 ⟨rfl,rfl,rfl⟩;simp [c0,c1,Leaves,settle,results,Tryz.results89,go_sem];have hzz:=hg.size;have gA:=Bd (R:=w.heap.size) (o:=0) (.slice a n c) (Bd (R:=w.heap.size) (o:=0) (.slice a n c) (Cq w1 (some w.heap.size)));have gB:=Bd (R:=w.heap.size+1) (o:=0) (.int .i64 0) (Cq ((w1.setCell ⟨w.heap.size,0,none⟩ (.slice a n c)).setCell ⟨w.heap.size,0,none⟩ (.slice a n c)) (some (w.heap.size+1)));exact ⟨a,n,c,⟨rfl,rfl,rfl⟩,((hP.butR gA (fun k hk=>by cases hk;omega)).butR gB (fun k hk=>by cases hk;omega)).mono hb0.size,((hO.butR gA (fun k hk=>by cases hk;omega)).butR gB (fun k hk=>by cases hk;omega)).mono hb0.size,((hb0.trans (Cy hg qA qA)).trans (Cy gA (Ad _) qA)).trans (Cy (R:=w.heap.size+1) gB qA qI)⟩
   ·have hz:Ed L=([],3):=by unfold Ed;rw [if_neg h65,hx];rfl
    rw [hz];go_wp2_with fail;rw [←hW0];refine hrs.mono ?_;rintro e w1 ⟨hg,hp⟩;rw [hx] at hp;obtain ⟨a,n,c,rfl,hP,hO,hr⟩:=hp;have c0:=hg.cell p0 qI;have c1:=hg.cell p1 qG;have d0:w1.frozen? ⟨w.heap.size,0,none⟩=false:=(Bv hg qA qI).trans q0;have d1:w1.frozen? ⟨w.heap.size+1,0,none⟩=false:=(Bv hg qA qG).trans q1;have t1:=hr.c1;go_wp2_with fail;refine leaves_cons (f:=159) (args:=#[.pointer (some ⟨w.heap.size,0,none⟩),.pointer (some ⟨w.heap.size+1,0,none⟩)]) qG qL ?_;refine (Sq _ _ _).mono ?_;rintro e u' w2 ⟨rfl,rfl,rfl⟩;simp [c0,c1,Leaves,settle,results,Tryz.results89,go_sem];have hzz:=hg.size;have gA:=Bd (R:=w.heap.size) (o:=0) (.slice none 0 0) (Bd (R:=w.heap.size) (o:=0) (.slice a n c) (Cq w1 (some w.heap.size)));have gB:=Bd (R:=w.heap.size+1) (o:=0) (.int .i64 3) (Cq ((w1.setCell ⟨w.heap.size,0,none⟩ (.slice a n c)).setCell ⟨w.heap.size,0,none⟩ (.slice none 0 0)) (some (w.heap.size+1)));exact ⟨none,0,0,⟨rfl,rfl,rfl⟩,Bc.nil _ _,Bk.nil _ _,((hb0.trans (Cy hg qA qA)).trans (Cy gA (Ad _) qA)).trans (Cy (R:=w.heap.size+1) gB qA qI)⟩
theorem Hu.keep {w w':World} (h:Hu w) (hb:Below w.heap.size w w'):Hu w':=h.grown (Bq hb) qG
theorem vM (w:World) (L:List UInt8) (l:List PT) (hl:(Ed L).1=l) (hL:L.length<1000000000) (hV:Hu w) (h7:7<w.heap.size) :
  Calls Tryz.prog 33 #[.string ⟨L.toArray⟩] w (Cj w l):=by
 have HP:=Ae (nZ w L hL hV h7);have HL:=Ae hl;clear hl hV;go_enter Tryz.func33,Tryz.ntmps33;go_wp2_with fail;refine HP.out.mono ?_;rintro e w1 ⟨a,n,c,rfl,hp,ho,hb⟩;rw [HL.out] at hp;go_wp2_with fail;go_ret;exact ⟨a,n,c,rfl,hp,ho,hb⟩
theorem Gs (w:World) (L:List UInt8) (l:List PT) (hl:(Ed L).1=l) (hL:L.length<1000000000) (hV:Hu w) (h7:7<w.heap.size) :
  Calls Tryz.prog 74 #[.string ⟨L.toArray⟩] w (eU w (.node false l [])):=by
 have HB:=Ac w.heap.size w;have HH:=Ae (Ay hl hV);clear hl hV;go_enter Tryz.func74,Tryz.ntmps74;go_wp2_with fail;refine Be ?_;intro w0 hw0;have b0:Below w.heap.size w w0:=by rw [hw0];go_grown
 have R0:Blk w0 w.heap.size #[.bool false,.slice none 0 0,.slice none 0 0] 60:=by rw [hw0];exact Bj rfl _ _
 clear hw0;refine (vM w0 L l HH.out.1 hL (HH.out.2.keep b0) (by have:=b0.size;omega)).mono ?_;rintro e w2 ⟨a3,n3,c3,rfl,P3,O3,hb2⟩;have R2:=R0.keep hb2;have b2:=b0.trans (hb2.mono b0.size);have r0:=R2.cell 0 _ rfl;have r1:=R2.cell 1 _ rfl;have r2:=R2.cell 2 _ rfl;have f0:=R2.frozen 0;have f1:=R2.frozen 1;have f2:=R2.frozen 2;have rl:=R2.lt;have rl1:=R0.lt;go_wp2_with fail;have g4:=Mo w2 w.heap.size (.bool false) (.slice a3 n3 c3) (.slice none 0 0);refine bodyPost_ret (v:=.agg #[.bool false,.slice a3 n3 c3,.slice none 0 0]) (by simp [results,Tryz.results74,go_sem,rl,r0,r1,r2]) rfl ?_;exact qCn
theorem rd1:(Ed [120,94,50,32,45,32,49]).1=[(562949953421312,1,1),(0,-1,1)]:=by decide +kernel
theorem rd2:(Ed [120,94,50]).1=[(562949953421312,1,1)]:=by decide +kernel
theorem rd3:(Ed [120,32,43,32,49]).1=[(281474976710656,1,1),(0,1,1)]:=by decide +kernel
theorem rd4:(Ed [120]).1=[(281474976710656,1,1)]:=by decide +kernel
theorem rd5:(Ed [49]).1=[(0,1,1)]:=by decide +kernel
theorem rd6:(Ed [54,53]).1=[(0,65,1)]:=by decide +kernel
inductive IsN:Nat→Prop
 | mk (n:Nat):IsN n
theorem oY (w:World) (s:ByteArray) (n:Nat) (_:IsN n) (hs:(Ed s.data.toList).1=Ju ((n:Int),1)) (hl:s.data.toList.length<1000000000) (hV:Hu w) (h7:7<w.heap.size) :
  Calls Tryz.prog 74 #[.string s] w (eU w (Hk n)):=by
 have h:=Gs w s.data.toList _ hs hl hV h7;rwa [show (⟨s.data.toList.toArray⟩:ByteArray)=s from by simp] at h
theorem St (w:World) (n:Nat) (hn:n≤30) (hV:Hu w) (h7:7<w.heap.size) :
  Calls Tryz.prog 28 #[.int .i64 n] w (eU w (Hk n)):=by
 have HB:=Ac w.heap.size w;have HH:=Ae hV;clear hV;have hc:n=0∨n=1∨n=2∨n=3∨n=4∨n=5∨n=6∨n=7∨n=8∨n=9∨n=10∨n=11∨n=12∨n=13∨n=14∨n=15∨n=16∨n=17∨n=18∨n=19∨n=20∨n=21∨n=22∨n=23∨n=24∨n=25∨n=26∨n=27∨n=28∨n=29∨n=30:=by omega
 clear hn;have HN:=IsN.mk n;rcases hc with rfl|rfl|rfl|rfl|rfl|rfl|rfl|rfl|rfl|rfl|rfl|rfl|rfl|rfl|rfl|rfl|rfl|rfl|rfl|rfl|rfl|rfl|rfl|rfl|rfl|rfl|rfl|rfl|rfl|rfl|rfl
 all_goals
  go_enter Tryz.func28,Tryz.ntmps28;go_wp2_with fail;refine wp_loop_rounds 2 ?_;rw [rounds_succ];go_wp2_with fail;(try (rw [rounds_succ];go_wp2_with fail));refine Be ?_;intro w1 hw1;have b1:Below w.heap.size w w1:=by rw [hw1];go_grown
  have R1:Blk w1 w.heap.size #[.bool false,.slice none 0 0,.slice none 0 0] 60:=by rw [hw1];exact Bj rfl _ _
  clear hw1;refine (oY w1 _ _ HN (by decide +kernel) (by decide +kernel) (HH.out.keep b1) (by have:=b1.size;omega)).mono ?_;rintro e w3 ⟨u0,u1,u2,rfl,hv,hb3⟩;obtain ⟨f,ax,nx,cx,ay,ny,cy,rfl,rfl,rfl⟩:=hv.form;have b3:=b1.trans (hb3.mono b1.size);have R3:=R1.keep hb3;have r0:=R3.cell 0 _ rfl;have r1:=R3.cell 1 _ rfl;have r2:=R3.cell 2 _ rfl;have f0:=R3.frozen 0;have f1:=R3.frozen 1;have f2:=R3.frozen 2;have rl:=R3.lt;have rl2:=R1.lt;have HV:=Ae hv;clear hv;go_wp2_with fail;refine bodyPost_ret (v:=.agg #[.bool f,.slice ax nx cx,.slice ay ny cy]) (by simp [results,Tryz.results28,go_sem,rl,r0,r1,r2]) rfl ?_;exact qBz
theorem pN {w:World} {B B' d1:Nat} {o o':Option Nat} {v0 v1 v2 u0 u1 u2:Value} {t:VT} (h:Bt w B o v0 v1 v2 t) (h':Bt w B' o' u0 u1 u2 t) (hok:VT.Ok 1 t) (hok':VT.Ok 1 t) :
  Calls Tryz.prog 26 #[.string ⟨#[61,61]⟩,.agg #[v0,v1,v2],.agg #[u0,u1,u2]] w (E9 w (Hk 1) 0):=by
 have HB:=Ac w.heap.size w;obtain ⟨f,a,n,c,a',n',c',rfl,rfl,rfl⟩:=h.form;obtain ⟨f2,e,m,d,e',m',d',rfl,rfl,rfl⟩:=h'.form;have HV:=Ae (Ay h.read h'.read);clear h h';go_enter Tryz.func26,Tryz.ntmps26;go_wp2_with fail;refine Be ?_;intro w1 hw1;have b1:Below w.heap.size w w1:=by rw [hw1];go_grown
 have A1:Blk w1 w.heap.size #[.bool f,.slice a n c,.slice a' n' c'] 60:=by rw [hw1];exact ((Bj rfl _ _).alloc _).alloc _
 have E1:Blk w1 (w.heap.size+1) #[.bool f2,.slice e m d,.slice e' m' d'] 60:=by rw [hw1];exact (Bj qG _ _).alloc _
 have R1:Blk w1 (w.heap.size+1+1) #[.bool false,.slice none 0 0,.slice none 0 0] 60:=by rw [hw1];exact Bj qG _ _
 clear hw1;refine (Ei (HV.out.1.keep b1) hok).mono ?_;rintro x w2 ⟨rfl,hb2⟩;have b2:=b1.trans (hb2.mono b1.size);have x0:=(E1.keep hb2).cell 0 _ rfl;have x1:=(E1.keep hb2).cell 1 _ rfl;have x2:=(E1.keep hb2).cell 2 _ rfl;go_wp2_with fail;refine (Ei (HV.out.2.keep b2) hok').mono ?_;rintro x w3 ⟨rfl,hb3⟩;have b3:=b2.trans (hb3.mono b2.size);have A3:=(A1.keep hb2).keep hb3;have E3:=(E1.keep hb2).keep hb3;have R3:=(R1.keep hb2).keep hb3;replace x0:=E3.cell 0 _ rfl;replace x1:=E3.cell 1 _ rfl;replace x2:=E3.cell 2 _ rfl;have y0:=A3.cell 0 _ rfl;have y1:=A3.cell 1 _ rfl;have y2:=A3.cell 2 _ rfl;go_wp2_with fail;refine (vX (HV.out.1.keep b3) (HV.out.2.keep b3) hok).mono ?_;rintro x w4 ⟨rfl,hb4⟩;have b4:=b3.trans (hb4.mono b3.size);have R4:=R3.keep hb4;go_wp2_with fail;refine (xH w4 true).mono ?_;rintro x w5 ⟨p0,p1,p2,rfl,hv,hb5⟩;obtain ⟨f5,ax,nx,cx,ay,ny,cy,rfl,rfl,rfl⟩:=hv.form;have b5:=Al b4 (hb5.mono (Below.size b4));have R5:=Blk.keep R4 hb5;have r0:=R5.cell 0 _ rfl;have r1:=R5.cell 1 _ rfl;have r2:=R5.cell 2 _ rfl;have f0:=R5.frozen 0;have f1:=R5.frozen 1;have f2':=R5.frozen 2;have rl:=R5.lt;have rl4:=Blk.lt R4;have HV5:=Ae hv;clear hv;go_wp2_with fail;refine bodyPost_ret (v:=.tuple #[.agg #[.bool f5,.slice ax nx cx,.slice ay ny cy],.int .i64 0]) (by simp [results,Tryz.results26,go_sem,rl,r0,r1,r2]) rfl ?_;exact ⟨_,_,_,rfl,((Ez HV5.out rl4 R5 _ _ _).other (.inl qG)).down (Below.size b4),Cf b5 qA _ _ _⟩
theorem iD {w:World} {B B':Nat} {o o':Option Nat} {v0 v1 v2 u0 u1 u2:Value} {l:List PT} (h:Bt w B o v0 v1 v2 (.node false l [])) (h':Bt w B' o' u0 u1 u2 (.node false [(0,65,1)] [])) (hok:VT.Ok 1 (.node false l [])) (hok':VT.Ok 1 (.node false [(0,65,1)] [])) :
  Calls Tryz.prog 26 #[.string ⟨#[94]⟩,.agg #[v0,v1,v2],.agg #[u0,u1,u2]] w (E9 w Pn 3):=by
 have HB:=Ac w.heap.size w;obtain ⟨f,a,n,c,a',n',c',rfl,rfl,rfl⟩:=h.form;obtain ⟨f2,e,m,d,e',m',d',rfl,rfl,rfl⟩:=h'.form;have HV:=Ae (Ay h.read h'.read);clear h h';go_enter Tryz.func26,Tryz.ntmps26;go_wp2_with fail;refine Be ?_;intro w1 hw1;have b1:Below w.heap.size w w1:=by rw [hw1];go_grown
 have A1:Blk w1 w.heap.size #[.bool f,.slice a n c,.slice a' n' c'] 60:=by rw [hw1];exact ((Bj rfl _ _).alloc _).alloc _
 have E1:Blk w1 (w.heap.size+1) #[.bool f2,.slice e m d,.slice e' m' d'] 60:=by rw [hw1];exact (Bj qG _ _).alloc _
 have R1:Blk w1 (w.heap.size+1+1) #[.bool false,.slice none 0 0,.slice none 0 0] 60:=by rw [hw1];exact Bj qG _ _
 clear hw1;refine (Ei (HV.out.1.keep b1) hok).mono ?_;rintro x w2 ⟨rfl,hb2⟩;have b2:=b1.trans (hb2.mono b1.size);have x0:=(E1.keep hb2).cell 0 _ rfl;have x1:=(E1.keep hb2).cell 1 _ rfl;have x2:=(E1.keep hb2).cell 2 _ rfl;go_wp2_with fail;refine (Ei (HV.out.2.keep b2) hok').mono ?_;rintro x w3 ⟨rfl,hb3⟩;have b3:=b2.trans (hb3.mono b2.size);have A3:=(A1.keep hb2).keep hb3;have E3:=(E1.keep hb2).keep hb3;have R3:=(R1.keep hb2).keep hb3;replace x0:=E3.cell 0 _ rfl;replace x1:=E3.cell 1 _ rfl;replace x2:=E3.cell 2 _ rfl;have y0:=A3.cell 0 _ rfl;have y1:=A3.cell 1 _ rfl;have y2:=A3.cell 2 _ rfl;have hx:=HV.out.1;have hx':=HV.out.2;rw [Bt] at hx hx';obtain ⟨hf,⟨_,_,_,e9,hp,_⟩,_⟩:=hx;obtain ⟨hf',⟨_,_,_,e9',hp',_⟩,_⟩:=hx';cases hf
 cases hf'
 cases e9
 cases e9'
 go_wp2_with fail;refine (bE w3 0 m d e [(0,65,1)] (hp'.keep b3) (fun t ht=>by rw [Ao.1 ht];exact ⟨by decide,by decide⟩) e' m' d' 65 rfl qA qA 64 qA).mono ?_;rintro x w4 ⟨rfl,hb4⟩;have b4:=b3.trans (hb4.mono b3.size);have R4:=R3.keep hb4;have y0:=(A3.keep hb4).cell 0 _ rfl;rw [if_neg qJ];have R5:=R4;have r0:=R5.cell 0 _ rfl;have r1:=R5.cell 1 _ rfl;have r2:=R5.cell 2 _ rfl;have f0:=R5.frozen 0;have f1:=R5.frozen 1;have f2':=R5.frozen 2;have rl:=R5.lt;go_wp2_with fail;refine bodyPost_ret (v:=.tuple #[.agg #[.bool false,.slice none 0 0,.slice none 0 0],.int .i64 3]) (by simp [results,Tryz.results26,go_sem,rl,r0,r1,r2]) rfl ?_;exact ⟨_,_,_,rfl,Mm (Bc.nil _ 0) (Bk.nil _ 0),(by first|exact Cf b4 qA _ _ _|exact Below.alloc (Cf b4 qA _ _ _) (by have:=Below.size b4;simp;omega) _)⟩
theorem eT {w:World} {B B':Nat} {o o':Option Nat} {v0 v1 v2 u0 u1 u2:Value} {l l':List PT} (h:Bt w B o v0 v1 v2 (.node false l [])) (h':Bt w B' o' u0 u1 u2 (.node false l' [])) (hok:VT.Ok 1 (.node false l [])) (hok':VT.Ok 1 (.node false l' [])) (hl:Lh l=none) (hw1:PW l) (hw2:PW l') :
  Calls Tryz.prog 26 #[.string ⟨#[60]⟩,.agg #[v0,v1,v2],.agg #[u0,u1,u2]] w (E9 w Pn 8):=by
 have HB:=Ac w.heap.size w;obtain ⟨f,a,n,c,a',n',c',rfl,rfl,rfl⟩:=h.form;obtain ⟨f2,e,m,d,e',m',d',rfl,rfl,rfl⟩:=h'.form;have HV:=Ae (Ay h.read h'.read);clear h h';go_enter Tryz.func26,Tryz.ntmps26;go_wp2_with fail;refine Be ?_;intro w1 hw1;have b1:Below w.heap.size w w1:=by rw [hw1];go_grown
 have A1:Blk w1 w.heap.size #[.bool f,.slice a n c,.slice a' n' c'] 60:=by rw [hw1];exact ((Bj rfl _ _).alloc _).alloc _
 have E1:Blk w1 (w.heap.size+1) #[.bool f2,.slice e m d,.slice e' m' d'] 60:=by rw [hw1];exact (Bj qG _ _).alloc _
 have R1:Blk w1 (w.heap.size+1+1) #[.bool false,.slice none 0 0,.slice none 0 0] 60:=by rw [hw1];exact Bj qG _ _
 clear hw1;refine (Ei (HV.out.1.keep b1) hok).mono ?_;rintro x w2 ⟨rfl,hb2⟩;have b2:=b1.trans (hb2.mono b1.size);have x0:=(E1.keep hb2).cell 0 _ rfl;have x1:=(E1.keep hb2).cell 1 _ rfl;have x2:=(E1.keep hb2).cell 2 _ rfl;go_wp2_with fail;refine (Ei (HV.out.2.keep b2) hok').mono ?_;rintro x w3 ⟨rfl,hb3⟩;have b3:=b2.trans (hb3.mono b2.size);have A3:=(A1.keep hb2).keep hb3;have E3:=(E1.keep hb2).keep hb3;have R3:=(R1.keep hb2).keep hb3;replace x0:=E3.cell 0 _ rfl;replace x1:=E3.cell 1 _ rfl;replace x2:=E3.cell 2 _ rfl;have y0:=A3.cell 0 _ rfl;have y1:=A3.cell 1 _ rfl;have y2:=A3.cell 2 _ rfl;have hx:=HV.out.1;have hx':=HV.out.2;rw [Bt] at hx hx';obtain ⟨hf,⟨_,_,_,e9,hp,_⟩,_⟩:=hx;obtain ⟨hf',⟨_,_,_,e9',hp',_⟩,_⟩:=hx';cases hf
 cases hf'
 cases e9
 cases e9'
 go_wp2_with fail;refine (Ut w3 0 n c a l (hp.keep b3) (fun t ht=>(hw1.good t ht).1) a' n' c').mono ?_;rintro x w4 ⟨g1,a1,n1,c1,g2,a2,n2,c2,rfl,_,hb4⟩;rw [hl];have b4:=b3.trans (hb4.mono b3.size);have R4:=R3.keep hb4;replace x0:=Bb hb4 x0;replace x1:=Bb hb4 x1;replace x2:=Bb hb4 x2;have el:=Aa _ _ x0;go_wp2_with fail;refine Be ?_;intro w5 hw5;have k5:Below w4.heap.size w4 w5:=by rw [hw5];go_grown
 clear hw5;have b5:=b4.trans (k5.mono b4.size);have R5':=R4.keep k5;refine (Ut w5 0 m d e l' (hp'.keep b5) (fun t ht=>(hw2.good t ht).1) e' m' d').mono ?_;rintro x w6 ⟨g1,a1,n1,c1,g2,a2,n2,c2,rfl,_,hb6⟩;have b6:=b5.trans (hb6.mono b5.size);have R6:=R5'.keep hb6
 cases Lh l' with
 | none =>
   exact qAy
 | some y =>
   exact qAy
theorem jE {w:World} {B B':Nat} {o o':Option Nat} {v0 v1 v2 u0 u1 u2:Value} {l l':List PT} (h:Bt w B o v0 v1 v2 (.node false l [])) (h':Bt w B' o' u0 u1 u2 (.node false l' [])) (hok:VT.Ok 1 (.node false l [])) (hok':VT.Ok 1 (.node false l' [])) (hl:Sm l) (hl':Sm l') (h0:l'≠[]) (hx:Fs l l'=some none) :
  Calls Tryz.prog 26 #[.string ⟨#[47]⟩,.agg #[v0,v1,v2],.agg #[u0,u1,u2]] w (E9 w Pn 12):=by
 have HB:=Ac w.heap.size w;obtain ⟨f,a,n,c,a',n',c',rfl,rfl,rfl⟩:=h.form;obtain ⟨f2,e,m,d,e',m',d',rfl,rfl,rfl⟩:=h'.form;have HV:=Ae (Ay h.read h'.read);clear h h';go_enter Tryz.func26,Tryz.ntmps26;go_wp2_with fail;refine Be ?_;intro w1 hw1;have b1:Below w.heap.size w w1:=by rw [hw1];go_grown
 have A1:Blk w1 w.heap.size #[.bool f,.slice a n c,.slice a' n' c'] 60:=by rw [hw1];exact ((Bj rfl _ _).alloc _).alloc _
 have E1:Blk w1 (w.heap.size+1) #[.bool f2,.slice e m d,.slice e' m' d'] 60:=by rw [hw1];exact (Bj qG _ _).alloc _
 have R1:Blk w1 (w.heap.size+1+1) #[.bool false,.slice none 0 0,.slice none 0 0] 60:=by rw [hw1];exact Bj qG _ _
 clear hw1;refine (Ei (HV.out.1.keep b1) hok).mono ?_;rintro x w2 ⟨rfl,hb2⟩;have b2:=b1.trans (hb2.mono b1.size);have x0:=(E1.keep hb2).cell 0 _ rfl;have x1:=(E1.keep hb2).cell 1 _ rfl;have x2:=(E1.keep hb2).cell 2 _ rfl;go_wp2_with fail;refine (Ei (HV.out.2.keep b2) hok').mono ?_;rintro x w3 ⟨rfl,hb3⟩;have b3:=b2.trans (hb3.mono b2.size);have A3:=(A1.keep hb2).keep hb3;have E3:=(E1.keep hb2).keep hb3;have R3:=(R1.keep hb2).keep hb3;replace x0:=E3.cell 0 _ rfl;replace x1:=E3.cell 1 _ rfl;replace x2:=E3.cell 2 _ rfl;have y0:=A3.cell 0 _ rfl;have y1:=A3.cell 1 _ rfl;have y2:=A3.cell 2 _ rfl;have hx:=HV.out.1;have hx':=HV.out.2;rw [Bt] at hx hx';obtain ⟨hf,⟨_,_,_,e9,hp,_⟩,_⟩:=hx;obtain ⟨hf',⟨_,_,_,e9',hp',_⟩,_⟩:=hx';cases hf
 cases hf'
 cases e9
 cases e9'
 have hr:∀w9,Below w3.heap.size w3 w9→Calls Tryz.prog 82 #[.int .u8 47,.slice a n c,.slice e m d] w9 (E9 w9 Pn 12):=fun w9 hb9=>by
  have hlm:=hp'.len;have hm:((m:Int)==0)=false:=by
   rw [beq_eq_false_iff_ne];rcases l' with _|⟨t,l'⟩
   ·exact absurd rfl h0
   ·simp at hlm;omega
  have HB3:=Ac w9.heap.size w9;go_enter Tryz.func82,Tryz.ntmps82;go_wp2_with fail;refine Be ?_;intro w4 hw4;have b4:Below w9.heap.size w9 w4:=by rw [hw4];go_grown
  have R4:Blk w4 w9.heap.size #[.bool false,.slice none 0 0,.slice none 0 0] 60:=by rw [hw4];exact Bj rfl _ _
  clear hw4;refine (Ng w4 0 n c 0 m d a e l l' (((hp.keep b3).keep hb9).keep b4) hl (((hp'.keep b3).keep hb9).keep b4) hl' none hx).mono ?_;rintro x w5 ⟨hb5,rfl⟩;have b5:=b4.trans (hb5.mono b4.size);have R5:=R4.keep hb5;have r0:=R5.cell 0 _ rfl;have r1:=R5.cell 1 _ rfl;have r2:=R5.cell 2 _ rfl;have f0:=R5.frozen 0;have f1:=R5.frozen 1;have f2':=R5.frozen 2;have rl:=R5.lt;go_wp2_with fail;refine bodyPost_ret (v:=.tuple #[.agg #[.bool false,.slice none 0 0,.slice none 0 0],.int .i64 12]) (by simp [results,Tryz.results82,go_sem,rl,r0,r1,r2]) rfl ?_;exact ⟨_,_,_,rfl,Mm (Bc.nil _ 0) (Bk.nil _ 0),Cf b5 (Ad _) _ _ _⟩
 go_wp2_with fail;go_region_held3 (fun W=>W.cell? ⟨w.heap.size,1,none⟩=some (.slice a n c)∧W.cell? ⟨w.heap.size+1,1,none⟩=some (.slice e m d)) (first|((try dsimp only);(repeat' apply Ay);all_goals (first|(with_reducible assumption)|(go_keep;done)|(simp [*,go_sem];done)))) (first
  | (go_at_call 82;(refine (hr w3.drew (Below.drew (Ac _ _))).mono ?_);rintro x w5 ⟨p0,p1,p2,rfl,hv,hb5⟩;obtain ⟨f5,ax,nx,cx,ay,ny,cy,rfl,rfl,rfl⟩:=hv.form;have k5:Below w3.heap.size w3 w5:=(Below.drew (Ac _ _)).trans (by rw [Ak] at hb5;exact hb5);have b5:=b3.trans (k5.mono b3.size);have R5:=R3.keep k5;have r0:=R5.cell 0 _ rfl;have r1:=R5.cell 1 _ rfl;have r2:=R5.cell 2 _ rfl;have f0:=R5.frozen 0;have f1:=R5.frozen 1;have f2':=R5.frozen 2;have rl:=R5.lt;have rl4:=R3.lt;have HV5:=Ae hv;clear hv;replace y1:=Bb k5 y1;replace x1:=Bb k5 x1))
 go_wp2_with fail;refine bodyPost_ret (v:=.tuple #[.agg #[.bool f5,.slice ax nx cx,.slice ay ny cy],.int .i64 12]) (by simp [results,Tryz.results26,go_sem,rl,r0,r1,r2]) rfl ?_;exact ⟨_,_,_,rfl,((Ez HV5.out (by rw [Ak];exact rl4) R5 _ _ _).other (.inl qG)).down (by rw [Ak];exact b3.size),Cf b5 qA _ _ _⟩
end Go.Proofs.YtnnhcbeiogaknaaGreatDoor
end
