/- Package reckonerlaw19: Sum, number; the closed texts are read. Condition: the variable at block 7. -/
import Derived.Test.YtnnhcbeiogaknaaGreatDoorQV42
set_option linter.unusedSimpArgs false
set_option linter.unusedVariables false
set_option maxRecDepth 100000
set_option maxHeartbeats 4000000
section
namespace Go.Proofs.YtnnhcbeiogaknaaGreatDoor
open Go.RowKit
theorem If.keep {w w':World} (h:If w) (hb:Below w.heap.size w w'):If w':=h.grown (Bt hb) qG
theorem Aaw (w:World) (L:List UInt8) (l:Δ) (hl:(Ek L).1=l) (hL:L.length<1000000000) (hV:If w) (h7:7<w.heap.size) :
  Θ 33 #[.string ⟨L.toArray⟩] w (Cl w l):=by
 have HP:=Ae (tQ w L hL hV h7);have HL:=Ae hl;clear hl hV;go_enter Tryz.func33,Tryz.ntmps33;go_wp2_with fail;refine HP.out.mono ?_;rintro e w1 ⟨a,n,c,rfl,hp,ho,hb⟩;rw [HL.out] at hp;go_wp2_with fail;go_ret;exact ⟨a,n,c,rfl,hp,ho,hb⟩
theorem Hj (w:World) (L:List UInt8) (l:Δ) (hl:(Ek L).1=l) (hL:L.length<1000000000) (hV:If w) (h7:7<w.heap.size) :
  Θ 74 #[.string ⟨L.toArray⟩] w (jC w (.node false l [])):=by
 have HB:=Ac w.heap.size w;have HH:=Ae (Ay hl hV);clear hl hV;go_enter Tryz.func74,Tryz.ntmps74;go_wp2_with fail;refine Be ?_;intro w0 hw0;have b0:Below w.heap.size w w0:=by rw [hw0];go_grown
 have R0:Blk w0 w.heap.size #[.bool false,.slice none 0 0,.slice none 0 0] 60:=by rw [hw0];exact Bi rfl _ _
 clear hw0;refine (Aaw w0 L l HH.out.1 hL (HH.out.2.keep b0) (by have:=b0.size;omega)).mono ?_;rintro e w2 ⟨a3,n3,c3,rfl,P3,O3,hb2⟩;have R2:=R0.keep hb2;have b2:=b0.trans (hb2.mono b0.size);have r0:=R2.cell 0 _ rfl;have r1:=R2.cell 1 _ rfl;have r2:=R2.cell 2 _ rfl;have f0:=R2.frozen 0;have f1:=R2.frozen 1;have f2:=R2.frozen 2;have rl:=R2.lt;have rl1:=R0.lt;go_wp2_with fail;have g4:=Nl w2 w.heap.size (.bool false) (.slice a3 n3 c3) (.slice none 0 0);refine bodyPost_ret (v:=.agg #[.bool false,.slice a3 n3 c3,.slice none 0 0]) (by simp [results,Tryz.results74,go_sem,rl,r0,r1,r2]) rfl ?_;exact qCq
theorem rd1:(Ek [120,94,50,32,45,32,49]).1=[(562949953421312,1,1),(0,-1,1)]:=by decide +kernel
theorem rd2:(Ek [120,94,50]).1=[(562949953421312,1,1)]:=by decide +kernel
theorem rd3:(Ek [120,32,43,32,49]).1=[(281474976710656,1,1),(0,1,1)]:=by decide +kernel
theorem rd4:(Ek [120]).1=[(281474976710656,1,1)]:=by decide +kernel
theorem rd5:(Ek [49]).1=[(0,1,1)]:=by decide +kernel
theorem rd6:(Ek [54,53]).1=[(0,65,1)]:=by decide +kernel
inductive IsN:Nat→Prop
 | mk (n:Nat):IsN n
theorem uR (w:World) (s:ByteArray) (n:Nat) (_:IsN n) (hs:(Ek s.data.toList).1=Im ((n:Int),1)) (hl:s.data.toList.length<1000000000) (hV:If w) (h7:7<w.heap.size) :
  Θ 74 #[.string s] w (jC w (Qf n)):=by
 have h:=Hj w s.data.toList _ hs hl hV h7;rwa [show (⟨s.data.toList.toArray⟩:ByteArray)=s from by simp] at h
theorem eE (w:World) (n:Nat) (hn:n≤30) (hV:If w) (h7:7<w.heap.size) :
  Θ 28 #[.int .i64 n] w (jC w (Qf n)):=by
 have HB:=Ac w.heap.size w;have HH:=Ae hV;clear hV;have hc:n=0∨n=1∨n=2∨n=3∨n=4∨n=5∨n=6∨n=7∨n=8∨n=9∨n=10∨n=11∨n=12∨n=13∨n=14∨n=15∨n=16∨n=17∨n=18∨n=19∨n=20∨n=21∨n=22∨n=23∨n=24∨n=25∨n=26∨n=27∨n=28∨n=29∨n=30:=by omega
 clear hn;have HN:=IsN.mk n;rcases hc with rfl|rfl|rfl|rfl|rfl|rfl|rfl|rfl|rfl|rfl|rfl|rfl|rfl|rfl|rfl|rfl|rfl|rfl|rfl|rfl|rfl|rfl|rfl|rfl|rfl|rfl|rfl|rfl|rfl|rfl|rfl
 all_goals
  go_enter Tryz.func28,Tryz.ntmps28;go_wp2_with fail;refine wp_loop_rounds 2 ?_;rw [rounds_succ];go_wp2_with fail;(try (rw [rounds_succ];go_wp2_with fail));refine Be ?_;intro w1 hw1;have b1:Below w.heap.size w w1:=by rw [hw1];go_grown
  have R1:Blk w1 w.heap.size #[.bool false,.slice none 0 0,.slice none 0 0] 60:=by rw [hw1];exact Bi rfl _ _
  clear hw1;refine (uR w1 _ _ HN (by decide +kernel) (by decide +kernel) (HH.out.keep b1) (by have:=b1.size;omega)).mono ?_;rintro e w3 ⟨u0,u1,u2,rfl,hv,hb3⟩;obtain ⟨f,ax,nx,cx,ay,ny,cy,rfl,rfl,rfl⟩:=hv.form;have b3:=b1.trans (hb3.mono b1.size);have R3:=R1.keep hb3;have r0:=R3.cell 0 _ rfl;have r1:=R3.cell 1 _ rfl;have r2:=R3.cell 2 _ rfl;have f0:=R3.frozen 0;have f1:=R3.frozen 1;have f2:=R3.frozen 2;have rl:=R3.lt;have rl2:=R1.lt;have HV:=Ae hv;clear hv;go_wp2_with fail;refine bodyPost_ret (v:=.agg #[.bool f,.slice ax nx cx,.slice ay ny cy]) (by simp [results,Tryz.results28,go_sem,rl,r0,r1,r2]) rfl ?_;exact ⟨_,_,_,rfl,((Kc HV.out rl2 R3 _ _ _).other (.inl qG)).down b1.size,Cd b3 (Ad _) _ _ _⟩
theorem mQ:Wg=Im (((1:Nat):Int),1):=by decide +kernel
theorem lT (n:Nat) (h:n≤3):tJ n≤344:=by
 have hc:n=0∨n=1∨n=2∨n=3:=by omega
 rcases hc with rfl|rfl|rfl|rfl<;>decide
theorem Zp {w:World} {a a':Γ} {n c n' c' i:Nat} {l:Δ} (hl:PW l) (hd:Lf 6 l) (h8:l.length≤8) (hf:Cj 2 l) (hi:i≤3) (h:Bd w 0 a n c (Gy l i)) (h':Bd w 0 a' n' c' l) :
  Θ 11 #[.slice a n c,.slice a' n' c'] w (F7 w (Gy l (i+1))):=by
 have hp:=Pf hl hd i qA;have hk:=gI hl hd h8 hf (n:=i) qA;have hn:=pY hl hd h8 hi;have e1:=h.len;have e2:=h'.len;have ho:=Gv hp.deg hd qA;have hK:=lT i hi;exact yA w 0 a n c (Gy l i) h hp.pw (tJ i) hk 0 a' n' c' l h' hl 2 hf qA qA (by have:=Nat.mul_le_mul (show n≤120 by omega) (show n'≤8 by omega);omega) ho (fun k=>Ah (Xx hp.pw hl hk hf ho k) (by have:=Nat.mul_le_mul h8 (show tJ i+2+1≤347 by omega);omega))
theorem jA (w:World) (n:Nat) (hn:n≤40):Θ 137 #[.int .i64 n] w (fun e w'=>∃a m c,e=.returned (.agg #[.bool false,.slice a m c,.slice none 0 0])∧Bd w' w.heap.size a m c (Im ((n:Int),1))∧Below w.heap.size w w'):=by
 have HB:=Ac w.heap.size w;go_enter Tryz.func137,Tryz.ntmps137;go_wp2_with fail;refine Be ?_;intro w0 hw0;have b0:Below w.heap.size w w0:=by rw [hw0];go_grown
 have R0:Blk w0 w.heap.size #[.bool false,.slice none 0 0,.slice none 0 0] 60:=by rw [hw0];exact Bi rfl _ _
 clear hw0;refine (Fh w0 n qA qA).mono ?_;rintro e w1 ⟨g1,a1,n1,c1,g2,a2,n2,c2,rfl,hF,hf1,hf2,hap,hb1⟩;have q1:=Co hF.top qA;have q2:=Co hF.low qI;have R1:=R0.keep hb1;have b1:=b0.trans (hb1.mono b0.size);go_wp2_with fail;refine (Rt w1 g1 a1 n1 c1 g2 a2 n2 c2 ((n:Int),1) hF qA qA (fun k=>Ah (Kf _ _) (Vz n hn))).mono ?_;rintro e w2 ⟨a3,n3,c3,rfl,P3,O3,hb2⟩;have R2:=R1.keep hb2;have b2:=b1.trans (hb2.mono b1.size);have r0:=R2.cell 0 _ rfl;have r1:=R2.cell 1 _ rfl;have r2:=R2.cell 2 _ rfl;have f0:=R2.frozen 0;have f1:=R2.frozen 1;have f2:=R2.frozen 2;have rl:=R2.lt;have rl1:=R1.lt;go_wp2_with fail;refine bodyPost_ret (v:=.agg #[.bool false,.slice a3 n3 c3,.slice none 0 0]) (by simp [results,Tryz.results137,go_sem,rl,r0,r1,r2]) rfl ?_;exact ⟨_,_,_,rfl,(Gs P3 rl1 _ _ _).mono b1.size,Cd b2 (Ad _) _ _ _⟩
theorem xQ (w:World) (a:Γ) (n c:Nat) (l:Δ) (h:Bd w 0 a n c l) (hl:PW l) (hd:Lf 6 l) (h8:l.length≤8) (hf:Cj 2 l) (N:Nat) (hN:N≤4) :
  Θ 81 #[.slice a n c,.int .i64 N] w (Hh w (Gy l N)):=by
 have HB:=Ac w.heap.size w;have HH:=Ae (Ay h (Ay hl (Ay hd (Ay h8 hf))));clear h hl hd h8 hf;go_enter Tryz.func81,Tryz.ntmps81;go_wp2_with fail;refine Be ?_;intro w0 hw0;have b0:Below w.heap.size w w0:=by rw [hw0];go_grown
 have R0:Blk w0 w.heap.size #[.bool false,.slice none 0 0,.slice none 0 0] 60:=by rw [hw0];exact Bi rfl _ _
 clear hw0;refine (jA w0 1 qA).mono ?_;rintro e w1 ⟨a1,n1,c1,rfl,hp1,hb1⟩;have b1:=b0.trans (hb1.mono b0.size);have R1:=R0.keep hb1;have hp1':Bd w1 w0.heap.size a1 n1 c1 (Gy l 0):=by rw [show Gy l 0=Im (((1:Nat):Int),1) from mQ];exact hp1
 have HP1:=Ae hp1';clear hp1 hp1';go_wp2_with fail;refine Cc ?_;intro w2 hw2;have k2:Below w1.heap.size w1 w2:=by rw [hw2];go_grown
 have O2:Blk w2 w1.heap.size #[.bool false,.slice a1 n1 c1,.slice none 0 0] 60:=by rw [hw2];exact Bi rfl _ _
 clear hw2;have b2:=b1.trans (k2.mono b1.size);have rl0:=R0.lt;have rl1:w.heap.size<w1.heap.size:=R1.lt;have rl2:=hb1.size;have H2:=Ae (Ay O2 (Ay (HP1.out.keep k2) (R1.keep k2)));clear O2 R1 R0 HP1 k2 hb1 b0 b1;go_loopw [1] (fun v1 wr=>∃(i:Nat) (a3:Γ) (n3 c3:Nat),i≤N∧v1=.int .i64 ((N-i:Nat):Int)∧Hid (Blk wr w1.heap.size #[.bool false,.slice a3 n3 c3,.slice none 0 0] 60∧Bd wr w0.heap.size a3 n3 c3 (Gy l i)∧Blk wr w.heap.size #[.bool false,.slice none 0 0,.slice none 0 0] 60)∧Below w.heap.size w wr) (fun v1 _=>(intOf v1).toNat)
 case atStart=>exact ⟨0,a1,n1,c1,by omega,rfl,H2,b2⟩
 case round =>
  obtain ⟨i,a3,n3,c3,hi,rfl,HR,br⟩:=hrel;clear H2 b2;have o0:=HR.out.1.cell 0 _ rfl;have o1:=HR.out.1.cell 1 _ rfl;have o2:=HR.out.1.cell 2 _ rfl;have ol:=HR.out.1.lt;by_cases hlt:i<N
  ·have hpos:(0:Int)<((N-i:Nat):Int):=by omega
   go_wp2_with fail;refine (Zp HH.out.2.1 HH.out.2.2.1 HH.out.2.2.2.1 HH.out.2.2.2.2 qA (HR.out.2.1.mono (Ba _)) (HH.out.1.keep br)).mono ?_;rintro e w3 ⟨a5,n5,c5,rfl,hP,_,hb3⟩;have b3:=br.trans (hb3.mono br.size);have hn5:n5≤2000:=by
    have h1:=Wt HH.out.2.1 HH.out.2.2.1 HH.out.2.2.2.1 (n:=i+1) qA;have h2:=hP.len;omega
   have H3:=Ae (Ay (HR.out.1.keep hb3) (Ay hP (HR.out.2.2.keep hb3)));clear hP hb3 o0 o1 o2;go_wp2_with fail;refine (sL w3 a5 n5 c5 hn5).mono ?_;rintro e w4 ⟨rfl,hb4⟩;have b4:=b3.trans (hb4.mono b3.size);have H4:=Ae (Ay (H3.out.1.keep hb4) (Ay (H3.out.2.1.keep hb4) (H3.out.2.2.keep hb4)));clear H3 hb4;have o0:=H4.out.1.cell 0 _ rfl;have o1:=H4.out.1.cell 1 _ rfl;have o2:=H4.out.1.cell 2 _ rfl;have of0:=H4.out.1.frozen 0;have of1:=H4.out.1.frozen 1;have of2:=H4.out.1.frozen 2;have ol4:=H4.out.1.lt;go_wp2_with fail;go_roundw
   case rel =>
    have hs:=Cd (Ac w4.heap.size w4) (R:=w4.heap.size) (Ad _) (.bool false) (.slice a5 n5 c5) (.slice none 0 0);have P5:=Gs H4.out.2.1 ol (.bool false) (.slice a5 n5 c5) (.slice none 0 0);have O5:=oL H4.out.1 (.bool false) (.slice a5 n5 c5) (.slice none 0 0);have Z5:=((H4.out.2.2.far ⟨w1.heap.size,0,none⟩ (.bool false) (by show w.heap.size≠w1.heap.size;omega)).far ⟨w1.heap.size,1,none⟩ (.slice a5 n5 c5) (by show w.heap.size≠w1.heap.size;omega)).far ⟨w1.heap.size,2,none⟩ (.slice none 0 0) (by show w.heap.size≠w1.heap.size;omega);refine ⟨i+1,a5,n5,c5,by omega,by congr 1;omega,Ae ⟨O5.alloc _,(P5.keep qF).mono qA,Z5.alloc _⟩,?_⟩;exact Below.alloc (Cd (R:=w1.heap.size) b4 qA _ _ _) (by have:=b4.size;simp;omega) _
   case measure=>(first|(simp [intOf];omega)|(simp [intOf];done))
  ·obtain rfl:i=N:=by omega
   rw [Nat.sub_self] at *;have z0:=HR.out.2.2.cell 0 _ rfl;have z1:=HR.out.2.2.cell 1 _ rfl;have z2:=HR.out.2.2.cell 2 _ rfl;have zf0:=HR.out.2.2.frozen 0;have zf1:=HR.out.2.2.frozen 1;have zf2:=HR.out.2.2.frozen 2;have zl:=HR.out.2.2.lt;go_wp2_with fail;refine bodyPost_ret (v:=.tuple #[.agg #[.bool false,.slice a3 n3 c3,.slice none 0 0],.int .i64 0]) (by simp [results,Tryz.results81,go_sem,zl,z0,z1,z2]) rfl ?_;have hs:=Cd br (Ad w.heap.size) (.bool false) (.slice a3 n3 c3) (.slice none 0 0);exact ⟨a3,n3,c3,rfl,(Gs HR.out.2.1 rl0 _ _ _).mono qA,hs⟩
theorem putS (W:World) (B clock:Nat) (es:Array MapEntry) (key:ByteArray) (v:Value) (hb:W.heap[B]? = some (.map es clock)) (hf:Instr.findNow .string (.string key) es.toList 0=some none) :
  (Instr.mapUpdate 136 (.map (some B)) (.string key) v).run Tryz.prog W=.ok () (W.putObj B (.map (es.push { key:=.string key,val:=v,born:=clock }) (clock+1))):=by
 have hc:(Instr.checkKey false 10000 9 (.string key)).run Tryz.prog W=.ok () W:=MapKept.run_checkKey (k:=.string key) Tryz.underlying9 (by simp [MapKept.IsKey]) false 9999;simp [Instr.mapUpdate,run_underlying Tryz.underlying136,MapKept.run_getObj_map hb,hc,MapKept.run_findKey Tryz.underlying9 hf,MapKept.run_setObj_map _ hb,Result.andThen,World.putObj]
theorem Ac4 (W:World) (B clock:Nat) (es:Array MapEntry) (key:ByteArray) (i:Nat) (v:Value) (hb:W.heap[B]? = some (.map es clock)) (hf:Instr.findNow .string (.string key) es.toList 0=some (some (i,v))) :
  (Instr.lookup 136 (.map (some B)) (.string key) true).run Tryz.prog W=.ok (.tuple #[v,.bool true]) W:=by
 have hc:(Instr.checkKey es.isEmpty 10000 9 (.string key)).run Tryz.prog W=.ok () W:=MapKept.run_checkKey (k:=.string key) Tryz.underlying9 (by simp [MapKept.IsKey]) _ 9999;simp [Instr.lookup,run_underlying Tryz.underlying136,MapKept.run_getObj_map hb,hc,MapKept.run_findKey Tryz.underlying9 hf,Result.andThen]
theorem Fj {o:Oper} {a:Act} {K:Act→World→Prop} {Q:Exit→Act→World→Prop} {W:World} {B clock:Nat} {key:ByteArray} {v:Value} {es:Array MapEntry} (hb:W.heap[B]? = some (.map es clock)) (hf:Instr.findNow .string (.string key) es.toList 0=some none)
  (h:∀W',W'=W.putObj B (.map (es.push { key:=.string key,val:=v,born:=clock }) (clock+1))→Oper.upon Tryz.prog o a K Q ((Result.ok () W').andThen fun _ w'=>Result.ok Next.skip w')) :
  Oper.upon Tryz.prog o a K Q ((Sem.run Tryz.prog (Instr.mapUpdate 136 (.map (some B)) (.string key) v) W).andThen fun _ w'=>Result.ok Next.skip w'):=by
 rw [putS W B clock es key v hb hf];exact h _ rfl
theorem Blk.put {W:World} {b r:Nat} {vs:Array Value} {t:TypeId} {o:Obj} (h:Blk W b vs t) (hb:b≠r):Blk (W.putObj r o) b vs t:=(World.putObj_heap_other hb).trans h
theorem D3 {B:Nat} {w w':World} {r:Nat} (o:Obj) (h:Below B w w') (hr:B≤r):Below B w (w'.putObj r o) :=
 ⟨h.os,h.tape,h.output,by show w.heap.size≤(w'.heap.setIfInBounds r o).size;rw [Array.size_setIfInBounds];exact h.size,fun k hk=>by rw [World.putObj_heap_other qA];exact h.block k hk⟩
def Acc (H:Nat):List MapEntry:=[{ key:=.string ⟨#[103,99,100]⟩,val:=.agg #[.slice (some ⟨H+1,0,none⟩) 2 2,.func (.func 142) #[] #[]],born:=0 },
  { key:=.string ⟨#[114,101,115]⟩,val:=.agg #[.slice (some ⟨H+2,0,none⟩) 3 3,.func (.func 144) #[] #[]],born:=1 },
  { key:=.string ⟨#[115,113,102]⟩,val:=.agg #[.slice (some ⟨H+3,0,none⟩) 1 1,.func (.func 146) #[] #[]],born:=2 },
  { key:=.string ⟨#[102,97,99]⟩,val:=.agg #[.slice (some ⟨H+4,0,none⟩) 1 1,.func (.func 148) #[] #[]],born:=3 },
  { key:=.string ⟨#[98,97,115,105,115]⟩,val:=.agg #[.slice (some ⟨H+5,0,none⟩) 1 1,.func (.func 149) #[] #[]],born:=4 },
  { key:=.string ⟨#[100,101,103]⟩,val:=.agg #[.slice (some ⟨H+6,0,none⟩) 2 2,.func (.func 151) #[] #[]],born:=5 },
  { key:=.string ⟨#[115,108,111,112,101]⟩,val:=.agg #[.slice (some ⟨H+7,0,none⟩) 2 2,.func (.func 152) #[] #[]],born:=6 },
  { key:=.string ⟨#[108,101,110]⟩,val:=.agg #[.slice (some ⟨H+8,0,none⟩) 1 1,.func (.func 154) #[] #[]],born:=7 },
  { key:=.string ⟨#[97,116]⟩,val:=.agg #[.slice (some ⟨H+9,0,none⟩) 2 2,.func (.func 155) #[] #[]],born:=8 },
  { key:=.string ⟨#[97,100,100]⟩,val:=.agg #[.slice (some ⟨H+10,0,none⟩) 2 2,.func (.func 157) #[] #[]],born:=9 }]
def rE (H k:Nat):Array MapEntry:=((Acc H).take k).toArray
structure Rj (w:World) (H:Nat):Prop where
 m:w.heap[H]? = some (.map (rE H 10) 10)
 k4:Blk w (H+4) #[.int .i64 0] 3
 k8:Blk w (H+8) #[.int .i64 1] 3
 k9:Blk w (H+9) #[.int .i64 1,.int .i64 3] 3
 k10:Blk w (H+10) #[.int .i64 1,.int .i64 4] 3
theorem wJ (w:World):Θ 86 #[] w (fun e w'=>e=.returned (.map (some w.heap.size))∧Rj w' w.heap.size∧Below w.heap.size w w'):=by
 have hmm:=@run_makeMap Tryz.prog;obtain ⟨H,hH⟩:∃H,H=w.heap.size:=⟨_,rfl⟩;obtain ⟨V0,hV0⟩:∃V,V=w.alloc (.map #[] 0):=⟨_,rfl⟩;have M0:V0.heap[H]? = some (.map #[] 0):=by rw [hV0,hH];exact World.alloc_heap_new w _
 have B0:Below H w V0:=by rw [hV0,hH];exact (Ac _ _).alloc (Ad _) _
 have Z0:V0.heap.size=H+1:=by rw [hV0,hH];simp
 go_enter Tryz.func86,Tryz.ntmps86;go_wp2_with fail;rw [←hV0];rw [←hH];have HH:=Ae hH;clear hV0 hH;have L0:Below V0.heap.size V0 (V0.alloc (.cells #[.int .i64 0,.int .i64 0] 3)):=Below.alloc (Ac _ _) (Ad _) _;refine Fj (es:=rE H 0) ((L0.block H qA).trans M0) qQ ?_;intro V1 hV1;have M1:V1.heap[H]? = some (.map (rE H 1) 1):=by rw [hV1];exact Bb qJ
 have Z1:V1.heap.size=H+2:=by rw [hV1];simp [World.putObj];omega
 have B1:Below H w V1:=by rw [hV1];exact D3 _ (B0.trans (L0.mono qA)) (Ad _)
 clear hV1 L0 M0 Z0 B0;go_wp2_with fail;have L1:Below V1.heap.size V1 (V1.alloc (.cells #[.int .i64 0,.int .i64 0,.int .i64 2] 3)):=Below.alloc (Ac _ _) (Ad _) _;refine Fj (es:=rE H 1) ((L1.block H qA).trans M1) qQ ?_;intro V2 hV2;have M2:V2.heap[H]? = some (.map (rE H 2) 2):=by rw [hV2];exact Bb qJ
 have Z2:V2.heap.size=H+3:=by rw [hV2];simp [World.putObj];omega
 have B2:Below H w V2:=by rw [hV2];exact D3 _ (B1.trans (L1.mono qA)) (Ad _)
 clear hV2 L1 M1 Z1 B1;go_wp2_with fail;have L2:Below V2.heap.size V2 (V2.alloc (.cells #[.int .i64 0] 3)):=Below.alloc (Ac _ _) (Ad _) _;refine Fj (es:=rE H 2) ((L2.block H qA).trans M2) qQ ?_;intro V3 hV3;have M3:V3.heap[H]? = some (.map (rE H 3) 3):=by rw [hV3];exact Bb qJ
 have Z3:V3.heap.size=H+4:=by rw [hV3];simp [World.putObj];omega
 have B3:Below H w V3:=by rw [hV3];exact D3 _ (B2.trans (L2.mono qA)) (Ad _)
 clear hV3 L2 M2 Z2 B2;go_wp2_with fail;have L3:Below V3.heap.size V3 (V3.alloc (.cells #[.int .i64 0] 3)):=Below.alloc (Ac _ _) (Ad _) _;refine Fj (es:=rE H 3) ((L3.block H qA).trans M3) qQ ?_;intro V4 hV4;have M4:V4.heap[H]? = some (.map (rE H 4) 4):=by rw [hV4];exact Bb qJ
 have Z4:V4.heap.size=H+5:=by rw [hV4];simp [World.putObj];omega
 have B4:Below H w V4:=by rw [hV4];exact D3 _ (B3.trans (L3.mono qA)) (Ad _)
 have K4_4:Blk V4 (H+4) #[.int .i64 0] 3:=by rw [hV4];exact (Bi qA _ _).put qA
 clear hV4 L3 M3 Z3 B3;go_wp2_with fail;have L4:Below V4.heap.size V4 (V4.alloc (.cells #[.int .i64 1] 3)):=Below.alloc (Ac _ _) (Ad _) _;refine Fj (es:=rE H 4) ((L4.block H qA).trans M4) qQ ?_;intro V5 hV5;have M5:V5.heap[H]? = some (.map (rE H 5) 5):=by rw [hV5];exact Bb qJ
 have Z5:V5.heap.size=H+6:=by rw [hV5];simp [World.putObj];omega
 have B5:Below H w V5:=by rw [hV5];exact D3 _ (B4.trans (L4.mono qA)) (Ad _)
 have K4_5:Blk V5 (H+4) #[.int .i64 0] 3:=by rw [hV5];exact (K4_4.keep L4).put qA
 clear hV5 L4 M4 Z4 B4;go_wp2_with fail;have L5:Below V5.heap.size V5 (V5.alloc (.cells #[.int .i64 0,.int .i64 2] 3)):=Below.alloc (Ac _ _) (Ad _) _;refine Fj (es:=rE H 5) ((L5.block H qA).trans M5) qQ ?_;intro V6 hV6;have M6:V6.heap[H]? = some (.map (rE H 6) 6):=by rw [hV6];exact Bb qJ
 have Z6:V6.heap.size=H+7:=by rw [hV6];simp [World.putObj];omega
 have B6:Below H w V6:=by rw [hV6];exact D3 _ (B5.trans (L5.mono qA)) (Ad _)
 have K4_6:Blk V6 (H+4) #[.int .i64 0] 3:=by rw [hV6];exact (K4_5.keep L5).put qA
 clear hV6 L5 M5 Z5 B5;go_wp2_with fail;have L6:Below V6.heap.size V6 (V6.alloc (.cells #[.int .i64 0,.int .i64 2] 3)):=Below.alloc (Ac _ _) (Ad _) _;refine Fj (es:=rE H 6) ((L6.block H qA).trans M6) qQ ?_;intro V7 hV7;have M7:V7.heap[H]? = some (.map (rE H 7) 7):=by rw [hV7];exact Bb qJ
 have Z7:V7.heap.size=H+8:=by rw [hV7];simp [World.putObj];omega
 have B7:Below H w V7:=by rw [hV7];exact D3 _ (B6.trans (L6.mono qA)) (Ad _)
 have K4_7:Blk V7 (H+4) #[.int .i64 0] 3:=by rw [hV7];exact (K4_6.keep L6).put qA
 clear hV7 L6 M6 Z6 B6;go_wp2_with fail;have L7:Below V7.heap.size V7 (V7.alloc (.cells #[.int .i64 1] 3)):=Below.alloc (Ac _ _) (Ad _) _;refine Fj (es:=rE H 7) ((L7.block H qA).trans M7) qQ ?_;intro V8 hV8;have M8:V8.heap[H]? = some (.map (rE H 8) 8):=by rw [hV8];exact Bb qJ
 have Z8:V8.heap.size=H+9:=by rw [hV8];simp [World.putObj];omega
 have B8:Below H w V8:=by rw [hV8];exact D3 _ (B7.trans (L7.mono qA)) (Ad _)
 have K4_8:Blk V8 (H+4) #[.int .i64 0] 3:=by rw [hV8];exact (K4_7.keep L7).put qA
 have K8_8:Blk V8 (H+8) #[.int .i64 1] 3:=by rw [hV8];exact (Bi qA _ _).put qA
 clear hV8 L7 M7 Z7 B7;go_wp2_with fail;have L8:Below V8.heap.size V8 (V8.alloc (.cells #[.int .i64 1,.int .i64 3] 3)):=Below.alloc (Ac _ _) (Ad _) _;refine Fj (es:=rE H 8) ((L8.block H qA).trans M8) qQ ?_;intro V9 hV9;have M9:V9.heap[H]? = some (.map (rE H 9) 9):=by rw [hV9];exact Bb qJ
 have Z9:V9.heap.size=H+10:=by rw [hV9];simp [World.putObj];omega
 have B9:Below H w V9:=by rw [hV9];exact D3 _ (B8.trans (L8.mono qA)) (Ad _)
 have K4_9:Blk V9 (H+4) #[.int .i64 0] 3:=by rw [hV9];exact (K4_8.keep L8).put qA
 have K8_9:Blk V9 (H+8) #[.int .i64 1] 3:=by rw [hV9];exact (K8_8.keep L8).put qA
 have K9_9:Blk V9 (H+9) #[.int .i64 1,.int .i64 3] 3:=by rw [hV9];exact (Bi qA _ _).put qA
 clear hV9 L8 M8 Z8 B8;go_wp2_with fail;have L9:Below V9.heap.size V9 (V9.alloc (.cells #[.int .i64 1,.int .i64 4] 3)):=Below.alloc (Ac _ _) (Ad _) _;refine Fj (es:=rE H 9) ((L9.block H qA).trans M9) qQ ?_;intro V10 hV10;have M10:V10.heap[H]? = some (.map (rE H 10) 10):=by rw [hV10];exact Bb qJ
 have Z10:V10.heap.size=H+11:=by rw [hV10];simp [World.putObj];omega
 have B10:Below H w V10:=by rw [hV10];exact D3 _ (B9.trans (L9.mono qA)) (Ad _)
 have K4_10:Blk V10 (H+4) #[.int .i64 0] 3:=by rw [hV10];exact (K4_9.keep L9).put qA
 have K8_10:Blk V10 (H+8) #[.int .i64 1] 3:=by rw [hV10];exact (K8_9.keep L9).put qA
 have K9_10:Blk V10 (H+9) #[.int .i64 1,.int .i64 3] 3:=by rw [hV10];exact (K9_9.keep L9).put qA
 have K10_10:Blk V10 (H+10) #[.int .i64 1,.int .i64 4] 3:=by rw [hV10];exact (Bi qA _ _).put qA
 clear hV10 L9 M9 Z9 B9;go_wp2_with fail;have hH:=HH.out;rw [←hH];refine bodyPost_ret (v:=.map (some H)) (by simp [results,Tryz.results86,go_sem]) rfl ⟨rfl,⟨M10,K4_10,K8_10,K9_10,K10_10⟩,B10⟩
theorem Rj.keep {w w':World} {H:Nat} (h:Rj w H) (hb:Below w.heap.size w w'):Rj w' H:=⟨(hb.block H (Ar.1 h.m).1).trans h.m,h.k4.keep hb,h.k8.keep hb,h.k9.keep hb,h.k10.keep hb⟩
theorem mH (H:Nat):Instr.findNow .string (.string ⟨#[102,97,99]⟩) (rE H 10).toList 0=some (some (3,.agg #[.slice (some ⟨H+4,0,none⟩) 1 1,.func (.func 148) #[] #[]])):=by rfl
end Go.Proofs.YtnnhcbeiogaknaaGreatDoor
end
