/- Package worths: number, yes. Condition: the number is at most 40. -/
import Derived.Test.YtnnhcbeiogaknaaGreatDoorQT37
import Derived.Test.YtnnhcbeiogaknaaGreatDoorQT39
set_option linter.unusedSimpArgs false
set_option linter.unusedVariables false
set_option maxRecDepth 100000
set_option maxHeartbeats 4000000
section
namespace Go.Proofs.YtnnhcbeiogaknaaGreatDoor
open Go.RowKit
def Hk (n:Nat):VT:=.node false (Ju ((n:Int),1)) []
theorem bC:∀n:Nat,n≤40→wt [(0,Ct ((n:Int),1) (1,1))]≤400000:=by decide +kernel
theorem sY:∀n:Nat,n≤40→Ju ((n:Int),1)=if n=0 then [] else [(0,(n:Int),1)]:=by decide +kernel
theorem kJ {w1:World} {R:Nat} {x0 x1 x2:Value} {t:TypeId} (h:Blk w1 R #[x0,x1,x2] t) (u0 u1 u2:Value):Blk (((w1.setCell ⟨R,0,none⟩ u0).setCell ⟨R,1,none⟩ u1).setCell ⟨R,2,none⟩ u2) R #[u0,u1,u2] t:=((h.set 0 u0).set 1 u1).set 2 u2
theorem Cf {w w1:World} {R:Nat} (h:Below w.heap.size w w1) (hR:w.heap.size≤R) (u0 u1 u2:Value):Below w.heap.size w (((w1.setCell ⟨R,0,none⟩ u0).setCell ⟨R,1,none⟩ u1).setCell ⟨R,2,none⟩ u2) :=
 ((h.setCell (p:=⟨R,0,none⟩) hR _).setCell (p:=⟨R,1,none⟩) hR _).setCell (p:=⟨R,2,none⟩) hR _
theorem Mo (w1:World) (R:Nat) (u0 u1 u2:Value):w1.grownBy (((w1.setCell ⟨R,0,none⟩ u0).setCell ⟨R,1,none⟩ u1).setCell ⟨R,2,none⟩ u2) (some R):=Bd _ (Bd _ (Bd _ (A6 _ _)))
theorem Mm {w:World} {B B' B'' n c:Nat} {a:Option Addr} {l:List PT} {o:Option Nat} (h:Bc w B' a n c l) (ho:Bk w B'' a n c):Bt w B o (.bool false) (.slice a n c) (.slice none 0 0) (.node false l []):=by
 rw [Bt];exact ⟨rfl,⟨a,n,c,rfl,h.mono (A9 _),fun g e=>ho.mono (A9 _)⟩,none,0,rfl,by simp,by omega,fun _=>rfl,.inl rfl⟩
theorem Lj (w:World) (n:Nat) (hn:n≤40):Calls Tryz.prog 137 #[.int .i64 n] w (eU w (Hk n)):=by
 have HB:=Ac w.heap.size w;go_enter Tryz.func137,Tryz.ntmps137;go_wp2_with fail;refine Be ?_;intro w0 hw0;have b0:Below w.heap.size w w0:=by rw [hw0];go_grown
 have R0:Blk w0 w.heap.size #[.bool false,.slice none 0 0,.slice none 0 0] 60:=by rw [hw0];exact Bj rfl _ _
 clear hw0;refine (Fp w0 n qA qA).mono ?_;rintro e w1 ⟨g1,a1,n1,c1,g2,a2,n2,c2,rfl,hF,hf1,hf2,hap,hb1⟩;have q1:=Cp hF.top qA;have q2:=Cp hF.low qJ;have R1:=R0.keep hb1;have b1:=b0.trans (hb1.mono b0.size);go_wp2_with fail;refine (Wf w1 g1 a1 n1 c1 g2 a2 n2 c2 ((n:Int),1) hF qA qA (fun k=>Ah (Mp _ _) (bC n hn))).mono ?_;rintro e w2 ⟨a3,n3,c3,rfl,P3,O3,hb2⟩;have R2:=R1.keep hb2;have b2:=b1.trans (hb2.mono b1.size);have r0:=R2.cell 0 _ rfl;have r1:=R2.cell 1 _ rfl;have r2:=R2.cell 2 _ rfl;have f0:=R2.frozen 0;have f1:=R2.frozen 1;have f2:=R2.frozen 2;have rl:=R2.lt;have rl1:=R1.lt;go_wp2_with fail;have g4:=Mo w2 w.heap.size (.bool false) (.slice a3 n3 c3) (.slice none 0 0);refine bodyPost_ret (v:=.agg #[.bool false,.slice a3 n3 c3,.slice none 0 0]) (by simp [results,Tryz.results137,go_sem,rl,r0,r1,r2]) rfl ?_;exact qCn
def E9 (w:World) (t:VT) (er:Int) (e:Ending) (w':World):Prop:=∃u0 u1 u2,e=.returned (.tuple #[.agg #[u0,u1,u2],.int .i64 er])∧Bt w' w.heap.size (some w'.heap.size) u0 u1 u2 t∧Below w.heap.size w w'
def Pn:VT:=.node false [] []
theorem Ez {w1:World} {B g R:Nat} {v0 v1 v2:Value} {t:VT} (h:Bt w1 B (some g) v0 v1 v2 t) (hR:R<B) {x0 x1 x2:Value} (hb:Blk w1 R #[x0,x1,x2] 60) (u0 u1 u2:Value):Bt (((w1.setCell ⟨R,0,none⟩ u0).setCell ⟨R,1,none⟩ u1).setCell ⟨R,2,none⟩ u2) B (some g) v0 v1 v2 t:=((h.set hR hb.noPd).set hR (hb.set 0 u0).noPd).set hR ((hb.set 0 u0).set 1 u1).noPd
theorem xH (w:World) (b:Bool):Calls Tryz.prog 77 #[.bool b] w (E9 w (Hk (if b then 1 else 0)) 0):=by
 have HB:=Ac w.heap.size w;go_enter Tryz.func77,Tryz.ntmps77;cases b
 all_goals
  go_wp2_with fail;refine Be ?_;intro w0 hw0;have b0:Below w.heap.size w w0:=by rw [hw0];go_grown
  have R0:Blk w0 w.heap.size #[.bool false,.slice none 0 0,.slice none 0 0] 60:=by rw [hw0];exact Bj rfl _ _
  clear hw0
 ·refine (Lj w0 0 qA).mono ?_;exact qAv
 ·refine (Lj w0 1 qA).mono ?_;exact qAv
theorem zU (W:World) (B clock:Nat) (es:Array MapEntry) (key:ByteArray) (v:Value) (hb:W.heap[B]? = some (.map es clock)) (hf:Instr.findNow .string (.string key) es.toList 0=some none) :
  (Instr.mapUpdate 136 (.map (some B)) (.string key) v).run Tryz.prog W=.ok () (W.putObj B (.map (es.push { key:=.string key,val:=v,born:=clock }) (clock+1))):=by
 have hc:(Instr.checkKey false 10000 9 (.string key)).run Tryz.prog W=.ok () W:=MapKept.run_checkKey (k:=.string key) Tryz.underlying9 (by simp [MapKept.IsKey]) false 9999;simp [Instr.mapUpdate,run_underlying Tryz.underlying136,MapKept.run_getObj_map hb,hc,MapKept.run_findKey Tryz.underlying9 hf,MapKept.run_setObj_map _ hb,Result.andThen,World.putObj]
theorem cU (W:World) (B clock:Nat) (es:Array MapEntry) (key:ByteArray) (i:Nat) (v:Value) (hb:W.heap[B]? = some (.map es clock)) (hf:Instr.findNow .string (.string key) es.toList 0=some (some (i,v))) :
  (Instr.lookup 136 (.map (some B)) (.string key) true).run Tryz.prog W=.ok (.tuple #[v,.bool true]) W:=by
 have hc:(Instr.checkKey es.isEmpty 10000 9 (.string key)).run Tryz.prog W=.ok () W:=MapKept.run_checkKey (k:=.string key) Tryz.underlying9 (by simp [MapKept.IsKey]) _ 9999;simp [Instr.lookup,run_underlying Tryz.underlying136,MapKept.run_getObj_map hb,hc,MapKept.run_findKey Tryz.underlying9 hf,Result.andThen]
theorem Fa {o:Oper} {a:Act} {K:Act→World→Prop} {Q:Exit→Act→World→Prop} {W:World} {B clock:Nat} {key:ByteArray} {v:Value} {es:Array MapEntry} (hb:W.heap[B]? = some (.map es clock)) (hf:Instr.findNow .string (.string key) es.toList 0=some none)
  (h:∀W',W'=W.putObj B (.map (es.push { key:=.string key,val:=v,born:=clock }) (clock+1))→Oper.upon Tryz.prog o a K Q ((Result.ok () W').andThen fun _ w'=>Result.ok Next.skip w')) :
  Oper.upon Tryz.prog o a K Q ((Sem.run Tryz.prog (Instr.mapUpdate 136 (.map (some B)) (.string key) v) W).andThen fun _ w'=>Result.ok Next.skip w'):=by
 rw [zU W B clock es key v hb hf];exact h _ rfl
theorem Blk.put {W:World} {b r:Nat} {vs:Array Value} {t:TypeId} {o:Obj} (h:Blk W b vs t) (hb:b≠r):Blk (W.putObj r o) b vs t:=(World.putObj_heap_other hb).trans h
theorem Dw {B:Nat} {w w':World} {r:Nat} (o:Obj) (h:Below B w w') (hr:B≤r):Below B w (w'.putObj r o) :=
 ⟨h.os,h.tape,h.output,by show w.heap.size≤(w'.heap.setIfInBounds r o).size;rw [Array.size_setIfInBounds];exact h.size,fun k hk=>by rw [World.putObj_heap_other qA];exact h.block k hk⟩
def xR (H:Nat):List MapEntry:=[{ key:=.string ⟨#[103,99,100]⟩,val:=.agg #[.slice (some ⟨H+1,0,none⟩) 2 2,.func (.func 142) #[] #[]],born:=0 },
  { key:=.string ⟨#[114,101,115]⟩,val:=.agg #[.slice (some ⟨H+2,0,none⟩) 3 3,.func (.func 144) #[] #[]],born:=1 },
  { key:=.string ⟨#[115,113,102]⟩,val:=.agg #[.slice (some ⟨H+3,0,none⟩) 1 1,.func (.func 146) #[] #[]],born:=2 },
  { key:=.string ⟨#[102,97,99]⟩,val:=.agg #[.slice (some ⟨H+4,0,none⟩) 1 1,.func (.func 148) #[] #[]],born:=3 },
  { key:=.string ⟨#[98,97,115,105,115]⟩,val:=.agg #[.slice (some ⟨H+5,0,none⟩) 1 1,.func (.func 149) #[] #[]],born:=4 },
  { key:=.string ⟨#[100,101,103]⟩,val:=.agg #[.slice (some ⟨H+6,0,none⟩) 2 2,.func (.func 151) #[] #[]],born:=5 },
  { key:=.string ⟨#[115,108,111,112,101]⟩,val:=.agg #[.slice (some ⟨H+7,0,none⟩) 2 2,.func (.func 152) #[] #[]],born:=6 },
  { key:=.string ⟨#[108,101,110]⟩,val:=.agg #[.slice (some ⟨H+8,0,none⟩) 1 1,.func (.func 154) #[] #[]],born:=7 },
  { key:=.string ⟨#[97,116]⟩,val:=.agg #[.slice (some ⟨H+9,0,none⟩) 2 2,.func (.func 155) #[] #[]],born:=8 },
  { key:=.string ⟨#[97,100,100]⟩,val:=.agg #[.slice (some ⟨H+10,0,none⟩) 2 2,.func (.func 157) #[] #[]],born:=9 }]
def rE (H k:Nat):Array MapEntry:=((xR H).take k).toArray
structure Qi (w:World) (H:Nat):Prop where
 m:w.heap[H]? = some (.map (rE H 10) 10)
 k4:Blk w (H+4) #[.int .i64 0] 3
 k8:Blk w (H+8) #[.int .i64 1] 3
 k9:Blk w (H+9) #[.int .i64 1,.int .i64 3] 3
 k10:Blk w (H+10) #[.int .i64 1,.int .i64 4] 3
theorem Qg (w:World):Calls Tryz.prog 86 #[] w (fun e w'=>e=.returned (.map (some w.heap.size))∧Qi w' w.heap.size∧Below w.heap.size w w'):=by
 have hmm:=@run_makeMap Tryz.prog;obtain ⟨H,hH⟩:∃H,H=w.heap.size:=⟨_,rfl⟩;obtain ⟨V0,hV0⟩:∃V,V=w.alloc (.map #[] 0):=⟨_,rfl⟩;have M0:V0.heap[H]? = some (.map #[] 0):=by rw [hV0,hH];exact World.alloc_heap_new w _
 have B0:Below H w V0:=by rw [hV0,hH];exact (Ac _ _).alloc (Ad _) _
 have Z0:V0.heap.size=H+1:=by rw [hV0,hH];simp
 go_enter Tryz.func86,Tryz.ntmps86;go_wp2_with fail;rw [←hV0];rw [←hH];have HH:=Ae hH;clear hV0 hH;have L0:Below V0.heap.size V0 (V0.alloc (.cells #[.int .i64 0,.int .i64 0] 3)):=Below.alloc (Ac _ _) (Ad _) _;refine Fa (es:=rE H 0) ((L0.block H qA).trans M0) qP ?_;intro V1 hV1;have M1:V1.heap[H]? = some (.map (rE H 1) 1):=by rw [hV1];exact Ba qI
 have Z1:V1.heap.size=H+2:=by rw [hV1];simp [World.putObj];omega
 have B1:Below H w V1:=by rw [hV1];exact Dw _ (B0.trans (L0.mono qA)) (Ad _)
 clear hV1 L0 M0 Z0 B0;go_wp2_with fail;have L1:Below V1.heap.size V1 (V1.alloc (.cells #[.int .i64 0,.int .i64 0,.int .i64 2] 3)):=Below.alloc (Ac _ _) (Ad _) _;refine Fa (es:=rE H 1) ((L1.block H qA).trans M1) qP ?_;intro V2 hV2;have M2:V2.heap[H]? = some (.map (rE H 2) 2):=by rw [hV2];exact Ba qI
 have Z2:V2.heap.size=H+3:=by rw [hV2];simp [World.putObj];omega
 have B2:Below H w V2:=by rw [hV2];exact Dw _ (B1.trans (L1.mono qA)) (Ad _)
 clear hV2 L1 M1 Z1 B1;go_wp2_with fail;have L2:Below V2.heap.size V2 (V2.alloc (.cells #[.int .i64 0] 3)):=Below.alloc (Ac _ _) (Ad _) _;refine Fa (es:=rE H 2) ((L2.block H qA).trans M2) qP ?_;intro V3 hV3;have M3:V3.heap[H]? = some (.map (rE H 3) 3):=by rw [hV3];exact Ba qI
 have Z3:V3.heap.size=H+4:=by rw [hV3];simp [World.putObj];omega
 have B3:Below H w V3:=by rw [hV3];exact Dw _ (B2.trans (L2.mono qA)) (Ad _)
 clear hV3 L2 M2 Z2 B2;go_wp2_with fail;have L3:Below V3.heap.size V3 (V3.alloc (.cells #[.int .i64 0] 3)):=Below.alloc (Ac _ _) (Ad _) _;refine Fa (es:=rE H 3) ((L3.block H qA).trans M3) qP ?_;intro V4 hV4;have M4:V4.heap[H]? = some (.map (rE H 4) 4):=by rw [hV4];exact Ba qI
 have Z4:V4.heap.size=H+5:=by rw [hV4];simp [World.putObj];omega
 have B4:Below H w V4:=by rw [hV4];exact Dw _ (B3.trans (L3.mono qA)) (Ad _)
 have K4_4:Blk V4 (H+4) #[.int .i64 0] 3:=by rw [hV4];exact (Bj qA _ _).put qA
 clear hV4 L3 M3 Z3 B3;go_wp2_with fail;have L4:Below V4.heap.size V4 (V4.alloc (.cells #[.int .i64 1] 3)):=Below.alloc (Ac _ _) (Ad _) _;refine Fa (es:=rE H 4) ((L4.block H qA).trans M4) qP ?_;intro V5 hV5;have M5:V5.heap[H]? = some (.map (rE H 5) 5):=by rw [hV5];exact Ba qI
 have Z5:V5.heap.size=H+6:=by rw [hV5];simp [World.putObj];omega
 have B5:Below H w V5:=by rw [hV5];exact Dw _ (B4.trans (L4.mono qA)) (Ad _)
 have K4_5:Blk V5 (H+4) #[.int .i64 0] 3:=by rw [hV5];exact (K4_4.keep L4).put qA
 clear hV5 L4 M4 Z4 B4;go_wp2_with fail;have L5:Below V5.heap.size V5 (V5.alloc (.cells #[.int .i64 0,.int .i64 2] 3)):=Below.alloc (Ac _ _) (Ad _) _;refine Fa (es:=rE H 5) ((L5.block H qA).trans M5) qP ?_;intro V6 hV6;have M6:V6.heap[H]? = some (.map (rE H 6) 6):=by rw [hV6];exact Ba qI
 have Z6:V6.heap.size=H+7:=by rw [hV6];simp [World.putObj];omega
 have B6:Below H w V6:=by rw [hV6];exact Dw _ (B5.trans (L5.mono qA)) (Ad _)
 have K4_6:Blk V6 (H+4) #[.int .i64 0] 3:=by rw [hV6];exact (K4_5.keep L5).put qA
 clear hV6 L5 M5 Z5 B5;go_wp2_with fail;have L6:Below V6.heap.size V6 (V6.alloc (.cells #[.int .i64 0,.int .i64 2] 3)):=Below.alloc (Ac _ _) (Ad _) _;refine Fa (es:=rE H 6) ((L6.block H qA).trans M6) qP ?_;intro V7 hV7;have M7:V7.heap[H]? = some (.map (rE H 7) 7):=by rw [hV7];exact Ba qI
 have Z7:V7.heap.size=H+8:=by rw [hV7];simp [World.putObj];omega
 have B7:Below H w V7:=by rw [hV7];exact Dw _ (B6.trans (L6.mono qA)) (Ad _)
 have K4_7:Blk V7 (H+4) #[.int .i64 0] 3:=by rw [hV7];exact (K4_6.keep L6).put qA
 clear hV7 L6 M6 Z6 B6;go_wp2_with fail;have L7:Below V7.heap.size V7 (V7.alloc (.cells #[.int .i64 1] 3)):=Below.alloc (Ac _ _) (Ad _) _;refine Fa (es:=rE H 7) ((L7.block H qA).trans M7) qP ?_;intro V8 hV8;have M8:V8.heap[H]? = some (.map (rE H 8) 8):=by rw [hV8];exact Ba qI
 have Z8:V8.heap.size=H+9:=by rw [hV8];simp [World.putObj];omega
 have B8:Below H w V8:=by rw [hV8];exact Dw _ (B7.trans (L7.mono qA)) (Ad _)
 have K4_8:Blk V8 (H+4) #[.int .i64 0] 3:=by rw [hV8];exact (K4_7.keep L7).put qA
 have K8_8:Blk V8 (H+8) #[.int .i64 1] 3:=by rw [hV8];exact (Bj qA _ _).put qA
 clear hV8 L7 M7 Z7 B7;go_wp2_with fail;have L8:Below V8.heap.size V8 (V8.alloc (.cells #[.int .i64 1,.int .i64 3] 3)):=Below.alloc (Ac _ _) (Ad _) _;refine Fa (es:=rE H 8) ((L8.block H qA).trans M8) qP ?_;intro V9 hV9;have M9:V9.heap[H]? = some (.map (rE H 9) 9):=by rw [hV9];exact Ba qI
 have Z9:V9.heap.size=H+10:=by rw [hV9];simp [World.putObj];omega
 have B9:Below H w V9:=by rw [hV9];exact Dw _ (B8.trans (L8.mono qA)) (Ad _)
 have K4_9:Blk V9 (H+4) #[.int .i64 0] 3:=by rw [hV9];exact (K4_8.keep L8).put qA
 have K8_9:Blk V9 (H+8) #[.int .i64 1] 3:=by rw [hV9];exact (K8_8.keep L8).put qA
 have K9_9:Blk V9 (H+9) #[.int .i64 1,.int .i64 3] 3:=by rw [hV9];exact (Bj qA _ _).put qA
 clear hV9 L8 M8 Z8 B8;go_wp2_with fail;have L9:Below V9.heap.size V9 (V9.alloc (.cells #[.int .i64 1,.int .i64 4] 3)):=Below.alloc (Ac _ _) (Ad _) _;refine Fa (es:=rE H 9) ((L9.block H qA).trans M9) qP ?_;intro V10 hV10;have M10:V10.heap[H]? = some (.map (rE H 10) 10):=by rw [hV10];exact Ba qI
 have Z10:V10.heap.size=H+11:=by rw [hV10];simp [World.putObj];omega
 have B10:Below H w V10:=by rw [hV10];exact Dw _ (B9.trans (L9.mono qA)) (Ad _)
 have K4_10:Blk V10 (H+4) #[.int .i64 0] 3:=by rw [hV10];exact (K4_9.keep L9).put qA
 have K8_10:Blk V10 (H+8) #[.int .i64 1] 3:=by rw [hV10];exact (K8_9.keep L9).put qA
 have K9_10:Blk V10 (H+9) #[.int .i64 1,.int .i64 3] 3:=by rw [hV10];exact (K9_9.keep L9).put qA
 have K10_10:Blk V10 (H+10) #[.int .i64 1,.int .i64 4] 3:=by rw [hV10];exact (Bj qA _ _).put qA
 clear hV10 L9 M9 Z9 B9;go_wp2_with fail;have hH:=HH.out;rw [←hH];refine bodyPost_ret (v:=.map (some H)) (by simp [results,Tryz.results86,go_sem]) rfl ⟨rfl,⟨M10,K4_10,K8_10,K9_10,K10_10⟩,B10⟩
theorem Qi.keep {w w':World} {H:Nat} (h:Qi w H) (hb:Below w.heap.size w w'):Qi w' H:=⟨(hb.block H (Ar.1 h.m).1).trans h.m,h.k4.keep hb,h.k8.keep hb,h.k9.keep hb,h.k10.keep hb⟩
theorem iQ (H:Nat):Instr.findNow .string (.string ⟨#[102,97,99]⟩) (rE H 10).toList 0=some (some (3,.agg #[.slice (some ⟨H+4,0,none⟩) 1 1,.func (.func 148) #[] #[]])):=by rfl
theorem iN (H:Nat):Instr.findNow .string (.string ⟨#[108,101,110]⟩) (rE H 10).toList 0=some (some (7,.agg #[.slice (some ⟨H+8,0,none⟩) 1 1,.func (.func 154) #[] #[]])):=by rfl
theorem rO (H:Nat):Instr.findNow .string (.string ⟨#[97,116]⟩) (rE H 10).toList 0=some (some (8,.agg #[.slice (some ⟨H+9,0,none⟩) 2 2,.func (.func 155) #[] #[]])):=by rfl
theorem jR (H:Nat):Instr.findNow .string (.string ⟨#[97,100,100]⟩) (rE H 10).toList 0=some (some (9,.agg #[.slice (some ⟨H+10,0,none⟩) 2 2,.func (.func 157) #[] #[]])):=by rfl
theorem jQ {w:World} {B:Nat} {o:Option Nat} {xs:List VT} {a:Option Addr} {n c:Nat} (h:Bt w B o (.bool true) (.slice none 0 0) (.slice a n c) (.node true [] xs)) (hok:VT.Ok 1 (.node true [] xs)) :
  Calls Tryz.prog 158 #[.slice a n c] w (fun e w'=>e=.returned (.tuple #[.agg #[.bool true,.slice none 0 0,.slice a n c],.int .i64 0])∧Below w.heap.size w w'):=by
 have HB:=Ac w.heap.size w;have HV:=Ae h.read;clear h;go_enter Tryz.func158,Tryz.ntmps158;go_wp2_with fail;refine Be ?_;intro w1 hw1;have b1:Below w.heap.size w w1:=by rw [hw1];go_grown
 have R1:Blk w1 w.heap.size #[.bool false,.slice none 0 0,.slice none 0 0] 60:=by rw [hw1];exact (Bj rfl _ _).alloc _
 have A1:Blk w1 (w.heap.size+1) #[.bool true,.slice none 0 0,.slice a n c] 60:=by rw [hw1];exact Bj qG _ _
 clear hw1;refine (Ei (HV.out.keep b1) hok).mono ?_;rintro e w2 ⟨rfl,hb2⟩;have b2:=b1.trans (hb2.mono b1.size);have R2:=R1.keep hb2;have A2:=A1.keep hb2;have x0:=A2.cell 0 _ rfl;have x1:=A2.cell 1 _ rfl;have x2:=A2.cell 2 _ rfl;have r0:=R2.cell 0 _ rfl;have r1:=R2.cell 1 _ rfl;have r2:=R2.cell 2 _ rfl;have f0:=R2.frozen 0;have f1:=R2.frozen 1;have f2:=R2.frozen 2;have rl:=R2.lt;have al:=A2.lt;go_wp2_with fail;refine bodyPost_ret (v:=.tuple #[.agg #[.bool true,.slice none 0 0,.slice a n c],.int .i64 0]) (by simp [results,Tryz.results158,go_sem,rl,al,r0,r1,r2]) rfl ?_;exact ⟨rfl,Cf b2 (Ad _) _ _ _⟩
theorem Ym (w:World):Calls Tryz.prog 137 #[.int .i64 1] w (eU w (Hk 1)):=Lj w 1 qA
def Hs (l:List PT):VT:=.node true [] [.node false l [],Hk 1]
def N7:VT:=.node true [] [.node false (Ju (1,1)) [],Hs pM,Hs pP]
theorem xQ:Ju (1,1)=[(0,1,1)]:=sY 1 qA
theorem few5 {l:List PT} (h:Sm l):Dd 5000 l:=fun t ht=>by have:=h.few t ht;omega
theorem Gr {l:List PT} (h:Sm l) (d:Nat):VT.Ok d (.node false l []):=by rw [VT.Ok];exact .inl ⟨rfl,rfl,by have:=h.len;omega,h.pw,few5 h⟩
theorem kI {l:List PT} (h:Sm l) (d:Nat) (hd:d≤64):VT.Ok d (Hs l):=by
 rw [Hs,VT.Ok];refine .inr ⟨rfl,rfl,by simp,hd,VT.OkL_iff.2 fun x hx=>?_⟩;simp only [List.mem_cons,List.not_mem_nil,or_false] at hx;rcases hx with rfl|rfl
 ·exact Gr h _
 ·exact Gr (by show Sm (Ju (1,1));rw [xQ];exact Ii) _
theorem cJ:VT.Ok 1 N7:=by
 rw [N7,VT.Ok];refine .inr ⟨rfl,rfl,by simp,by omega,VT.OkL_iff.2 fun x hx=>?_⟩;simp only [List.mem_cons,List.not_mem_nil,or_false] at hx;rcases hx with rfl|rfl|rfl
 ·exact Gr (by rw [xQ];exact Ii) _
 ·exact kI smM _ qA
 ·exact kI smP _ qA
theorem kU (w:World) (g1:Bool) (a1:Option Addr) (n1 c1:Nat) (g2:Bool) (a2:Option Addr) (n2 c2:Nat) (G:Nat) (aM:Option Addr) (nM cM:Nat) (aP:Option Addr) (nP cP:Nat) (hF:Bi w g1 a1 n1 c1 1 g2 a2 n2 c2 1)
  (l0:w.cell? ⟨G,0,none⟩=some (.slice aM nM cM)) (l1:w.cell? ⟨G,1,none⟩=some (.int .i64 1)) (l2:w.cell? ⟨G,2,none⟩=some (.slice aP nP cP)) (l3:w.cell? ⟨G,3,none⟩=some (.int .i64 1))
  (hM:Bc w 0 aM nM cM pM) (oM:Bk w 0 aM nM cM) (hP:Bc w 0 aP nP cP pP) (oP:Bk w 0 aP nP cP) :
  Calls Tryz.prog 147 #[.agg #[.bool g1,.slice a1 n1 c1,.bool g2,.slice a2 n2 c2],.slice (some ⟨G,0,none⟩) 2 2,.int .i64 0] w (E9 w N7 0):=by
 have HB:=Ac w.heap.size w;have q1:=Cp hF.top qJ;have q2:=Cp hF.low qJ;go_enter Tryz.func147,Tryz.ntmps147;go_wp2_with fail;refine Be ?_;intro w1 hw1;have b1:Below w.heap.size w w1:=by rw [hw1];go_grown
 have R1:Blk w1 (w.heap.size+1) #[.bool false,.slice none 0 0,.slice none 0 0] 60:=by rw [hw1];exact Bj qG _ _
 clear hw1;refine (Wf w1 g1 a1 n1 c1 g2 a2 n2 c2 (1,1) (hF.keep b1) qA qA (fun k=>Ah (Mp _ _) (bC 1 qA))).mono ?_;rintro e w2 ⟨a3,n3,c3,rfl,P3,O3,hb2⟩;have b2:=b1.trans (hb2.mono b1.size);have R2:=R1.keep hb2;go_wp2_with fail;refine By ?_;intro w3 hw3;have k3:Below w2.heap.size w2 w3:=by rw [hw3];go_grown
 have V3:Blk w3 w2.heap.size #[.bool false,.slice a3 n3 c3,.slice none 0 0] 60:=by rw [hw3];exact Bj rfl _ _
 clear hw3;have b3:=b2.trans (k3.mono b2.size);have RV:I7 w3 w2.heap.size w2.heap.size (.slice (some ⟨w2.heap.size,0,none⟩) 1 1) [.node false (Ju (1,1)) []]:=by
  refine ⟨[.bool false,.slice a3 n3 c3,.slice none 0 0],⟨rfl,.inr ⟨w2.heap.size,1,_,rfl,Ad _,V3,Ad _,by unfold maxLen;omega,rfl,rfl⟩⟩,fun i t ht=>?_⟩;rcases i with _|i
  ·simp only [List.getElem?_cons_zero,Option.some.injEq] at ht;subst ht;exact ⟨_,_,_,_,rfl,rfl,rfl,rfl,Mm (P3.keep k3) (O3.keep k3)⟩
  ·simp at ht
 obtain ⟨i0,hi,hy0,hy1,hy2⟩:=info_parts Vd;have HTS:∀i,i<2→∃aX nX cX lX,w.cell? ⟨G,i*2,none⟩=some (.slice aX nX cX)∧w.cell? ⟨G,i*2+1,none⟩=some (.int .i64 1)∧Bc w 0 aX nX cX lX∧Bk w 0 aX nX cX∧[VT.node false (Ju (1,1)) [],Hs pM,Hs pP][i+1]? = some (Hs lX):=fun i hi=>by
  rcases i with _|_|i
  ·exact ⟨_,_,_,_,l0,l1,hM,oM,rfl⟩
  ·exact ⟨_,_,_,_,l2,l3,hP,oP,rfl⟩
  ·omega
 have HT:=Ae HTS;have hz2:=b2.size;have hz23:=k3.size;have hz1:=R1.lt;have hz12:=hb2.size;clear HTS l0 l1 l2 l3 hM oM hP oP P3 O3 V3;go_loopw [8,21] (fun v8 v21 wr=>∃(i:Nat),i≤2∧v21=.int .i64 i∧I7 wr w2.heap.size w2.heap.size v8 ([VT.node false (Ju (1,1)) [],Hs pM,Hs pP].take (i+1))∧Blk wr (w.heap.size+1) #[.bool false,.slice none 0 0,.slice none 0 0] 60∧Below w.heap.size w wr∧w2.heap.size≤wr.heap.size) (fun _ v21 _=>2-(intOf v21).toNat)
 case atStart=>exact ⟨0,by omega,rfl,RV,R2.keep k3,b3,hz23⟩
 case round =>
  clear RV;obtain ⟨i,hi2,rfl,hrow,Rr,HBr,h0r⟩:=hrel;by_cases hlt:i<2
  ·obtain ⟨aX,nX,cX,lX,c0,c1,hX,oX,hts⟩:=HT.out i hlt
   (replace c0:=Bb HBr c0;replace c1:=Bb HBr c1)
   have hgl:=Aa _ _ c0;have HXX:=Ae (Ay (hX.keep HBr) (Ay (oX.keep HBr) hts));obtain ⟨ys,hown,hys⟩:=hrow;have hil:([VT.node false (Ju (1,1)) [],Hs pM,Hs pP].take (i+1)).length=i+1:=by rw [List.length_take];simp;omega
   have HY:=Ae (Ay hown hys);clear hX oX hts hown hys;go_upto_region 7 with fail
   refine By ?_;intro w4 hw4;have k4:Below wr.heap.size wr w4:=by rw [hw4];go_grown
   have X4:Blk w4 wr.heap.size #[.slice aX nX cX,.int .i64 1] 47:=by rw [hw4];exact Bj rfl _ _
   clear hw4;have t0:=X4.cell 0 _ rfl;have t1:=X4.cell 1 _ rfl;have kd:Below w4.heap.size w4 w4.drew:=Below.drew (Ac _ _);have hs4:=k4.size;refine Bx (fun W=>W.cell? ⟨wr.heap.size,0,none⟩=some (.slice aX nX cX)∧W.cell? ⟨wr.heap.size,1,none⟩=some (.int .i64 1)) 11 qC qK (fun hHeld=>?_);(refine Bh.take 11 (i:=0) (v:=?_) rfl qC (fun _ _ _ h=>h) (Or.inl ⟨by rfl,?_⟩) qH ?_;rotate_left;(focus (intro w' hSw;(try dsimp only at hSw);go_simp;(try with_reducible rfl)));(try simp only [Act.put,Au,Av,Aw]));(refine Bh.take 11 (i:=1) (v:=?_) rfl qC (fun _ _ _ h=>h) (Or.inl ⟨by rfl,?_⟩) qH ?_;rotate_left;(focus (intro w' hSw;(try dsimp only at hSw);go_simp;(try with_reducible rfl)));(try simp only [Act.put,Au,Av,Aw]));(refine Bh.take 11 (i:=2) (v:=?_) rfl qC (fun _ _ _ h=>h) (Or.inl ⟨by rfl,?_⟩) qH ?_;rotate_left;(focus (intro w' hSw;(try dsimp only at hSw);go_simp;(try with_reducible rfl)));(try simp only [Act.put,Au,Av,Aw]));(refine Bh.take 11 (i:=3) (v:=?_) rfl qC (fun _ _ _ h=>h) (Or.inl ⟨by rfl,?_⟩) qH ?_;rotate_left;(focus (intro w' hSw;(try dsimp only at hSw);go_simp;(try with_reducible rfl)));(try simp only [Act.put,Au,Av,Aw]));(refine Bh.take 11 (i:=4) (v:=?_) rfl qC (fun _ _ _ h=>h) (Or.inl ⟨by rfl,?_⟩) qH ?_;rotate_left;(focus (intro w' hSw;(try dsimp only at hSw);go_simp;(try with_reducible rfl)));(try simp only [Act.put,Au,Av,Aw]));(refine Bh.take 11 (i:=5) (v:=?_) rfl qC (fun _ _ _ h=>h) (Or.inl ⟨by rfl,?_⟩) qH ?_;rotate_left;(focus (intro w' hSw;(try dsimp only at hSw);go_simp;(try with_reducible rfl)));(try simp only [Act.put,Au,Av,Aw]));(refine Bh.one (i:=6) rfl qC (fun K hK=>?_);go_simp;(go_at_call 137;(with_reducible refine (Ym w4.drew).mono ?_);rintro e w5 ⟨p0,p1,p2,rfl,hq,hb5⟩;obtain ⟨gx,bx,mx,ex,bY,mY,eY,rfl,rfl,rfl⟩:=hq.form;have HQ:=Ae hq;clear hq;have hs5:=hb5.size;rw [Ak] at hs5;replace hb5:Below w4.heap.size w4 w5:=kd.trans (by rw [Ak] at hb5;exact hb5);replace t0:=Bb hb5 t0;replace t1:=Bb hb5 t1);(try go_wp2_with fail);refine hK.out _ _ (fun _=>qK) ?_;clear hK K;(try simp only [Act.put,Au,Av,Aw]));(refine Bh.one (i:=7) rfl qC (fun K hK=>?_);go_simp;skip;(try go_wp2_with fail);refine hK.out _ _ (fun _=>qK) ?_;clear hK K;(try simp only [Act.put,Au,Av,Aw]));(refine Bh.one (i:=8) rfl qC (fun K hK=>?_);go_simp;skip;(try go_wp2_with fail);refine hK.out _ _ (fun _=>qK) ?_;clear hK K;(try simp only [Act.put,Au,Av,Aw]));(refine Bh.one (i:=9) rfl qC (fun K hK=>?_);go_simp;skip;(try go_wp2_with fail);refine hK.out _ _ (fun _=>qK) ?_;clear hK K;(try simp only [Act.put,Au,Av,Aw]));have k6:Below w5.heap.size w5 (w5.alloc (.cells #[.bool false,.slice aX nX cX,.slice none 0 0,.bool gx,.slice bx mx ex,.slice bY mY eY] 60)):=Below.alloc (Ac _ _) (Ad _) _
   have k7:Below (w5.alloc (.cells #[.bool false,.slice aX nX cX,.slice none 0 0,.bool gx,.slice bx mx ex,.slice bY mY eY] 60)).heap.size (w5.alloc (.cells #[.bool false,.slice aX nX cX,.slice none 0 0,.bool gx,.slice bx mx ex,.slice bY mY eY] 60)) ((w5.alloc (.cells #[.bool false,.slice aX nX cX,.slice none 0 0,.bool gx,.slice bx mx ex,.slice bY mY eY] 60)).alloc (.cells #[.bool true,.slice none 0 0,.slice (some ⟨w5.heap.size,0,none⟩) 2 2] 60)):=Below.alloc (Ac _ _) (Ad _) _;have k57:Below w5.heap.size w5 ((w5.alloc (.cells #[.bool false,.slice aX nX cX,.slice none 0 0,.bool gx,.slice bx mx ex,.slice bY mY eY] 60)).alloc (.cells #[.bool true,.slice none 0 0,.slice (some ⟨w5.heap.size,0,none⟩) 2 2] 60)):=k6.trans (k7.mono qG);have hz7:(World.heap ((w5.alloc (.cells #[.bool false,.slice aX nX cX,.slice none 0 0,.bool gx,.slice bx mx ex,.slice bY mY eY] 60)).alloc (.cells #[.bool true,.slice none 0 0,.slice (some ⟨w5.heap.size,0,none⟩) 2 2] 60))).size=w5.heap.size+1+1:=by simp
   have B5:Blk ((w5.alloc (.cells #[.bool false,.slice aX nX cX,.slice none 0 0,.bool gx,.slice bx mx ex,.slice bY mY eY] 60)).alloc (.cells #[.bool true,.slice none 0 0,.slice (some ⟨w5.heap.size,0,none⟩) 2 2] 60)) w5.heap.size #[.bool false,.slice aX nX cX,.slice none 0 0,.bool gx,.slice bx mx ex,.slice bY mY eY] 60:=(Bj rfl _ _).alloc _;have kw7:Below wr.heap.size wr ((w5.alloc (.cells #[.bool false,.slice aX nX cX,.slice none 0 0,.bool gx,.slice bx mx ex,.slice bY mY eY] 60)).alloc (.cells #[.bool true,.slice none 0 0,.slice (some ⟨w5.heap.size,0,none⟩) 2 2] 60)):=(k4.trans (hb5.mono hs4)).trans (k57.mono qA);have hown':World.ownsRow ((w5.alloc (.cells #[.bool false,.slice aX nX cX,.slice none 0 0,.bool gx,.slice bx mx ex,.slice bY mY eY] 60)).alloc (.cells #[.bool true,.slice none 0 0,.slice (some ⟨w5.heap.size,0,none⟩) 2 2] 60)) w2.heap.size 60 3 u8 (i+1) ys:=by
    have h:=HY.out.1;rw [hil] at h;exact Bm h kw7
   have hge:=Ge hown';have hltv:∀k,u8.ownBlock=some k→k<wr.heap.size:=fun k e=>by obtain ⟨cur,h⟩:=Kv HY.out.1 e;exact (Ar.1 h).1
   have KEY:∀g,(g=w5.heap.size+1+1∨g<wr.heap.size)→Bt ((w5.alloc (.cells #[.bool false,.slice aX nX cX,.slice none 0 0,.bool gx,.slice bx mx ex,.slice bY mY eY] 60)).alloc (.cells #[.bool true,.slice none 0 0,.slice (some ⟨w5.heap.size,0,none⟩) 2 2] 60)) w2.heap.size (some g) (.bool true) (.slice none 0 0) (.slice (some ⟨w5.heap.size,0,none⟩) 2 2) (Hs lX):=fun g hg=>by
    rw [Hs,Bt];refine ⟨rfl,⟨none,0,0,rfl,Bc.nil _ _,fun _ _=>Bk.nil _ _⟩,some ⟨w5.heap.size,0,none⟩,2,rfl,Ad _,by omega,fun h=>(by cases h),.inr ⟨_,_,rfl,fun g' e=>⟨by omega,by cases e;omega⟩,Cd.of fun j x hx=>?_⟩⟩;rcases j with _|_|j
    ·simp only [List.getElem?_cons_zero,Option.some.injEq] at hx;subst hx;exact ⟨_,_,_,B5.cell 0 _ rfl,B5.cell 1 _ rfl,B5.cell 2 _ rfl,Mm (HXX.out.1.keep kw7) (HXX.out.2.1.keep kw7)⟩
    ·simp only [List.getElem?_cons_succ,List.getElem?_cons_zero,Option.some.injEq] at hx;subst hx;exact ⟨_,_,_,B5.cell 3 _ rfl,B5.cell 4 _ rfl,B5.cell 5 _ rfl,((HQ.out.keep k57).other (by rw [Ak,hz7];omega)).down (by rw [Ak];omega)⟩
    ·simp at hx
   (refine Bh.one (i:=10) rfl qC (fun K hK=>?_);refine step_append_lies _ qP _ _ _ qP w2.heap.size 60 i0 _ 3 56 Tryz.underlying58 hi hy0 hy1 hy2 rfl qJ u8 (i+1) ys qP hown' ⟨w5.heap.size+1,0,none⟩ 1 1 [.bool true,.slice none 0 0,.slice (some ⟨w5.heap.size,0,none⟩) 2 2] qL qP (fun j u h=>by have:=G5 (w5.alloc (.cells #[.bool false,.slice aX nX cX,.slice none 0 0,.bool gx,.slice bx mx ex,.slice bY mY eY] 60)) _ 60 j u h;simpa using this) (by simp [Value.oneCell']) qJ qO qA qI _ rfl ?_;intro g cap w8 hown8 hgrow8 hat8 hlt8;have hne:some wr.heap.size≠u8.ownBlock:=(fun e=>by have:=hltv _ e.symm;omega);have X8:=((X4.keep hb5).keep k57).row hgrow8 hne;have t08:=X8.cell 0 _ rfl;have t18:=X8.cell 1 _ rfl;refine hK.out _ _ (fun _=>qK) ?_;clear hK K;(try simp only [Act.put,Au,Av,Aw]));(refine Bh.one (i:=11) rfl qC (fun K hK=>?_);go_simp;refine hK.out _ _ (fun h=>absurd h qJ) ?_;clear hK K;(try simp only [Act.put,Au,Av,Aw]));refine Bh.done qC ?_ _;have htk:[VT.node false (Ju (1,1)) [],Hs pM,Hs pP].take (i+1+1)=[VT.node false (Ju (1,1)) [],Hs pM,Hs pP].take (i+1)++[Hs lX]:=by rw [List.take_add_one,HXX.out.2.2];rfl
   have HRV:=Ae (show I7 w8 w2.heap.size w2.heap.size (.slice (some ⟨g,0,none⟩) (i+1+1) cap) ([VT.node false (Ju (1,1)) [],Hs pM,Hs pP].take (i+1+1)) from by
    rw [htk];refine I7.next (cap:=cap) (by rw [hil];exact hown') (fun j t hj=>?_) (KEY _ (.inl hz7)) (fun g' e=>KEY g' (.inr (hltv g' e))) (by rw [hil]) (by rw [hil];exact hown8) hgrow8 (hat8.imp id fun e=>by rw [e]);obtain ⟨a0,a1,a2,g',e0,e1,e2,e3,e4⟩:=HY.out.2 j t hj;exact ⟨a0,a1,a2,g',e0,e1,e2,e3,e4.keep kw7⟩)
   have hz8:=hgrow8.size;rw [hz7] at hz8;have kB:Below w.heap.size w w8:=(HBr.trans (kw7.mono HBr.size)).grown hgrow8 (by have:=HBr.size;rw [hz7];omega) (fun k hk=>by have:=hge k hk;omega);have R8:=(Rr.keep kw7).row hgrow8 (fun e=>by have:=hge _ e.symm;omega);clear hown8 hgrow8 hat8 hown';go_wp2_with fail;go_roundw
   case rel=>exact ⟨i+1,by omega,by go_num,HRV.out,R8,kB,by omega⟩
   case measure=>(first|(simp [intOf];omega)|(simp [intOf];done))
  ·obtain rfl:i=2:=by omega
   obtain ⟨ys,hown,hys⟩:=hrow;obtain ⟨g,cap,hcap,hcap2,rfl⟩:∃g cap,3≤cap∧cap≤maxLen∧u8=.slice (some ⟨g,0,none⟩) 3 cap:=by
    rcases hown.2 with ⟨_,e⟩|⟨g,cap,cur,e,_,_,h,h',_⟩
    ·cases e
    ·exact ⟨g,cap,h,h',e⟩
   have hvr:=I7.vrow (n:=3) (cap:=cap) ⟨ys,hown,hys⟩;have HE:∀i x,[VT.node false (Ju (1,1)) [],Hs pM,Hs pP][i]? = some x→∃z0 z1 z2,wr.cell? ⟨g,i*3,none⟩=some z0∧wr.cell? ⟨g,i*3+1,none⟩=some z1∧wr.cell? ⟨g,i*3+2,none⟩=some z2∧Bt wr w2.heap.size (some g) z0 z1 z2 x:=fun i x hx=>by
    obtain ⟨z0,z1,z2,d0,d1,d2,hv⟩:=hvr.at hx;rw [Nat.zero_add] at d0 d1 d2;exact ⟨z0,z1,z2,d0,d1,d2,hv⟩
   have HEE:=Ae HE;have hgg:=Ge hown g rfl;clear HE;have HV:Bt wr 0 none (.bool true) (.slice none 0 0) (.slice (some ⟨g,0,none⟩) 3 cap) N7:=by
    rw [N7,Bt];refine ⟨rfl,⟨none,0,0,rfl,Bc.nil _ _,fun _ _=>Bk.nil _ _⟩,some ⟨g,0,none⟩,cap,rfl,hcap,by unfold maxLen at hcap2;omega,fun h=>(by cases h),.inr ⟨_,_,rfl,fun g' e=>(by cases e),Cd.of fun j x hx=>?_⟩⟩;obtain ⟨z0,z1,z2,d0,d1,d2,hv⟩:=hvr.at hx;exact ⟨z0,z1,z2,d0,d1,d2,hv.read⟩
   have HVV:=Ae HV;clear HV hvr hown hys;go_wp2_with fail;refine (jQ HVV.out cJ).mono ?_;rintro e w5 ⟨rfl,hb5⟩;have b5:=HBr.trans (hb5.mono HBr.size);have R5:=Rr.keep hb5;have r0:=R5.cell 0 _ rfl;have r1:=R5.cell 1 _ rfl;have r2:=R5.cell 2 _ rfl;have f0:=R5.frozen 0;have f1:=R5.frozen 1;have f2:=R5.frozen 2;have rl:=R5.lt;go_wp2_with fail;refine bodyPost_ret (v:=.tuple #[.agg #[.bool true,.slice none 0 0,.slice (some ⟨g,0,none⟩) 3 cap],.int .i64 0]) (by simp [results,Tryz.results147,go_sem,rl,r0,r1,r2]) rfl ?_;refine ⟨_,_,_,rfl,?_,Cf b5 qA _ _ _⟩;have hgl:g<wr.heap.size:=by obtain ⟨z0,z1,z2,d0,_⟩:=HEE.out 0 _ rfl;exact Aa _ _ d0
   have hz5:=hb5.size;rw [N7,Bt];refine ⟨rfl,⟨none,0,0,rfl,Bc.nil _ _,fun _ _=>Bk.nil _ _⟩,some ⟨g,0,none⟩,cap,rfl,hcap,by unfold maxLen at hcap2;omega,fun h=>(by cases h),.inr ⟨_,_,rfl,fun g' e=>⟨by omega,by cases e;rw [Am,Am,Am];omega⟩,Cd.of fun j x hx=>?_⟩⟩;obtain ⟨z0,z1,z2,d0,d1,d2,hv⟩:=HEE.out j x hx;have g6:=Mo w5 (w.heap.size+1) (.bool true) (.slice none 0 0) (.slice (some ⟨g,0,none⟩) 3 cap);have hgl5:=Aa _ _ (Bb hb5 d0);have hgn:some g≠some (w.heap.size+1):=by simp;omega
   rw [Nat.zero_add];exact ⟨z0,z1,z2,g6.cell (Bb hb5 d0) hgn,g6.cell (Bb hb5 d1) hgn,g6.cell (Bb hb5 d2) hgn,((Ez (hv.keep hb5) qA R5 _ _ _).other (.inl (Ad _))).down qA⟩
end Go.Proofs.YtnnhcbeiogaknaaGreatDoor
end
