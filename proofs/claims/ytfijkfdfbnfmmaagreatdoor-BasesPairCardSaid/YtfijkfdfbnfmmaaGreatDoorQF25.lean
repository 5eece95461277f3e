/- Plain: digits, nine by nine. -/
import Derived.Test.YtfijkfdfbnfmmaaGreatDoorQF23
set_option linter.unusedSimpArgs false
set_option linter.unusedVariables false
set_option maxRecDepth 100000
set_option maxHeartbeats 4000000
section
namespace Go.Proofs.YtfijkfdfbnfmmaaGreatDoor
open Go.RowKit Proofs.Tryz
variable (l:List UInt8) {d s:List UInt8}
theorem jR (d:List UInt8) (a:Nat):d.foldl (fun n b=>10*n+(b.toNat-48)) a=a*10 ^ d.length+Ee d:=by
 induction d generalizing a with
 | nil=>simp [Ee]
 | cons b r ih =>
  have e:Ee (b::r)=(10*0+(b.toNat-48))*10 ^ r.length+Ee r:=by rw [←ih];rfl
  rw [List.foldl_cons,ih,e,List.length_cons,Nat.pow_succ];rw [Nat.add_mul,Nat.add_mul,Nat.mul_zero,Nat.zero_mul];have:10*a*10 ^ r.length=a*(10 ^ r.length*10):=by rw [Nat.mul_comm 10 a,Nat.mul_assoc,Nat.mul_comm 10 (10 ^ r.length)]
  rw [this];omega
theorem bD (a b:List UInt8):Ee (a++b)=Ee a*10 ^ b.length+Ee b:=by
 have:Ee (a++b)=b.foldl (fun n b=>10*n+(b.toNat-48)) (Ee a):=by simp [Ee,List.foldl_append]
 rw [this,jR]
theorem Q9 (h:d.all Ea=true) (hl:d.length≤9):Ee d<1000000000:=by
 have h1:=iM h;have h2:10 ^ d.length≤10 ^ 9:=Nat.pow_le_pow_right qB hl;omega
structure Qd (s:List UInt8) (j:Nat) (d:Ξ):Prop where
 le:j≤s.length
 small:∀x∈d,x<1000000000
 lies:j=0∨j+9*d.length=s.length
 few:d.length≤s.length
 sum:val d+1000000000 ^ d.length*Ee (s.take j)=Ee s
theorem Qd.start (s:List UInt8):Qd s s.length []:=⟨Ad _,qH,qH,qH,by simp [val]⟩
theorem pF (v P y X K:Nat):v+P*y+P*K*X=v+P*(X*K+y):=by
 rw [Nat.mul_add,Nat.mul_comm X K,Nat.mul_assoc];omega
theorem rB (v P y K q:Nat):v+P*y+P*K*0=v+P*(0*q+y):=by
 rw [Nat.mul_zero,Nat.zero_mul,Nat.zero_add,Nat.add_zero]
theorem Qd.next {j:Nat} {d:Ξ} (h:Qd s j d) (ha:s.all Ea=true) (hj:0<j):Qd s (j-9) (d++[Ee ((s.take j).drop (j-9))]):=by
 obtain ⟨h1,h2,h3,h4,h5⟩:=h;have hl:((s.take j).drop (j-9)).length=j-(j-9):=qL;have fh:((s.take j).drop (j-9)).all Ea=true:=by
  rw [List.all_eq_true] at ha ⊢;exact fun x hx=>ha x (List.mem_of_mem_take (List.mem_of_mem_drop hx))
 have hn:=Q9 fh qB;refine ⟨qB,?_,?_,?_,?_⟩
 ·intro x hx;rcases List.mem_append.1 hx with hx|hx
  ·exact h2 x hx
  ·simp only [Ao] at hx;omega
 ·rw [A8,List.length_singleton];omega
 ·rw [A8,List.length_singleton];omega
 ·rw [Fq,A8,List.length_singleton,Nat.pow_succ];have e1:s.take j=s.take (j-9)++(s.take j).drop (j-9):=by
   have:(s.take j).take (j-9)=s.take (j-9):=by rw [List.take_take];congr 1;omega
   rw [←this,List.take_append_drop]
  have e2:Ee (s.take j)=Ee (s.take (j-9))*10 ^ (j-(j-9))+Ee ((s.take j).drop (j-9)):=by
   conv=>lhs;rw [e1]
   rw [bD,hl]
  have e3:val [Ee ((s.take j).drop (j-9))]=Ee ((s.take j).drop (j-9)):=by simp [val]
  rw [e3,←h5,e2];by_cases h9:9≤j
  ·have e4:(10:Nat) ^ (j-(j-9))=1000000000:=by rw [show j-(j-9)=9 from qB]
   rw [e4];exact pF _ _ _ _ _
  ·have e5:Ee (s.take (j-9))=0:=by rw [show j-9=0 from qB];rfl
   rw [e5];exact rB _ _ _ _ _
theorem Qd.done {d:Ξ} (h:Qd s 0 d):val d=Ee s:=by
 have:=h.sum;simpa [Ee] using this
abbrev Mi (n:Nat) (b:UInt8):Nat:=10*n+(b.toNat-48)
theorem bB (a:Nat):a≤l.foldl Mi a:=by
 induction l generalizing a with
 | nil=>exact Ad _
 | cons b r ih =>
  have:=ih (Mi a b);rw [List.foldl_cons];have:a≤Mi a b:=by show a≤10*a+(b.toNat-48);omega
  omega
theorem Mr {b:UInt8} (h:Ea b=true):48≤b.toNat∧b.toNat≤57:=by
 unfold Ea at h;simp at h;omega
theorem Vc (zh:Nat) (hM:zh<1000000000000000000) (l:List UInt8) (h:l.all Ea=true) (a:Nat) (hl:l.foldl Mi a≤zh):Lib.parseUintM zh a l=.ok (l.foldl Mi a):=by
 induction l generalizing a with
 | nil=>rfl
 | cons b r ih =>
  simp only [List.all_cons,Bool.and_eq_true] at h;obtain ⟨h1,h2⟩:=Mr h.1;rw [List.foldl_cons] at hl ⊢;have h3:=bB r (Mi a b);have h4:Mi a b=a*10+(b.toNat-48):=by show 10*a+(b.toNat-48)=_;omega
  rw [Lib.parseUintM,if_pos ⟨h1,h2⟩,if_neg qB,if_neg qB,←h4];exact ih h.2 _ hl
theorem Ut (h:d.all Ea=true) (h0:d≠[]) (hl:d.length≤9):Lib.parseUintB 32 d=.ok (Ee d):=by
 have h1:=Q9 h hl;unfold Lib.parseUintB;rw [if_neg h0];exact Vc _ qI d h 0 (by show Ee d≤2 ^ 32-1;omega)
theorem Tv (h:l.all Ea=true) (a:Nat) (ha:a<18446744073709551616):Lib.parseUint10 a l=if l.foldl Mi a<18446744073709551616 then .ok (l.foldl Mi a) else .range:=by
 induction l generalizing a with
 | nil=>simp [Lib.parseUint10,ha]
 | cons b r ih =>
  simp only [List.all_cons,Bool.and_eq_true] at h;obtain ⟨h1,h2⟩:=Mr h.1;rw [List.foldl_cons];have h3:=bB r (Mi a b);have h4:Mi a b=a*10+(b.toNat-48):=by show 10*a+(b.toNat-48)=_;omega
  rw [Lib.parseUint10,if_pos ⟨h1,h2⟩];by_cases h5:1844674407370955162≤a
  ·rw [if_pos h5,if_neg qB]
  ·rw [if_neg h5];by_cases h6:18446744073709551616≤a*10+(b.toNat-48)
   ·rw [if_pos h6,if_neg qB]
   ·rw [if_neg h6,←h4];exact ih h.2 _ qB
theorem Z6 (h:E3 d=true):Lib.atoiAll d=if Ee d<9223372036854775808 then .ok (Ee d:Int) else .range:=by
 obtain ⟨ha,hl⟩:=Li h
 cases d with
 | nil=>simp at hl
 | cons c r =>
  obtain ⟨h1,h2⟩:=Mr (b:=c) (by simp only [List.all_cons,Bool.and_eq_true] at ha;exact ha.1);have hp:Lib.parseMag (c::r)=if Ee (c::r)<18446744073709551616 then .ok (Ee (c::r)) else .range:=by
   unfold Lib.parseMag;rw [if_neg qH,Tv _ ha 0 qB];rfl
  unfold Lib.atoiAll;simp only;rw [if_neg qB,hp];have hc:¬c.toNat=45:=qB;by_cases h5:Ee (c::r)<18446744073709551616
  ·rw [if_pos h5];simp only [hc];by_cases h6:Ee (c::r)<9223372036854775808
   ·simp [h6]
   ·simp [h6]
  ·rw [if_neg h5,if_neg qB]
end Go.Proofs.YtfijkfdfbnfmmaaGreatDoor
end
section
namespace Go.Proofs
open YtfijkfdfbnfmmaaGreatDoor
open Go.Shelf
def Tryz.lays161_ren:Go.Shelf.Ren:=⟨fun|161=>239|231=>270|227=>271|233=>272|235=>273|228=>305|197=>306|151=>307|260=>331|152=>332|137=>241|119=>353|224=>354|225=>355|217=>274|266=>308|n=>n,fun|9=>9|4=>4|3=>3|5=>5|117=>302|116=>301|0=>0|124=>305|105=>332|21=>21|119=>375|46=>291|139=>378|138=>377|n=>n,fun|3=>2|4=>3|n=>n⟩
theorem Tryz.lays161:Go.Proofs.Lays.n161 prog Tryz.lays161_ren:={
 mixed:=qE
 f119:=xa func353
 f137:=xa func241
 f151:=xa func307
 f152:=xa func332
 f161:=xa func239
 f197:=xa func306
 f217:=xa func274
 f224:=xa func354
 f225:=xa func355
 f227:=xa func271
 f228:=xa func305
 f231:=xa func270
 f233:=xa func272
 f235:=xa func273
 f260:=xa func331
 f266:=xa func308
 t0:=underlying0
 a0:=Tryz.isAgg0
 z0:=Tryz.sizeOf0
 v0:=Tryz.zeroValue0
 t3:=underlying3
 a3:=Tryz.isAgg3
 z3:=Tryz.sizeOf3
 v3:=Tryz.zeroValue3
 t4:=underlying4
 a4:=Tryz.isAgg4
 z4:=Tryz.sizeOf4
 v4:=Tryz.zeroValue4
 t5:=underlying5
 a5:=Tryz.isAgg5
 z5:=Tryz.sizeOf5
 v5:=Tryz.zeroValue5
 t9:=underlying9
 a9:=Tryz.isAgg9
 z9:=Tryz.sizeOf9
 v9:=Tryz.zeroValue9
 t21:=underlying21
 a21:=Tryz.isAgg21
 z21:=Tryz.sizeOf21
 v21:=Tryz.zeroValue21
 t46:=underlying291
 a46:=Tryz.isAgg291
 z46:=Tryz.sizeOf291
 v46:=Tryz.zeroValue291
 t105:=underlying332
 a105:=Tryz.isAgg332
 z105:=Tryz.sizeOf332
 v105:=Tryz.zeroValue332
 t116:=underlying301
 a116:=Tryz.isAgg301
 z116:=Tryz.sizeOf301
 t117:=underlying302
 a117:=Tryz.isAgg302
 z117:=Tryz.sizeOf302
 v117:=Tryz.zeroValue302
 t119:=underlying375
 a119:=Tryz.isAgg375
 z119:=Tryz.sizeOf375
 t124:=underlying305
 a124:=Tryz.isAgg305
 z124:=Tryz.sizeOf305
 v124:=Tryz.zeroValue305
 t138:=underlying377
 a138:=Tryz.isAgg377
 z138:=Tryz.sizeOf377
 v138:=Tryz.zeroValue377
 t139:=underlying378
 a139:=Tryz.isAgg378
 z139:=Tryz.sizeOf378
 v139:=Tryz.zeroValue378
 g3:=qE
 g4:=by kernel_rfl }
def Tryz.lays160_ren:Go.Shelf.Ren:=⟨fun|160=>312|232=>339|231=>270|227=>271|234=>340|233=>272|236=>341|235=>273|228=>305|271=>358|151=>307|197=>306|120=>363|152=>332|260=>331|137=>241|119=>353|224=>354|225=>355|217=>274|266=>308|n=>n,fun|9=>9|4=>4|3=>3|5=>5|117=>302|116=>301|0=>0|124=>305|21=>21|105=>332|46=>291|119=>375|139=>378|138=>377|n=>n,fun|3=>2|4=>3|n=>n⟩
theorem Tryz.lays160:Go.Proofs.Lays.n160 prog Tryz.lays160_ren:={
 mixed:=qE
 f119:=xa func353
 f120:=xa func363
 f137:=xa func241
 f151:=xa func307
 f152:=xa func332
 f160:=xa func312
 f197:=xa func306
 f217:=xa func274
 f224:=xa func354
 f225:=xa func355
 f227:=xa func271
 f228:=xa func305
 f231:=xa func270
 f232:=xa func339
 f233:=xa func272
 f234:=xa func340
 f235:=xa func273
 f236:=xa func341
 f260:=xa func331
 f266:=xa func308
 f271:=xa func358
 t0:=underlying0
 a0:=Tryz.isAgg0
 z0:=Tryz.sizeOf0
 v0:=Tryz.zeroValue0
 t3:=underlying3
 a3:=Tryz.isAgg3
 z3:=Tryz.sizeOf3
 v3:=Tryz.zeroValue3
 t4:=underlying4
 a4:=Tryz.isAgg4
 z4:=Tryz.sizeOf4
 v4:=Tryz.zeroValue4
 t5:=underlying5
 a5:=Tryz.isAgg5
 z5:=Tryz.sizeOf5
 v5:=Tryz.zeroValue5
 t9:=underlying9
 a9:=Tryz.isAgg9
 z9:=Tryz.sizeOf9
 v9:=Tryz.zeroValue9
 t21:=underlying21
 a21:=Tryz.isAgg21
 z21:=Tryz.sizeOf21
 v21:=Tryz.zeroValue21
 t46:=underlying291
 a46:=Tryz.isAgg291
 z46:=Tryz.sizeOf291
 v46:=Tryz.zeroValue291
 t105:=underlying332
 a105:=Tryz.isAgg332
 z105:=Tryz.sizeOf332
 v105:=Tryz.zeroValue332
 t116:=underlying301
 a116:=Tryz.isAgg301
 z116:=Tryz.sizeOf301
 t117:=underlying302
 a117:=Tryz.isAgg302
 z117:=Tryz.sizeOf302
 v117:=Tryz.zeroValue302
 t119:=underlying375
 a119:=Tryz.isAgg375
 z119:=Tryz.sizeOf375
 t124:=underlying305
 a124:=Tryz.isAgg305
 z124:=Tryz.sizeOf305
 v124:=Tryz.zeroValue305
 t138:=underlying377
 a138:=Tryz.isAgg377
 z138:=Tryz.sizeOf377
 v138:=Tryz.zeroValue377
 t139:=underlying378
 a139:=Tryz.isAgg378
 z139:=Tryz.sizeOf378
 v139:=Tryz.zeroValue378
 g3:=qE
 g4:=by kernel_rfl }
def Tryz.lays137_ren:Go.Shelf.Ren:=⟨fun|137=>241|217=>274|266=>308|n=>n,fun|9=>9|5=>5|3=>3|n=>n,fun|n=>n⟩
theorem Tryz.lays137:Go.Proofs.Lays.n137 prog Tryz.lays137_ren:={
 mixed:=qE
 f137:=xa func241
 f217:=xa func274
 f266:=xa func308
 t3:=underlying3
 a3:=Tryz.isAgg3
 z3:=Tryz.sizeOf3
 v3:=Tryz.zeroValue3
 t5:=underlying5
 a5:=Tryz.isAgg5
 z5:=Tryz.sizeOf5
 v5:=Tryz.zeroValue5
 t9:=underlying9
 a9:=Tryz.isAgg9
 z9:=Tryz.sizeOf9
 v9:=Tryz.zeroValue9 }
open Go.RowKit in
theorem Tryz.strings_IndexByte (s:ByteArray) (c:Int) (w:World) :
  Calls prog 241 #[.string s,.int .u8 c] w fun e w'=>e=.returned (M (Lib.indexByte s.data.toList c.toNat.toUInt8))∧w'=w:=Any.strings_IndexByte Tryz.lays137 s c w
def Tryz.lays103_ren:Go.Shelf.Ren:=⟨fun|103=>311|210=>338|206=>345|n=>n,fun|9=>9|4=>4|24=>336|3=>3|n=>n,fun|n=>n⟩
theorem Tryz.lays103:Go.Proofs.Lays.n103 prog Tryz.lays103_ren:={
 mixed:=qE
 f103:=xa func311
 f206:=xa func345
 f210:=xa func338
 t3:=underlying3
 a3:=Tryz.isAgg3
 z3:=Tryz.sizeOf3
 v3:=Tryz.zeroValue3
 t4:=underlying4
 a4:=Tryz.isAgg4
 z4:=Tryz.sizeOf4
 v4:=Tryz.zeroValue4
 t9:=underlying9
 a9:=Tryz.isAgg9
 z9:=Tryz.sizeOf9
 v9:=Tryz.zeroValue9
 t24:=underlying336
 a24:=Tryz.isAgg336
 z24:=Tryz.sizeOf336
 v24:=Tryz.zeroValue336 }
open Go.RowKit in
theorem Tryz.strings_CutPrefix (s p:ByteArray) (w:World) :
  Calls prog 311 #[.string s,.string p] w fun e w'=>e=.returned (.tuple #[.string ⟨(Lib.trimPrefix s.data.toList p.data.toList).toArray⟩,.bool (Lib.hasPrefix s.data.toList p.data.toList)])∧w'=w:=Any.strings_CutPrefix Tryz.lays103 s p w
open Go.RowKit in
theorem Tryz.TrimLeft_set (s l6:ByteArray) (w:World) (sj:l6.size<4294967281) (EE:∀(j:Nat) b,l6.data.toList[j]? = some b→b.toNat<128) :
  Calls prog 239 #[.string s,.string l6] w fun e w'=>e=.returned (.string ⟨(Lib.trimLeftS s.data.toList l6.data.toList).toArray⟩)∧xp w w' :=
 Any.strings_TrimLeft_laid Tryz.lays161 (qE) s l6 w sj EE
open Go.RowKit in
theorem Tryz.Trim_set (s l6:ByteArray) (w:World) (hs:s.size≤9223372036854775807) (sj:l6.size<4294967281) (EE:∀(j:Nat) b,l6.data.toList[j]? = some b→b.toNat<128) :
  Calls prog 312 #[.string s,.string l6] w fun e w'=>e=.returned (.string ⟨(Lib.trimS s.data.toList l6.data.toList).toArray⟩)∧xp w w' :=
 Any.strings_Trim_laid Tryz.lays160 (qE) s l6 w hs sj EE
end Go.Proofs
end
section
namespace Go.Proofs.YtfijkfdfbnfmmaaGreatDoor
open Go.RowKit Proofs.Tryz
variable (L:List UInt8) (b:UInt8) (W:World) (p:UInt8→Bool) (k:Nat) (l:List UInt8) {many:Bool} {d:List UInt8} {R:Nat} {w w':World} {ao:Γ}
abbrev Lb:List PanicEntry:=[{ v:=.iface 206 (.agg #[]),recovered:=false }]
theorem Eg (w:World):Θ 207 #[.bool true] w fun e w'=>e=.returned (.tuple #[])∧w'=w:=by
 go_enter func207,ntmps207;go_wp2;exact bodyPost_end (v:=.tuple #[]) (by simp [results,results207,go_sem]) rfl ⟨rfl,rfl⟩
theorem Ov (w:World):Θ 207 #[.bool false] w fun e w'=>e=.panicked Lb∧w'=w:=by
 go_enter func207,ntmps207;go_wp2;exact ⟨rfl,rfl,rfl⟩
structure Cl (w:World) (R:Nat) (L:List UInt8) (many:Bool):Prop where
 c0:Z w R 0 (.string ⟨L.toArray⟩)
 c1:Z w R 1 (.bool many)
 f0:Y w R 0
 f1:Y w R 1
theorem Cl.lt {L:List UInt8} (h:Cl w R L many):R<w.heap.size:=Aa _ _ h.c0
theorem Cl.keep {L:List UInt8} (h:Cl w R L many) (hb:xp w w'):Cl w' R L many :=
 ⟨Bb hb h.c0,Bb hb h.c1,(Ab hb h.lt).trans h.f0,(Ab hb h.lt).trans h.f1⟩
theorem Bl (h:xp w w') (row:Option Nat):w.grownBy w' row:=⟨h.os,h.tape,h.output,h.size,fun k hk _=>h.block k hk⟩
theorem Bm {o:Nat} (v:Value) (h:w.grownBy w' (some R)):w.grownBy (w'.setCell (J R o) v) (some R):=by
 have hb:Below R w' (w'.setCell (J R o) v):=(Ac R w').setCell (p:=⟨R,o,none⟩) (Ad _) v;exact ⟨hb.os.trans h.os,hb.tape.trans h.tape,hb.output.trans h.output,Ah h.size hb.size,fun k hk di=>by
  rw [Below.heap_setCell w' (J R o) v k (by intro e;exact di (by rw [e]))];exact h.block k hk di⟩
theorem Cl.set0 {L:List UInt8} (h:Cl w R L many) (L':List UInt8):Cl (w.setCell (J R 0) (.string ⟨L'.toArray⟩)) R L' many:=qEq
theorem Cl.set1 {L:List UInt8} (h:Cl w R L many) (m:Bool):Cl (w.setCell (J R 1) (.bool m)) R L m:=qEq
theorem Cn (w:World) (row:Option Nat):w.grownBy w row:=Bl (Ac _ _) row
theorem Xz:([32,9]:List UInt8).contains b=rQ b:=by
 unfold rQ;by_cases h1:b=32
 ·subst h1;rfl
 ·by_cases h2:b=9
  ·subst h2;rfl
  ·have e1:¬(b.toNat:Int)=32:=fun e=>h1 (UInt8.toNat_inj.1 (by show b.toNat=32;omega))
   have e2:¬(b.toNat:Int)=9:=fun e=>h2 (UInt8.toNat_inj.1 (by show b.toNat=9;omega))
   simp [h1,h2,e1,e2]
theorem nY:Lib.trimLeftS L [32,9]=skp L:=by
 unfold Lib.trimLeftS skp
 congr 1
 funext b
 exact Xz b
theorem Pi:([48,49,50,51,52,53,54,55,56,57]:List UInt8).contains b=Ea b:=by
 have h:∀n:Fin 256,([48,49,50,51,52,53,54,55,56,57]:List UInt8).contains (UInt8.ofNat n)=decide (48≤n.val∧n.val≤57):=qI;have:=h ⟨b.toNat,b.toNat_lt⟩;simp only [UInt8.ofNat_toNat] at this;rw [this];unfold Ea;rw [decide_eq_decide];omega
theorem oN:Lib.trimLeftS L [48,49,50,51,52,53,54,55,56,57]=L.dropWhile Ea:=by
 unfold Lib.trimLeftS
 congr 1
 funext b
 exact Pi b
theorem Rm (w:World) (R:Nat) (L:List UInt8) (many:Bool) (h:Cl w R L many) (hL:L.length<1000000000) :
  Θ 204 #[.pointer (E R)] w fun e w'=>e=.returned (.tuple #[])∧Cl w' R (skp L) many∧w.grownBy w' (some R):=by
 have h0:=h.c0;have f0:=h.f0;go_enter func204,ntmps204;go_wp2_with fail;refine (Tryz.TrimLeft_set ⟨L.toArray⟩ ⟨#[32,9]⟩ _ (by simp [ByteArray.size]) (Go.Proofs.ascii_of_all qI)).mono ?_;rintro e w1 ⟨rfl,hb⟩;have hr:=h.keep hb;have g1:=hr.c0;have g2:=hr.f0;go_wp2_with fail;refine bodyPost_end (v:=.tuple #[]) (by simp [results,results204,go_sem]) rfl ⟨rfl,?_,?_⟩
 ·have:=hr.set0 (skp L);simpa [nY] using this
 ·exact Bm _ (Bl hb _)
theorem Un (s:ByteArray) (k:Nat) (hk:k≤s.size):(Instr.sliceAt 9 (.string s) none (some (M (k:Int))) none).run prog W=.ok (.string (s.extract 0 k)) W:=qBu
theorem Vq (s:ByteArray) (k:Nat) (hk:k≤s.size):(Instr.sliceAt 9 (.string s) (some (M (k:Int))) none none).run prog W=.ok (.string (s.extract k s.size)) W:=qBu
theorem Vj (L:List UInt8):L.take (L.length-(L.dropWhile p).length)=L.takeWhile p∧L.drop (L.length-(L.dropWhile p).length)=L.dropWhile p∧L.length-(L.dropWhile p).length=(L.takeWhile p).length:=by
 have h:=List.takeWhile_append_dropWhile (p:=p) (l:=L);have hl:(L.takeWhile p).length+(L.dropWhile p).length=L.length:=by rw [←A8,h]
 have e:L.length-(L.dropWhile p).length=(L.takeWhile p).length:=qB;refine ⟨?_,?_,e⟩
 ·rw [e];have:=List.take_left (l₁:=L.takeWhile p) (l₂:=L.dropWhile p);rwa [h] at this
 ·rw [e];have:=List.drop_left (l₁:=L.takeWhile p) (l₂:=L.dropWhile p);rwa [h] at this
theorem Nt:(⟨L.toArray⟩:ByteArray).extract 0 k=⟨(L.take k).toArray⟩:=by
 apply ByteArray.ext;simp
theorem Pm:(⟨L.toArray⟩:ByteArray).extract k L.length=⟨(L.drop k).toArray⟩:=by
 apply ByteArray.ext;simp;rw [As qH]
def Mo (w:World) (R:Nat) (x:Option (List UInt8×List UInt8×Bool)) (e:Ending) (w':World):Prop :=
 w.grownBy w' (some R)∧match x with|none=>e=.panicked Lb|some (d,r,m)=>e=.returned (.string ⟨d.toArray⟩)∧Cl w' R r m
theorem Mo.no (h:w.grownBy w' (some R)):Mo w R none (.panicked Lb) w':=⟨h,rfl⟩
theorem Mo.yes {r:List UInt8} {m:Bool} (h:w.grownBy w' (some R)) (hr:Cl w' R r m):Mo w R (some (d,r,m)) (.returned (.string ⟨d.toArray⟩)) w':=⟨h,rfl,hr⟩
theorem J7 {row:Option Nat} (h:w.grownBy w' row):w.grownBy w'.drew row:=⟨h.os,h.tape,h.output,h.size,h.block⟩
theorem Cl.drew {L:List UInt8} (h:Cl w R L many):Cl w.drew R L many:=⟨h.c0,h.c1,h.f0,h.f1⟩
theorem lR (w:World) (L r:List UInt8) (hr:L.dropWhile Ea=r):Θ 239 #[.string ⟨L.toArray⟩,.string ⟨#[48,49,50,51,52,53,54,55,56,57]⟩] w fun e w'=>e=.returned (.string ⟨r.toArray⟩)∧xp w w':=by
 have:=Tryz.TrimLeft_set ⟨L.toArray⟩ ⟨#[48,49,50,51,52,53,54,55,56,57]⟩ w (by simp [ByteArray.size]) (Go.Proofs.ascii_of_all qI);rw [oN,hr] at this;exact this
theorem aH (w:World) (R:Nat) (L:List UInt8) (many:Bool) (h:Cl w R L many) (hL:L.length<1000000000) :
  Θ 277 #[.pointer (E R)] w (Mo w R (K8 L many)):=by
 have h0:=h.c0;have f0:=h.f0;have h1:=h.c1;have f1:=h.f1;obtain ⟨t1,t2,t3⟩:=Vj Ea L;have hle:(L.dropWhile Ea).length≤L.length:=(List.dropWhile_sublist _).length_le;generalize hr:L.dropWhile Ea=r at *;generalize hd:L.takeWhile Ea=d at *;have hw:wrap64 ((L.length:Int)-(r.length:Int))=(d.length:Int):=by rw [←t3];unfold wrap64;omega
 go_enter func277,ntmps277;go_wp2_with fail;replace h0:=Bk h0;(refine Bi qE qE ?_;(repeat (go_big_quiet_step (first|(go_at_call 239;exact Cr (lR _ L r hr)))));refine wpQuiet_nil ?_;intro _ cw;obtain ⟨nq,cw⟩:=cw;subst cw);obtain ⟨w1,hb⟩:=nq;have hn:(L.length:Int)-(r.length:Int)=(d.length:Int):=qB;have hR:=h.keep hb;have c0:=hR.c0;have c1:=hR.c1;have z0:=hR.f0;have z1:=hR.f1;rw [hn];have q1:∀W:World,(Instr.sliceAt 9 (.string ⟨L.toArray⟩) none (some (M (d.length:Int))) none).run prog W=.ok (.string ⟨d.toArray⟩) W:=fun W=>by
  rw [Un W _ _ (by show d.length≤L.toArray.size;simp;omega),Nt,←t3,t1]
 have q2:∀W:World,(Instr.sliceAt 9 (.string ⟨L.toArray⟩) (some (M (d.length:Int))) none none).run prog W=.ok (.string ⟨r.toArray⟩) W:=fun W=>by
  rw [Vq W _ _ (by show d.length≤L.toArray.size;simp;omega)];have:(⟨L.toArray⟩:ByteArray).size=L.length:=by simp [ByteArray.size]
  rw [this,Pm,←t3,t2]
 clear h0 h1 f0 f1 hn;go_wp2_with fail;refine Bw (fun W=>Z W R 0 (.string ⟨L.toArray⟩)) 16 qE qK (fun ib=>?_);(refine xc 16 0 ?_;(try simp only [xb]));(refine xc 16 1 ?_;(try simp only [xb]));(refine xc 16 2 ?_;(try simp only [xb]));(refine xc 16 3 ?_;(try simp only [xb]));(refine xc 16 4 ?_;(try simp only [xb]));(refine xc 16 5 ?_;(try simp only [xb]));(refine xc 16 6 ?_;(try simp only [xb]));(refine xc 16 7 ?_;(try simp only [xb]));(refine xc 16 8 ?_;(try simp only [xb]));(refine xc 16 9 ?_;(try simp only [xb]));(refine xc 16 10 ?_;(try simp only [xb]));(refine xc 16 11 ?_;(try simp only [xb]));(refine xc 16 12 ?_;(try simp only [xb]));(refine Bd.one (i:=13) rfl qE (fun K hK=>?_);go_simp;skip;(try go_wp2_with fail);refine hK.out _ _ (fun _=>qK) ?_;clear hK K;(try simp only [xb]));(refine Bd.one (i:=14) rfl qE (fun K hK=>?_);go_simp;skip;(try go_wp2_with fail);refine hK.out _ _ (fun _=>qK) ?_;clear hK K;(try simp only [xb]));(refine Bd.one (i:=15) rfl qE (fun K hK=>?_);go_simp;skip;(try go_wp2_with fail);refine hK.out _ _ (fun _=>qK) ?_;clear hK K;(try simp only [xb]));(refine Bd.one (i:=16) rfl qE (fun K hK=>?_);go_simp;refine hK.out _ _ (fun h=>absurd h qI) ?_;clear hK K;(try simp only [xb]));refine Bd.done qE ?_ _;have LL:=(hR.set0 r);have fh:d.all Ea=true:=by rw [←hd];exact List.all_takeWhile
 have oh:w.grownBy (w1.setCell (J R 0) (.string ⟨r.toArray⟩)) (some R):=Bm _ (Bl hb _);have HN:=Ae (show K8 L many=if E3 d then some (d,r,many || decide (200<d.length)) else none by unfold K8;rw [hd,hr]);have HA:=Ae fh;clear c0 c1 z0 z1 t1 t2 t3 hw hle hr hd q1 q2 hR hb h fh;generalize (w1.setCell (J R 0) (.string ⟨r.toArray⟩))=w2 at *;have c0:=LL.c0;have c1:=LL.c1;have z0:=LL.f0;have z1:=LL.f1
 cases d with
 | nil =>
  go_wp2_with (first|(go_at_call 207;refine (Ov _).mono ?_;rintro e w3 ⟨rfl,rfl⟩));refine ⟨rfl,?_⟩;rw [HN.out];exact .no (J7 oh)
 | cons b t =>
  have hy:(⟨(b::t).toArray⟩:ByteArray)[0]'(by simp [ByteArray.size])=b:=by simp [ByteArray.getElem_eq_getElem_data]
  by_cases hb:b=48
  ·subst hb
   cases t with
   | nil =>
    go_wp2_with (first|(go_at_call 207;refine (Eg _).mono ?_;rintro e w3 ⟨rfl,rfl⟩));all_goals
     refine bodyPost_ret (v:=.string ⟨([48]:List UInt8).toArray⟩) (by simp [results,results277,go_sem]) rfl ?_;rw [HN.out,if_pos qM];refine .yes (J7 (Bm _ oh)) ?_;first
      | (rw [show (many || decide (200<([48]:List UInt8).length))=true by simp [*]];exact (LL.set1 true).drew)
      | (rw [show (many || decide (200<([48]:List UInt8).length))=false by simp [*]];exact (LL.set1 false).drew)
   | cons c t' =>
    go_wp2_with (first|(go_at_call 207;refine (Ov _).mono ?_;rintro e w3 ⟨rfl,rfl⟩));refine ⟨rfl,?_⟩;rw [HN.out,show E3 (48::c::t')=false by simp [E3]];exact .no (J7 oh)
  ·have BP:¬(b.toNat:Int)=48:=fun e=>hb (UInt8.toNat_inj.1 (by show b.toNat=48;omega))
   have AT:Hid (E3 (b::t)=true):=Ae (by simp only [E3,HA.out,Bool.true_and];simp [BP]);have ats:(b==48&&t.isEmpty || ((b.toNat:Int) != 48))=true:=by simp [BP]
   go_wp2_with (first|(go_at_call 207;refine (Eg _).mono ?_;rintro e w3 ⟨rfl,rfl⟩));all_goals
    refine bodyPost_ret (v:=.string ⟨(b::t).toArray⟩) (by simp [results,results277,go_sem]) rfl ?_;rw [HN.out,if_pos AT.out];refine .yes (J7 (Bm _ oh)) ?_;first
     | (rw [show (many || decide (200<(b::t).length))=true by (simp [*];done)];exact (LL.set1 true).drew)
     | (rw [show (many || decide (200<(b::t).length))=false by (simp [*];omega)];exact (LL.set1 false).drew)
     | (rw [show (many || decide (200<(b::t).length))=decide (200<(t.length:Int)+1) by (have hmf:many=false:=by simpa using (by assumption:¬many=true));rw [hmf,Bool.false_or,List.length_cons,decide_eq_decide];omega];exact (LL.set1 _).drew)
theorem U3 (w:World) (R:Nat) (L:List UInt8) (many:Bool) (h:Cl w R L many) (hL:L.length<1000000000) :
  Θ 276 #[.pointer (E R)] w (Mo w R (Ix L many)):=by
 go_enter func276,ntmps276;go_wp2_with fail;refine (aH _ R L many h hL).mono ?_;rintro e w1 ⟨hg,hp⟩
 cases hx:K8 L many with
 | none =>
  rw [hx] at hp;subst hp;refine ⟨rfl,?_⟩;rw [show Ix L many=none by unfold Ix;rw [hx]];exact .no hg
 | some x =>
  obtain ⟨d,r,m⟩:=x;rw [hx] at hp;obtain ⟨rfl,hr⟩:=hp;by_cases hd:d=[48]
  ·subst hd;have HX:=Ae (show Ix L many=none by unfold Ix;rw [hx];simp);clear hx;go_wp2_with (first|(go_at_call 207;refine (Ov _).mono ?_;rintro e w3 ⟨rfl,rfl⟩));refine ⟨rfl,?_⟩;rw [HX.out];exact .no hg
  ·have HX:=Ae (show Ix L many=some (d,r,m) by unfold Ix;rw [hx];simp [hd]);have od:(d==[48])=false:=by simp [hd]
   have uq:(d != [48])=true:=by simp [hd]
   clear hx;go_wp2_with (first|(go_at_call 207;refine (Eg _).mono ?_;rintro e w3 ⟨rfl,rfl⟩));refine bodyPost_ret (v:=.string ⟨d.toArray⟩) (by simp [results,results276,go_sem]) rfl ?_;rw [HX.out];exact .yes hg hr
def vV (w:World) (z:Int) (e:Ending) (w':World):Prop:=∃g a n c,∃k:Int,e=.returned (.tuple #[.agg #[.bool g,.slice a n c],M k])∧Bh w' g a n c z∧xp w w'
theorem mX {s:ByteArray} (h:w'=w∨w'=Lib.bytesWorld w 5 s):xp w w':=by
 rcases h with rfl|rfl
 ·exact Ac _ _
 ·exact Lib.bytesWorld_below _ _ _
theorem rJ {d:Ξ} (h:∀x∈d,x<1000000000) (i:Nat):0≤lim d i∧lim d i<4294967296:=by
 unfold lim;rw [List.getD_eq_getElem?_getD]
 cases hi:d[i]? with
 | none=>simp
 | some x =>
  have:=h x (A7 hi);simp;omega
theorem tO {base:Nat} {n co:Nat} {d:Ξ} (h:w.ownsRow base 129 1 (.slice ao n co) n (Cg d)) (hn:n=d.length) (hs:∀i,0≤lim d i∧lim d i<4294967296) (hf:n≤35184372088832):RdL w ao n co d:=by
 rcases h.2 with ⟨h1,h2⟩|⟨g,cap,cur,h1,h2⟩
 ·simp only [Value.slice.injEq] at h1;obtain ⟨rfl,rfl,rfl⟩:=h1;have:d=[]:=List.length_eq_zero_iff.1 hn.symm;subst this;exact Yv _
 ·simp only [Value.slice.injEq,true_and] at h1;obtain ⟨rfl,rfl⟩:=h1;exact Da h hf hs
def Xu:Value→Nat
 | .string x=>x.size
 | _=>0
theorem Lj:Xu (.string ⟨l.toArray⟩)=l.length:=by simp [Xu,ByteArray.size]
theorem mS (h:l.all p=true):l.dropWhile p=[]:=by
 induction l with
 | nil=>rfl
 | cons b r ih =>
  simp only [List.all_cons,Bool.and_eq_true] at h;rw [List.dropWhile_cons,h.1];exact ih h.2
theorem lF (h:d.all Ea=true):Lib.trimS d [48,49,50,51,52,53,54,55,56,57]=[]:=by
 have e:(fun b=>([48,49,50,51,52,53,54,55,56,57]:List UInt8).contains b)=Ea:=funext Pi;unfold Lib.trimS Lib.trimLeftS Lib.trimRightS;rw [e,mS Ea d.reverse (by rw [List.all_reverse];exact h)];rfl
theorem Vi {b:UInt8} {t:List UInt8} (h:(b::t).all Ea=true):Lib.hasPrefix (b::t) [45]=false∧Lib.trimPrefix (b::t) [45]=b::t:=by
 obtain ⟨h1,h2⟩:=Mr (b:=b) (by simp only [List.all_cons,Bool.and_eq_true] at h;exact h.1);have hb:¬45=b:=fun e=>by subst e;revert h1;decide
 have BP:((45:UInt8)==b)=false:=by simpa using hb
 have h3:Lib.hasPrefix (b::t) [45]=false:=by
  simp [Lib.hasPrefix,List.isPrefixOf,BP]
 refine ⟨h3,?_⟩;simp [Lib.trimPrefix,h3]
theorem Ic (w:World) (d:List UInt8) (hd:E3 d=true) (hlen:d.length<1000000000) :
  Θ 278 #[.string ⟨d.toArray⟩] w (vV w (Gd d)):=by
 have HB:=Ac w w;obtain ⟨i0,hi,sy,hi1,hi2⟩:=info_parts Dl;have HD:=Ae hd;obtain ⟨fh,h0⟩:=Li hd;have HA:=Ae fh
 cases d with
 | nil=>simp at h0
 | cons b t =>
  obtain ⟨BE,OJ⟩:=Vi fh;have htr:=lF fh;have hC:=fun W=>Tryz.strings_CutPrefix ⟨(b::t).toArray⟩ ⟨#[45]⟩ W
  simp only [BE,OJ] at hC;have hT:=fun W=>Tryz.Trim_set ⟨(b::t).toArray⟩ ⟨#[48,49,50,51,52,53,54,55,56,57]⟩ W (by simp [ByteArray.size];simp at hlen;omega) (by simp [ByteArray.size]) (Go.Proofs.ascii_of_all qI)
  simp only [htr] at hT;clear hd fh BE OJ htr h0;go_enter func278,ntmps278;have hy:(⟨(b::t).toArray⟩:ByteArray)[0]'(by simp [ByteArray.size])=b:=by simp [ByteArray.getElem_eq_getElem_data]
  have kp:((b.toNat:Int)=48∧(!b==48 || !t.isEmpty)=false)∨¬(b.toNat:Int)=48:=by
   have:=HD.out;simp only [E3,HA.out,Bool.true_and,Bool.or_eq_true,decide_eq_true_eq] at this;rcases this with h|h
   ·by_cases hb:b=48
    ·subst hb;exact .inl ⟨rfl,by simp [h]⟩
    ·exact .inr fun e=>hb (UInt8.toNat_inj.1 (by show b.toNat=48;omega))
   ·exact .inr h
  by_cases hl:(200:Int)<(t.length:Int)+1
  ·have hz:Gd (b::t)=0:=by unfold Gd;rw [if_pos qL]
   rw [hz];clear hz;rcases kp with ⟨QH,bp⟩|QH <;>
   go_wp2_with (first|(go_at_call 311;refine (hC _).mono ?_;rintro e w1 ⟨rfl,rfl⟩)|(go_at_call 312;(with_reducible refine (hT _).mono ?_);rintro e w1 ⟨rfl,hb⟩;obtain ⟨hc,hf⟩:=Bg hb;have hz:=hb.size;(try simp only [Aj,Ak,Am] at hz);replace HB:=zP w hb;obtain ⟨aw,bh⟩:=zJ hc w;obtain ⟨dy,dz⟩:=zK hf w));all_goals
    refine bodyPost_ret (v:=.tuple #[.agg #[.bool false,.slice none 0 0],M 3]) (by simp [*,results,results278,go_sem]) rfl ?_;exact ⟨false,none,0,0,3,rfl,Vy _,qD⟩
  ·have hz:Gd (b::t)=Ee (b::t):=by unfold Gd;rw [if_neg qL]
   rw [hz];clear hz;rcases kp with ⟨QH,bp⟩|QH
   ·exact qAg
   ·exact qAg
end Go.Proofs.YtfijkfdfbnfmmaaGreatDoor
end
