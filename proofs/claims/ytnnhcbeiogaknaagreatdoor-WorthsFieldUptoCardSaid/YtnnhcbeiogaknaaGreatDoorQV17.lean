/- Contracts of the library at this dump, in plain words: Trim, TrimLeft, IndexByte, CutPrefix. -/
import Derived.Test.YtnnhcbeiogaknaaGreatDoorQV16
set_option linter.unusedSimpArgs false
set_option linter.unusedVariables false
set_option maxRecDepth 100000
set_option maxHeartbeats 4000000
section
namespace Go.Proofs
open Go.Shelf
def Tryz.lays161_ren:Go.Shelf.Ren:=⟨fun|161=>279|231=>327|227=>328|233=>329|235=>330|228=>351|197=>352|151=>353|260=>366|152=>367|137=>281|119=>379|224=>380|225=>381|217=>331|266=>354|n=>n,fun|9=>9|4=>4|3=>3|5=>5|117=>365|116=>364|0=>0|124=>368|105=>382|21=>21|119=>403|46=>170|139=>406|138=>405|n=>n,fun|3=>4|4=>5|n=>n⟩
theorem Tryz.lays161:Go.Proofs.Lays.n161 Tryz.prog Tryz.lays161_ren:={
 mixed:=by kernel_rfl
 f119:=Tryz.func379.trans (congrArg some (by kernel_rfl))
 f137:=Tryz.func281.trans (congrArg some (by kernel_rfl))
 f151:=Tryz.func353.trans (congrArg some (by kernel_rfl))
 f152:=Tryz.func367.trans (congrArg some (by kernel_rfl))
 f161:=Tryz.func279.trans (congrArg some (by kernel_rfl))
 f197:=Tryz.func352.trans (congrArg some (by kernel_rfl))
 f217:=Tryz.func331.trans (congrArg some (by kernel_rfl))
 f224:=Tryz.func380.trans (congrArg some (by kernel_rfl))
 f225:=Tryz.func381.trans (congrArg some (by kernel_rfl))
 f227:=Tryz.func328.trans (congrArg some (by kernel_rfl))
 f228:=Tryz.func351.trans (congrArg some (by kernel_rfl))
 f231:=Tryz.func327.trans (congrArg some (by kernel_rfl))
 f233:=Tryz.func329.trans (congrArg some (by kernel_rfl))
 f235:=Tryz.func330.trans (congrArg some (by kernel_rfl))
 f260:=Tryz.func366.trans (congrArg some (by kernel_rfl))
 f266:=Tryz.func354.trans (congrArg some (by kernel_rfl))
 t0:=Tryz.underlying0
 a0:=Tryz.isAgg0
 z0:=Tryz.sizeOf0
 v0:=Tryz.zeroValue0
 t3:=Tryz.underlying3
 a3:=Tryz.isAgg3
 z3:=Tryz.sizeOf3
 v3:=Tryz.zeroValue3
 t4:=Tryz.underlying4
 a4:=Tryz.isAgg4
 z4:=Tryz.sizeOf4
 v4:=Tryz.zeroValue4
 t5:=Tryz.underlying5
 a5:=Tryz.isAgg5
 z5:=Tryz.sizeOf5
 v5:=Tryz.zeroValue5
 t9:=Tryz.underlying9
 a9:=Tryz.isAgg9
 z9:=Tryz.sizeOf9
 v9:=Tryz.zeroValue9
 t21:=Tryz.underlying21
 a21:=Tryz.isAgg21
 z21:=Tryz.sizeOf21
 v21:=Tryz.zeroValue21
 t46:=Tryz.underlying170
 a46:=Tryz.isAgg170
 z46:=Tryz.sizeOf170
 v46:=Tryz.zeroValue170
 t105:=Tryz.underlying382
 a105:=Tryz.isAgg382
 z105:=Tryz.sizeOf382
 v105:=Tryz.zeroValue382
 t116:=Tryz.underlying364
 a116:=Tryz.isAgg364
 z116:=Tryz.sizeOf364
 t117:=Tryz.underlying365
 a117:=Tryz.isAgg365
 z117:=Tryz.sizeOf365
 v117:=Tryz.zeroValue365
 t119:=Tryz.underlying403
 a119:=Tryz.isAgg403
 z119:=Tryz.sizeOf403
 t124:=Tryz.underlying368
 a124:=Tryz.isAgg368
 z124:=Tryz.sizeOf368
 v124:=Tryz.zeroValue368
 t138:=Tryz.underlying405
 a138:=Tryz.isAgg405
 z138:=Tryz.sizeOf405
 v138:=Tryz.zeroValue405
 t139:=Tryz.underlying406
 a139:=Tryz.isAgg406
 z139:=Tryz.sizeOf406
 v139:=Tryz.zeroValue406
 g3:=by kernel_rfl
 g4:=by kernel_rfl }
def Tryz.lays160_ren:Go.Shelf.Ren:=⟨fun|160=>358|232=>374|231=>327|227=>328|234=>375|233=>329|236=>376|235=>330|228=>351|271=>384|151=>353|197=>352|120=>388|152=>367|260=>366|137=>281|119=>379|224=>380|225=>381|217=>331|266=>354|n=>n,fun|9=>9|4=>4|3=>3|5=>5|117=>365|116=>364|0=>0|124=>368|21=>21|105=>382|46=>170|119=>403|139=>406|138=>405|n=>n,fun|3=>4|4=>5|n=>n⟩
theorem Tryz.lays160:Go.Proofs.Lays.n160 Tryz.prog Tryz.lays160_ren:={
 mixed:=by kernel_rfl
 f119:=Tryz.func379.trans (congrArg some (by kernel_rfl))
 f120:=Tryz.func388.trans (congrArg some (by kernel_rfl))
 f137:=Tryz.func281.trans (congrArg some (by kernel_rfl))
 f151:=Tryz.func353.trans (congrArg some (by kernel_rfl))
 f152:=Tryz.func367.trans (congrArg some (by kernel_rfl))
 f160:=Tryz.func358.trans (congrArg some (by kernel_rfl))
 f197:=Tryz.func352.trans (congrArg some (by kernel_rfl))
 f217:=Tryz.func331.trans (congrArg some (by kernel_rfl))
 f224:=Tryz.func380.trans (congrArg some (by kernel_rfl))
 f225:=Tryz.func381.trans (congrArg some (by kernel_rfl))
 f227:=Tryz.func328.trans (congrArg some (by kernel_rfl))
 f228:=Tryz.func351.trans (congrArg some (by kernel_rfl))
 f231:=Tryz.func327.trans (congrArg some (by kernel_rfl))
 f232:=Tryz.func374.trans (congrArg some (by kernel_rfl))
 f233:=Tryz.func329.trans (congrArg some (by kernel_rfl))
 f234:=Tryz.func375.trans (congrArg some (by kernel_rfl))
 f235:=Tryz.func330.trans (congrArg some (by kernel_rfl))
 f236:=Tryz.func376.trans (congrArg some (by kernel_rfl))
 f260:=Tryz.func366.trans (congrArg some (by kernel_rfl))
 f266:=Tryz.func354.trans (congrArg some (by kernel_rfl))
 f271:=Tryz.func384.trans (congrArg some (by kernel_rfl))
 t0:=Tryz.underlying0
 a0:=Tryz.isAgg0
 z0:=Tryz.sizeOf0
 v0:=Tryz.zeroValue0
 t3:=Tryz.underlying3
 a3:=Tryz.isAgg3
 z3:=Tryz.sizeOf3
 v3:=Tryz.zeroValue3
 t4:=Tryz.underlying4
 a4:=Tryz.isAgg4
 z4:=Tryz.sizeOf4
 v4:=Tryz.zeroValue4
 t5:=Tryz.underlying5
 a5:=Tryz.isAgg5
 z5:=Tryz.sizeOf5
 v5:=Tryz.zeroValue5
 t9:=Tryz.underlying9
 a9:=Tryz.isAgg9
 z9:=Tryz.sizeOf9
 v9:=Tryz.zeroValue9
 t21:=Tryz.underlying21
 a21:=Tryz.isAgg21
 z21:=Tryz.sizeOf21
 v21:=Tryz.zeroValue21
 t46:=Tryz.underlying170
 a46:=Tryz.isAgg170
 z46:=Tryz.sizeOf170
 v46:=Tryz.zeroValue170
 t105:=Tryz.underlying382
 a105:=Tryz.isAgg382
 z105:=Tryz.sizeOf382
 v105:=Tryz.zeroValue382
 t116:=Tryz.underlying364
 a116:=Tryz.isAgg364
 z116:=Tryz.sizeOf364
 t117:=Tryz.underlying365
 a117:=Tryz.isAgg365
 z117:=Tryz.sizeOf365
 v117:=Tryz.zeroValue365
 t119:=Tryz.underlying403
 a119:=Tryz.isAgg403
 z119:=Tryz.sizeOf403
 t124:=Tryz.underlying368
 a124:=Tryz.isAgg368
 z124:=Tryz.sizeOf368
 v124:=Tryz.zeroValue368
 t138:=Tryz.underlying405
 a138:=Tryz.isAgg405
 z138:=Tryz.sizeOf405
 v138:=Tryz.zeroValue405
 t139:=Tryz.underlying406
 a139:=Tryz.isAgg406
 z139:=Tryz.sizeOf406
 v139:=Tryz.zeroValue406
 g3:=by kernel_rfl
 g4:=by kernel_rfl }
def Tryz.lays137_ren:Go.Shelf.Ren:=⟨fun|137=>281|217=>331|266=>354|n=>n,fun|9=>9|5=>5|3=>3|n=>n,fun|n=>n⟩
theorem Tryz.lays137:Go.Proofs.Lays.n137 Tryz.prog Tryz.lays137_ren:={
 mixed:=by kernel_rfl
 f137:=Tryz.func281.trans (congrArg some (by kernel_rfl))
 f217:=Tryz.func331.trans (congrArg some (by kernel_rfl))
 f266:=Tryz.func354.trans (congrArg some (by kernel_rfl))
 t3:=Tryz.underlying3
 a3:=Tryz.isAgg3
 z3:=Tryz.sizeOf3
 v3:=Tryz.zeroValue3
 t5:=Tryz.underlying5
 a5:=Tryz.isAgg5
 z5:=Tryz.sizeOf5
 v5:=Tryz.zeroValue5
 t9:=Tryz.underlying9
 a9:=Tryz.isAgg9
 z9:=Tryz.sizeOf9
 v9:=Tryz.zeroValue9 }
open Go.RowKit in
theorem Tryz.strings_IndexByte (s:ByteArray) (c:Int) (w:World) :
  Calls Tryz.prog 281 #[.string s,.int .u8 c] w fun e w'=>e=.returned (.int .i64 (Lib.indexByte s.data.toList c.toNat.toUInt8))∧w'=w:=Any.strings_IndexByte Tryz.lays137 s c w
def Tryz.lays103_ren:Go.Shelf.Ren:=⟨fun|103=>357|210=>373|206=>292|n=>n,fun|9=>9|4=>4|24=>386|3=>3|n=>n,fun|n=>n⟩
theorem Tryz.lays103:Go.Proofs.Lays.n103 Tryz.prog Tryz.lays103_ren:={
 mixed:=by kernel_rfl
 f103:=Tryz.func357.trans (congrArg some (by kernel_rfl))
 f206:=Tryz.func292.trans (congrArg some (by kernel_rfl))
 f210:=Tryz.func373.trans (congrArg some (by kernel_rfl))
 t3:=Tryz.underlying3
 a3:=Tryz.isAgg3
 z3:=Tryz.sizeOf3
 v3:=Tryz.zeroValue3
 t4:=Tryz.underlying4
 a4:=Tryz.isAgg4
 z4:=Tryz.sizeOf4
 v4:=Tryz.zeroValue4
 t9:=Tryz.underlying9
 a9:=Tryz.isAgg9
 z9:=Tryz.sizeOf9
 v9:=Tryz.zeroValue9
 t24:=Tryz.underlying386
 a24:=Tryz.isAgg386
 z24:=Tryz.sizeOf386
 v24:=Tryz.zeroValue386 }
open Go.RowKit in
theorem Tryz.strings_CutPrefix (s p:ByteArray) (w:World) :
  Calls Tryz.prog 357 #[.string s,.string p] w fun e w'=>e=.returned (.tuple #[.string ⟨(Lib.trimPrefix s.data.toList p.data.toList).toArray⟩,.bool (Lib.hasPrefix s.data.toList p.data.toList)])∧w'=w:=Any.strings_CutPrefix Tryz.lays103 s p w
open Go.RowKit in
theorem Tryz.TrimLeft_set (s cutset:ByteArray) (w:World) (hcs:cutset.size<4294967281) (hascii:∀(j:Nat) b,cutset.data.toList[j]? = some b→b.toNat<128) :
  Calls Tryz.prog 279 #[.string s,.string cutset] w fun e w'=>e=.returned (.string ⟨(Lib.trimLeftS s.data.toList cutset.data.toList).toArray⟩)∧Below w.heap.size w w' :=
 Any.strings_TrimLeft_laid Tryz.lays161 (by kernel_rfl) s cutset w hcs hascii
open Go.RowKit in
theorem Tryz.Trim_set (s cutset:ByteArray) (w:World) (hs:s.size≤9223372036854775807) (hcs:cutset.size<4294967281) (hascii:∀(j:Nat) b,cutset.data.toList[j]? = some b→b.toNat<128) :
  Calls Tryz.prog 358 #[.string s,.string cutset] w fun e w'=>e=.returned (.string ⟨(Lib.trimS s.data.toList cutset.data.toList).toArray⟩)∧Below w.heap.size w w' :=
 Any.strings_Trim_laid Tryz.lays160 (by kernel_rfl) s cutset w hs hcs hascii
end Go.Proofs
end
section
namespace Go.Proofs.YtnnhcbeiogaknaaGreatDoor
open Go.RowKit
abbrev Ko:List PanicEntry:=[{ v:=.iface 201 (.agg #[]),recovered:=false }]
theorem Dr (w:World):Θ 222 #[.bool true] w fun e w'=>e=.returned (.tuple #[])∧w'=w:=by
 go_enter Tryz.func222,Tryz.ntmps222;go_wp2;exact bodyPost_end (v:=.tuple #[]) (by simp [results,Tryz.results222,go_sem]) rfl ⟨rfl,rfl⟩
theorem Nr (w:World):Θ 222 #[.bool false] w fun e w'=>e=.panicked Ko∧w'=w:=by
 go_enter Tryz.func222,Tryz.ntmps222;go_wp2;exact ⟨rfl,rfl,rfl⟩
structure Cm (w:World) (R:Nat) (L:List UInt8) (many:Bool):Prop where
 c0:w.cell? ⟨R,0,none⟩=some (.string ⟨L.toArray⟩)
 c1:w.cell? ⟨R,1,none⟩=some (.bool many)
 f0:w.frozen? ⟨R,0,none⟩=false
 f1:w.frozen? ⟨R,1,none⟩=false
theorem Cm.lt {w:World} {R:Nat} {L:List UInt8} {many:Bool} (h:Cm w R L many):R<w.heap.size:=Aa _ _ h.c0
theorem Cm.keep {w w':World} {R:Nat} {L:List UInt8} {many:Bool} (h:Cm w R L many) (hb:Below w.heap.size w w'):Cm w' R L many :=
 ⟨Bc hb h.c0,Bc hb h.c1,(Ab hb h.lt).trans h.f0,(Ab hb h.lt).trans h.f1⟩
theorem Bx {w w':World} (h:Below w.heap.size w w') (row:Option Nat):w.grownBy w' row:=⟨h.os,h.tape,h.output,h.size,fun k hk _=>h.block k hk⟩
theorem Bf {w w':World} {R o:Nat} (v:Value) (h:w.grownBy w' (some R)):w.grownBy (w'.setCell ⟨R,o,none⟩ v) (some R):=by
 have hb:Below R w' (w'.setCell ⟨R,o,none⟩ v):=(Ac R w').setCell (p:=⟨R,o,none⟩) (Ad _) v;exact ⟨hb.os.trans h.os,hb.tape.trans h.tape,hb.output.trans h.output,Ah h.size hb.size,fun k hk hne=>by
  rw [Below.heap_setCell w' ⟨R,o,none⟩ v k (by intro e;exact hne (by rw [e]))];exact h.block k hk hne⟩
theorem Cm.set0 {w:World} {R:Nat} {L:List UInt8} {many:Bool} (h:Cm w R L many) (L':List UInt8):Cm (w.setCell ⟨R,0,none⟩ (.string ⟨L'.toArray⟩)) R L' many:=by
 exact qDg
theorem Cm.set1 {w:World} {R:Nat} {L:List UInt8} {many:Bool} (h:Cm w R L many) (m:Bool):Cm (w.setCell ⟨R,1,none⟩ (.bool m)) R L m:=by
 exact qDg
theorem Cp (w:World) (row:Option Nat):w.grownBy w row:=Bx (Ac _ _) row
theorem W5 (b:UInt8):([32,9]:List UInt8).contains b=sO b:=by
 unfold sO;by_cases h1:b=32
 ·subst h1;rfl
 ·by_cases h2:b=9
  ·subst h2;rfl
  ·have e1:¬(b.toNat:Int)=32:=fun e=>h1 (UInt8.toNat_inj.1 (by show b.toNat=32;omega))
   have e2:¬(b.toNat:Int)=9:=fun e=>h2 (UInt8.toNat_inj.1 (by show b.toNat=9;omega))
   simp [h1,h2,e1,e2]
theorem mZ (L:List UInt8):Lib.trimLeftS L [32,9]=skp L:=by
 unfold Lib.trimLeftS skp
 congr 1
 funext b
 exact W5 b
theorem N9 (b:UInt8):([48,49,50,51,52,53,54,55,56,57]:List UInt8).contains b=Dn b:=by
 have h:∀n:Fin 256,([48,49,50,51,52,53,54,55,56,57]:List UInt8).contains (UInt8.ofNat n)=decide (48≤n.val∧n.val≤57):=by decide
 have:=h ⟨b.toNat,b.toNat_lt⟩;simp only [UInt8.ofNat_toNat] at this;rw [this];unfold Dn;rw [decide_eq_decide];omega
theorem oG (L:List UInt8):Lib.trimLeftS L [48,49,50,51,52,53,54,55,56,57]=L.dropWhile Dn:=by
 unfold Lib.trimLeftS
 congr 1
 funext b
 exact N9 b
theorem Qh (w:World) (R:Nat) (L:List UInt8) (many:Bool) (h:Cm w R L many) (hL:L.length<1000000000) :
  Θ 219 #[.pointer (some ⟨R,0,none⟩)] w fun e w'=>e=.returned (.tuple #[])∧Cm w' R (skp L) many∧w.grownBy w' (some R):=by
 have h0:=h.c0;have f0:=h.f0;go_enter Tryz.func219,Tryz.ntmps219;go_wp2_with fail;refine (Tryz.TrimLeft_set ⟨L.toArray⟩ ⟨#[32,9]⟩ _ (by simp [ByteArray.size]) (Go.Proofs.ascii_of_all qI)).mono ?_;rintro e w1 ⟨rfl,hb⟩;have hr:=h.keep hb;have g1:=hr.c0;have g2:=hr.f0;go_wp2_with fail;refine bodyPost_end (v:=.tuple #[]) (by simp [results,Tryz.results219,go_sem]) rfl ⟨rfl,?_,?_⟩
 ·have:=hr.set0 (skp L);simpa [mZ] using this
 ·exact Bf _ (Bx hb _)
theorem Th (W:World) (s:ByteArray) (k:Nat) (hk:k≤s.size):(Instr.sliceAt 9 (.string s) none (some (.int .i64 (k:Int))) none).run Tryz.prog W=.ok (.string (s.extract 0 k)) W:=by
 exact qBg
theorem Up (W:World) (s:ByteArray) (k:Nat) (hk:k≤s.size):(Instr.sliceAt 9 (.string s) (some (.int .i64 (k:Int))) none none).run Tryz.prog W=.ok (.string (s.extract k s.size)) W:=by
 exact qBg
theorem Ue (p:UInt8→Bool) (L:List UInt8):L.take (L.length-(L.dropWhile p).length)=L.takeWhile p∧L.drop (L.length-(L.dropWhile p).length)=L.dropWhile p∧L.length-(L.dropWhile p).length=(L.takeWhile p).length:=by
 have h:=List.takeWhile_append_dropWhile (p:=p) (l:=L);have hl:(L.takeWhile p).length+(L.dropWhile p).length=L.length:=by rw [←A9,h]
 have e:L.length-(L.dropWhile p).length=(L.takeWhile p).length:=by omega
 refine ⟨?_,?_,e⟩
 ·rw [e];have:=List.take_left (l₁:=L.takeWhile p) (l₂:=L.dropWhile p);rwa [h] at this
 ·rw [e];have:=List.drop_left (l₁:=L.takeWhile p) (l₂:=L.dropWhile p);rwa [h] at this
theorem Mp (L:List UInt8) (k:Nat):(⟨L.toArray⟩:ByteArray).extract 0 k=⟨(L.take k).toArray⟩:=by
 apply ByteArray.ext;simp
theorem Od (L:List UInt8) (k:Nat):(⟨L.toArray⟩:ByteArray).extract k L.length=⟨(L.drop k).toArray⟩:=by
 apply ByteArray.ext;simp
 rw [As qG]
def Lr (w:World) (R:Nat) (x:Option (List UInt8×List UInt8×Bool)) (e:Ending) (w':World):Prop :=
 w.grownBy w' (some R)∧match x with|none=>e=.panicked Ko|some (d,r,m)=>e=.returned (.string ⟨d.toArray⟩)∧Cm w' R r m
theorem Lr.no {w w':World} {R:Nat} (h:w.grownBy w' (some R)):Lr w R none (.panicked Ko) w':=⟨h,rfl⟩
theorem Lr.yes {w w':World} {R:Nat} {d r:List UInt8} {m:Bool} (h:w.grownBy w' (some R)) (hr:Cm w' R r m):Lr w R (some (d,r,m)) (.returned (.string ⟨d.toArray⟩)) w':=⟨h,rfl,hr⟩
theorem Jp {w w':World} {row:Option Nat} (h:w.grownBy w' row):w.grownBy w'.drew row:=⟨h.os,h.tape,h.output,h.size,h.block⟩
theorem Cm.drew {w:World} {R:Nat} {L:List UInt8} {many:Bool} (h:Cm w R L many):Cm w.drew R L many:=⟨h.c0,h.c1,h.f0,h.f1⟩
theorem kY (w:World) (L r:List UInt8) (hr:L.dropWhile Dn=r):Θ 279 #[.string ⟨L.toArray⟩,.string ⟨#[48,49,50,51,52,53,54,55,56,57]⟩] w fun e w'=>e=.returned (.string ⟨r.toArray⟩)∧Below w.heap.size w w':=by
 have:=Tryz.TrimLeft_set ⟨L.toArray⟩ ⟨#[48,49,50,51,52,53,54,55,56,57]⟩ w (by simp [ByteArray.size]) (Go.Proofs.ascii_of_all qI);rw [oG,hr] at this;exact this
theorem Y4 (w:World) (R:Nat) (L:List UInt8) (many:Bool) (h:Cm w R L many) (hL:L.length<1000000000) :
  Θ 334 #[.pointer (some ⟨R,0,none⟩)] w (Lr w R (Km L many)):=by
 have h0:=h.c0;have f0:=h.f0;have h1:=h.c1;have f1:=h.f1;obtain ⟨t1,t2,t3⟩:=Ue Dn L;have hle:(L.dropWhile Dn).length≤L.length:=(List.dropWhile_sublist _).length_le;generalize hr:L.dropWhile Dn=r at *;generalize hd:L.takeWhile Dn=d at *;have hw:wrap64 ((L.length:Int)-(r.length:Int))=(d.length:Int):=by rw [←t3];unfold wrap64;omega
 go_enter Tryz.func334,Tryz.ntmps334;go_wp2_with fail;replace h0:=Cn h0;(refine Ci qC qC ?_;(repeat (go_big_quiet_step (first|(go_at_call 279;exact G7 (kY _ L r hr)))));refine wpQuiet_nil ?_;intro _ hw0;obtain ⟨nq,hw0⟩:=hw0;subst hw0);obtain ⟨w1,hb⟩:=nq;have hn:(L.length:Int)-(r.length:Int)=(d.length:Int):=by omega
 have hR:=h.keep hb;have c0:=hR.c0;have c1:=hR.c1;have z0:=hR.f0;have z1:=hR.f1;rw [hn];have q1:∀W:World,(Instr.sliceAt 9 (.string ⟨L.toArray⟩) none (some (.int .i64 (d.length:Int))) none).run Tryz.prog W=.ok (.string ⟨d.toArray⟩) W:=fun W=>by
  rw [Th W _ _ (by show d.length≤L.toArray.size;simp;omega),Mp,←t3,t1]
 have q2:∀W:World,(Instr.sliceAt 9 (.string ⟨L.toArray⟩) (some (.int .i64 (d.length:Int))) none none).run Tryz.prog W=.ok (.string ⟨r.toArray⟩) W:=fun W=>by
  rw [Up W _ _ (by show d.length≤L.toArray.size;simp;omega)];have:(⟨L.toArray⟩:ByteArray).size=L.length:=by simp [ByteArray.size]
  rw [this,Od,←t3,t2]
 clear h0 h1 f0 f1 hn;go_wp2_with fail;refine Cf (fun W=>W.cell? ⟨R,0,none⟩=some (.string ⟨L.toArray⟩)) 16 qC qK (fun hHeld=>?_);(refine Bk.take 16 (i:=0) (v:=?_) rfl qC (fun _ _ _ h=>h) (Or.inl ⟨by rfl,?_⟩) qH ?_;rotate_left;(focus (intro w' hSw;(try dsimp only at hSw);go_simp;(try with_reducible rfl)));(try simp only [Act.put,Au,Av,Aw]));(refine Bk.take 16 (i:=1) (v:=?_) rfl qC (fun _ _ _ h=>h) (Or.inl ⟨by rfl,?_⟩) qH ?_;rotate_left;(focus (intro w' hSw;(try dsimp only at hSw);go_simp;(try with_reducible rfl)));(try simp only [Act.put,Au,Av,Aw]));(refine Bk.take 16 (i:=2) (v:=?_) rfl qC (fun _ _ _ h=>h) (Or.inl ⟨by rfl,?_⟩) qH ?_;rotate_left;(focus (intro w' hSw;(try dsimp only at hSw);go_simp;(try with_reducible rfl)));(try simp only [Act.put,Au,Av,Aw]));(refine Bk.take 16 (i:=3) (v:=?_) rfl qC (fun _ _ _ h=>h) (Or.inl ⟨by rfl,?_⟩) qH ?_;rotate_left;(focus (intro w' hSw;(try dsimp only at hSw);go_simp;(try with_reducible rfl)));(try simp only [Act.put,Au,Av,Aw]));(refine Bk.take 16 (i:=4) (v:=?_) rfl qC (fun _ _ _ h=>h) (Or.inl ⟨by rfl,?_⟩) qH ?_;rotate_left;(focus (intro w' hSw;(try dsimp only at hSw);go_simp;(try with_reducible rfl)));(try simp only [Act.put,Au,Av,Aw]));(refine Bk.take 16 (i:=5) (v:=?_) rfl qC (fun _ _ _ h=>h) (Or.inl ⟨by rfl,?_⟩) qH ?_;rotate_left;(focus (intro w' hSw;(try dsimp only at hSw);go_simp;(try with_reducible rfl)));(try simp only [Act.put,Au,Av,Aw]));(refine Bk.take 16 (i:=6) (v:=?_) rfl qC (fun _ _ _ h=>h) (Or.inl ⟨by rfl,?_⟩) qH ?_;rotate_left;(focus (intro w' hSw;(try dsimp only at hSw);go_simp;(try with_reducible rfl)));(try simp only [Act.put,Au,Av,Aw]));(refine Bk.take 16 (i:=7) (v:=?_) rfl qC (fun _ _ _ h=>h) (Or.inl ⟨by rfl,?_⟩) qH ?_;rotate_left;(focus (intro w' hSw;(try dsimp only at hSw);go_simp;(try with_reducible rfl)));(try simp only [Act.put,Au,Av,Aw]));(refine Bk.take 16 (i:=8) (v:=?_) rfl qC (fun _ _ _ h=>h) (Or.inl ⟨by rfl,?_⟩) qH ?_;rotate_left;(focus (intro w' hSw;(try dsimp only at hSw);go_simp;(try with_reducible rfl)));(try simp only [Act.put,Au,Av,Aw]));(refine Bk.take 16 (i:=9) (v:=?_) rfl qC (fun _ _ _ h=>h) (Or.inl ⟨by rfl,?_⟩) qH ?_;rotate_left;(focus (intro w' hSw;(try dsimp only at hSw);go_simp;(try with_reducible rfl)));(try simp only [Act.put,Au,Av,Aw]));(refine Bk.take 16 (i:=10) (v:=?_) rfl qC (fun _ _ _ h=>h) (Or.inl ⟨by rfl,?_⟩) qH ?_;rotate_left;(focus (intro w' hSw;(try dsimp only at hSw);go_simp;(try with_reducible rfl)));(try simp only [Act.put,Au,Av,Aw]));(refine Bk.take 16 (i:=11) (v:=?_) rfl qC (fun _ _ _ h=>h) (Or.inl ⟨by rfl,?_⟩) qH ?_;rotate_left;(focus (intro w' hSw;(try dsimp only at hSw);go_simp;(try with_reducible rfl)));(try simp only [Act.put,Au,Av,Aw]));(refine Bk.take 16 (i:=12) (v:=?_) rfl qC (fun _ _ _ h=>h) (Or.inl ⟨by rfl,?_⟩) qH ?_;rotate_left;(focus (intro w' hSw;(try dsimp only at hSw);go_simp;(try with_reducible rfl)));(try simp only [Act.put,Au,Av,Aw]))
 (refine Bk.one (i:=13) rfl qC (fun K hK=>?_);go_simp;skip;(try go_wp2_with fail);refine hK.out _ _ (fun _=>qK) ?_;clear hK K;(try simp only [Act.put,Au,Av,Aw]));(refine Bk.one (i:=14) rfl qC (fun K hK=>?_);go_simp;skip;(try go_wp2_with fail);refine hK.out _ _ (fun _=>qK) ?_;clear hK K;(try simp only [Act.put,Au,Av,Aw]));(refine Bk.one (i:=15) rfl qC (fun K hK=>?_);go_simp;skip;(try go_wp2_with fail);refine hK.out _ _ (fun _=>qK) ?_;clear hK K;(try simp only [Act.put,Au,Av,Aw]));(refine Bk.one (i:=16) rfl qC (fun K hK=>?_);go_simp;refine hK.out _ _ (fun h=>absurd h qI) ?_;clear hK K;(try simp only [Act.put,Au,Av,Aw]));refine Bk.done qC ?_ _;have hR1:=(hR.set0 r);have hall:d.all Dn=true:=by rw [←hd];exact List.all_takeWhile
 have hg1:w.grownBy (w1.setCell ⟨R,0,none⟩ (.string ⟨r.toArray⟩)) (some R):=Bf _ (Bx hb _);have HN:=Ae (show Km L many=if El d then some (d,r,many || decide (200<d.length)) else none by unfold Km;rw [hd,hr]);have HA:=Ae hall;clear c0 c1 z0 z1 t1 t2 t3 hw hle hr hd q1 q2 hR hb h hall;generalize (w1.setCell ⟨R,0,none⟩ (.string ⟨r.toArray⟩))=w2 at *;have c0:=hR1.c0;have c1:=hR1.c1;have z0:=hR1.f0;have z1:=hR1.f1
 cases d with
 | nil =>
  go_wp2_with (first|(go_at_call 222;refine (Nr _).mono ?_;rintro e w3 ⟨rfl,rfl⟩));refine ⟨rfl,?_⟩;rw [HN.out];exact .no (Jp hg1)
 | cons b t =>
  have hy:(⟨(b::t).toArray⟩:ByteArray)[0]'(by simp [ByteArray.size])=b:=by simp [ByteArray.getElem_eq_getElem_data]
  by_cases hb:b=48
  ·subst hb
   cases t with
   | nil =>
    go_wp2_with (first|(go_at_call 222;refine (Dr _).mono ?_;rintro e w3 ⟨rfl,rfl⟩));all_goals
     refine bodyPost_ret (v:=.string ⟨([48]:List UInt8).toArray⟩) (by simp [results,Tryz.results334,go_sem]) rfl ?_;rw [HN.out,if_pos qQ];refine .yes (Jp (Bf _ hg1)) ?_;first
      | (rw [show (many || decide (200<([48]:List UInt8).length))=true by simp [*]];exact (hR1.set1 true).drew)
      | (rw [show (many || decide (200<([48]:List UInt8).length))=false by simp [*]];exact (hR1.set1 false).drew)
   | cons c t' =>
    go_wp2_with (first|(go_at_call 222;refine (Nr _).mono ?_;rintro e w3 ⟨rfl,rfl⟩));refine ⟨rfl,?_⟩;rw [HN.out,show El (48::c::t')=false by simp [El]];exact .no (Jp hg1)
  ·have hb':¬(b.toNat:Int)=48:=fun e=>hb (UInt8.toNat_inj.1 (by show b.toNat=48;omega))
   have hdig:Hid (El (b::t)=true):=Ae (by simp only [El,HA.out,Bool.true_and];simp [hb']);have hcond:(b==48&&t.isEmpty || ((b.toNat:Int) != 48))=true:=by simp [hb']
   go_wp2_with (first|(go_at_call 222;refine (Dr _).mono ?_;rintro e w3 ⟨rfl,rfl⟩));all_goals
    refine bodyPost_ret (v:=.string ⟨(b::t).toArray⟩) (by simp [results,Tryz.results334,go_sem]) rfl ?_;rw [HN.out,if_pos hdig.out];refine .yes (Jp (Bf _ hg1)) ?_;first
     | (rw [show (many || decide (200<(b::t).length))=true by (simp [*];done)];exact (hR1.set1 true).drew)
     | (rw [show (many || decide (200<(b::t).length))=false by (simp [*];omega)];exact (hR1.set1 false).drew)
     | (rw [show (many || decide (200<(b::t).length))=decide (200<(t.length:Int)+1) by (have hmf:many=false:=by simpa using (by assumption:¬many=true));rw [hmf,Bool.false_or,List.length_cons,decide_eq_decide];omega];exact (hR1.set1 _).drew)
theorem Tu (w:World) (R:Nat) (L:List UInt8) (many:Bool) (h:Cm w R L many) (hL:L.length<1000000000) :
  Θ 333 #[.pointer (some ⟨R,0,none⟩)] w (Lr w R (Ig L many)):=by
 go_enter Tryz.func333,Tryz.ntmps333;go_wp2_with fail;refine (Y4 _ R L many h hL).mono ?_;rintro e w1 ⟨hg,hp⟩
 cases hx:Km L many with
 | none =>
  rw [hx] at hp;subst hp;refine ⟨rfl,?_⟩;rw [show Ig L many=none by unfold Ig;rw [hx]];exact .no hg
 | some x =>
  obtain ⟨d,r,m⟩:=x;rw [hx] at hp;obtain ⟨rfl,hr⟩:=hp;by_cases hd:d=[48]
  ·subst hd;have HX:=Ae (show Ig L many=none by unfold Ig;rw [hx];simp);clear hx;go_wp2_with (first|(go_at_call 222;refine (Nr _).mono ?_;rintro e w3 ⟨rfl,rfl⟩));refine ⟨rfl,?_⟩;rw [HX.out];exact .no hg
  ·have HX:=Ae (show Ig L many=some (d,r,m) by unfold Ig;rw [hx];simp [hd]);have hq1:(d==[48])=false:=by simp [hd]
   have hq2:(d != [48])=true:=by simp [hd]
   clear hx;go_wp2_with (first|(go_at_call 222;refine (Dr _).mono ?_;rintro e w3 ⟨rfl,rfl⟩));refine bodyPost_ret (v:=.string ⟨d.toArray⟩) (by simp [results,Tryz.results333,go_sem]) rfl ?_;rw [HX.out];exact .yes hg hr
end Go.Proofs.YtnnhcbeiogaknaaGreatDoor
end
