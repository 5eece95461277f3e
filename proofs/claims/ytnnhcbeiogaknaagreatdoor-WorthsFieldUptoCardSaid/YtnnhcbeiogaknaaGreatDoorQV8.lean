/- Contracts of the library at this dump, in plain words: those that our texts name. -/
import Derived.Test.YtnnhcbeiogaknaaGreatDoorQV4
set_option linter.unusedSimpArgs false
set_option linter.unusedVariables false
set_option maxRecDepth 100000
set_option maxHeartbeats 4000000
section
namespace Go.Proofs
open Go.Shelf
def Tryz.lays170_ren:Go.Shelf.Ren:=⟨fun|170=>167|n=>n,fun|70=>183|3=>3|0=>0|72=>186|37=>184|5=>5|n=>n,fun|n=>n⟩
theorem Tryz.lays170:Go.Proofs.Lays.n170 Tryz.prog Tryz.lays170_ren:={
 mixed:=by kernel_rfl
 f170:=Tryz.func167.trans (congrArg some (by kernel_rfl))
 t0:=Tryz.underlying0
 a0:=Tryz.isAgg0
 z0:=Tryz.sizeOf0
 v0:=Tryz.zeroValue0
 t3:=Tryz.underlying3
 a3:=Tryz.isAgg3
 z3:=Tryz.sizeOf3
 v3:=Tryz.zeroValue3
 t37:=Tryz.underlying184
 a37:=Tryz.isAgg184
 z37:=Tryz.sizeOf184
 v37:=Tryz.zeroValue184
 t70:=Tryz.underlying183
 a70:=Tryz.isAgg183
 z70:=Tryz.sizeOf183
 v70:=Tryz.zeroValue183
 t72:=Tryz.underlying186
 a72:=Tryz.isAgg186
 z72:=Tryz.sizeOf186
 v72:=Tryz.zeroValue186 }
open Go.RowKit in
theorem Tryz.Builder_Len (B b:Nat) (bs:List Value) (w:World) (h:Lib.IsBuilder 186 5 B b bs w) :
  Calls Tryz.prog 167 #[.pointer (some ⟨b,0,none⟩)] w fun e w'=>e=.returned (.int .i64 bs.length)∧w'=w:=Any.Builder_Len Tryz.lays170 B b bs w h
def Tryz.lays169_ren:Go.Shelf.Ren:=⟨fun|169=>135|n=>n,fun|70=>183|9=>9|0=>0|72=>186|37=>184|127=>252|3=>3|5=>5|n=>n,fun|n=>n⟩
theorem Tryz.lays169:Go.Proofs.Lays.n169 Tryz.prog Tryz.lays169_ren:={
 mixed:=by kernel_rfl
 f169:=Tryz.func135.trans (congrArg some (by kernel_rfl))
 t0:=Tryz.underlying0
 a0:=Tryz.isAgg0
 z0:=Tryz.sizeOf0
 v0:=Tryz.zeroValue0
 t3:=Tryz.underlying3
 a3:=Tryz.isAgg3
 z3:=Tryz.sizeOf3
 v3:=Tryz.zeroValue3
 t9:=Tryz.underlying9
 a9:=Tryz.isAgg9
 z9:=Tryz.sizeOf9
 v9:=Tryz.zeroValue9
 t37:=Tryz.underlying184
 a37:=Tryz.isAgg184
 z37:=Tryz.sizeOf184
 v37:=Tryz.zeroValue184
 t70:=Tryz.underlying183
 a70:=Tryz.isAgg183
 z70:=Tryz.sizeOf183
 v70:=Tryz.zeroValue183
 t72:=Tryz.underlying186
 a72:=Tryz.isAgg186
 z72:=Tryz.sizeOf186
 v72:=Tryz.zeroValue186
 t127:=Tryz.underlying252
 a127:=Tryz.isAgg252
 z127:=Tryz.sizeOf252
 v127:=Tryz.zeroValue252 }
theorem Tryz.Builder_Extra_169:Builder.Extra Tryz.prog Tryz.lays169_ren:={
 sizeBuilder:=by kernel_rfl
 liesBuilder:=by kernel_rfl
 t5:=Tryz.underlying5
 a5:=Tryz.isAgg5
 z5:=Tryz.sizeOf5
 v5:=Tryz.zeroValue5
 infoByte:=by kernel_rfl
 cellsByte:=by kernel_rfl
 sizeByte:=by kernel_rfl
 neB5:=by decide }
open Go.RowKit in
theorem Tryz.Builder_String_any (B b:Nat) (l:List UInt8) (w:World) (h:Lib.IsBuilder 186 5 B b (Lib.byteCells l) w) (hBw:B≤w.heap.size) :
  Calls Tryz.prog 135 #[.pointer (some ⟨b,0,none⟩)] w fun e w'=>e=.returned (.string ⟨l.toArray⟩)∧Below B w w':=Any.Builder_String_any Tryz.lays169 Tryz.Builder_Extra_169 B b l w h hBw
def Tryz.lays156_ren:Go.Shelf.Ren:=⟨fun|156=>163|165=>224|166=>134|169=>135|240=>211|241=>285|276=>264|277=>337|n=>n,fun|31=>205|9=>9|3=>3|4=>4|0=>0|20=>20|72=>186|76=>190|70=>183|37=>184|75=>189|127=>252|164=>304|5=>5|80=>192|n=>n,fun|n=>n⟩
theorem Tryz.lays156:Go.Proofs.Lays.n156 Tryz.prog Tryz.lays156_ren:={
 mixed:=by kernel_rfl
 f156:=Tryz.func163.trans (congrArg some (by kernel_rfl))
 f165:=Tryz.func224.trans (congrArg some (by kernel_rfl))
 f166:=Tryz.func134.trans (congrArg some (by kernel_rfl))
 f169:=Tryz.func135.trans (congrArg some (by kernel_rfl))
 f240:=Tryz.func211.trans (congrArg some (by kernel_rfl))
 f241:=Tryz.func285.trans (congrArg some (by kernel_rfl))
 f276:=Tryz.func264.trans (congrArg some (by kernel_rfl))
 f277:=Tryz.func337.trans (congrArg some (by kernel_rfl))
 t0:=Tryz.underlying0
 a0:=Tryz.isAgg0
 z0:=Tryz.sizeOf0
 v0:=Tryz.zeroValue0
 t3:=Tryz.underlying3
 a3:=Tryz.isAgg3
 z3:=Tryz.sizeOf3
 v3:=Tryz.zeroValue3
 t4:=Tryz.underlying4
 a4:=Tryz.isAgg4
 z4:=Tryz.sizeOf4
 v4:=Tryz.zeroValue4
 t9:=Tryz.underlying9
 a9:=Tryz.isAgg9
 z9:=Tryz.sizeOf9
 v9:=Tryz.zeroValue9
 t20:=Tryz.underlying20
 a20:=Tryz.isAgg20
 z20:=Tryz.sizeOf20
 v20:=Tryz.zeroValue20
 t31:=Tryz.underlying205
 a31:=Tryz.isAgg205
 z31:=Tryz.sizeOf205
 v31:=Tryz.zeroValue205
 t37:=Tryz.underlying184
 a37:=Tryz.isAgg184
 z37:=Tryz.sizeOf184
 v37:=Tryz.zeroValue184
 t70:=Tryz.underlying183
 a70:=Tryz.isAgg183
 z70:=Tryz.sizeOf183
 v70:=Tryz.zeroValue183
 t72:=Tryz.underlying186
 a72:=Tryz.isAgg186
 z72:=Tryz.sizeOf186
 v72:=Tryz.zeroValue186
 t75:=Tryz.underlying189
 a75:=Tryz.isAgg189
 z75:=Tryz.sizeOf189
 v75:=Tryz.zeroValue189
 t76:=Tryz.underlying190
 a76:=Tryz.isAgg190
 z76:=Tryz.sizeOf190
 v76:=Tryz.zeroValue190
 t127:=Tryz.underlying252
 a127:=Tryz.isAgg252
 z127:=Tryz.sizeOf252
 v127:=Tryz.zeroValue252
 t164:=Tryz.underlying304
 a164:=Tryz.isAgg304
 z164:=Tryz.sizeOf304
 v164:=Tryz.zeroValue304 }
theorem Tryz.Builder_Extra_156:Builder.Extra Tryz.prog Tryz.lays156_ren:={
 sizeBuilder:=by kernel_rfl
 liesBuilder:=by kernel_rfl
 t5:=Tryz.underlying5
 a5:=Tryz.isAgg5
 z5:=Tryz.sizeOf5
 v5:=Tryz.zeroValue5
 infoByte:=by kernel_rfl
 cellsByte:=by kernel_rfl
 sizeByte:=by kernel_rfl
 neB5:=by decide }
open Go.RowKit in
theorem Tryz.strings_Join (bk o c:Nat) (xs:List ByteArray) (sep:ByteArray) (w:World) (hcells:∀(j:Nat) x,xs[j]? = some x→w.cell? ⟨bk,o+j,none⟩=some (.string x)) (hbk:bk<w.heap.size) (hN:xs.length≤140737488355328) (hcap:xs.length≤c) (hlen:(Lib.join (xs.map (·.data.toList)) sep.data.toList).length≤140737488355328) :
  Calls Tryz.prog 163 #[.slice (some ⟨bk,o,none⟩) xs.length c,.string sep] w fun e w'=>e=.returned (.string ⟨(Lib.join (xs.map (·.data.toList)) sep.data.toList).toArray⟩)∧Below w.heap.size w w':=Any.strings_Join Tryz.lays156 Tryz.Builder_Extra_156 bk o c xs sep w hcells hbk hN hcap hlen
def Tryz.lays283_ren:Go.Shelf.Ren:=⟨fun|283=>286|n=>n,fun|3=>3|9=>9|4=>4|n=>n,fun|n=>n⟩
theorem Tryz.lays283:Go.Proofs.Lays.n283 Tryz.prog Tryz.lays283_ren:={
 mixed:=by kernel_rfl
 f283:=Tryz.func286.trans (congrArg some (by kernel_rfl))
 t3:=Tryz.underlying3
 a3:=Tryz.isAgg3
 z3:=Tryz.sizeOf3
 v3:=Tryz.zeroValue3
 t4:=Tryz.underlying4
 a4:=Tryz.isAgg4
 z4:=Tryz.sizeOf4
 v4:=Tryz.zeroValue4
 t9:=Tryz.underlying9
 a9:=Tryz.isAgg9
 z9:=Tryz.sizeOf9
 v9:=Tryz.zeroValue9 }
open Go.Lib in
theorem Tryz.internal_strconv_small (i:Nat) (h:i<100) (w:World) :
  Calls Tryz.prog 286 #[.int .i64 i] w fun e w'=>e=.returned (.string ⟨(Lib.decDigits i).toArray⟩)∧w'=w:=Any.internal_strconv_small Tryz.lays283 i h w
def Tryz.laysM284_ren:Go.Shelf.Ren:=⟨fun|284=>287|129=>192|317=>338|318=>339|n=>n,fun|53=>146|3=>3|212=>373|0=>0|4=>4|46=>170|5=>5|9=>9|n=>n,fun|17=>0|n=>n⟩
theorem Tryz.laysM284:Go.Proofs.LaysM.n284 Tryz.prog Tryz.laysM284_ren:={
 mixed:=by kernel_rfl
 f129:=Tryz.func192.trans (congrArg some (by kernel_rfl))
 f284:=Tryz.func287.trans (congrArg some (by kernel_rfl))
 f317:=Tryz.func338.trans (congrArg some (by kernel_rfl))
 f318:=Tryz.func339.trans (congrArg some (by kernel_rfl))
 t0:=Tryz.underlying0
 a0:=Tryz.isAgg0
 z0:=Tryz.sizeOf0
 v0:=Tryz.zeroValue0
 t3:=Tryz.underlying3
 a3:=Tryz.isAgg3
 z3:=Tryz.sizeOf3
 v3:=Tryz.zeroValue3
 t4:=Tryz.underlying4
 a4:=Tryz.isAgg4
 z4:=Tryz.sizeOf4
 v4:=Tryz.zeroValue4
 t5:=Tryz.underlying5
 a5:=Tryz.isAgg5
 z5:=Tryz.sizeOf5
 v5:=Tryz.zeroValue5
 t9:=Tryz.underlying9
 a9:=Tryz.isAgg9
 z9:=Tryz.sizeOf9
 v9:=Tryz.zeroValue9
 t46:=Tryz.underlying170
 a46:=Tryz.isAgg170
 z46:=Tryz.sizeOf170
 v46:=Tryz.zeroValue170
 t53:=Tryz.underlying146
 a53:=Tryz.isAgg146
 z53:=Tryz.sizeOf146
 v53:=Tryz.zeroValue146
 t212:=Tryz.underlying373
 a212:=Tryz.isAgg373
 z212:=Tryz.sizeOf373
 v212:=Tryz.zeroValue373
 g17:=by kernel_rfl
 i0:=by kernel_rfl
 i3:=by kernel_rfl
 i4:=by kernel_rfl
 i5:=by kernel_rfl
 i9:=by kernel_rfl
 i46:=by kernel_rfl
 i53:=by kernel_rfl
 i212:=by kernel_rfl
 m17:=by kernel_rfl }
open Go.Lib in
theorem Tryz.internal_strconv_numDigits (u:Nat) (h1:1≤u) (h2:u<18446744073709551616) (w:World) (htab:Lib.TabIs Tryz.prog w "internal/strconv.uint64pow10" .u64 Lib.pow10Tab) :
  Calls Tryz.prog 287 #[.int .u64 u] w fun e w'=>e=.returned (.int .i64 (Lib.nDigits u))∧w'=w:=Any.internal_strconv_numDigits Tryz.laysM284 u h1 h2 w htab
def Tryz.lays285_ren:Go.Shelf.Ren:=⟨fun|285=>288|n=>n,fun|37=>184|53=>146|3=>3|4=>4|51=>147|9=>9|5=>5|0=>0|n=>n,fun|n=>n⟩
theorem Tryz.lays285:Go.Proofs.Lays.n285 Tryz.prog Tryz.lays285_ren:={
 mixed:=by kernel_rfl
 f285:=Tryz.func288.trans (congrArg some (by kernel_rfl))
 t0:=Tryz.underlying0
 a0:=Tryz.isAgg0
 z0:=Tryz.sizeOf0
 v0:=Tryz.zeroValue0
 t3:=Tryz.underlying3
 a3:=Tryz.isAgg3
 z3:=Tryz.sizeOf3
 v3:=Tryz.zeroValue3
 t4:=Tryz.underlying4
 a4:=Tryz.isAgg4
 z4:=Tryz.sizeOf4
 v4:=Tryz.zeroValue4
 t5:=Tryz.underlying5
 a5:=Tryz.isAgg5
 z5:=Tryz.sizeOf5
 v5:=Tryz.zeroValue5
 t9:=Tryz.underlying9
 a9:=Tryz.isAgg9
 z9:=Tryz.sizeOf9
 v9:=Tryz.zeroValue9
 t37:=Tryz.underlying184
 a37:=Tryz.isAgg184
 z37:=Tryz.sizeOf184
 v37:=Tryz.zeroValue184
 t51:=Tryz.underlying147
 a51:=Tryz.isAgg147
 z51:=Tryz.sizeOf147
 v51:=Tryz.zeroValue147
 t53:=Tryz.underlying146
 a53:=Tryz.isAgg146
 z53:=Tryz.sizeOf146
 v53:=Tryz.zeroValue146 }
open Go.RowKit Go.Sort Go.Lib in
theorem Tryz.internal_strconv_formatBase10 (blk off cap:Nat) (u:Nat) (d:Array UInt8) (w:World) (hH:Holds (fun (b:UInt8)=>Value.int .u8 (b.toNat:Int)) w blk off d) (hu:u<10 ^ d.size) (hu64:u<18446744073709551616) (hsz:d.size<4611686018427387904) :
  Calls Tryz.prog 288 #[.slice (some ⟨blk,off,none⟩) d.size cap,.int .u64 u] w fun e w' =>
   e=.returned (.tuple #[])∧∃(n v':Nat) (dk:Array UInt8),w'=(putRow (fun (b:UInt8)=>Value.int .u8 (b.toNat:Int)) w blk off dk).drewN n∧FmtInv d.size u 0 v' dk:=Any.internal_strconv_formatBase10 Tryz.lays285 blk off cap u d w hH hu hu64 hsz
def Tryz.laysM171_ren:Go.Shelf.Ren:=⟨fun|171=>284|243=>336|246=>360|283=>286|284=>287|285=>288|286=>289|129=>192|317=>338|318=>339|319=>340|320=>341|337=>361|338=>362|n=>n,fun|3=>3|9=>9|2=>2|4=>4|171=>330|0=>0|53=>146|37=>184|5=>5|173=>332|212=>373|51=>147|20=>20|213=>374|46=>170|232=>401|233=>402|n=>n,fun|17=>0|18=>2|19=>3|n=>n⟩
theorem Tryz.laysM171:Go.Proofs.LaysM.n171 Tryz.prog Tryz.laysM171_ren:={
 mixed:=by kernel_rfl
 f129:=Tryz.func192.trans (congrArg some (by kernel_rfl))
 f171:=Tryz.func284.trans (congrArg some (by kernel_rfl))
 f243:=Tryz.func336.trans (congrArg some (by kernel_rfl))
 f246:=Tryz.func360.trans (congrArg some (by kernel_rfl))
 f283:=Tryz.func286.trans (congrArg some (by kernel_rfl))
 f284:=Tryz.func287.trans (congrArg some (by kernel_rfl))
 f285:=Tryz.func288.trans (congrArg some (by kernel_rfl))
 f286:=Tryz.func289.trans (congrArg some (by kernel_rfl))
 f317:=Tryz.func338.trans (congrArg some (by kernel_rfl))
 f318:=Tryz.func339.trans (congrArg some (by kernel_rfl))
 f319:=Tryz.func340.trans (congrArg some (by kernel_rfl))
 f320:=Tryz.func341.trans (congrArg some (by kernel_rfl))
 f337:=Tryz.func361.trans (congrArg some (by kernel_rfl))
 f338:=Tryz.func362.trans (congrArg some (by kernel_rfl))
 t0:=Tryz.underlying0
 a0:=Tryz.isAgg0
 z0:=Tryz.sizeOf0
 v0:=Tryz.zeroValue0
 t2:=Tryz.underlying2
 a2:=Tryz.isAgg2
 z2:=Tryz.sizeOf2
 v2:=Tryz.zeroValue2
 t3:=Tryz.underlying3
 a3:=Tryz.isAgg3
 z3:=Tryz.sizeOf3
 v3:=Tryz.zeroValue3
 t4:=Tryz.underlying4
 a4:=Tryz.isAgg4
 z4:=Tryz.sizeOf4
 v4:=Tryz.zeroValue4
 t5:=Tryz.underlying5
 a5:=Tryz.isAgg5
 z5:=Tryz.sizeOf5
 v5:=Tryz.zeroValue5
 t9:=Tryz.underlying9
 a9:=Tryz.isAgg9
 z9:=Tryz.sizeOf9
 v9:=Tryz.zeroValue9
 t20:=Tryz.underlying20
 a20:=Tryz.isAgg20
 z20:=Tryz.sizeOf20
 v20:=Tryz.zeroValue20
 t37:=Tryz.underlying184
 a37:=Tryz.isAgg184
 z37:=Tryz.sizeOf184
 v37:=Tryz.zeroValue184
 t46:=Tryz.underlying170
 a46:=Tryz.isAgg170
 z46:=Tryz.sizeOf170
 v46:=Tryz.zeroValue170
 t51:=Tryz.underlying147
 a51:=Tryz.isAgg147
 z51:=Tryz.sizeOf147
 v51:=Tryz.zeroValue147
 t53:=Tryz.underlying146
 a53:=Tryz.isAgg146
 z53:=Tryz.sizeOf146
 v53:=Tryz.zeroValue146
 t171:=Tryz.underlying330
 a171:=Tryz.isAgg330
 z171:=Tryz.sizeOf330
 v171:=Tryz.zeroValue330
 t173:=Tryz.underlying332
 a173:=Tryz.isAgg332
 z173:=Tryz.sizeOf332
 v173:=Tryz.zeroValue332
 t212:=Tryz.underlying373
 a212:=Tryz.isAgg373
 z212:=Tryz.sizeOf373
 v212:=Tryz.zeroValue373
 t213:=Tryz.underlying374
 a213:=Tryz.isAgg374
 z213:=Tryz.sizeOf374
 t232:=Tryz.underlying401
 a232:=Tryz.isAgg401
 z232:=Tryz.sizeOf401
 v232:=Tryz.zeroValue401
 t233:=Tryz.underlying402
 a233:=Tryz.isAgg402
 z233:=Tryz.sizeOf402
 v233:=Tryz.zeroValue402
 g17:=by kernel_rfl
 g18:=by kernel_rfl
 g19:=by kernel_rfl
 i0:=by kernel_rfl
 i2:=by kernel_rfl
 i3:=by kernel_rfl
 i4:=by kernel_rfl
 i5:=by kernel_rfl
 i9:=by kernel_rfl
 i20:=by kernel_rfl
 i37:=by kernel_rfl
 i46:=by kernel_rfl
 i51:=by kernel_rfl
 i53:=by kernel_rfl
 i171:=by kernel_rfl
 i173:=by kernel_rfl
 i212:=by kernel_rfl
 i232:=by kernel_rfl
 i233:=by kernel_rfl
 m17:=by kernel_rfl
 m18:=by kernel_rfl
 m19:=by kernel_rfl }
open Go.RowKit Go.Sort Go.Lib in
theorem Tryz.strconv_Itoa (n:Int) (h0:-9223372036854775808≤n) (h1:n≤9223372036854775807) (w:World) (htab:Lib.TabIs Tryz.prog w "internal/strconv.uint64pow10" .u64 Lib.pow10Tab) :
  Calls Tryz.prog 284 #[.int .i64 n] w fun e w'=>e=.returned (.string ⟨(Lib.itoa n).toArray⟩)∧∃k os,w'=grow (w.drewN k) os:=Any.strconv_Itoa Tryz.laysM171 n h0 h1 w htab
def Tryz.lays105_ren:Go.Shelf.Ren:=⟨fun|105=>166|212=>226|99=>227|165=>224|166=>134|170=>167|169=>135|263=>290|264=>291|206=>292|240=>211|241=>285|276=>264|277=>337|n=>n,fun|9=>9|3=>3|4=>4|20=>20|0=>0|46=>170|109=>267|5=>5|72=>186|76=>190|51=>147|146=>334|53=>146|148=>336|70=>183|37=>184|75=>189|127=>252|164=>304|80=>192|n=>n,fun|n=>n⟩
theorem Tryz.lays105:Go.Proofs.Lays.n105 Tryz.prog Tryz.lays105_ren:={
 mixed:=by kernel_rfl
 f99:=Tryz.func227.trans (congrArg some (by kernel_rfl))
 f105:=Tryz.func166.trans (congrArg some (by kernel_rfl))
 f165:=Tryz.func224.trans (congrArg some (by kernel_rfl))
 f166:=Tryz.func134.trans (congrArg some (by kernel_rfl))
 f169:=Tryz.func135.trans (congrArg some (by kernel_rfl))
 f170:=Tryz.func167.trans (congrArg some (by kernel_rfl))
 f206:=Tryz.func292.trans (congrArg some (by kernel_rfl))
 f212:=Tryz.func226.trans (congrArg some (by kernel_rfl))
 f240:=Tryz.func211.trans (congrArg some (by kernel_rfl))
 f241:=Tryz.func285.trans (congrArg some (by kernel_rfl))
 f263:=Tryz.func290.trans (congrArg some (by kernel_rfl))
 f264:=Tryz.func291.trans (congrArg some (by kernel_rfl))
 f276:=Tryz.func264.trans (congrArg some (by kernel_rfl))
 f277:=Tryz.func337.trans (congrArg some (by kernel_rfl))
 t0:=Tryz.underlying0
 a0:=Tryz.isAgg0
 z0:=Tryz.sizeOf0
 v0:=Tryz.zeroValue0
 t3:=Tryz.underlying3
 a3:=Tryz.isAgg3
 z3:=Tryz.sizeOf3
 v3:=Tryz.zeroValue3
 t4:=Tryz.underlying4
 a4:=Tryz.isAgg4
 z4:=Tryz.sizeOf4
 v4:=Tryz.zeroValue4
 t5:=Tryz.underlying5
 a5:=Tryz.isAgg5
 z5:=Tryz.sizeOf5
 v5:=Tryz.zeroValue5
 t9:=Tryz.underlying9
 a9:=Tryz.isAgg9
 z9:=Tryz.sizeOf9
 v9:=Tryz.zeroValue9
 t20:=Tryz.underlying20
 a20:=Tryz.isAgg20
 z20:=Tryz.sizeOf20
 v20:=Tryz.zeroValue20
 t37:=Tryz.underlying184
 a37:=Tryz.isAgg184
 z37:=Tryz.sizeOf184
 v37:=Tryz.zeroValue184
 t46:=Tryz.underlying170
 a46:=Tryz.isAgg170
 z46:=Tryz.sizeOf170
 v46:=Tryz.zeroValue170
 t51:=Tryz.underlying147
 a51:=Tryz.isAgg147
 z51:=Tryz.sizeOf147
 v51:=Tryz.zeroValue147
 t53:=Tryz.underlying146
 a53:=Tryz.isAgg146
 z53:=Tryz.sizeOf146
 v53:=Tryz.zeroValue146
 t70:=Tryz.underlying183
 a70:=Tryz.isAgg183
 z70:=Tryz.sizeOf183
 v70:=Tryz.zeroValue183
 t72:=Tryz.underlying186
 a72:=Tryz.isAgg186
 z72:=Tryz.sizeOf186
 v72:=Tryz.zeroValue186
 t75:=Tryz.underlying189
 a75:=Tryz.isAgg189
 z75:=Tryz.sizeOf189
 v75:=Tryz.zeroValue189
 t76:=Tryz.underlying190
 a76:=Tryz.isAgg190
 z76:=Tryz.sizeOf190
 v76:=Tryz.zeroValue190
 t109:=Tryz.underlying267
 a109:=Tryz.isAgg267
 z109:=Tryz.sizeOf267
 v109:=Tryz.zeroValue267
 t127:=Tryz.underlying252
 a127:=Tryz.isAgg252
 z127:=Tryz.sizeOf252
 v127:=Tryz.zeroValue252
 t146:=Tryz.underlying334
 a146:=Tryz.isAgg334
 z146:=Tryz.sizeOf334
 v146:=Tryz.zeroValue334
 t148:=Tryz.underlying336
 a148:=Tryz.isAgg336
 z148:=Tryz.sizeOf336
 v148:=Tryz.zeroValue336
 t164:=Tryz.underlying304
 a164:=Tryz.isAgg304
 z164:=Tryz.sizeOf304
 v164:=Tryz.zeroValue304 }
theorem Tryz.Builder_Extra_105:Builder.Extra Tryz.prog Tryz.lays105_ren:={
 sizeBuilder:=by kernel_rfl
 liesBuilder:=by kernel_rfl
 t5:=Tryz.underlying5
 a5:=Tryz.isAgg5
 z5:=Tryz.sizeOf5
 v5:=Tryz.zeroValue5
 infoByte:=by kernel_rfl
 cellsByte:=by kernel_rfl
 sizeByte:=by kernel_rfl
 neB5:=by decide }
open Go.RowKit Go.Lib in
theorem Tryz.strings_Repeat (s:ByteArray) (c:Nat) (w:World) (hc:c≤9223372036854775807) (hlen:s.size*c≤140737488355328) :
  Calls Tryz.prog 166 #[.string s,.int .i64 c] w fun e w'=>e=.returned (.string ⟨(Lib.repeatL s.data.toList c).toArray⟩)∧Below w.heap.size w w':=Any.strings_Repeat Tryz.lays105 Tryz.Builder_Extra_105 s c w hc hlen
end Go.Proofs
end
section
namespace Go.Proofs.YtnnhcbeiogaknaaGreatDoor
open Go.RowKit Go.Shelf Go.Lib Go.Sort
def Ki:Ren :=
  { f:=fun x=>match x with
      | 156=>163|165=>224|166=>134|167=>164|169=>135|170=>167|240=>211|241=>285|276=>264|277=>337
      | n=>n
    t:=fun x=>match x with
      | 31=>205|9=>9|3=>3|4=>4|0=>0|20=>20|72=>186|76=>190|70=>183|37=>184|75=>189|127=>252|164=>304|5=>5|80=>192
      | n=>n
    g:=fun n=>n }
theorem fH:Lays.n166 Tryz.prog Ki :=
  { mixed:=Eq.refl true
    f166:=Eq.trans Tryz.func134 (congrArg some (Eq.refl (Body.n166 Ki)))
    f240:=Eq.trans Tryz.func211 (congrArg some (Eq.refl (Body.n240 Ki)))
    f276:=Eq.trans Tryz.func264 (congrArg some (Eq.refl (Body.n276 Ki)))
    t0:=Tryz.underlying0,a0:=Tryz.isAgg0,z0:=Tryz.sizeOf0,v0:=Tryz.zeroValue0,t3:=Tryz.underlying3,a3:=Tryz.isAgg3,z3:=Tryz.sizeOf3,v3:=Tryz.zeroValue3
    t4:=Tryz.underlying4,a4:=Tryz.isAgg4,z4:=Tryz.sizeOf4,v4:=Tryz.zeroValue4,t9:=Tryz.underlying9,a9:=Tryz.isAgg9,z9:=Tryz.sizeOf9,v9:=Tryz.zeroValue9
    t20:=Tryz.underlying20,a20:=Tryz.isAgg20,z20:=Tryz.sizeOf20,v20:=Tryz.zeroValue20
    t37:=Tryz.underlying184,a37:=Tryz.isAgg184,z37:=Tryz.sizeOf184,v37:=Tryz.zeroValue184
    t70:=Tryz.underlying183,a70:=Tryz.isAgg183,z70:=Tryz.sizeOf183,v70:=Tryz.zeroValue183
    t72:=Tryz.underlying186,a72:=Tryz.isAgg186,z72:=Tryz.sizeOf186,v72:=Tryz.zeroValue186
    t75:=Tryz.underlying189,a75:=Tryz.isAgg189,z75:=Tryz.sizeOf189,v75:=Tryz.zeroValue189
    t164:=Tryz.underlying304,a164:=Tryz.isAgg304,z164:=Tryz.sizeOf304,v164:=Tryz.zeroValue304 }
theorem uW:Lays.n167 Tryz.prog Ki :=
  { mixed:=Eq.refl true
    f167:=Eq.trans Tryz.func164 (congrArg some (Eq.refl (Body.n167 Ki)))
    f240:=Eq.trans Tryz.func211 (congrArg some (Eq.refl (Body.n240 Ki)))
    f276:=Eq.trans Tryz.func264 (congrArg some (Eq.refl (Body.n276 Ki)))
    t0:=Tryz.underlying0,a0:=Tryz.isAgg0,z0:=Tryz.sizeOf0,v0:=Tryz.zeroValue0
    t4:=Tryz.underlying4,a4:=Tryz.isAgg4,z4:=Tryz.sizeOf4,v4:=Tryz.zeroValue4
    t5:=Tryz.underlying5,a5:=Tryz.isAgg5,z5:=Tryz.sizeOf5,v5:=Tryz.zeroValue5,t9:=Tryz.underlying9,a9:=Tryz.isAgg9,z9:=Tryz.sizeOf9,v9:=Tryz.zeroValue9
    t20:=Tryz.underlying20,a20:=Tryz.isAgg20,z20:=Tryz.sizeOf20,v20:=Tryz.zeroValue20
    t37:=Tryz.underlying184,a37:=Tryz.isAgg184,z37:=Tryz.sizeOf184,v37:=Tryz.zeroValue184
    t70:=Tryz.underlying183,a70:=Tryz.isAgg183,z70:=Tryz.sizeOf183,v70:=Tryz.zeroValue183
    t72:=Tryz.underlying186,a72:=Tryz.isAgg186,z72:=Tryz.sizeOf186,v72:=Tryz.zeroValue186
    t75:=Tryz.underlying189,a75:=Tryz.isAgg189,z75:=Tryz.sizeOf189,v75:=Tryz.zeroValue189
    t164:=Tryz.underlying304,a164:=Tryz.isAgg304,z164:=Tryz.sizeOf304,v164:=Tryz.zeroValue304 }
theorem Tj:Builder.Extra Tryz.prog Ki where
 sizeBuilder:=by kernel_rfl
 liesBuilder:=by kernel_rfl
 t5:=Tryz.underlying5
 a5:=Tryz.isAgg5
 z5:=Tryz.sizeOf5
 v5:=Tryz.zeroValue5
 infoByte:=by kernel_rfl
 cellsByte:=by kernel_rfl
 sizeByte:=by kernel_rfl
 neB5:=by decide
theorem Mu (B b:Nat) (bs:List Value) (s:ByteArray) (w:World) (h:Lib.IsBuilder 186 5 B b bs w) (hlen:bs.length+s.size≤140737488355328) (hBw:B≤w.heap.size) :
  Θ 134 #[.pointer (some ⟨b,0,none⟩),.string s] w fun e w'=>e=.returned (.tuple #[.int .i64 s.size,.nilIface])∧(Lib.BuilderAt 186 5 B b (.pointer (some ⟨b,0,none⟩)) (bs++Lib.strCells s) w'∧Below B w w') :=
 Any.Builder_WriteString fH Tj B b bs s w h hlen hBw
theorem X9 (B b:Nat) (bs:List Value) (c:Int) (w:World) (h:Lib.IsBuilder 186 5 B b bs w) (hlen:bs.length+1≤140737488355328) (hBw:B≤w.heap.size) :
  Θ 164 #[.pointer (some ⟨b,0,none⟩),.int .u8 c] w fun e w'=>e=.returned .nilIface∧(Lib.BuilderAt 186 5 B b (.pointer (some ⟨b,0,none⟩)) (bs++[.int .u8 c]) w'∧Below B w w') :=
 Any.Builder_WriteByte uW Tj B b bs c w h hlen hBw
def Tab (w:World):Prop:=Lib.TabIs Tryz.prog w "internal/strconv.uint64pow10" .u64 Lib.pow10Tab
theorem Tab.keep {w w':World} (h:Tab w) (hb:Below w.heap.size w w'):Tab w':=by
 unfold Tab TabIs World.var? at *
 cases hg:Tryz.prog.globalNamed "internal/strconv.uint64pow10" with
 | none=>simp [hg] at h
 | some g =>
  simp only [hg,Option.bind_some] at h ⊢;have hlt:g<w.heap.size:=by
   rcases Nat.lt_or_ge g w.heap.size with h'|h'
   ·exact h'
   ·rw [Array.getElem?_eq_none h'] at h;simp at h
  rw [hb.block g hlt];exact h
theorem Ws (w:World) (T:TypeId) (nd:Nat) (hs:nd≤24):Holds (fun (b:UInt8)=>Value.int .u8 (b.toNat:Int)) (w.alloc (.cells Lib.zeros24 T)) w.heap.size 0 (Array.replicate nd (0:UInt8)):=fun j hj=>by
 have hj':j<nd:=by simpa using hj
 refine ⟨?_,World.frozen?_alloc_new _ _ _ _⟩;rw [World.cell?_alloc_new,Lib.zeros24_at _ qA,getElem!_pos _ j hj];simp
theorem mS (w:World) (o:Obj) (dk:Array UInt8) (k:Nat):∃os,(putRow (fun (b:UInt8)=>Value.int .u8 (b.toNat:Int)) (w.alloc o) w.heap.size 0 dk).drewN k=grow (w.drewN k) os:=by
 rw [alloc_eq_grow];obtain ⟨os',_,e⟩:=putRow_grow_new (fun (b:UInt8)=>Value.int .u8 (b.toNat:Int)) w #[o] w.heap.size 0 dk (Ad _);exact ⟨os',by rw [e];rfl⟩
theorem Uh (u:Nat) (hu64:u<18446744073709551616) (w:World) (htab:Tab w) :
  Θ 225 #[.int .u64 u,.int .i64 10] w fun e w'=>e=.returned (.string ⟨(Lib.decDigits u).toArray⟩)∧∃k os,w'=grow (w.drewN k) os:=by
 by_cases hs:u<100
 ·go_enter Tryz.func225,Tryz.ntmps225;go_wp2_with (go_at_call 286;refine (Tryz.internal_strconv_small u hs _).mono ?_;rintro e w' ⟨rfl,rfl⟩);go_ret;exact ⟨rfl,0,#[],by simp [World.drewN_zero]⟩
 ·have hu1:1≤u:=by omega
  have hnd20:Lib.nDigits u≤20:=by have:=Lib.numDigits_eq u hu1 hu64;split at this<;>omega
  have hal:Tryz.prog.arrayLen 330=24:=by simp [Program.arrayLen,Tryz.underlying330]
  have hsl1:∀W,(Instr.sliceAt 330 (.pointer (some ⟨w.heap.size,0,none⟩)) none (some (.int .i64 (Lib.nDigits u:Int))) none).run Tryz.prog W=.ok (.slice (some ⟨w.heap.size,0,none⟩) (Lib.nDigits u) 24) W:=by
   intro W;rw [run_sliceAt_array_h W 330 ⟨w.heap.size,0,none⟩ (by simp [Program.arrayLen,Program.elem,Tryz.underlying330]) .i64 (Lib.nDigits u:Int) qA (by rw [hal];omega)];go_simp
  have hH0:=Ws w 330 (Lib.nDigits u) qA;have hfmt:=Tryz.internal_strconv_formatBase10 w.heap.size 0 24 u (Array.replicate (Lib.nDigits u) 0) (w.alloc (.cells Lib.zeros24 330)) hH0 (by rw [Array.size_replicate];exact Lib.lt_pow_nDigits u) hu64 (by rw [Array.size_replicate];omega);rw [Array.size_replicate] at hfmt;have HH0:=Ae hH0;clear hH0 hal;go_enter Tryz.func225,Tryz.ntmps225;go_wp2_with (first
   | (go_at_call 287;refine (Tryz.internal_strconv_numDigits u hu1 hu64 _ (Lib.tabIs_alloc htab _)).mono ?_;rintro e w' ⟨rfl,rfl⟩))
  refine hfmt.mono ?_;rintro e w' ⟨rfl,k,v',dk,rfl,hF⟩;have hcv:(convert 184 9 (.slice (some ⟨w.heap.size,0,none⟩) (Lib.nDigits u) 24)).run Tryz.prog ((putRow (fun (b:UInt8)=>Value.int .u8 (b.toNat:Int)) (w.alloc (.cells Lib.zeros24 330)) w.heap.size 0 dk).drewN k)=.ok (.string ⟨(Lib.decDigits u).toArray⟩) ((putRow (fun (b:UInt8)=>Value.int .u8 (b.toNat:Int)) (w.alloc (.cells Lib.zeros24 330)) w.heap.size 0 dk).drewN k):=by
   have h:=run_convert_bytes_back (P:=Tryz.prog) ((putRow (fun (b:UInt8)=>Value.int .u8 (b.toNat:Int)) (w.alloc (.cells Lib.zeros24 330)) w.heap.size 0 dk).drewN k) 184 9 5 ⟨w.heap.size,0,none⟩ 24 (Lib.decDigits u) Tryz.underlying184 Tryz.underlying5 Tryz.underlying9 (fun j hj=>by
    rw [Lib.row_is_numeral hF j hj,Lib.add_plain,World.cell?_drewN];exact cell?_putRow (fun (b:UInt8)=>Value.int .u8 (b.toNat:Int)) _ w.heap.size 0 _ dk HH0.out (by rw [hF.size,Array.size_replicate]) j (by rw [hF.size];rw [Lib.decDigits_length] at hj;exact hj))
   rw [Lib.decDigits_length] at h;exact h
  go_wp2;go_ret;obtain ⟨os,eo⟩:=mS w (.cells Lib.zeros24 330) dk k;exact ⟨rfl,k,os,eo⟩
theorem S4 {B:Nat} (w:World) (k:Nat) (os:Array Obj) (h:B≤w.heap.size):Below B w (grow (w.drewN k) os) :=
 ⟨rfl,rfl,rfl,by simp [grow],fun i hi=>by
  show (w.heap++os)[i]? = w.heap[i]?;rw [Array.getElem?_append_left qA]⟩
theorem N0 (u:Nat) (hu64:u<18446744073709551616) (w:World) (htab:Tab w) :
  Θ 165 #[.int .u64 u,.int .i64 10] w fun e w'=>e=.returned (.string ⟨(Lib.decDigits u).toArray⟩)∧Below w.heap.size w w':=by
 go_enter Tryz.func165,Tryz.ntmps165;go_wp2_with (go_at_call 225;refine (Uh u hu64 _ htab).mono ?_;rintro e w' ⟨rfl,k,os,rfl⟩);go_ret;exact ⟨rfl,S4 _ _ _ (Ad _)⟩
end Go.Proofs.YtnnhcbeiogaknaaGreatDoor
end
section
namespace Go.Proofs.YtnnhcbeiogaknaaGreatDoor
open Go.RowKit
theorem Se {B b:Nat} {bs:List Value} {w w':World} (h:Lib.IsBuilder 186 5 B b bs w) (hb:Below w.heap.size w w'):Lib.IsBuilder 186 5 B b bs w':=by
 have key:∀p,Lib.BuilderAt 186 5 B b p bs w→Lib.BuilderAt 186 5 B b p bs w':=by
  rintro p ⟨h1,v,h2,h3,h4⟩;refine ⟨h1,v,?_,Bo h3 hb,h4⟩;have hlt:b<w.heap.size:=by
   rcases Nat.lt_or_ge b w.heap.size with h'|h'
   ·exact h'
   ·rw [Array.getElem?_eq_none h'] at h2;cases h2
  rw [hb.block b hlt];exact h2
 exact h.imp (key _) (key _)
def Fo (w:World) (l:List UInt8) (e:Ending) (w':World):Prop:=e=.returned (.string ⟨l.toArray⟩)∧Below w.heap.size w w'
def E0 (z:Int) (j:Nat):List UInt8:=(if z<0 then [45] else [])++tx ((dg z.natAbs).drop j)
theorem bD {z:Int} (hz:z≠0):E0 z 0=Lib.itoa z:=by
 rw [E0,List.drop_zero,Aco _ qA,Lib.itoa]
 split
 ·rfl
 ·rw [show z.toNat=z.natAbs by omega];rfl
theorem aZ:E0 0 0=[]:=by
 rw [E0,if_neg qA,show (0:Int).natAbs=0 from rfl,De];rfl
theorem kE:Lib.itoa 0=[48]:=by
 rw [Lib.itoa,if_neg qA,show (0:Int).toNat=0 from rfl,Lib.decDigits_one qA];rfl
theorem Xi (u:Nat):Lib.decDigits u≠[]:=by
 rw [Lib.decDigits]
 split<;>simp
theorem wX (z:Int):Lib.itoa z≠[]:=by
 rw [Lib.itoa]
 split
 ·simp
 ·exact Xi _
theorem I4 (l m:List UInt8):Lib.byteCells l++Lib.strCells ⟨m.toArray⟩=Lib.byteCells (l++m):=by
 show Lib.byteCells l++Lib.byteCells m=_;simp [Lib.byteCells]
theorem U4 {z:Int} {i x:Nat} (hd:(dg z.natAbs).drop i=x::(dg z.natAbs).drop (i+1)) (h:(dg z.natAbs).drop (i+1)=[]):E0 z i=E0 z (i+1)++Lib.decDigits x:=by
 rw [E0,E0,hd,h,zP,mK,List.append_nil]
theorem Sb {z:Int} {i x:Nat} (hd:(dg z.natAbs).drop i=x::(dg z.natAbs).drop (i+1)) (hx:x<1000000000) (h:(dg z.natAbs).drop (i+1)≠[]):E0 z i=E0 z (i+1)++(Lib.repeatL [48] (9-(Lib.decDigits x).length)++Lib.decDigits x):=by
 rw [E0,E0,hd,wH x _ hx h (Cv (bR (Ch _) _) h),List.append_assoc]
theorem Jz (l:List UInt8):(⟨l.toArray⟩:ByteArray).size=l.length:=rfl
theorem Hc (l m:List UInt8):((⟨l.toArray⟩:ByteArray)++(⟨m.toArray⟩:ByteArray))=⟨(l++m).toArray⟩:=by
 apply ByteArray.ext;simp
theorem G3 (l:List UInt8):(Lib.byteCells l).length=l.length:=by simp [Lib.byteCells]
theorem lR (w:World) (g:Bool) (a:Γ) (n c:Nat) (z:Int) (h:Bh w g a n c z) (hT:Tab w) (hn:n≤1000000) :
  Θ 92 #[.agg #[.bool g,.slice a n c]] w (Fo w (Lib.itoa z)):=by
 have HB:=Ac w.heap.size w;go_enter Tryz.func92,Tryz.ntmps92;go_wp2_with fail;refine (In _ g a n c z (h.keep qF)).mono ?_;rintro e w1 ⟨rfl,hb⟩;obtain ⟨hc,hf⟩:=Bl hb;have hz:=hb.size;(try simp only [Aj,Ak] at hz);replace HB:=zI w hb;obtain ⟨s0_0,s0_1⟩:=qZ hc (w.heap.size) (.bool g) (.slice a n c);have f0_0:w1.frozen? ⟨w.heap.size,0,none⟩=false:=(hf _ _ qB).trans qL;have f0_1:w1.frozen? ⟨w.heap.size,1,none⟩=false:=(hf _ _ qB).trans qL;clear hc hf hb;have hk:w.heap.size<w1.heap.size:=hz;go_upto_region 3 with fail
 have hbd:=Lib.fresh_isBuilder 186 5 ((w1.setCell ⟨w.heap.size,0,none⟩ (.bool g)).setCell ⟨w.heap.size,1,none⟩ (.slice a n c));simp only [Am] at hbd;have HB2:Below w.heap.size w (((w1.setCell ⟨w.heap.size,0,none⟩ (.bool g)).setCell ⟨w.heap.size,1,none⟩ (.slice a n c)).alloc (.cells #[.pointer none,.slice none 0 0] 186)):=by go_grown
 have e0:(((w1.setCell ⟨w.heap.size,0,none⟩ (.bool g)).setCell ⟨w.heap.size,1,none⟩ (.slice a n c)).alloc (.cells #[.pointer none,.slice none 0 0] 186)).cell? ⟨w.heap.size,0,none⟩=some (.bool g):=by simp [*,go_sem]
 have e1:(((w1.setCell ⟨w.heap.size,0,none⟩ (.bool g)).setCell ⟨w.heap.size,1,none⟩ (.slice a n c)).alloc (.cells #[.pointer none,.slice none 0 0] 186)).cell? ⟨w.heap.size,1,none⟩=some (.slice a n c):=by simp [*,go_sem]
 have hsz:(((w1.setCell ⟨w.heap.size,0,none⟩ (.bool g)).setCell ⟨w.heap.size,1,none⟩ (.slice a n c)).alloc (.cells #[.pointer none,.slice none 0 0] 186)).heap.size=w1.heap.size+1:=by simp
 generalize (((w1.setCell ⟨w.heap.size,0,none⟩ (.bool g)).setCell ⟨w.heap.size,1,none⟩ (.slice a n c)).alloc (.cells #[.pointer none,.slice none 0 0] 186))=w2 at *;generalize w1.heap.size=P at *;clear s0_0 s0_1 f0_0 f0_1 HB hz;have hlen:=h.rd.len;have hdn:(dg z.natAbs).drop n=[]:=by rw [List.drop_eq_nil_iff];omega
 go_upto_if 9 with (fail)
 go_cut [] (fun wc=>Lib.IsBuilder 186 5 P P (Lib.byteCells (E0 z n)) wc∧Below P w2 wc)
 case first =>
  have HDN:=Ae hdn;have hg:=Ae h.neg;clear hdn;cases g
  ·go_wp2_with fail;go_meet
   case rel =>
    refine ⟨?_,Ac _ _⟩;have h1:=hg.out;rw [E0,HDN.out,if_neg (by simpa using h1)];exact hbd
  ·go_wp2_with fail;refine (X9 P P [] 45 _ hbd qG qA).mono ?_;rintro e w3 ⟨rfl,hb3,hB3⟩;go_wp2_with fail;go_meet
   case rel =>
    refine ⟨.inr ?_,hB3⟩;have h1:=hg.out;rw [E0,HDN.out,if_pos (by simpa using h1)];exact hb3
 case rest =>
  obtain ⟨hbc,hBc⟩:=hcut;clear hbd;have HBc:Below w.heap.size w wc:=HB2.trans (hBc.mono qA);have hsc:=hBc.size;have q0:wc.cell? ⟨w.heap.size,0,none⟩=some (.bool g):=(hBc.cell (p:=⟨w.heap.size,0,none⟩) hk).trans e0;have q1:wc.cell? ⟨w.heap.size,1,none⟩=some (.slice a n c):=(hBc.cell (p:=⟨w.heap.size,1,none⟩) hk).trans e1;clear e0 e1 hBc HB2;have HDN:=Ae hdn;clear hdn;go_wp2_with fail;go_loopw [4] (fun v4 wr=>∃j:Nat,j≤n∧v4=.int .i64 ((j:Int)-1)∧Lib.IsBuilder 186 5 P P (Lib.byteCells (E0 z j)) wr∧(E0 z j).length≤9*(n-j)+1∧Below P wc wr)
   (fun v4 _=>(intOf v4+1).toNat)
  case atStart=>exact ⟨n,Ad _,by first|rfl|(rw [IntWalk.i64_in _ qA]),hbc,by rw [E0,HDN.out,mK];split<;>simp,Ac _ _⟩
  case round =>
   obtain ⟨j,hj,rfl,hbr,hbl,hBr⟩:=hrel;have HBr:Below w.heap.size w wr:=HBc.trans (hBr.mono qA);have hsr:=hBr.size;have r0:wr.cell? ⟨w.heap.size,0,none⟩=some (.bool g):=(hBr.cell (p:=⟨w.heap.size,0,none⟩) hk).trans q0;have r1:wr.cell? ⟨w.heap.size,1,none⟩=some (.slice a n c):=(hBr.cell (p:=⟨w.heap.size,1,none⟩) hk).trans q1
   cases j with
   | zero =>
    have hm:((0:Nat):Int)-1=-1:=by omega
    rw [hm];clear r0 r1 q0 q1;by_cases hz0:z=0
    ·have hs0:E0 z 0=[]:=by rw [hz0];exact aZ
     have hr:Lib.itoa z=[48]:=by rw [hz0];exact kE
     rw [hs0] at hbr;have hr:=Ae hr;go_wp2_with fail;refine (Tryz.Builder_Len P P _ wr hbr).mono ?_;rintro e w4 ⟨rfl,rfl⟩;rw [show (Lib.byteCells []).length=0 from rfl];go_wp2_with fail;go_ret;exact ⟨by rw [hr.out];rfl,HBr⟩
    ·rw [bD hz0] at hbr;have hl0:(Lib.byteCells (Lib.itoa z)).length=(Lib.itoa z).length:=G3 _;have hl1:(((Lib.itoa z).length:Int)==0)=false:=by
      have:=List.length_pos_iff.2 (wX z);rw [beq_eq_false_iff_ne];omega
     go_wp2_with fail;refine (Tryz.Builder_Len P P _ wr hbr).mono ?_;rintro e w4 ⟨rfl,rfl⟩;rw [hl0];go_wp2_with fail;refine (Tryz.Builder_String_any P P _ w4 hbr qA).mono ?_;rintro e w5 ⟨rfl,hb5⟩;go_wp2_with fail;go_ret;exact ⟨rfl,HBr.trans (hb5.mono qA)⟩
   | succ i =>
    have hm:((i+1:Nat):Int)-1=(i:Int):=by omega
    rw [hm];obtain ⟨b,o,rfl,hci⟩:=h.rd.at' (i:=i) qA;have hci':=Bc HBr hci;obtain ⟨x,hx⟩:∃x:Nat,lim (dg z.natAbs) i=(x:Int):=⟨(lim (dg z.natAbs) i).toNat,by have:=h.rd.small i;omega⟩;rw [hx] at hci';have hdi:=oJ (d:=dg z.natAbs) (j:=i) qA;rw [hx,Int.toNat_natCast] at hdi;have hxl:x<1000000000:=Ew z.natAbs x (by rw [←List.take_append_drop i (dg z.natAbs),hdi];simp);have hxw:IntKind.u64.wrap (x:Int)=(x:Int):=IntWalk.u64_in _ qA;have HDI:=Ae hdi;have hdl:=vW hxl;clear hx hci hdi q0 q1;by_cases htop:i+1=n
    ·have htop':decide ((i:Int)<(n:Int)-1)=false:=by simp;omega
     go_wp2_with fail;refine (N0 x qA wr (hT.keep HBr)).mono ?_;rintro e w4 ⟨rfl,hb4⟩;have hz4:=hb4.size;replace hbr:=Se hbr hb4;have r0':=Bc hb4 r0;have r1':=Bc hb4 r1;go_wp2_with fail;refine (Mu P P _ ⟨(Lib.decDigits x).toArray⟩ w4 hbr (by rw [G3];rw [Jz];omega) qA).mono ?_;rintro e w6 ⟨rfl,hb6,hB6⟩;have q6:Lib.IsBuilder 186 5 P P (Lib.byteCells (E0 z i)) w6:=by
      rw [U4 HDI.out (by rw [htop];exact HDN.out),←I4];exact .inr hb6
     have q7:(E0 z i).length≤9*(n-i)+1:=by rw [U4 HDI.out (by rw [htop];exact HDN.out),A9];omega
     have q8:Below P wc w6:=(hBr.trans (hb4.mono qA)).trans hB6;clear hbr hb6 hB6 hb4;exact qCg
    ·have htop':decide ((i:Int)<(n:Int)-1)=true:=by simp;omega
     go_wp2_with fail;refine (N0 x qA wr (hT.keep HBr)).mono ?_;rintro e w4 ⟨rfl,hb4⟩;have hz4:=hb4.size;replace hbr:=Se hbr hb4;have r0':=Bc hb4 r0;have r1':=Bc hb4 r1;go_wp2_with fail;have hsub:(9:Int)-((Lib.decDigits x).length:Int)=((9-(Lib.decDigits x).length:Nat):Int):=by omega
     rw [hsub];refine (Tryz.strings_Repeat ⟨#[48]⟩ (9-(Lib.decDigits x).length) w4 qA (by show 1*_≤_;omega)).mono ?_;rintro e w5 ⟨rfl,hb5⟩;replace hbr:=Se hbr hb5;have r0'':=Bc hb5 r0';have r1'':=Bc hb5 r1';have hz5:=hb5.size;have hrl:(Lib.repeatL [48] (9-(Lib.decDigits x).length)).length≤9:=by rw [Kh,List.length_replicate];omega
     have hcat:(⟨(Lib.repeatL [48] (9-(Lib.decDigits x).length)).toArray⟩:ByteArray).size+(⟨(Lib.decDigits x).toArray⟩:ByteArray).size≤9223372036854775807:=by rw [Jz,Jz];omega
     go_wp2_with fail;have happ:((⟨(Lib.repeatL [48] (9-(Lib.decDigits x).length)).toArray⟩:ByteArray)++(⟨(Lib.decDigits x).toArray⟩:ByteArray))=⟨(Lib.repeatL [48] (9-(Lib.decDigits x).length)++Lib.decDigits x).toArray⟩:=Hc _ _;rw [happ];refine (Mu P P _ ⟨(Lib.repeatL [48] (9-(Lib.decDigits x).length)++Lib.decDigits x).toArray⟩ w5 hbr (by rw [G3,Jz,A9];omega) qA).mono ?_;rintro e w6 ⟨rfl,hb6,hB6⟩;have hne:(dg z.natAbs).drop (i+1)≠[]:=by rw [Ne,List.drop_eq_nil_iff];omega
     have q6:Lib.IsBuilder 186 5 P P (Lib.byteCells (E0 z i)) w6:=by
      rw [Sb HDI.out hxl hne,←I4];exact .inr hb6
     have q7:(E0 z i).length≤9*(n-i)+1:=by
      have h1:=congrArg List.length (Sb HDI.out hxl hne);rw [A9,A9,Kh,List.length_replicate] at h1;omega
     have q8:Below P wc w6:=((hBr.trans (hb4.mono qA)).trans (hb5.mono qA)).trans hB6;clear hbr hb6 hB6 hb4 hne happ;exact qCg
end Go.Proofs.YtnnhcbeiogaknaaGreatDoor
end
