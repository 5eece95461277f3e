/- Contracts of the library at this dump, in plain words: those that our texts name. -/
import Derived.Test.YtfijkfdfbnfmmaaGreatDoorQF4
set_option linter.unusedSimpArgs false
set_option linter.unusedVariables false
set_option maxRecDepth 100000
set_option maxHeartbeats 4000000
section
namespace Go.Proofs
open YtfijkfdfbnfmmaaGreatDoor
open Go.Shelf
def Tryz.lays170_ren:Go.Shelf.Ren:=⟨fun|170=>282|n=>n,fun|70=>257|3=>3|0=>0|72=>259|37=>123|5=>5|n=>n,fun|n=>n⟩
theorem Tryz.lays170:Go.Proofs.Lays.n170 prog Tryz.lays170_ren:={
 mixed:=qE
 f170:=xa func282
 t0:=underlying0
 a0:=Tryz.isAgg0
 z0:=Tryz.sizeOf0
 v0:=Tryz.zeroValue0
 t3:=underlying3
 a3:=Tryz.isAgg3
 z3:=Tryz.sizeOf3
 v3:=Tryz.zeroValue3
 t37:=underlying123
 a37:=Tryz.isAgg123
 z37:=Tryz.sizeOf123
 v37:=Tryz.zeroValue123
 t70:=underlying257
 a70:=Tryz.isAgg257
 z70:=Tryz.sizeOf257
 v70:=Tryz.zeroValue257
 t72:=underlying259
 a72:=Tryz.isAgg259
 z72:=Tryz.sizeOf259
 v72:=Tryz.zeroValue259 }
open Go.RowKit in
theorem Tryz.Builder_Len (B b:Nat) (bs:List Value) (w:World) (h:Lib.IsBuilder 259 5 B b bs w) :
  Calls prog 282 #[.pointer (E b)] w fun e w'=>e=.returned (M bs.length)∧w'=w:=Any.Builder_Len Tryz.lays170 B b bs w h
def Tryz.lays169_ren:Go.Shelf.Ren:=⟨fun|169=>212|n=>n,fun|70=>257|9=>9|0=>0|72=>259|37=>123|127=>283|3=>3|5=>5|n=>n,fun|n=>n⟩
theorem Tryz.lays169:Go.Proofs.Lays.n169 prog Tryz.lays169_ren:={
 mixed:=qE
 f169:=xa func212
 t0:=underlying0
 a0:=Tryz.isAgg0
 z0:=Tryz.sizeOf0
 v0:=Tryz.zeroValue0
 t3:=underlying3
 a3:=Tryz.isAgg3
 z3:=Tryz.sizeOf3
 v3:=Tryz.zeroValue3
 t9:=underlying9
 a9:=Tryz.isAgg9
 z9:=Tryz.sizeOf9
 v9:=Tryz.zeroValue9
 t37:=underlying123
 a37:=Tryz.isAgg123
 z37:=Tryz.sizeOf123
 v37:=Tryz.zeroValue123
 t70:=underlying257
 a70:=Tryz.isAgg257
 z70:=Tryz.sizeOf257
 v70:=Tryz.zeroValue257
 t72:=underlying259
 a72:=Tryz.isAgg259
 z72:=Tryz.sizeOf259
 v72:=Tryz.zeroValue259
 t127:=underlying283
 a127:=Tryz.isAgg283
 z127:=Tryz.sizeOf283
 v127:=Tryz.zeroValue283 }
theorem Tryz.Builder_Extra_169:Builder.Extra prog Tryz.lays169_ren:={
 sizeBuilder:=qE
 liesBuilder:=qE
 t5:=underlying5
 a5:=Tryz.isAgg5
 z5:=Tryz.sizeOf5
 v5:=Tryz.zeroValue5
 infoByte:=qE
 cellsByte:=qE
 sizeByte:=qE
 neB5:=by decide }
open Go.RowKit in
theorem Tryz.Builder_String_any (B b:Nat) (l:List UInt8) (w:World) (h:Lib.IsBuilder 259 5 B b (Lib.byteCells l) w) (pd:B≤w.heap.size) :
  Calls prog 212 #[.pointer (E b)] w fun e w'=>e=.returned (.string ⟨l.toArray⟩)∧Below B w w':=Any.Builder_String_any Tryz.lays169 Tryz.Builder_Extra_169 B b l w h pd
def Tryz.lays156_ren:Go.Shelf.Ren:=⟨fun|156=>156|165=>210|166=>211|169=>212|240=>245|241=>246|276=>283|277=>284|n=>n,fun|31=>131|9=>9|3=>3|4=>4|0=>0|20=>20|72=>259|76=>263|70=>257|37=>123|75=>262|127=>283|164=>311|5=>5|80=>265|n=>n,fun|n=>n⟩
theorem Tryz.lays156:Go.Proofs.Lays.n156 prog Tryz.lays156_ren:={
 mixed:=qE
 f156:=xa func156
 f165:=xa func210
 f166:=xa func211
 f169:=xa func212
 f240:=xa func245
 f241:=xa func246
 f276:=xa func283
 f277:=xa func284
 t0:=underlying0
 a0:=Tryz.isAgg0
 z0:=Tryz.sizeOf0
 v0:=Tryz.zeroValue0
 t3:=underlying3
 a3:=Tryz.isAgg3
 z3:=Tryz.sizeOf3
 v3:=Tryz.zeroValue3
 t4:=underlying4
 a4:=Tryz.isAgg4
 z4:=Tryz.sizeOf4
 v4:=Tryz.zeroValue4
 t9:=underlying9
 a9:=Tryz.isAgg9
 z9:=Tryz.sizeOf9
 v9:=Tryz.zeroValue9
 t20:=underlying20
 a20:=Tryz.isAgg20
 z20:=Tryz.sizeOf20
 v20:=Tryz.zeroValue20
 t31:=underlying131
 a31:=Tryz.isAgg131
 z31:=Tryz.sizeOf131
 v31:=Tryz.zeroValue131
 t37:=underlying123
 a37:=Tryz.isAgg123
 z37:=Tryz.sizeOf123
 v37:=Tryz.zeroValue123
 t70:=underlying257
 a70:=Tryz.isAgg257
 z70:=Tryz.sizeOf257
 v70:=Tryz.zeroValue257
 t72:=underlying259
 a72:=Tryz.isAgg259
 z72:=Tryz.sizeOf259
 v72:=Tryz.zeroValue259
 t75:=underlying262
 a75:=Tryz.isAgg262
 z75:=Tryz.sizeOf262
 v75:=Tryz.zeroValue262
 t76:=underlying263
 a76:=Tryz.isAgg263
 z76:=Tryz.sizeOf263
 v76:=Tryz.zeroValue263
 t127:=underlying283
 a127:=Tryz.isAgg283
 z127:=Tryz.sizeOf283
 v127:=Tryz.zeroValue283
 t164:=underlying311
 a164:=Tryz.isAgg311
 z164:=Tryz.sizeOf311
 v164:=Tryz.zeroValue311 }
theorem Tryz.Builder_Extra_156:Builder.Extra prog Tryz.lays156_ren:={
 sizeBuilder:=qE
 liesBuilder:=qE
 t5:=underlying5
 a5:=Tryz.isAgg5
 z5:=Tryz.sizeOf5
 v5:=Tryz.zeroValue5
 infoByte:=qE
 cellsByte:=qE
 sizeByte:=qE
 neB5:=by decide }
open Go.RowKit in
theorem Tryz.strings_Join (bk o c:Nat) (xs:List ByteArray) (sep:ByteArray) (w:World) (ZN:∀(j:Nat) x,xs[j]? = some x→Z w bk (o+j) (.string x)) (hbk:bk<w.heap.size) (hN:xs.length≤140737488355328) (oz:xs.length≤c) (hlen:(Lib.join (xs.map (·.data.toList)) sep.data.toList).length≤140737488355328) :
  Calls prog 156 #[.slice (some ⟨bk,o,none⟩) xs.length c,.string sep] w fun e w'=>e=.returned (.string ⟨(Lib.join (xs.map (·.data.toList)) sep.data.toList).toArray⟩)∧xp w w':=Any.strings_Join Tryz.lays156 Tryz.Builder_Extra_156 bk o c xs sep w ZN hbk hN oz hlen
def Tryz.lays283_ren:Go.Shelf.Ren:=⟨fun|283=>327|n=>n,fun|3=>3|9=>9|4=>4|n=>n,fun|n=>n⟩
theorem Tryz.lays283:Go.Proofs.Lays.n283 prog Tryz.lays283_ren:={
 mixed:=qE
 f283:=xa func327
 t3:=underlying3
 a3:=Tryz.isAgg3
 z3:=Tryz.sizeOf3
 v3:=Tryz.zeroValue3
 t4:=underlying4
 a4:=Tryz.isAgg4
 z4:=Tryz.sizeOf4
 v4:=Tryz.zeroValue4
 t9:=underlying9
 a9:=Tryz.isAgg9
 z9:=Tryz.sizeOf9
 v9:=Tryz.zeroValue9 }
open Go.Lib in
theorem Tryz.internal_strconv_small (i:Nat) (h:i<100) (w:World) :
  Calls prog 327 #[M i] w fun e w'=>e=.returned (.string ⟨(Lib.decDigits i).toArray⟩)∧w'=w:=Any.internal_strconv_small Tryz.lays283 i h w
def Tryz.laysM284_ren:Go.Shelf.Ren:=⟨fun|284=>328|129=>302|317=>349|318=>350|n=>n,fun|53=>235|3=>3|212=>373|0=>0|4=>4|46=>291|5=>5|9=>9|n=>n,fun|17=>1|n=>n⟩
theorem Tryz.laysM284:Go.Proofs.LaysM.n284 prog Tryz.laysM284_ren:={
 mixed:=qE
 f129:=xa func302
 f284:=xa func328
 f317:=xa func349
 f318:=xa func350
 t0:=underlying0
 a0:=Tryz.isAgg0
 z0:=Tryz.sizeOf0
 v0:=Tryz.zeroValue0
 t3:=underlying3
 a3:=Tryz.isAgg3
 z3:=Tryz.sizeOf3
 v3:=Tryz.zeroValue3
 t4:=underlying4
 a4:=Tryz.isAgg4
 z4:=Tryz.sizeOf4
 v4:=Tryz.zeroValue4
 t5:=underlying5
 a5:=Tryz.isAgg5
 z5:=Tryz.sizeOf5
 v5:=Tryz.zeroValue5
 t9:=underlying9
 a9:=Tryz.isAgg9
 z9:=Tryz.sizeOf9
 v9:=Tryz.zeroValue9
 t46:=underlying291
 a46:=Tryz.isAgg291
 z46:=Tryz.sizeOf291
 v46:=Tryz.zeroValue291
 t53:=underlying235
 a53:=Tryz.isAgg235
 z53:=Tryz.sizeOf235
 v53:=Tryz.zeroValue235
 t212:=underlying373
 a212:=Tryz.isAgg373
 z212:=Tryz.sizeOf373
 v212:=Tryz.zeroValue373
 g17:=qE
 i0:=qE
 i3:=qE
 i4:=qE
 i5:=qE
 i9:=qE
 i46:=qE
 i53:=qE
 i212:=qE
 m17:=by kernel_rfl }
open Go.Lib in
theorem Tryz.internal_strconv_numDigits (u:Nat) (h1:1≤u) (h2:u<18446744073709551616) (w:World) (EZ:Lib.TabIs prog w "internal/strconv.uint64pow10" .u64 Lib.pow10Tab) :
  Calls prog 328 #[.int .u64 u] w fun e w'=>e=.returned (M (Lib.nDigits u))∧w'=w:=Any.internal_strconv_numDigits Tryz.laysM284 u h1 h2 w EZ
def Tryz.lays285_ren:Go.Shelf.Ren:=⟨fun|285=>329|n=>n,fun|37=>123|53=>235|3=>3|4=>4|51=>129|9=>9|5=>5|0=>0|n=>n,fun|n=>n⟩
theorem Tryz.lays285:Go.Proofs.Lays.n285 prog Tryz.lays285_ren:={
 mixed:=qE
 f285:=xa func329
 t0:=underlying0
 a0:=Tryz.isAgg0
 z0:=Tryz.sizeOf0
 v0:=Tryz.zeroValue0
 t3:=underlying3
 a3:=Tryz.isAgg3
 z3:=Tryz.sizeOf3
 v3:=Tryz.zeroValue3
 t4:=underlying4
 a4:=Tryz.isAgg4
 z4:=Tryz.sizeOf4
 v4:=Tryz.zeroValue4
 t5:=underlying5
 a5:=Tryz.isAgg5
 z5:=Tryz.sizeOf5
 v5:=Tryz.zeroValue5
 t9:=underlying9
 a9:=Tryz.isAgg9
 z9:=Tryz.sizeOf9
 v9:=Tryz.zeroValue9
 t37:=underlying123
 a37:=Tryz.isAgg123
 z37:=Tryz.sizeOf123
 v37:=Tryz.zeroValue123
 t51:=underlying129
 a51:=Tryz.isAgg129
 z51:=Tryz.sizeOf129
 v51:=Tryz.zeroValue129
 t53:=underlying235
 a53:=Tryz.isAgg235
 z53:=Tryz.sizeOf235
 v53:=Tryz.zeroValue235 }
open Go.RowKit Go.Sort Go.Lib in
theorem Tryz.internal_strconv_formatBase10 (blk off cap:Nat) (u:Nat) (d:Array UInt8) (w:World) (hH:Holds (fun (b:UInt8)=>Value.int .u8 (b.toNat:Int)) w blk off d) (hu:u<10 ^ d.size) (FA:u<18446744073709551616) (fb:d.size<4611686018427387904) :
  Calls prog 329 #[.slice (some ⟨blk,off,none⟩) d.size cap,.int .u64 u] w fun e w' =>
   e=.returned (.tuple #[])∧∃(n v':Nat) (dk:Array UInt8),w'=(putRow (fun (b:UInt8)=>Value.int .u8 (b.toNat:Int)) w blk off dk).drewN n∧FmtInv d.size u 0 v' dk:=Any.internal_strconv_formatBase10 Tryz.lays285 blk off cap u d w hH hu FA fb
def Tryz.laysM171_ren:Go.Shelf.Ren:=⟨fun|171=>232|243=>266|246=>303|283=>327|284=>328|285=>329|286=>330|129=>302|317=>349|318=>350|319=>351|320=>352|337=>361|338=>362|n=>n,fun|3=>3|9=>9|2=>2|4=>4|171=>353|0=>0|53=>235|37=>123|5=>5|173=>355|212=>373|51=>129|20=>20|213=>374|46=>291|232=>390|233=>391|n=>n,fun|17=>1|18=>6|19=>7|n=>n⟩
theorem Tryz.laysM171:Go.Proofs.LaysM.n171 prog Tryz.laysM171_ren:={
 mixed:=qE
 f129:=xa func302
 f171:=xa func232
 f243:=xa func266
 f246:=xa func303
 f283:=xa func327
 f284:=xa func328
 f285:=xa func329
 f286:=xa func330
 f317:=xa func349
 f318:=xa func350
 f319:=xa func351
 f320:=xa func352
 f337:=xa func361
 f338:=xa func362
 t0:=underlying0
 a0:=Tryz.isAgg0
 z0:=Tryz.sizeOf0
 v0:=Tryz.zeroValue0
 t2:=underlying2
 a2:=Tryz.isAgg2
 z2:=Tryz.sizeOf2
 v2:=Tryz.zeroValue2
 t3:=underlying3
 a3:=Tryz.isAgg3
 z3:=Tryz.sizeOf3
 v3:=Tryz.zeroValue3
 t4:=underlying4
 a4:=Tryz.isAgg4
 z4:=Tryz.sizeOf4
 v4:=Tryz.zeroValue4
 t5:=underlying5
 a5:=Tryz.isAgg5
 z5:=Tryz.sizeOf5
 v5:=Tryz.zeroValue5
 t9:=underlying9
 a9:=Tryz.isAgg9
 z9:=Tryz.sizeOf9
 v9:=Tryz.zeroValue9
 t20:=underlying20
 a20:=Tryz.isAgg20
 z20:=Tryz.sizeOf20
 v20:=Tryz.zeroValue20
 t37:=underlying123
 a37:=Tryz.isAgg123
 z37:=Tryz.sizeOf123
 v37:=Tryz.zeroValue123
 t46:=underlying291
 a46:=Tryz.isAgg291
 z46:=Tryz.sizeOf291
 v46:=Tryz.zeroValue291
 t51:=underlying129
 a51:=Tryz.isAgg129
 z51:=Tryz.sizeOf129
 v51:=Tryz.zeroValue129
 t53:=underlying235
 a53:=Tryz.isAgg235
 z53:=Tryz.sizeOf235
 v53:=Tryz.zeroValue235
 t171:=underlying353
 a171:=Tryz.isAgg353
 z171:=Tryz.sizeOf353
 v171:=Tryz.zeroValue353
 t173:=underlying355
 a173:=Tryz.isAgg355
 z173:=Tryz.sizeOf355
 v173:=Tryz.zeroValue355
 t212:=underlying373
 a212:=Tryz.isAgg373
 z212:=Tryz.sizeOf373
 v212:=Tryz.zeroValue373
 t213:=underlying374
 a213:=Tryz.isAgg374
 z213:=Tryz.sizeOf374
 t232:=underlying390
 a232:=Tryz.isAgg390
 z232:=Tryz.sizeOf390
 v232:=Tryz.zeroValue390
 t233:=underlying391
 a233:=Tryz.isAgg391
 z233:=Tryz.sizeOf391
 v233:=Tryz.zeroValue391
 g17:=qE
 g18:=qE
 g19:=qE
 i0:=qE
 i2:=qE
 i3:=qE
 i4:=qE
 i5:=qE
 i9:=qE
 i20:=qE
 i37:=qE
 i46:=qE
 i51:=qE
 i53:=qE
 i171:=qE
 i173:=qE
 i212:=qE
 i232:=qE
 i233:=qE
 m17:=qE
 m18:=qE
 m19:=by kernel_rfl }
open Go.RowKit Go.Sort Go.Lib in
theorem Tryz.strconv_Itoa (n:Int) (h0:-9223372036854775808≤n) (h1:n≤9223372036854775807) (w:World) (EZ:Lib.TabIs prog w "internal/strconv.uint64pow10" .u64 Lib.pow10Tab) :
  Calls prog 232 #[M n] w fun e w'=>e=.returned (.string ⟨(Lib.itoa n).toArray⟩)∧∃k os,w'=grow (w.drewN k) os:=Any.strconv_Itoa Tryz.laysM171 n h0 h1 w EZ
def Tryz.lays105_ren:Go.Shelf.Ren:=⟨fun|105=>281|212=>315|99=>316|165=>210|166=>211|170=>282|169=>212|263=>343|264=>344|206=>345|240=>245|241=>246|276=>283|277=>284|n=>n,fun|9=>9|3=>3|4=>4|20=>20|0=>0|46=>291|109=>340|5=>5|72=>259|76=>263|51=>129|146=>364|53=>235|148=>366|70=>257|37=>123|75=>262|127=>283|164=>311|80=>265|n=>n,fun|n=>n⟩
theorem Tryz.lays105:Go.Proofs.Lays.n105 prog Tryz.lays105_ren:={
 mixed:=qE
 f99:=xa func316
 f105:=xa func281
 f165:=xa func210
 f166:=xa func211
 f169:=xa func212
 f170:=xa func282
 f206:=xa func345
 f212:=xa func315
 f240:=xa func245
 f241:=xa func246
 f263:=xa func343
 f264:=xa func344
 f276:=xa func283
 f277:=xa func284
 t0:=underlying0
 a0:=Tryz.isAgg0
 z0:=Tryz.sizeOf0
 v0:=Tryz.zeroValue0
 t3:=underlying3
 a3:=Tryz.isAgg3
 z3:=Tryz.sizeOf3
 v3:=Tryz.zeroValue3
 t4:=underlying4
 a4:=Tryz.isAgg4
 z4:=Tryz.sizeOf4
 v4:=Tryz.zeroValue4
 t5:=underlying5
 a5:=Tryz.isAgg5
 z5:=Tryz.sizeOf5
 v5:=Tryz.zeroValue5
 t9:=underlying9
 a9:=Tryz.isAgg9
 z9:=Tryz.sizeOf9
 v9:=Tryz.zeroValue9
 t20:=underlying20
 a20:=Tryz.isAgg20
 z20:=Tryz.sizeOf20
 v20:=Tryz.zeroValue20
 t37:=underlying123
 a37:=Tryz.isAgg123
 z37:=Tryz.sizeOf123
 v37:=Tryz.zeroValue123
 t46:=underlying291
 a46:=Tryz.isAgg291
 z46:=Tryz.sizeOf291
 v46:=Tryz.zeroValue291
 t51:=underlying129
 a51:=Tryz.isAgg129
 z51:=Tryz.sizeOf129
 v51:=Tryz.zeroValue129
 t53:=underlying235
 a53:=Tryz.isAgg235
 z53:=Tryz.sizeOf235
 v53:=Tryz.zeroValue235
 t70:=underlying257
 a70:=Tryz.isAgg257
 z70:=Tryz.sizeOf257
 v70:=Tryz.zeroValue257
 t72:=underlying259
 a72:=Tryz.isAgg259
 z72:=Tryz.sizeOf259
 v72:=Tryz.zeroValue259
 t75:=underlying262
 a75:=Tryz.isAgg262
 z75:=Tryz.sizeOf262
 v75:=Tryz.zeroValue262
 t76:=underlying263
 a76:=Tryz.isAgg263
 z76:=Tryz.sizeOf263
 v76:=Tryz.zeroValue263
 t109:=underlying340
 a109:=Tryz.isAgg340
 z109:=Tryz.sizeOf340
 v109:=Tryz.zeroValue340
 t127:=underlying283
 a127:=Tryz.isAgg283
 z127:=Tryz.sizeOf283
 v127:=Tryz.zeroValue283
 t146:=underlying364
 a146:=Tryz.isAgg364
 z146:=Tryz.sizeOf364
 v146:=Tryz.zeroValue364
 t148:=underlying366
 a148:=Tryz.isAgg366
 z148:=Tryz.sizeOf366
 v148:=Tryz.zeroValue366
 t164:=underlying311
 a164:=Tryz.isAgg311
 z164:=Tryz.sizeOf311
 v164:=Tryz.zeroValue311 }
theorem Tryz.Builder_Extra_105:Builder.Extra prog Tryz.lays105_ren:={
 sizeBuilder:=qE
 liesBuilder:=qE
 t5:=underlying5
 a5:=Tryz.isAgg5
 z5:=Tryz.sizeOf5
 v5:=Tryz.zeroValue5
 infoByte:=qE
 cellsByte:=qE
 sizeByte:=qE
 neB5:=by decide }
open Go.RowKit Go.Lib in
theorem Tryz.strings_Repeat (s:ByteArray) (c:Nat) (w:World) (hc:c≤9223372036854775807) (hlen:s.size*c≤140737488355328) :
  Calls prog 281 #[.string s,M c] w fun e w'=>e=.returned (.string ⟨(Lib.repeatL s.data.toList c).toArray⟩)∧xp w w':=Any.strings_Repeat Tryz.lays105 Tryz.Builder_Extra_105 s c w hc hlen
end Go.Proofs
end
section
namespace Go.Proofs.YtfijkfdfbnfmmaaGreatDoor
open Proofs.Tryz
open Go.RowKit Go.Shelf Go.Lib Go.Sort
variable (w:World) (B b:Nat) (bs:List Value) (u:Nat)
def K6:Ren :=
  { f:=fun x=>match x with
      | 156=>156|165=>210|166=>211|167=>279|169=>212|170=>282|240=>245|241=>246|276=>283|277=>284
      | n=>n
    t:=fun x=>match x with
      | 31=>131|9=>9|3=>3|4=>4|0=>0|20=>20|72=>259|76=>263|70=>257|37=>123|75=>262|127=>283|164=>311|5=>5|80=>265
      | n=>n
    g:=fun n=>n }
theorem uX:Lays.n166 prog K6 :=
  { mixed:=Eq.refl true
    f166:=Eq.trans func211 (congrArg some (Eq.refl (Body.n166 K6)))
    f240:=Eq.trans func245 (congrArg some (Eq.refl (Body.n240 K6)))
    f276:=Eq.trans func283 (congrArg some (Eq.refl (Body.n276 K6)))
    t0:=underlying0,a0:=Tryz.isAgg0,z0:=Tryz.sizeOf0,v0:=Tryz.zeroValue0,t3:=underlying3,a3:=Tryz.isAgg3,z3:=Tryz.sizeOf3,v3:=Tryz.zeroValue3
    t4:=underlying4,a4:=Tryz.isAgg4,z4:=Tryz.sizeOf4,v4:=Tryz.zeroValue4,t9:=underlying9,a9:=Tryz.isAgg9,z9:=Tryz.sizeOf9,v9:=Tryz.zeroValue9
    t20:=underlying20,a20:=Tryz.isAgg20,z20:=Tryz.sizeOf20,v20:=Tryz.zeroValue20
    t37:=underlying123,a37:=Tryz.isAgg123,z37:=Tryz.sizeOf123,v37:=Tryz.zeroValue123
    t70:=underlying257,a70:=Tryz.isAgg257,z70:=Tryz.sizeOf257,v70:=Tryz.zeroValue257
    t72:=underlying259,a72:=Tryz.isAgg259,z72:=Tryz.sizeOf259,v72:=Tryz.zeroValue259
    t75:=underlying262,a75:=Tryz.isAgg262,z75:=Tryz.sizeOf262,v75:=Tryz.zeroValue262
    t164:=underlying311,a164:=Tryz.isAgg311,z164:=Tryz.sizeOf311,v164:=Tryz.zeroValue311 }
theorem tS:Lays.n167 prog K6 :=
  { mixed:=Eq.refl true
    f167:=Eq.trans func279 (congrArg some (Eq.refl (Body.n167 K6)))
    f240:=Eq.trans func245 (congrArg some (Eq.refl (Body.n240 K6)))
    f276:=Eq.trans func283 (congrArg some (Eq.refl (Body.n276 K6)))
    t0:=underlying0,a0:=Tryz.isAgg0,z0:=Tryz.sizeOf0,v0:=Tryz.zeroValue0
    t4:=underlying4,a4:=Tryz.isAgg4,z4:=Tryz.sizeOf4,v4:=Tryz.zeroValue4
    t5:=underlying5,a5:=Tryz.isAgg5,z5:=Tryz.sizeOf5,v5:=Tryz.zeroValue5,t9:=underlying9,a9:=Tryz.isAgg9,z9:=Tryz.sizeOf9,v9:=Tryz.zeroValue9
    t20:=underlying20,a20:=Tryz.isAgg20,z20:=Tryz.sizeOf20,v20:=Tryz.zeroValue20
    t37:=underlying123,a37:=Tryz.isAgg123,z37:=Tryz.sizeOf123,v37:=Tryz.zeroValue123
    t70:=underlying257,a70:=Tryz.isAgg257,z70:=Tryz.sizeOf257,v70:=Tryz.zeroValue257
    t72:=underlying259,a72:=Tryz.isAgg259,z72:=Tryz.sizeOf259,v72:=Tryz.zeroValue259
    t75:=underlying262,a75:=Tryz.isAgg262,z75:=Tryz.sizeOf262,v75:=Tryz.zeroValue262
    t164:=underlying311,a164:=Tryz.isAgg311,z164:=Tryz.sizeOf311,v164:=Tryz.zeroValue311 }
theorem aU:Builder.Extra prog K6 where
 sizeBuilder:=qE
 liesBuilder:=qE
 t5:=underlying5
 a5:=Tryz.isAgg5
 z5:=Tryz.sizeOf5
 v5:=Tryz.zeroValue5
 infoByte:=qE
 cellsByte:=qE
 sizeByte:=qE
 neB5:=qI
theorem Nz (s:ByteArray) (w:World) (h:Lib.IsBuilder 259 5 B b bs w) (hlen:bs.length+s.size≤140737488355328) (pd:B≤w.heap.size) :
  Θ 211 #[.pointer (E b),.string s] w fun e w'=>e=.returned (.tuple #[M s.size,.nilIface])∧(Lib.BuilderAt 259 5 B b (.pointer (E b)) (bs++Lib.strCells s) w'∧Below B w w') :=
 Any.Builder_WriteString uX aU B b bs s w h hlen pd
theorem Zi (c:Int) (w:World) (h:Lib.IsBuilder 259 5 B b bs w) (hlen:bs.length+1≤140737488355328) (pd:B≤w.heap.size) :
  Θ 279 #[.pointer (E b),.int .u8 c] w fun e w'=>e=.returned .nilIface∧(Lib.BuilderAt 259 5 B b (.pointer (E b)) (bs++[.int .u8 c]) w'∧Below B w w') :=
 Any.Builder_WriteByte tS aU B b bs c w h hlen pd
def Tab (w:World):Prop:=Lib.TabIs prog w "internal/strconv.uint64pow10" .u64 Lib.pow10Tab
theorem Tab.keep {w w':World} (h:Tab w) (hb:xp w w'):Tab w':=by
 unfold Tab TabIs World.var? at *
 cases hg:prog.globalNamed "internal/strconv.uint64pow10" with
 | none=>simp [hg] at h
 | some g =>
  simp only [hg,Option.bind_some] at h ⊢;have bj:g<w.heap.size:=qFf;rw [hb.block g bj];exact h
theorem Xo (T:TypeId) (nd:Nat) (hs:nd≤24):Holds (fun (b:UInt8)=>Value.int .u8 (b.toNat:Int)) (w.alloc (.cells Lib.zeros24 T)) w 0 (Array.replicate nd (0:UInt8)):=fun j hj=>by
 have hj':j<nd:=by simpa using hj
 refine ⟨?_,World.frozen?_alloc_new _ _ _ _⟩;rw [World.cell?_alloc_new,Lib.zeros24_at _ qB,getElem!_pos _ j hj];simp
theorem nN (o:Obj) (dk:Array UInt8) (k:Nat):∃os,(putRow (fun (b:UInt8)=>Value.int .u8 (b.toNat:Int)) (w.alloc o) w 0 dk).drewN k=grow (w.drewN k) os:=by
 rw [alloc_eq_grow];obtain ⟨os',_,e⟩:=putRow_grow_new (fun (b:UInt8)=>Value.int .u8 (b.toNat:Int)) w #[o] w 0 dk (Ad _);exact ⟨os',by rw [e];rfl⟩
theorem Vm (FA:u<18446744073709551616) (w:World) (EZ:Tab w) :
  Θ 314 #[.int .u64 u,M 10] w fun e w'=>e=.returned (.string ⟨(Lib.decDigits u).toArray⟩)∧∃k os,w'=grow (w.drewN k) os:=by
 by_cases hs:u<100
 ·go_enter func314,ntmps314;go_wp2_with (go_at_call 327;refine (Tryz.internal_strconv_small u hs _).mono ?_;rintro e w' ⟨rfl,rfl⟩);go_ret;exact ⟨rfl,0,#[],by simp [World.drewN_zero]⟩
 ·have LX:1≤u:=qB;have axk:Lib.nDigits u≤20:=by have:=Lib.numDigits_eq u LX FA;split at this<;>omega
  have py:prog.arrayLen 353=24:=by simp [Program.arrayLen,underlying353]
  have a7h:∀W,(Instr.sliceAt 353 (.pointer (E w)) none (some (M (Lib.nDigits u:Int))) none).run prog W=.ok (.slice (E w) (Lib.nDigits u) 24) W:=by
   intro W;rw [run_sliceAt_array_h W 353 (J w 0) (by simp [Program.arrayLen,Program.elem,underlying353]) .i64 (Lib.nDigits u:Int) qB (by rw [py];omega)];go_simp
  have hH0:=Xo w 353 (Lib.nDigits u) qB;have ahn:=Tryz.internal_strconv_formatBase10 w 0 24 u (Array.replicate (Lib.nDigits u) 0) (w.alloc (.cells Lib.zeros24 353)) hH0 (by rw [Array.size_replicate];exact Lib.lt_pow_nDigits u) FA (by rw [Array.size_replicate];omega);rw [Array.size_replicate] at ahn;have HH0:=Ae hH0;clear hH0 py;go_enter func314,ntmps314;go_wp2_with (first
   | (go_at_call 328;refine (Tryz.internal_strconv_numDigits u LX FA _ (Lib.tabIs_alloc EZ _)).mono ?_;rintro e w' ⟨rfl,rfl⟩))
  refine ahn.mono ?_;rintro e w' ⟨rfl,k,v',dk,rfl,hF⟩;have hcv:(convert 123 9 (.slice (E w) (Lib.nDigits u) 24)).run prog ((putRow (fun (b:UInt8)=>Value.int .u8 (b.toNat:Int)) (w.alloc (.cells Lib.zeros24 353)) w 0 dk).drewN k)=.ok (.string ⟨(Lib.decDigits u).toArray⟩) ((putRow (fun (b:UInt8)=>Value.int .u8 (b.toNat:Int)) (w.alloc (.cells Lib.zeros24 353)) w 0 dk).drewN k):=by
   have h:=run_convert_bytes_back (P:=prog) ((putRow (fun (b:UInt8)=>Value.int .u8 (b.toNat:Int)) (w.alloc (.cells Lib.zeros24 353)) w 0 dk).drewN k) 123 9 5 (J w 0) 24 (Lib.decDigits u) underlying123 underlying5 underlying9 (fun j hj=>by
    rw [Lib.row_is_numeral hF j hj,Lib.add_plain,World.cell?_drewN];exact cell?_putRow (fun (b:UInt8)=>Value.int .u8 (b.toNat:Int)) _ w 0 _ dk HH0.out (by rw [hF.size,Array.size_replicate]) j (by rw [hF.size];rw [Lib.decDigits_length] at hj;exact hj))
   rw [Lib.decDigits_length] at h;exact h
  go_wp2;go_ret;obtain ⟨os,eo⟩:=nN w (.cells Lib.zeros24 353) dk k;exact ⟨rfl,k,os,eo⟩
theorem Ud {B:Nat} (k:Nat) (os:Array Obj) (h:B≤w.heap.size):Below B w (grow (w.drewN k) os) :=
 ⟨rfl,rfl,rfl,by simp [grow],fun i hi=>by
  show (w.heap++os)[i]? = w.heap[i]?;rw [Array.getElem?_append_left qB]⟩
theorem Pc (FA:u<18446744073709551616) (w:World) (EZ:Tab w) :
  Θ 280 #[.int .u64 u,M 10] w fun e w'=>e=.returned (.string ⟨(Lib.decDigits u).toArray⟩)∧xp w w':=by
 go_enter func280,ntmps280;go_wp2_with (go_at_call 314;refine (Vm u FA _ EZ).mono ?_;rintro e w' ⟨rfl,k,os,rfl⟩);go_ret;exact ⟨rfl,Ud _ _ _ (Ad _)⟩
end Go.Proofs.YtfijkfdfbnfmmaaGreatDoor
end
section
namespace Go.Proofs.YtfijkfdfbnfmmaaGreatDoor
open Go.RowKit Proofs.Tryz
variable (l m:List UInt8) {z:Int} {i x:Nat}
theorem Tn {B b:Nat} {bs:List Value} {w w':World} (h:Lib.IsBuilder 259 5 B b bs w) (hb:xp w w'):Lib.IsBuilder 259 5 B b bs w':=by
 have key:∀p,Lib.BuilderAt 259 5 B b p bs w→Lib.BuilderAt 259 5 B b p bs w':=by
  rintro p ⟨h1,v,h2,h3,h4⟩;refine ⟨h1,v,?_,Bf h3 hb,h4⟩;have bj:b<w.heap.size:=by
   rcases Nat.lt_or_ge b w with h'|h'
   ·exact h'
   ·rw [Array.getElem?_eq_none h'] at h2;cases h2
  rw [hb.block b bj];exact h2
 exact h.imp (key _) (key _)
def Gs (w:World) (l:List UInt8) (e:Ending) (w':World):Prop:=e=.returned (.string ⟨l.toArray⟩)∧xp w w'
def Fn (z:Int) (j:Nat):List UInt8:=(if z<0 then [45] else [])++tx ((dg z.natAbs).drop j)
theorem dE (hz:z≠0):Fn z 0=Lib.itoa z:=by
 rw [Fn,List.drop_zero,Abk _ qB,Lib.itoa]
 split
 ·rfl
 ·rw [show z.toNat=z.natAbs from qB];rfl
theorem dB:Fn 0 0=[]:=by
 rw [Fn,if_neg qB,show (0:Int).natAbs=0 from rfl,Dv];rfl
theorem lC:Lib.itoa 0=[48]:=by
 rw [Lib.itoa,if_neg qB,show (0:Int).toNat=0 from rfl,Lib.decDigits_one qB];rfl
theorem Yu (u:Nat):Lib.decDigits u≠[]:=by
 rw [Lib.decDigits]
 split<;>simp
theorem vR (z:Int):Lib.itoa z≠[]:=by
 rw [Lib.itoa]
 split
 ·simp
 ·exact Yu _
theorem N5:Lib.byteCells l++Lib.strCells ⟨m.toArray⟩=Lib.byteCells (l++m):=by
 show Lib.byteCells l++Lib.byteCells m=_;simp [Lib.byteCells]
theorem V2 (hd:(dg z.natAbs).drop i=x::(dg z.natAbs).drop (i+1)) (h:(dg z.natAbs).drop (i+1)=[]):Fn z i=Fn z (i+1)++Lib.decDigits x:=by
 rw [Fn,Fn,hd,h,xX,mW,List.append_nil]
theorem Th (hd:(dg z.natAbs).drop i=x::(dg z.natAbs).drop (i+1)) (hx:x<1000000000) (h:(dg z.natAbs).drop (i+1)≠[]):Fn z i=Fn z (i+1)++(Lib.repeatL [48] (9-(Lib.decDigits x).length)++Lib.decDigits x):=by
 rw [Fn,Fn,hd,vA x _ hx h (Cz (dU (Cb _) _) h),List.append_assoc]
theorem Mx:(⟨l.toArray⟩:ByteArray).size=l.length:=rfl
theorem H7:((⟨l.toArray⟩:ByteArray)++(⟨m.toArray⟩:ByteArray))=⟨(l++m).toArray⟩:=by
 apply ByteArray.ext;simp
theorem Jh:(Lib.byteCells l).length=l.length:=by simp [Lib.byteCells]
theorem mJ (w:World) (g:Bool) (a:Γ) (n c:Nat) (z:Int) (h:Bh w g a n c z) (hT:Tab w) (hn:n≤1000000) :
  Θ 244 #[.agg #[.bool g,.slice a n c]] w (Gs w (Lib.itoa z)):=by
 have HB:=Ac w w;go_enter func244,ntmps244;go_wp2_with fail;refine (I1 _ g a n c z (h.keep qD)).mono ?_;rintro e w1 ⟨rfl,hb⟩;obtain ⟨hc,hf⟩:=Bg hb;have hz:=hb.size;(try simp only [Aj,Ak] at hz);replace HB:=zP w hb;obtain ⟨aw,bh⟩:=xd hc w g a n c;have dy:Y w1 w 0:=(hf _ _ qA).trans qJ;have dz:Y w1 w 1:=(hf _ _ qA).trans qJ;clear hc hf hb;have hk:w.heap.size<w1:=hz;go_upto_region 3 with fail
 have hbd:=Lib.fresh_isBuilder 259 5 ((w1.setCell (J w 0) (.bool g)).setCell (J w 1) (.slice a n c));simp only [Am] at hbd;have fg:Below w w (((w1.setCell (J w 0) (.bool g)).setCell (J w 1) (.slice a n c)).alloc (.cells #[.pointer none,.slice none 0 0] 259)):=qD;have e0:Z (((w1.setCell (J w 0) (.bool g)).setCell (J w 1) (.slice a n c)).alloc (.cells #[.pointer none,.slice none 0 0] 259)) w 0 (.bool g):=qO;have e1:Z (((w1.setCell (J w 0) (.bool g)).setCell (J w 1) (.slice a n c)).alloc (.cells #[.pointer none,.slice none 0 0] 259)) w 1 (.slice a n c):=qO;have fb:(((w1.setCell (J w 0) (.bool g)).setCell (J w 1) (.slice a n c)).alloc (.cells #[.pointer none,.slice none 0 0] 259)).heap.size=w1.heap.size+1:=qH;generalize (((w1.setCell (J w 0) (.bool g)).setCell (J w 1) (.slice a n c)).alloc (.cells #[.pointer none,.slice none 0 0] 259))=w2 at *;generalize w1.heap.size=P at *;clear aw bh dy dz HB hz;have hlen:=h.rd.len;have DQ:(dg z.natAbs).drop n=[]:=by rw [List.drop_eq_nil_iff];omega
 go_upto_if 9 with (fail)
 go_cut [] (fun wc=>Lib.IsBuilder 259 5 P P (Lib.byteCells (Fn z n)) wc∧Below P w2 wc)
 case first =>
  have HDN:=Ae DQ;have hg:=Ae h.neg;clear DQ;cases g
  ·go_wp2_with fail;go_meet
   case rel =>
    refine ⟨?_,Ac _ _⟩;have h1:=hg.out;rw [Fn,HDN.out,if_neg (by simpa using h1)];exact hbd
  ·go_wp2_with fail;refine (Zi P P [] 45 _ hbd qH qB).mono ?_;rintro e w3 ⟨rfl,ea,OR⟩;go_wp2_with fail;go_meet
   case rel =>
    refine ⟨.inr ?_,OR⟩;have h1:=hg.out;rw [Fn,HDN.out,if_pos (by simpa using h1)];exact ea
 case rest =>
  obtain ⟨FM,hBc⟩:=hcut;clear hbd;have LV:Below w w wc:=fg.trans (hBc.mono qB);have hsc:=hBc.size;have q0:Z wc w 0 (.bool g):=(hBc.cell (p:=⟨w,0,none⟩) hk).trans e0;have q1:Z wc w 1 (.slice a n c):=(hBc.cell (p:=⟨w,1,none⟩) hk).trans e1;clear e0 e1 hBc fg;have HDN:=Ae DQ;clear DQ;go_wp2_with fail;go_loopw [4] (fun v4 wr=>∃j:Nat,j≤n∧v4=M ((j:Int)-1)∧Lib.IsBuilder 259 5 P P (Lib.byteCells (Fn z j)) wr∧(Fn z j).length≤9*(n-j)+1∧Below P wc wr)
   (fun v4 _=>(intOf v4+1).toNat)
  case atStart=>exact ⟨n,Ad _,by first|rfl|(rw [IntWalk.i64_in _ qB]),FM,by rw [Fn,HDN.out,mW];split<;>simp,Ac _ _⟩
  case round =>
   obtain ⟨j,hj,rfl,uj,rq,jr⟩:=hrel;have dm:Below w w wr:=LV.trans (jr.mono qB);have XS:=jr.size;have r0:Z wr w 0 (.bool g):=(jr.cell (p:=⟨w,0,none⟩) hk).trans q0;have r1:Z wr w 1 (.slice a n c):=(jr.cell (p:=⟨w,1,none⟩) hk).trans q1
   cases j with
   | zero =>
    have hm:((0:Nat):Int)-1=-1:=qB;rw [hm];clear r0 r1 q0 q1;by_cases dw:z=0
    ·have BG:Fn z 0=[]:=by rw [dw];exact dB
     have hr:Lib.itoa z=[48]:=by rw [dw];exact lC
     rw [BG] at uj;have hr:=Ae hr;go_wp2_with fail;refine (Tryz.Builder_Len P P _ wr uj).mono ?_;rintro e w4 ⟨rfl,rfl⟩;rw [show (Lib.byteCells []).length=0 from rfl];go_wp2_with fail;go_ret;exact ⟨by rw [hr.out];rfl,dm⟩
    ·rw [dE dw] at uj;have sw:(Lib.byteCells (Lib.itoa z)).length=(Lib.itoa z).length:=Jh _;have BF:(((Lib.itoa z).length:Int)==0)=false:=by
      have:=List.length_pos_iff.2 (vR z);rw [beq_eq_false_iff_ne];omega
     go_wp2_with fail;refine (Tryz.Builder_Len P P _ wr uj).mono ?_;rintro e w4 ⟨rfl,rfl⟩;rw [sw];go_wp2_with fail;refine (Tryz.Builder_String_any P P _ w4 uj qB).mono ?_;rintro e w5 ⟨rfl,dx⟩;go_wp2_with fail;go_ret;exact ⟨rfl,dm.trans (dx.mono qB)⟩
   | succ i =>
    have hm:((i+1:Nat):Int)-1=(i:Int):=qB;rw [hm];obtain ⟨b,o,rfl,TX⟩:=h.rd.at' (i:=i) qB;have arz:=Bb dm TX;obtain ⟨x,hx⟩:∃x:Nat,lim (dg z.natAbs) i=(x:Int):=⟨(lim (dg z.natAbs) i).toNat,by have:=h.rd.small i;omega⟩;rw [hx] at arz;have hdi:=oP (d:=dg z.natAbs) (j:=i) qB;rw [hx,Int.toNat_natCast] at hdi;have AI:x<1000000000:=D0 z.natAbs x (by rw [←List.take_append_drop i (dg z.natAbs),hdi];simp);have hxw:IntKind.u64.wrap (x:Int)=(x:Int):=IntWalk.u64_in _ qB;have HDI:=Ae hdi;have CV:=uQ AI;clear hx TX hdi q0 q1;by_cases KI:i+1=n
    ·have ahp:decide ((i:Int)<(n:Int)-1)=false:=qL;go_wp2_with fail;refine (Pc x qB wr (hT.keep dm)).mono ?_;rintro e w4 ⟨rfl,ec⟩;have hz4:=ec.size;replace uj:=Tn uj ec;have r0':=Bb ec r0;have r1':=Bb ec r1;go_wp2_with fail;refine (Nz P P _ ⟨(Lib.decDigits x).toArray⟩ w4 uj (by rw [Jh];rw [Mx];omega) qB).mono ?_;rintro e w6 ⟨rfl,ee,NA⟩;have q6:Lib.IsBuilder 259 5 P P (Lib.byteCells (Fn z i)) w6:=by
      rw [V2 HDI.out (by rw [KI];exact HDN.out),←N5];exact .inr ee
     have q7:(Fn z i).length≤9*(n-i)+1:=by rw [V2 HDI.out (by rw [KI];exact HDN.out),A8];omega
     have q8:Below P wc w6:=(jr.trans (ec.mono qB)).trans NA;clear uj ee NA ec;exact qDa
    ·have ahp:decide ((i:Int)<(n:Int)-1)=true:=qL;go_wp2_with fail;refine (Pc x qB wr (hT.keep dm)).mono ?_;rintro e w4 ⟨rfl,ec⟩;have hz4:=ec.size;replace uj:=Tn uj ec;have r0':=Bb ec r0;have r1':=Bb ec r1;go_wp2_with fail;have CP:(9:Int)-((Lib.decDigits x).length:Int)=((9-(Lib.decDigits x).length:Nat):Int):=qB;rw [CP];refine (Tryz.strings_Repeat ⟨#[48]⟩ (9-(Lib.decDigits x).length) w4 qB (by show 1*_≤_;omega)).mono ?_;rintro e w5 ⟨rfl,dx⟩;replace uj:=Tn uj dx;have a7j:=Bb dx r0';have a7k:=Bb dx r1';have DD:=dx.size;have rp:(Lib.repeatL [48] (9-(Lib.decDigits x).length)).length≤9:=by rw [K4,List.length_replicate];omega
     have agw:(⟨(Lib.repeatL [48] (9-(Lib.decDigits x).length)).toArray⟩:ByteArray).size+(⟨(Lib.decDigits x).toArray⟩:ByteArray).size≤9223372036854775807:=by rw [Mx,Mx];omega
     go_wp2_with fail;have RU:((⟨(Lib.repeatL [48] (9-(Lib.decDigits x).length)).toArray⟩:ByteArray)++(⟨(Lib.decDigits x).toArray⟩:ByteArray))=⟨(Lib.repeatL [48] (9-(Lib.decDigits x).length)++Lib.decDigits x).toArray⟩:=H7 _ _;rw [RU];refine (Nz P P _ ⟨(Lib.repeatL [48] (9-(Lib.decDigits x).length)++Lib.decDigits x).toArray⟩ w5 uj (by rw [Jh,Mx,A8];omega) qB).mono ?_;rintro e w6 ⟨rfl,ee,NA⟩;have di:(dg z.natAbs).drop (i+1)≠[]:=by rw [Ne,List.drop_eq_nil_iff];omega
     have q6:Lib.IsBuilder 259 5 P P (Lib.byteCells (Fn z i)) w6:=by
      rw [Th HDI.out AI di,←N5];exact .inr ee
     have q7:(Fn z i).length≤9*(n-i)+1:=by
      have h1:=congrArg List.length (Th HDI.out AI di);rw [A8,A8,K4,List.length_replicate] at h1;omega
     have q8:Below P wc w6:=((jr.trans (ec.mono qB)).trans (dx.mono qB)).trans NA;clear uj ee NA ec di RU;exact qDa
end Go.Proofs.YtfijkfdfbnfmmaaGreatDoor
end
