/- Contracts of the library at this dump, in plain words: Atoi, ParseUint, the sort, Grow. No condition. -/
import Derived.Test.YtfijkfdfbnfmmaaGreatDoorQF21
set_option linter.unusedSimpArgs false
set_option linter.unusedVariables false
set_option maxRecDepth 100000
set_option maxHeartbeats 4000000
section
namespace Go.Proofs
open YtfijkfdfbnfmmaaGreatDoor
open Go.Shelf
def Tryz.lays125_ren:Go.Shelf.Ren:=⟨fun|125=>258|128=>301|129=>302|n=>n,fun|46=>291|3=>3|51=>129|53=>235|4=>4|5=>5|9=>9|n=>n,fun|n=>n⟩
theorem Tryz.lays125:Go.Proofs.Lays.n125 prog Tryz.lays125_ren:={
 mixed:=qE
 f125:=xa func258
 f128:=xa func301
 f129:=xa func302
 t3:=underlying3
 a3:=Tryz.isAgg3
 z3:=Tryz.sizeOf3
 v3:=Tryz.zeroValue3
 t4:=underlying4
 a4:=Tryz.isAgg4
 z4:=Tryz.sizeOf4
 v4:=Tryz.zeroValue4
 t5:=underlying5
 a5:=Tryz.isAgg5
 z5:=Tryz.sizeOf5
 v5:=Tryz.zeroValue5
 t9:=underlying9
 a9:=Tryz.isAgg9
 z9:=Tryz.sizeOf9
 v9:=Tryz.zeroValue9
 t46:=underlying291
 a46:=Tryz.isAgg291
 z46:=Tryz.sizeOf291
 v46:=Tryz.zeroValue291
 t51:=underlying129
 a51:=Tryz.isAgg129
 z51:=Tryz.sizeOf129
 v51:=Tryz.zeroValue129
 t53:=underlying235
 a53:=Tryz.isAgg235
 z53:=Tryz.sizeOf235
 v53:=Tryz.zeroValue235 }
theorem Tryz.bits_Len (x:Int) (w:World) (h0:0≤x) (h1:x≤18446744073709551615) :
  Calls prog 258 #[.int .u64 x] w fun e w'=>e=.returned (M (Lib.bitLen x.toNat))∧w'=w:=Any.bits_Len Tryz.lays125 x w h0 h1
def Tryz.laysC172_ren:Go.Shelf.Ren:=⟨fun|172=>275|244=>309|245=>310|247=>333|279=>334|280=>335|281=>336|282=>337|287=>342|316=>356|171=>232|205=>357|321=>359|322=>360|243=>266|246=>303|283=>327|284=>328|285=>329|286=>330|129=>302|317=>349|318=>350|319=>351|320=>352|337=>361|338=>362|n=>n,fun|9=>9|3=>3|75=>262|76=>263|4=>4|5=>5|167=>358|37=>123|0=>0|85=>359|2=>2|168=>361|53=>235|175=>338|46=>291|210=>383|127=>283|145=>389|143=>387|21=>21|171=>353|173=>355|212=>373|51=>129|20=>20|213=>374|232=>390|233=>391|80=>265|n=>n,fun|15=>4|16=>5|17=>1|18=>6|19=>7|n=>n⟩
theorem Tryz.laysC172:Go.Proofs.LaysC.n172 prog Tryz.laysC172_ren:={
 mixed:=qE
 f129:=xa func302
 f171:=xa func232
 f172:=xa func275
 f205:=xa func357
 f243:=xa func266
 f244:=xa func309
 f245:=xa func310
 f246:=xa func303
 f247:=xa func333
 f279:=xa func334
 f280:=xa func335
 f281:=xa func336
 f282:=xa func337
 f283:=xa func327
 f284:=xa func328
 f285:=xa func329
 f286:=xa func330
 f287:=xa func342
 f316:=xa func356
 f317:=xa func349
 f318:=xa func350
 f319:=xa func351
 f320:=xa func352
 f321:=xa func359
 f322:=xa func360
 f337:=xa func361
 f338:=xa func362
 t0:=underlying0
 a0:=Tryz.isAgg0
 z0:=Tryz.sizeOf0
 v0:=Tryz.zeroValue0
 t2:=underlying2
 a2:=Tryz.isAgg2
 z2:=Tryz.sizeOf2
 v2:=Tryz.zeroValue2
 t3:=underlying3
 a3:=Tryz.isAgg3
 z3:=Tryz.sizeOf3
 v3:=Tryz.zeroValue3
 t4:=underlying4
 a4:=Tryz.isAgg4
 z4:=Tryz.sizeOf4
 v4:=Tryz.zeroValue4
 t5:=underlying5
 a5:=Tryz.isAgg5
 z5:=Tryz.sizeOf5
 v5:=Tryz.zeroValue5
 t9:=underlying9
 a9:=Tryz.isAgg9
 z9:=Tryz.sizeOf9
 v9:=Tryz.zeroValue9
 t20:=underlying20
 a20:=Tryz.isAgg20
 z20:=Tryz.sizeOf20
 v20:=Tryz.zeroValue20
 t21:=underlying21
 a21:=Tryz.isAgg21
 z21:=Tryz.sizeOf21
 v21:=Tryz.zeroValue21
 t37:=underlying123
 a37:=Tryz.isAgg123
 z37:=Tryz.sizeOf123
 v37:=Tryz.zeroValue123
 t46:=underlying291
 a46:=Tryz.isAgg291
 z46:=Tryz.sizeOf291
 v46:=Tryz.zeroValue291
 t51:=underlying129
 a51:=Tryz.isAgg129
 z51:=Tryz.sizeOf129
 v51:=Tryz.zeroValue129
 t53:=underlying235
 a53:=Tryz.isAgg235
 z53:=Tryz.sizeOf235
 v53:=Tryz.zeroValue235
 t75:=underlying262
 a75:=Tryz.isAgg262
 z75:=Tryz.sizeOf262
 v75:=Tryz.zeroValue262
 t76:=underlying263
 a76:=Tryz.isAgg263
 z76:=Tryz.sizeOf263
 v76:=Tryz.zeroValue263
 t85:=underlying359
 a85:=Tryz.isAgg359
 z85:=Tryz.sizeOf359
 v85:=Tryz.zeroValue359
 t127:=underlying283
 a127:=Tryz.isAgg283
 z127:=Tryz.sizeOf283
 v127:=Tryz.zeroValue283
 t143:=underlying387
 a143:=Tryz.isAgg387
 z143:=Tryz.sizeOf387
 v143:=Tryz.zeroValue387
 t145:=underlying389
 a145:=Tryz.isAgg389
 z145:=Tryz.sizeOf389
 v145:=Tryz.zeroValue389
 t167:=underlying358
 a167:=Tryz.isAgg358
 z167:=Tryz.sizeOf358
 v167:=Tryz.zeroValue358
 t168:=underlying361
 a168:=Tryz.isAgg361
 z168:=Tryz.sizeOf361
 v168:=Tryz.zeroValue361
 t171:=underlying353
 a171:=Tryz.isAgg353
 z171:=Tryz.sizeOf353
 v171:=Tryz.zeroValue353
 t173:=underlying355
 a173:=Tryz.isAgg355
 z173:=Tryz.sizeOf355
 v173:=Tryz.zeroValue355
 t175:=underlying338
 a175:=Tryz.isAgg338
 z175:=Tryz.sizeOf338
 v175:=Tryz.zeroValue338
 t210:=underlying383
 a210:=Tryz.isAgg383
 z210:=Tryz.sizeOf383
 v210:=Tryz.zeroValue383
 t212:=underlying373
 a212:=Tryz.isAgg373
 z212:=Tryz.sizeOf373
 v212:=Tryz.zeroValue373
 t213:=underlying374
 a213:=Tryz.isAgg374
 z213:=Tryz.sizeOf374
 t232:=underlying390
 a232:=Tryz.isAgg390
 z232:=Tryz.sizeOf390
 v232:=Tryz.zeroValue390
 t233:=underlying391
 a233:=Tryz.isAgg391
 z233:=Tryz.sizeOf391
 v233:=Tryz.zeroValue391
 g15:=qE
 g16:=qE
 g17:=qE
 g18:=qE
 g19:=qE
 t80:=underlying265
 a80:=Tryz.isAgg265
 z80:=Tryz.sizeOf265
 v80:=Tryz.zeroValue265
 i0:=qE
 i2:=qE
 i3:=qE
 i4:=qE
 i5:=qE
 i9:=qE
 i20:=qE
 i21:=qE
 i37:=qE
 i46:=qE
 i51:=qE
 i53:=qE
 i75:=qE
 i76:=qE
 i80:=qE
 i85:=qE
 i127:=qE
 i143:=qE
 i145:=qE
 i167:=qE
 i168:=qE
 i171:=qE
 i173:=qE
 i175:=qE
 i210:=qE
 i212:=qE
 i232:=qE
 i233:=qE
 m15:=qE
 m16:=qE
 m17:=qE
 m18:=qE
 m19:=qE
 c0:=qE
 c2:=qE
 c3:=qE
 c4:=qE
 c5:=qE
 c9:=qE
 c20:=qE
 c21:=qE
 c37:=qE
 c46:=qE
 c51:=qE
 c53:=qE
 c75:=qE
 c76:=qE
 c80:=qE
 c85:=qE
 c127:=qE
 c143:=qE
 c145:=qE
 c167:=qE
 c168:=qE
 c171:=qE
 c173:=qE
 c175:=qE
 c210:=qE
 c212:=qE
 c213:=qE
 c232:=qE
 c233:=by kernel_rfl }
open Go.RowKit in
theorem Tryz.strconv_Atoi_ok (s:ByteArray) (VX:s.size≤9223372036854775806) (v:Int) (h:Lib.atoiAll s.data.toList=.ok v) (w:World) :
  Calls prog 275 #[.string s] w fun e w'=>e=.returned (.tuple #[M v,.nilIface])∧(w'=w∨∃t,w'=Lib.bytesWorld w 5 t):=Any.strconv_Atoi_ok Tryz.laysC172 s VX v h w
open Go.RowKit in
theorem Tryz.strconv_Atoi_range (s:ByteArray) (qw:s.size≤281474976710656) (h:Lib.atoiAll s.data.toList=.range) (ev:Value) (w:World) (hv:Z w 5 0 ev) (hev:ev=.nilIface∨∃te pe,ev=.iface te pe) :
  Calls prog 275 #[.string s] w fun e w'=>∃N,e=.returned (.tuple #[M (Lib.atoiSat s.data.toList),.iface 361 (.pointer (E N))])∧w.heap.size≤N∧w'.heap[N]? = some (.cells #[.string ⟨#[65,116,111,105]⟩,.string s,ev] 383 (0,0))∧xp w w':=Any.strconv_Atoi_range Tryz.laysC172 s qw h ev w hv hev
def Tryz.laysPu14_ren:Go.Shelf.Ren:=⟨fun|14=>313|16=>342|17=>310|19=>359|20=>360|21=>334|22=>335|23=>336|24=>337|25=>356|27=>232|26=>357|28=>266|29=>303|30=>327|31=>328|32=>329|33=>330|35=>302|34=>349|36=>350|37=>351|38=>352|39=>361|40=>362|n=>n,fun|9=>9|3=>3|22=>235|24=>262|25=>338|4=>4|34=>358|5=>5|36=>291|37=>123|0=>0|39=>361|21=>21|44=>383|47=>283|50=>389|48=>387|2=>2|52=>353|55=>355|59=>373|60=>129|20=>20|61=>374|65=>390|66=>391|67=>265|n=>n,fun|0=>4|1=>5|2=>1|3=>6|4=>7|n=>n⟩
theorem Tryz.laysPu14:Go.Proofs.LaysPu.n14 prog Tryz.laysPu14_ren:={
 mixed:=qE
 f14:=xa func313
 f16:=xa func342
 f17:=xa func310
 f19:=xa func359
 f20:=xa func360
 f21:=xa func334
 f22:=xa func335
 f23:=xa func336
 f24:=xa func337
 f25:=xa func356
 f26:=xa func357
 f27:=xa func232
 f28:=xa func266
 f29:=xa func303
 f30:=xa func327
 f31:=xa func328
 f32:=xa func329
 f33:=xa func330
 f34:=xa func349
 f35:=xa func302
 f36:=xa func350
 f37:=xa func351
 f38:=xa func352
 f39:=xa func361
 f40:=xa func362
 t0:=underlying0
 a0:=Tryz.isAgg0
 z0:=Tryz.sizeOf0
 v0:=Tryz.zeroValue0
 i0:=qE
 t2:=underlying2
 a2:=Tryz.isAgg2
 z2:=Tryz.sizeOf2
 v2:=Tryz.zeroValue2
 i2:=qE
 t3:=underlying3
 a3:=Tryz.isAgg3
 z3:=Tryz.sizeOf3
 v3:=Tryz.zeroValue3
 i3:=qE
 t4:=underlying4
 a4:=Tryz.isAgg4
 z4:=Tryz.sizeOf4
 v4:=Tryz.zeroValue4
 i4:=qE
 t5:=underlying5
 a5:=Tryz.isAgg5
 z5:=Tryz.sizeOf5
 v5:=Tryz.zeroValue5
 i5:=qE
 t9:=underlying9
 a9:=Tryz.isAgg9
 z9:=Tryz.sizeOf9
 v9:=Tryz.zeroValue9
 i9:=qE
 t20:=underlying20
 a20:=Tryz.isAgg20
 z20:=Tryz.sizeOf20
 v20:=Tryz.zeroValue20
 i20:=qE
 t21:=underlying21
 a21:=Tryz.isAgg21
 z21:=Tryz.sizeOf21
 v21:=Tryz.zeroValue21
 i21:=qE
 t22:=underlying235
 a22:=Tryz.isAgg235
 z22:=Tryz.sizeOf235
 v22:=Tryz.zeroValue235
 i22:=qE
 t24:=underlying262
 a24:=Tryz.isAgg262
 z24:=Tryz.sizeOf262
 v24:=Tryz.zeroValue262
 i24:=qE
 t25:=underlying338
 a25:=Tryz.isAgg338
 z25:=Tryz.sizeOf338
 v25:=Tryz.zeroValue338
 i25:=qE
 t34:=underlying358
 a34:=Tryz.isAgg358
 z34:=Tryz.sizeOf358
 v34:=Tryz.zeroValue358
 i34:=qE
 c34:=qE
 t36:=underlying291
 a36:=Tryz.isAgg291
 z36:=Tryz.sizeOf291
 v36:=Tryz.zeroValue291
 i36:=qE
 t37:=underlying123
 a37:=Tryz.isAgg123
 z37:=Tryz.sizeOf123
 v37:=Tryz.zeroValue123
 i37:=qE
 t39:=underlying361
 a39:=Tryz.isAgg361
 z39:=Tryz.sizeOf361
 v39:=Tryz.zeroValue361
 i39:=qE
 t44:=underlying383
 a44:=Tryz.isAgg383
 z44:=Tryz.sizeOf383
 v44:=Tryz.zeroValue383
 i44:=qE
 t47:=underlying283
 a47:=Tryz.isAgg283
 z47:=Tryz.sizeOf283
 v47:=Tryz.zeroValue283
 i47:=qE
 t48:=underlying387
 a48:=Tryz.isAgg387
 z48:=Tryz.sizeOf387
 v48:=Tryz.zeroValue387
 i48:=qE
 t50:=underlying389
 a50:=Tryz.isAgg389
 z50:=Tryz.sizeOf389
 v50:=Tryz.zeroValue389
 i50:=qE
 t52:=underlying353
 a52:=Tryz.isAgg353
 z52:=Tryz.sizeOf353
 v52:=Tryz.zeroValue353
 i52:=qE
 t55:=underlying355
 a55:=Tryz.isAgg355
 z55:=Tryz.sizeOf355
 v55:=Tryz.zeroValue355
 i55:=qE
 t59:=underlying373
 a59:=Tryz.isAgg373
 z59:=Tryz.sizeOf373
 v59:=Tryz.zeroValue373
 i59:=qE
 t60:=underlying129
 a60:=Tryz.isAgg129
 z60:=Tryz.sizeOf129
 v60:=Tryz.zeroValue129
 i60:=qE
 t61:=underlying374
 a61:=Tryz.isAgg374
 z61:=Tryz.sizeOf374
 t65:=underlying390
 a65:=Tryz.isAgg390
 z65:=Tryz.sizeOf390
 v65:=Tryz.zeroValue390
 i65:=qE
 t66:=underlying391
 a66:=Tryz.isAgg391
 z66:=Tryz.sizeOf391
 v66:=Tryz.zeroValue391
 i66:=qE
 t67:=underlying265
 a67:=Tryz.isAgg265
 z67:=Tryz.sizeOf265
 v67:=Tryz.zeroValue265
 i67:=qE
 g0:=qE
 m0:=qE
 g1:=qE
 m1:=qE
 g2:=qE
 m2:=qE
 g3:=qE
 m3:=qE
 g4:=qE
 m4:=by kernel_rfl }
open Go.RowKit in
theorem Tryz.strconv_ParseUint_10_at32_ok (s:ByteArray) (VX:s.size≤9223372036854775806) (u:Nat) (h:Lib.parseUintB 32 s.data.toList=.ok u) (w:World) :
  Calls prog 313 #[.string s,M 10,M 32] w fun e w'=>e=.returned (.tuple #[.int .u64 u,.nilIface])∧(w'=w∨w'=Lib.bytesWorld w 5 s):=Any.strconv_ParseUint_10_at32_ok Tryz.laysPu14 s VX u h w
def Tryz.laysPdq228_ren:Go.Shelf.Ren:=⟨fun|14=>257|20=>293|21=>294|22=>295|23=>296|24=>297|25=>298|26=>299|27=>300|46=>322|47=>323|48=>324|49=>325|50=>326|15=>258|57=>348|28=>301|29=>302|n=>n,fun|24=>58|22=>23|3=>3|25=>108|4=>4|0=>0|46=>323|45=>322|50=>327|66=>347|39=>291|55=>235|70=>351|76=>368|77=>369|53=>129|5=>5|9=>9|n=>n,fun|n=>n⟩
theorem Tryz.laysPdq228:Go.Proofs.SlLaysF0.n14 prog Tryz.laysPdq228_ren:={
 mixed:=qE
 f14:=⟨Tryz.f257.name,qI,func257.trans (congrArg some (qE))⟩
 f15:=xa func258
 f20:=⟨Tryz.f293.name,qI,func293.trans (congrArg some (qE))⟩
 f21:=⟨Tryz.f294.name,qI,func294.trans (congrArg some (qE))⟩
 f22:=⟨Tryz.f295.name,qI,func295.trans (congrArg some (qE))⟩
 f23:=⟨Tryz.f296.name,qI,func296.trans (congrArg some (qE))⟩
 f24:=⟨Tryz.f297.name,qI,func297.trans (congrArg some (qE))⟩
 f25:=⟨Tryz.f298.name,qI,func298.trans (congrArg some (qE))⟩
 f26:=⟨Tryz.f299.name,qI,func299.trans (congrArg some (qE))⟩
 f27:=⟨Tryz.f300.name,qI,func300.trans (congrArg some (qE))⟩
 f28:=xa func301
 f29:=xa func302
 f46:=⟨Tryz.f322.name,qI,func322.trans (congrArg some (qE))⟩
 f47:=xa func323
 f48:=xa func324
 f49:=⟨Tryz.f325.name,qI,func325.trans (congrArg some (qE))⟩
 f50:=⟨Tryz.f326.name,qI,func326.trans (congrArg some (qE))⟩
 f57:=⟨Tryz.f348.name,qI,func348.trans (congrArg some (qE))⟩
 t0:=underlying0
 a0:=Tryz.isAgg0
 z0:=Tryz.sizeOf0
 v0:=Tryz.zeroValue0
 t3:=underlying3
 a3:=Tryz.isAgg3
 z3:=Tryz.sizeOf3
 v3:=Tryz.zeroValue3
 t4:=underlying4
 a4:=Tryz.isAgg4
 z4:=Tryz.sizeOf4
 v4:=Tryz.zeroValue4
 t5:=underlying5
 a5:=Tryz.isAgg5
 z5:=Tryz.sizeOf5
 v5:=Tryz.zeroValue5
 t9:=underlying9
 a9:=Tryz.isAgg9
 z9:=Tryz.sizeOf9
 v9:=Tryz.zeroValue9
 t22:=underlying23
 a22:=Tryz.isAgg23
 z22:=Tryz.sizeOf23
 v22:=Tryz.zeroValue23
 t25:=underlying108
 a25:=Tryz.isAgg108
 z25:=Tryz.sizeOf108
 v25:=Tryz.zeroValue108
 t39:=underlying291
 a39:=Tryz.isAgg291
 z39:=Tryz.sizeOf291
 v39:=Tryz.zeroValue291
 t45:=underlying322
 a45:=Tryz.isAgg322
 z45:=Tryz.sizeOf322
 v45:=Tryz.zeroValue322
 t46:=underlying323
 a46:=Tryz.isAgg323
 z46:=Tryz.sizeOf323
 v46:=Tryz.zeroValue323
 t50:=underlying327
 a50:=Tryz.isAgg327
 z50:=Tryz.sizeOf327
 v50:=Tryz.zeroValue327
 t53:=underlying129
 a53:=Tryz.isAgg129
 z53:=Tryz.sizeOf129
 v53:=Tryz.zeroValue129
 t55:=underlying235
 a55:=Tryz.isAgg235
 z55:=Tryz.sizeOf235
 v55:=Tryz.zeroValue235
 t66:=underlying347
 a66:=Tryz.isAgg347
 z66:=Tryz.sizeOf347
 v66:=Tryz.zeroValue347
 t70:=underlying351
 a70:=Tryz.isAgg351
 z70:=Tryz.sizeOf351
 v70:=Tryz.zeroValue351
 t76:=underlying368
 a76:=Tryz.isAgg368
 z76:=Tryz.sizeOf368
 v76:=Tryz.zeroValue368
 t77:=underlying369
 a77:=Tryz.isAgg369
 z77:=Tryz.sizeOf369
 v77:=Tryz.zeroValue369 }
def Tryz.laysGrow176_ren:Go.Shelf.Ren:=⟨fun|4=>225|n=>n,fun|22=>24|25=>58|3=>3|4=>4|9=>9|20=>20|0=>0|n=>n,fun|n=>n⟩
theorem Tryz.laysGrow176:Go.Proofs.Lays8.n4 prog Tryz.laysGrow176_ren:={
 mixed:=qE
 f4:=⟨Tryz.f225.name,qI,func225.trans (congrArg some (qE))⟩
 t0:=underlying0
 a0:=Tryz.isAgg0
 z0:=Tryz.sizeOf0
 v0:=Tryz.zeroValue0
 t3:=underlying3
 a3:=Tryz.isAgg3
 z3:=Tryz.sizeOf3
 v3:=Tryz.zeroValue3
 t4:=underlying4
 a4:=Tryz.isAgg4
 z4:=Tryz.sizeOf4
 v4:=Tryz.zeroValue4
 t9:=underlying9
 a9:=Tryz.isAgg9
 z9:=Tryz.sizeOf9
 v9:=Tryz.zeroValue9
 t20:=underlying20
 a20:=Tryz.isAgg20
 z20:=Tryz.sizeOf20
 v20:=Tryz.zeroValue20
 t22:=underlying24
 a22:=Tryz.isAgg24
 z22:=Tryz.sizeOf24
 v22:=Tryz.zeroValue24 }
end Go.Proofs
end
section
namespace Go.Proofs.YtfijkfdfbnfmmaaGreatDoor
open Proofs.Tryz
open Go.RowKit Go.Lib Go.Sort
def STm:Type:={ t:Tm // t.m0<65536∧t.m1<65536∧t.m2<65536∧t.m3<65536 }
instance:Inhabited STm:=⟨⟨⟨false,none,0,0,[],false,none,0,0,[],0,0,0,0⟩,qI⟩⟩
def STm.key (t:STm):Nat:=Bv t.1.m0 t.1.m1 t.1.m2 t.1.m3
def Ib (t:STm):List Value:=t.1.cells
def cfT (s t:STm):Int:=Bz (t.key:Int) (s.key:Int)
theorem ltT (s t:STm):ltOf cfT s t=decide (t.key<s.key):=by
 unfold ltOf cfT;rw [Rh];by_cases h:t.key<s.key
 ·simp [h]
 ·by_cases h2:t.key=s.key<;>simp [h,h2]
theorem swoT:SWO (ltOf cfT) where
 irrefl x:=by rw [ltT];simp
 trans x y z h1 h2:=by rw [ltT] at *;simp at *;omega
 ntrans x y z h1 h2:=by rw [ltT] at *;simp at *;omega
theorem uW {w w':World} (h:xp w w') (hd:w.drawn≤w'.drawn):∃q os',w'=grow (w.drewN q) os':=by
 refine ⟨w'.drawn-w.drawn,w'.heap.extract w w',?_⟩;obtain ⟨h1,h2,h3,h4,h5⟩:=h;obtain ⟨hp,tp,dr,os,ou⟩:=w';simp only at h1 h2 h3 h4 h5 hd ⊢;unfold grow World.drewN;simp only [World.mk.injEq];refine ⟨?_,h2,qB,h1,h3⟩;apply Array.ext
 ·simp;omega
 ·intro i hi1 hi2;rw [Array.getElem_append]
  split
  ·next bj =>
   have:=h5 i bj;rw [Array.getElem?_eq_getElem hi1,Array.getElem?_eq_getElem bj] at this;exact Option.some.inj this
  ·next OC =>
   simp only [Array.getElem_extract]
   congr 1
   omega
theorem nW (w:World) (s t:Tm) :
  Θ 224 #[s.val,t.val] w fun e w'=>e=.returned (M (Dd (Bn t.m0 t.m1 t.m2 t.m3) (Bn s.m0 s.m1 s.m2 s.m3)))∧xp w w'∧w.drawn≤w'.drawn:=by
 have HB:=Ac w w;go_enter func224,ntmps224;go_wp2_with fail;refine (tU _ _ _ _ _ _ _ _ _).mono ?_;rintro e w1 ⟨rfl,hb,hdr⟩;have fg:=zP w hb;replace hdr:w.drawn≤w1.drawn:=hdr;go_wp2_with fail;go_ret;exact ⟨rfl,fg,hdr⟩
theorem rY (blk off size:Nat) (w:World):CmpLays prog 224 #[] Ib 8 cfT blk off size w:=by
 intro m os dk _ x y;refine (nW _ x.1 y.1).mono ?_;rintro e w' ⟨rfl,hb,hd⟩;refine ⟨?_,uW hb hd⟩;obtain ⟨x,hx⟩:=x;obtain ⟨y,hy⟩:=y;unfold cfT STm.key;rw [Lu hy.1 hy.2.1 hy.2.2.1 hy.2.2.2 hx.1 hx.2.1 hx.2.2.1 hx.2.2.2]
theorem Aak (blk off cap:Nat) (d:Array STm) (w:World) (hH:HoldsK Ib 8 w blk off d) (hblk:blk<w.heap.size) (fb:d.size<4611686018427387904) :
  Θ 223 #[.slice (some ⟨blk,off,none⟩) d.size cap,.func (.func 224) #[] #[]] w fun e w' =>
   e=.returned (.tuple #[])∧∃d' n os,PermIn 0 d.size d d'∧SortedIn (ltOf cfT) 0 d.size d'∧w'=sortWorldK Ib 8 w blk off n d' os:=by
 have eg:∀args w,(callFunc 224 args).run prog w=.ok (.enter 224 args) w:=enters_of func224 qE rfl;have qw:Lib.bitLen d.size<4611686018427387904:=Nat.lt_of_le_of_lt (Lib.bitLen_le d.size 62 qB qB) qB;have hk:∀x:STm,(Ib x).length=8:=fun _=>rfl
 have h1:∀x:STm,∀v∈Ib x,v.oneCell'=true:=fun x v hv=>by
  simp [Ib,Tm.cells] at hv;rcases hv with rfl|rfl|rfl|rfl|rfl|rfl|rfl|rfl<;>rfl
 have hp:=AnyQ.pdqsortCmpFunc_all Tryz.laysPdq228 8 (fun w=>by first|exact Tryz.isAgg58 w|kernel_rfl) (fun w=>by first|exact Tryz.sizeOf58 w|kernel_rfl) Ib cfT 224 #[] swoT blk off cap d w eg (rY blk off d.size w) ⟨hk,h1,hH,hblk⟩ (d.size+1) 0 d.size (Lib.bitLen d.size) d w qB rfl (SWK.start hH) (Ba _) (Ad _) fb qw (Or.inl rfl)
 change Θ 257 _ _ _ at hp
 have hl:Θ 258 #[.int .u64 (d.size:Int)] w fun e w'=>e=.returned (M (Lib.bitLen d.size:Nat))∧w'=w:=by
  have h:=Tryz.bits_Len (d.size:Int) w qB qB;rwa [Int.toNat_natCast] at h
 have wr:IntKind.u64.wrap (d.size:Int)=d.size:=by simp [IntKind.wrap,IntKind.bits,IntKind.signed];omega
 have BV:=pdq_sorts (ltOf cfT) swoT d 0 d.size (Lib.bitLen d.size) true true (Ba _) (Ad _) (Or.inl rfl);generalize pdq (ltOf cfT) d 0 d.size (Lib.bitLen d.size) true true=d' at *;clear hH hblk qw hk h1 eg;go_enter func223,ntmps223;go_wp2_with (first|(go_at_call 258;refine hl.mono ?_;rintro e w' ⟨rfl,rfl⟩)|(go_at_call 257;refine hp.mono ?_;rintro e w' ⟨rfl,n,os,rfl⟩));exact bodyPost_end (v:=.tuple #[]) (by simp [results,results223,go_sem]) rfl ⟨rfl,d',n,os,BV.1,BV.2,rfl⟩
theorem lQ (p:Γ) (cap:Nat) (w:World):Θ 223 #[.slice p 0 cap,.func (.func 224) #[] #[]] w fun e w'=>e=.returned (.tuple #[])∧w'=w:=by
 have hp:=fun lim W=>AnyF.pdqsortCmpFunc_none Tryz.laysPdq228 p cap lim (.func (.func 224) #[] #[]) W
 have BX:∀lim W,Θ 257 #[.slice p 0 cap,M 0,M 0,M lim,.func (.func 224) #[] #[]] W fun e w'=>e=.returned (.tuple #[])∧w'=W:=hp
 have hl:∀W,Θ 258 #[.int .u64 0] W fun e w'=>e=.returned (M (Lib.bitLen 0:Nat))∧w'=W:=fun W=>Tryz.bits_Len 0 W qB qB
 clear hp;go_enter func223,ntmps223;go_wp2_with (first|(go_at_call 258;refine (hl _).mono ?_;rintro e w' ⟨rfl,rfl⟩)|(go_at_call 257;refine (BX _ _).mono ?_;rintro e w' ⟨rfl,rfl⟩));exact bodyPost_end (v:=.tuple #[]) (by simp [results,results223,go_sem]) rfl ⟨rfl,rfl⟩
def P0 (l:List STm):List Value:=l.flatMap Ib
theorem fY (l:List STm) (t:STm):P0 (l++[t])=P0 l++t.1.cells:=by simp [P0,Ib]
theorem jF (l:List STm) (i k:Nat) (hi:i<l.length) (hk:k<8):(P0 l)[i*8+k]? = (l[i].1.cells)[k]?:=by
 induction l generalizing i with
 | nil=>simp at hi
 | cons t l ih =>
  show (Ib t++P0 l)[i*8+k]? = _;have h8:(Ib t).length=8:=rfl
  cases i with
  | zero=>rw [Ay qB];simp [Ib]
  | succ i =>
   rw [Az qB,h8];have:=ih i (by simpa using hi);rw [show (i+1)*8+k-8=i*8+k from qB];simpa using this
theorem Ns {w:World} {base g c n:Nat} {l:List STm} (h:w.ownsRow base 58 8 (.slice (E g) n c) n (P0 l)) (hn:n=l.length):HoldsK Ib 8 w g 0 l.toArray:=by
 subst hn;obtain ⟨h1,h2⟩:=h;rcases h2 with ⟨h2,_⟩|⟨g',cap,cur,hv,hg,hb,ri,hm,fb,sx⟩
 ·cases h2
 ·simp only [Value.slice.injEq,Option.some.injEq,Addr.mk.injEq,and_true,true_and] at hv;obtain ⟨rfl,rfl⟩:=hv;intro j hj;rw [size_flatK] at hj;simp only [List.size_toArray] at hj;refine ⟨?_,?_⟩
  ·have e1:j/8<l.length:=qB;have e2:=jF l (j/8) (j%8) e1 qB;rw [show j/8*8+j%8=j from qB] at e2;have e3:(P0 l)[j]? = cur[j]?:=by
    rw [←sx,List.getElem?_take,if_pos qB];simp
   rw [get_flatK _ _ _ _ (by simpa using hj)];have e4:w.cell? ⟨g,0+j,none⟩=cur[j]?:=by
    unfold World.cell?;simp [hb]
   rw [e4,←e3,e2];have e5:(l.toArray)[j/8]! = l[j/8]:=by rw [getElem!_pos _ _ (by simpa using e1)];simp
   rw [e5];have e6:j%8<(Ib l[j/8]).length:=by show j%8<8;omega
   rw [id,getElem!_pos (Ib l[j/8]) (j%8) e6];exact Ai (l:=Ib l[j/8]) e6
  ·unfold World.frozen?;simp [hb]
theorem Vl {w:World} {g:Nat} {d:Array STm} (h:HoldsK Ib 8 w g 0 d) {i:Nat} (hi:i<d.size):Nr w g (0+i*8) (d[i]!).1:=by
 have key:∀k,k<8→Z w g (0+i*8+k) (((d[i]!).1.cells)[k]!):=fun k hk=>by
  have h1:=(h (i*8+k) (by rw [size_flatK];omega)).1;rw [get_flatK _ _ _ _ qB] at h1;rw [show (i*8+k)/8=i from qB,show (i*8+k)%8=k from qB] at h1;rw [Nat.add_assoc];exact h1
 exact ⟨key 0 qB,key 1 qB,key 2 qB,key 3 qB,key 4 qB,key 5 qB,key 6 qB,key 7 qB⟩
theorem eW (k:Nat) (h:k<18446744073709551616):k/281474976710656<65536∧k/4294967296%65536<65536∧k/65536%65536<65536∧k%65536<65536∧Bv (k/281474976710656) (k/4294967296%65536) (k/65536%65536) (k%65536)=k:=by
 unfold Bv;omega
end Go.Proofs.YtfijkfdfbnfmmaaGreatDoor
end
