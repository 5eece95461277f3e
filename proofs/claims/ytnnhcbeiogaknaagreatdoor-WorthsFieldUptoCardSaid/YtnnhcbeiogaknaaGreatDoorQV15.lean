/- Contracts of the library at this dump, in plain words: Atoi, ParseUint, the sort, Grow. No condition. -/
import Derived.Test.YtnnhcbeiogaknaaGreatDoorQV14
set_option linter.unusedSimpArgs false
set_option linter.unusedVariables false
set_option maxRecDepth 100000
set_option maxHeartbeats 4000000
section
namespace Go.Proofs
open Go.Shelf
def Tryz.lays125_ren:Go.Shelf.Ren:=⟨fun|125=>116|128=>191|129=>192|n=>n,fun|46=>170|3=>3|51=>147|53=>146|4=>4|5=>5|9=>9|n=>n,fun|n=>n⟩
theorem Tryz.lays125:Go.Proofs.Lays.n125 Tryz.prog Tryz.lays125_ren:={
 mixed:=by kernel_rfl
 f125:=Tryz.func116.trans (congrArg some (by kernel_rfl))
 f128:=Tryz.func191.trans (congrArg some (by kernel_rfl))
 f129:=Tryz.func192.trans (congrArg some (by kernel_rfl))
 t3:=Tryz.underlying3
 a3:=Tryz.isAgg3
 z3:=Tryz.sizeOf3
 v3:=Tryz.zeroValue3
 t4:=Tryz.underlying4
 a4:=Tryz.isAgg4
 z4:=Tryz.sizeOf4
 v4:=Tryz.zeroValue4
 t5:=Tryz.underlying5
 a5:=Tryz.isAgg5
 z5:=Tryz.sizeOf5
 v5:=Tryz.zeroValue5
 t9:=Tryz.underlying9
 a9:=Tryz.isAgg9
 z9:=Tryz.sizeOf9
 v9:=Tryz.zeroValue9
 t46:=Tryz.underlying170
 a46:=Tryz.isAgg170
 z46:=Tryz.sizeOf170
 v46:=Tryz.zeroValue170
 t51:=Tryz.underlying147
 a51:=Tryz.isAgg147
 z51:=Tryz.sizeOf147
 v51:=Tryz.zeroValue147
 t53:=Tryz.underlying146
 a53:=Tryz.isAgg146
 z53:=Tryz.sizeOf146
 v53:=Tryz.zeroValue146 }
theorem Tryz.bits_Len (x:Int) (w:World) (h0:0≤x) (h1:x≤18446744073709551615) :
  Calls Tryz.prog 116 #[.int .u64 x] w fun e w'=>e=.returned (.int .i64 (Lib.bitLen x.toNat))∧w'=w:=Any.bits_Len Tryz.lays125 x w h0 h1
def Tryz.laysC172_ren:Go.Shelf.Ren:=⟨fun|172=>332|244=>355|245=>356|247=>368|279=>369|280=>370|281=>371|282=>372|287=>377|316=>382|171=>284|205=>383|321=>385|322=>386|243=>336|246=>360|283=>286|284=>287|285=>288|286=>289|129=>192|317=>338|318=>339|319=>340|320=>341|337=>361|338=>362|n=>n,fun|9=>9|3=>3|75=>189|76=>190|4=>4|5=>5|167=>395|37=>184|0=>0|85=>396|2=>2|168=>398|53=>146|175=>388|46=>170|210=>411|127=>252|145=>417|143=>415|21=>21|171=>330|173=>332|212=>373|51=>147|20=>20|213=>374|232=>401|233=>402|80=>192|n=>n,fun|15=>6|16=>7|17=>0|18=>2|19=>3|n=>n⟩
theorem Tryz.laysC172:Go.Proofs.LaysC.n172 Tryz.prog Tryz.laysC172_ren:={
 mixed:=by kernel_rfl
 f129:=Tryz.func192.trans (congrArg some (by kernel_rfl))
 f171:=Tryz.func284.trans (congrArg some (by kernel_rfl))
 f172:=Tryz.func332.trans (congrArg some (by kernel_rfl))
 f205:=Tryz.func383.trans (congrArg some (by kernel_rfl))
 f243:=Tryz.func336.trans (congrArg some (by kernel_rfl))
 f244:=Tryz.func355.trans (congrArg some (by kernel_rfl))
 f245:=Tryz.func356.trans (congrArg some (by kernel_rfl))
 f246:=Tryz.func360.trans (congrArg some (by kernel_rfl))
 f247:=Tryz.func368.trans (congrArg some (by kernel_rfl))
 f279:=Tryz.func369.trans (congrArg some (by kernel_rfl))
 f280:=Tryz.func370.trans (congrArg some (by kernel_rfl))
 f281:=Tryz.func371.trans (congrArg some (by kernel_rfl))
 f282:=Tryz.func372.trans (congrArg some (by kernel_rfl))
 f283:=Tryz.func286.trans (congrArg some (by kernel_rfl))
 f284:=Tryz.func287.trans (congrArg some (by kernel_rfl))
 f285:=Tryz.func288.trans (congrArg some (by kernel_rfl))
 f286:=Tryz.func289.trans (congrArg some (by kernel_rfl))
 f287:=Tryz.func377.trans (congrArg some (by kernel_rfl))
 f316:=Tryz.func382.trans (congrArg some (by kernel_rfl))
 f317:=Tryz.func338.trans (congrArg some (by kernel_rfl))
 f318:=Tryz.func339.trans (congrArg some (by kernel_rfl))
 f319:=Tryz.func340.trans (congrArg some (by kernel_rfl))
 f320:=Tryz.func341.trans (congrArg some (by kernel_rfl))
 f321:=Tryz.func385.trans (congrArg some (by kernel_rfl))
 f322:=Tryz.func386.trans (congrArg some (by kernel_rfl))
 f337:=Tryz.func361.trans (congrArg some (by kernel_rfl))
 f338:=Tryz.func362.trans (congrArg some (by kernel_rfl))
 t0:=Tryz.underlying0
 a0:=Tryz.isAgg0
 z0:=Tryz.sizeOf0
 v0:=Tryz.zeroValue0
 t2:=Tryz.underlying2
 a2:=Tryz.isAgg2
 z2:=Tryz.sizeOf2
 v2:=Tryz.zeroValue2
 t3:=Tryz.underlying3
 a3:=Tryz.isAgg3
 z3:=Tryz.sizeOf3
 v3:=Tryz.zeroValue3
 t4:=Tryz.underlying4
 a4:=Tryz.isAgg4
 z4:=Tryz.sizeOf4
 v4:=Tryz.zeroValue4
 t5:=Tryz.underlying5
 a5:=Tryz.isAgg5
 z5:=Tryz.sizeOf5
 v5:=Tryz.zeroValue5
 t9:=Tryz.underlying9
 a9:=Tryz.isAgg9
 z9:=Tryz.sizeOf9
 v9:=Tryz.zeroValue9
 t20:=Tryz.underlying20
 a20:=Tryz.isAgg20
 z20:=Tryz.sizeOf20
 v20:=Tryz.zeroValue20
 t21:=Tryz.underlying21
 a21:=Tryz.isAgg21
 z21:=Tryz.sizeOf21
 v21:=Tryz.zeroValue21
 t37:=Tryz.underlying184
 a37:=Tryz.isAgg184
 z37:=Tryz.sizeOf184
 v37:=Tryz.zeroValue184
 t46:=Tryz.underlying170
 a46:=Tryz.isAgg170
 z46:=Tryz.sizeOf170
 v46:=Tryz.zeroValue170
 t51:=Tryz.underlying147
 a51:=Tryz.isAgg147
 z51:=Tryz.sizeOf147
 v51:=Tryz.zeroValue147
 t53:=Tryz.underlying146
 a53:=Tryz.isAgg146
 z53:=Tryz.sizeOf146
 v53:=Tryz.zeroValue146
 t75:=Tryz.underlying189
 a75:=Tryz.isAgg189
 z75:=Tryz.sizeOf189
 v75:=Tryz.zeroValue189
 t76:=Tryz.underlying190
 a76:=Tryz.isAgg190
 z76:=Tryz.sizeOf190
 v76:=Tryz.zeroValue190
 t85:=Tryz.underlying396
 a85:=Tryz.isAgg396
 z85:=Tryz.sizeOf396
 v85:=Tryz.zeroValue396
 t127:=Tryz.underlying252
 a127:=Tryz.isAgg252
 z127:=Tryz.sizeOf252
 v127:=Tryz.zeroValue252
 t143:=Tryz.underlying415
 a143:=Tryz.isAgg415
 z143:=Tryz.sizeOf415
 v143:=Tryz.zeroValue415
 t145:=Tryz.underlying417
 a145:=Tryz.isAgg417
 z145:=Tryz.sizeOf417
 v145:=Tryz.zeroValue417
 t167:=Tryz.underlying395
 a167:=Tryz.isAgg395
 z167:=Tryz.sizeOf395
 v167:=Tryz.zeroValue395
 t168:=Tryz.underlying398
 a168:=Tryz.isAgg398
 z168:=Tryz.sizeOf398
 v168:=Tryz.zeroValue398
 t171:=Tryz.underlying330
 a171:=Tryz.isAgg330
 z171:=Tryz.sizeOf330
 v171:=Tryz.zeroValue330
 t173:=Tryz.underlying332
 a173:=Tryz.isAgg332
 z173:=Tryz.sizeOf332
 v173:=Tryz.zeroValue332
 t175:=Tryz.underlying388
 a175:=Tryz.isAgg388
 z175:=Tryz.sizeOf388
 v175:=Tryz.zeroValue388
 t210:=Tryz.underlying411
 a210:=Tryz.isAgg411
 z210:=Tryz.sizeOf411
 v210:=Tryz.zeroValue411
 t212:=Tryz.underlying373
 a212:=Tryz.isAgg373
 z212:=Tryz.sizeOf373
 v212:=Tryz.zeroValue373
 t213:=Tryz.underlying374
 a213:=Tryz.isAgg374
 z213:=Tryz.sizeOf374
 t232:=Tryz.underlying401
 a232:=Tryz.isAgg401
 z232:=Tryz.sizeOf401
 v232:=Tryz.zeroValue401
 t233:=Tryz.underlying402
 a233:=Tryz.isAgg402
 z233:=Tryz.sizeOf402
 v233:=Tryz.zeroValue402
 g15:=by kernel_rfl
 g16:=by kernel_rfl
 g17:=by kernel_rfl
 g18:=by kernel_rfl
 g19:=by kernel_rfl
 t80:=Tryz.underlying192
 a80:=Tryz.isAgg192
 z80:=Tryz.sizeOf192
 v80:=Tryz.zeroValue192
 i0:=by kernel_rfl
 i2:=by kernel_rfl
 i3:=by kernel_rfl
 i4:=by kernel_rfl
 i5:=by kernel_rfl
 i9:=by kernel_rfl
 i20:=by kernel_rfl
 i21:=by kernel_rfl
 i37:=by kernel_rfl
 i46:=by kernel_rfl
 i51:=by kernel_rfl
 i53:=by kernel_rfl
 i75:=by kernel_rfl
 i76:=by kernel_rfl
 i80:=by kernel_rfl
 i85:=by kernel_rfl
 i127:=by kernel_rfl
 i143:=by kernel_rfl
 i145:=by kernel_rfl
 i167:=by kernel_rfl
 i168:=by kernel_rfl
 i171:=by kernel_rfl
 i173:=by kernel_rfl
 i175:=by kernel_rfl
 i210:=by kernel_rfl
 i212:=by kernel_rfl
 i232:=by kernel_rfl
 i233:=by kernel_rfl
 m15:=by kernel_rfl
 m16:=by kernel_rfl
 m17:=by kernel_rfl
 m18:=by kernel_rfl
 m19:=by kernel_rfl
 c0:=by kernel_rfl
 c2:=by kernel_rfl
 c3:=by kernel_rfl
 c4:=by kernel_rfl
 c5:=by kernel_rfl
 c9:=by kernel_rfl
 c20:=by kernel_rfl
 c21:=by kernel_rfl
 c37:=by kernel_rfl
 c46:=by kernel_rfl
 c51:=by kernel_rfl
 c53:=by kernel_rfl
 c75:=by kernel_rfl
 c76:=by kernel_rfl
 c80:=by kernel_rfl
 c85:=by kernel_rfl
 c127:=by kernel_rfl
 c143:=by kernel_rfl
 c145:=by kernel_rfl
 c167:=by kernel_rfl
 c168:=by kernel_rfl
 c171:=by kernel_rfl
 c173:=by kernel_rfl
 c175:=by kernel_rfl
 c210:=by kernel_rfl
 c212:=by kernel_rfl
 c213:=by kernel_rfl
 c232:=by kernel_rfl
 c233:=by kernel_rfl }
open Go.RowKit in
theorem Tryz.strconv_Atoi_ok (s:ByteArray) (hmax:s.size≤9223372036854775806) (v:Int) (h:Lib.atoiAll s.data.toList=.ok v) (w:World) :
  Calls Tryz.prog 332 #[.string s] w fun e w'=>e=.returned (.tuple #[.int .i64 v,.nilIface])∧(w'=w∨∃t,w'=Lib.bytesWorld w 5 t):=Any.strconv_Atoi_ok Tryz.laysC172 s hmax v h w
open Go.RowKit in
theorem Tryz.strconv_Atoi_range (s:ByteArray) (hlim:s.size≤281474976710656) (h:Lib.atoiAll s.data.toList=.range) (ev:Value) (w:World) (hv:w.cell? ⟨7,0,none⟩=some ev) (hev:ev=.nilIface∨∃te pe,ev=.iface te pe) :
  Calls Tryz.prog 332 #[.string s] w fun e w'=>∃N,e=.returned (.tuple #[.int .i64 (Lib.atoiSat s.data.toList),.iface 398 (.pointer (some ⟨N,0,none⟩))])∧w.heap.size≤N∧w'.heap[N]? = some (.cells #[.string ⟨#[65,116,111,105]⟩,.string s,ev] 411 (0,0))∧Below w.heap.size w w':=Any.strconv_Atoi_range Tryz.laysC172 s hlim h ev w hv hev
def Tryz.laysPu14_ren:Go.Shelf.Ren:=⟨fun|14=>359|16=>377|17=>356|19=>385|20=>386|21=>369|22=>370|23=>371|24=>372|25=>382|27=>284|26=>383|28=>336|29=>360|30=>286|31=>287|32=>288|33=>289|35=>192|34=>338|36=>339|37=>340|38=>341|39=>361|40=>362|n=>n,fun|9=>9|3=>3|22=>146|24=>189|25=>388|4=>4|34=>395|5=>5|36=>170|37=>184|0=>0|39=>398|21=>21|44=>411|47=>252|50=>417|48=>415|2=>2|52=>330|55=>332|59=>373|60=>147|20=>20|61=>374|65=>401|66=>402|67=>192|n=>n,fun|0=>6|1=>7|2=>0|3=>2|4=>3|n=>n⟩
theorem Tryz.laysPu14:Go.Proofs.LaysPu.n14 Tryz.prog Tryz.laysPu14_ren:={
 mixed:=by kernel_rfl
 f14:=Tryz.func359.trans (congrArg some (by kernel_rfl))
 f16:=Tryz.func377.trans (congrArg some (by kernel_rfl))
 f17:=Tryz.func356.trans (congrArg some (by kernel_rfl))
 f19:=Tryz.func385.trans (congrArg some (by kernel_rfl))
 f20:=Tryz.func386.trans (congrArg some (by kernel_rfl))
 f21:=Tryz.func369.trans (congrArg some (by kernel_rfl))
 f22:=Tryz.func370.trans (congrArg some (by kernel_rfl))
 f23:=Tryz.func371.trans (congrArg some (by kernel_rfl))
 f24:=Tryz.func372.trans (congrArg some (by kernel_rfl))
 f25:=Tryz.func382.trans (congrArg some (by kernel_rfl))
 f26:=Tryz.func383.trans (congrArg some (by kernel_rfl))
 f27:=Tryz.func284.trans (congrArg some (by kernel_rfl))
 f28:=Tryz.func336.trans (congrArg some (by kernel_rfl))
 f29:=Tryz.func360.trans (congrArg some (by kernel_rfl))
 f30:=Tryz.func286.trans (congrArg some (by kernel_rfl))
 f31:=Tryz.func287.trans (congrArg some (by kernel_rfl))
 f32:=Tryz.func288.trans (congrArg some (by kernel_rfl))
 f33:=Tryz.func289.trans (congrArg some (by kernel_rfl))
 f34:=Tryz.func338.trans (congrArg some (by kernel_rfl))
 f35:=Tryz.func192.trans (congrArg some (by kernel_rfl))
 f36:=Tryz.func339.trans (congrArg some (by kernel_rfl))
 f37:=Tryz.func340.trans (congrArg some (by kernel_rfl))
 f38:=Tryz.func341.trans (congrArg some (by kernel_rfl))
 f39:=Tryz.func361.trans (congrArg some (by kernel_rfl))
 f40:=Tryz.func362.trans (congrArg some (by kernel_rfl))
 t0:=Tryz.underlying0
 a0:=Tryz.isAgg0
 z0:=Tryz.sizeOf0
 v0:=Tryz.zeroValue0
 i0:=by kernel_rfl
 t2:=Tryz.underlying2
 a2:=Tryz.isAgg2
 z2:=Tryz.sizeOf2
 v2:=Tryz.zeroValue2
 i2:=by kernel_rfl
 t3:=Tryz.underlying3
 a3:=Tryz.isAgg3
 z3:=Tryz.sizeOf3
 v3:=Tryz.zeroValue3
 i3:=by kernel_rfl
 t4:=Tryz.underlying4
 a4:=Tryz.isAgg4
 z4:=Tryz.sizeOf4
 v4:=Tryz.zeroValue4
 i4:=by kernel_rfl
 t5:=Tryz.underlying5
 a5:=Tryz.isAgg5
 z5:=Tryz.sizeOf5
 v5:=Tryz.zeroValue5
 i5:=by kernel_rfl
 t9:=Tryz.underlying9
 a9:=Tryz.isAgg9
 z9:=Tryz.sizeOf9
 v9:=Tryz.zeroValue9
 i9:=by kernel_rfl
 t20:=Tryz.underlying20
 a20:=Tryz.isAgg20
 z20:=Tryz.sizeOf20
 v20:=Tryz.zeroValue20
 i20:=by kernel_rfl
 t21:=Tryz.underlying21
 a21:=Tryz.isAgg21
 z21:=Tryz.sizeOf21
 v21:=Tryz.zeroValue21
 i21:=by kernel_rfl
 t22:=Tryz.underlying146
 a22:=Tryz.isAgg146
 z22:=Tryz.sizeOf146
 v22:=Tryz.zeroValue146
 i22:=by kernel_rfl
 t24:=Tryz.underlying189
 a24:=Tryz.isAgg189
 z24:=Tryz.sizeOf189
 v24:=Tryz.zeroValue189
 i24:=by kernel_rfl
 t25:=Tryz.underlying388
 a25:=Tryz.isAgg388
 z25:=Tryz.sizeOf388
 v25:=Tryz.zeroValue388
 i25:=by kernel_rfl
 t34:=Tryz.underlying395
 a34:=Tryz.isAgg395
 z34:=Tryz.sizeOf395
 v34:=Tryz.zeroValue395
 i34:=by kernel_rfl
 c34:=by kernel_rfl
 t36:=Tryz.underlying170
 a36:=Tryz.isAgg170
 z36:=Tryz.sizeOf170
 v36:=Tryz.zeroValue170
 i36:=by kernel_rfl
 t37:=Tryz.underlying184
 a37:=Tryz.isAgg184
 z37:=Tryz.sizeOf184
 v37:=Tryz.zeroValue184
 i37:=by kernel_rfl
 t39:=Tryz.underlying398
 a39:=Tryz.isAgg398
 z39:=Tryz.sizeOf398
 v39:=Tryz.zeroValue398
 i39:=by kernel_rfl
 t44:=Tryz.underlying411
 a44:=Tryz.isAgg411
 z44:=Tryz.sizeOf411
 v44:=Tryz.zeroValue411
 i44:=by kernel_rfl
 t47:=Tryz.underlying252
 a47:=Tryz.isAgg252
 z47:=Tryz.sizeOf252
 v47:=Tryz.zeroValue252
 i47:=by kernel_rfl
 t48:=Tryz.underlying415
 a48:=Tryz.isAgg415
 z48:=Tryz.sizeOf415
 v48:=Tryz.zeroValue415
 i48:=by kernel_rfl
 t50:=Tryz.underlying417
 a50:=Tryz.isAgg417
 z50:=Tryz.sizeOf417
 v50:=Tryz.zeroValue417
 i50:=by kernel_rfl
 t52:=Tryz.underlying330
 a52:=Tryz.isAgg330
 z52:=Tryz.sizeOf330
 v52:=Tryz.zeroValue330
 i52:=by kernel_rfl
 t55:=Tryz.underlying332
 a55:=Tryz.isAgg332
 z55:=Tryz.sizeOf332
 v55:=Tryz.zeroValue332
 i55:=by kernel_rfl
 t59:=Tryz.underlying373
 a59:=Tryz.isAgg373
 z59:=Tryz.sizeOf373
 v59:=Tryz.zeroValue373
 i59:=by kernel_rfl
 t60:=Tryz.underlying147
 a60:=Tryz.isAgg147
 z60:=Tryz.sizeOf147
 v60:=Tryz.zeroValue147
 i60:=by kernel_rfl
 t61:=Tryz.underlying374
 a61:=Tryz.isAgg374
 z61:=Tryz.sizeOf374
 t65:=Tryz.underlying401
 a65:=Tryz.isAgg401
 z65:=Tryz.sizeOf401
 v65:=Tryz.zeroValue401
 i65:=by kernel_rfl
 t66:=Tryz.underlying402
 a66:=Tryz.isAgg402
 z66:=Tryz.sizeOf402
 v66:=Tryz.zeroValue402
 i66:=by kernel_rfl
 t67:=Tryz.underlying192
 a67:=Tryz.isAgg192
 z67:=Tryz.sizeOf192
 v67:=Tryz.zeroValue192
 i67:=by kernel_rfl
 g0:=by kernel_rfl
 m0:=by kernel_rfl
 g1:=by kernel_rfl
 m1:=by kernel_rfl
 g2:=by kernel_rfl
 m2:=by kernel_rfl
 g3:=by kernel_rfl
 m3:=by kernel_rfl
 g4:=by kernel_rfl
 m4:=by kernel_rfl }
open Go.RowKit in
theorem Tryz.strconv_ParseUint_10_at32_ok (s:ByteArray) (hmax:s.size≤9223372036854775806) (u:Nat) (h:Lib.parseUintB 32 s.data.toList=.ok u) (w:World) :
  Calls Tryz.prog 359 #[.string s,.int .i64 10,.int .i64 32] w fun e w'=>e=.returned (.tuple #[.int .u64 u,.nilIface])∧(w'=w∨w'=Lib.bytesWorld w 5 s):=Any.strconv_ParseUint_10_at32_ok Tryz.laysPu14 s hmax u h w
def Tryz.laysPdq228_ren:Go.Shelf.Ren:=⟨fun|14=>172|20=>233|21=>234|22=>235|23=>236|24=>237|25=>238|26=>239|27=>240|46=>296|47=>250|48=>251|49=>297|50=>298|15=>116|57=>345|28=>191|29=>192|n=>n,fun|24=>79|22=>24|3=>3|25=>155|4=>4|0=>0|46=>232|45=>231|50=>125|66=>293|39=>170|55=>146|70=>297|76=>345|77=>157|53=>147|5=>5|9=>9|n=>n,fun|n=>n⟩
theorem Tryz.laysPdq228:Go.Proofs.SlLaysF0.n14 Tryz.prog Tryz.laysPdq228_ren:={
 mixed:=by kernel_rfl
 f14:=⟨Tryz.f172.name,by decide,Tryz.func172.trans (congrArg some (by kernel_rfl))⟩
 f15:=Tryz.func116.trans (congrArg some (by kernel_rfl))
 f20:=⟨Tryz.f233.name,by decide,Tryz.func233.trans (congrArg some (by kernel_rfl))⟩
 f21:=⟨Tryz.f234.name,by decide,Tryz.func234.trans (congrArg some (by kernel_rfl))⟩
 f22:=⟨Tryz.f235.name,by decide,Tryz.func235.trans (congrArg some (by kernel_rfl))⟩
 f23:=⟨Tryz.f236.name,by decide,Tryz.func236.trans (congrArg some (by kernel_rfl))⟩
 f24:=⟨Tryz.f237.name,by decide,Tryz.func237.trans (congrArg some (by kernel_rfl))⟩
 f25:=⟨Tryz.f238.name,by decide,Tryz.func238.trans (congrArg some (by kernel_rfl))⟩
 f26:=⟨Tryz.f239.name,by decide,Tryz.func239.trans (congrArg some (by kernel_rfl))⟩
 f27:=⟨Tryz.f240.name,by decide,Tryz.func240.trans (congrArg some (by kernel_rfl))⟩
 f28:=Tryz.func191.trans (congrArg some (by kernel_rfl))
 f29:=Tryz.func192.trans (congrArg some (by kernel_rfl))
 f46:=⟨Tryz.f296.name,by decide,Tryz.func296.trans (congrArg some (by kernel_rfl))⟩
 f47:=Tryz.func250.trans (congrArg some (by kernel_rfl))
 f48:=Tryz.func251.trans (congrArg some (by kernel_rfl))
 f49:=⟨Tryz.f297.name,by decide,Tryz.func297.trans (congrArg some (by kernel_rfl))⟩
 f50:=⟨Tryz.f298.name,by decide,Tryz.func298.trans (congrArg some (by kernel_rfl))⟩
 f57:=⟨Tryz.f345.name,by decide,Tryz.func345.trans (congrArg some (by kernel_rfl))⟩
 t0:=Tryz.underlying0
 a0:=Tryz.isAgg0
 z0:=Tryz.sizeOf0
 v0:=Tryz.zeroValue0
 t3:=Tryz.underlying3
 a3:=Tryz.isAgg3
 z3:=Tryz.sizeOf3
 v3:=Tryz.zeroValue3
 t4:=Tryz.underlying4
 a4:=Tryz.isAgg4
 z4:=Tryz.sizeOf4
 v4:=Tryz.zeroValue4
 t5:=Tryz.underlying5
 a5:=Tryz.isAgg5
 z5:=Tryz.sizeOf5
 v5:=Tryz.zeroValue5
 t9:=Tryz.underlying9
 a9:=Tryz.isAgg9
 z9:=Tryz.sizeOf9
 v9:=Tryz.zeroValue9
 t22:=Tryz.underlying24
 a22:=Tryz.isAgg24
 z22:=Tryz.sizeOf24
 v22:=Tryz.zeroValue24
 t25:=Tryz.underlying155
 a25:=Tryz.isAgg155
 z25:=Tryz.sizeOf155
 v25:=Tryz.zeroValue155
 t39:=Tryz.underlying170
 a39:=Tryz.isAgg170
 z39:=Tryz.sizeOf170
 v39:=Tryz.zeroValue170
 t45:=Tryz.underlying231
 a45:=Tryz.isAgg231
 z45:=Tryz.sizeOf231
 v45:=Tryz.zeroValue231
 t46:=Tryz.underlying232
 a46:=Tryz.isAgg232
 z46:=Tryz.sizeOf232
 v46:=Tryz.zeroValue232
 t50:=Tryz.underlying125
 a50:=Tryz.isAgg125
 z50:=Tryz.sizeOf125
 v50:=Tryz.zeroValue125
 t53:=Tryz.underlying147
 a53:=Tryz.isAgg147
 z53:=Tryz.sizeOf147
 v53:=Tryz.zeroValue147
 t55:=Tryz.underlying146
 a55:=Tryz.isAgg146
 z55:=Tryz.sizeOf146
 v55:=Tryz.zeroValue146
 t66:=Tryz.underlying293
 a66:=Tryz.isAgg293
 z66:=Tryz.sizeOf293
 v66:=Tryz.zeroValue293
 t70:=Tryz.underlying297
 a70:=Tryz.isAgg297
 z70:=Tryz.sizeOf297
 v70:=Tryz.zeroValue297
 t76:=Tryz.underlying345
 a76:=Tryz.isAgg345
 z76:=Tryz.sizeOf345
 v76:=Tryz.zeroValue345
 t77:=Tryz.underlying157
 a77:=Tryz.isAgg157
 z77:=Tryz.sizeOf157
 v77:=Tryz.zeroValue157 }
def Tryz.laysGrow176_ren:Go.Shelf.Ren:=⟨fun|4=>173|n=>n,fun|22=>25|25=>79|3=>3|4=>4|9=>9|20=>20|0=>0|n=>n,fun|n=>n⟩
theorem Tryz.laysGrow176:Go.Proofs.Lays8.n4 Tryz.prog Tryz.laysGrow176_ren:={
 mixed:=by kernel_rfl
 f4:=⟨Tryz.f173.name,by decide,Tryz.func173.trans (congrArg some (by kernel_rfl))⟩
 t0:=Tryz.underlying0
 a0:=Tryz.isAgg0
 z0:=Tryz.sizeOf0
 v0:=Tryz.zeroValue0
 t3:=Tryz.underlying3
 a3:=Tryz.isAgg3
 z3:=Tryz.sizeOf3
 v3:=Tryz.zeroValue3
 t4:=Tryz.underlying4
 a4:=Tryz.isAgg4
 z4:=Tryz.sizeOf4
 v4:=Tryz.zeroValue4
 t9:=Tryz.underlying9
 a9:=Tryz.isAgg9
 z9:=Tryz.sizeOf9
 v9:=Tryz.zeroValue9
 t20:=Tryz.underlying20
 a20:=Tryz.isAgg20
 z20:=Tryz.sizeOf20
 v20:=Tryz.zeroValue20
 t22:=Tryz.underlying25
 a22:=Tryz.isAgg25
 z22:=Tryz.sizeOf25
 v22:=Tryz.zeroValue25 }
end Go.Proofs
end
section
namespace Go.Proofs.YtnnhcbeiogaknaaGreatDoor
open Go.RowKit Go.Lib Go.Sort
def STm:Type:={ t:Tm // t.m0<65536∧t.m1<65536∧t.m2<65536∧t.m3<65536 }
instance:Inhabited STm:=⟨⟨⟨false,none,0,0,[],false,none,0,0,[],0,0,0,0⟩,by decide⟩⟩
def STm.key (t:STm):Nat:=Cg t.1.m0 t.1.m1 t.1.m2 t.1.m3
def Hk (t:STm):List Value:=t.1.cells
def cfT (s t:STm):Int:=Bz (t.key:Int) (s.key:Int)
theorem ltT (s t:STm):ltOf cfT s t=decide (t.key<s.key):=by
 unfold ltOf cfT;rw [Pz];by_cases h:t.key<s.key
 ·simp [h]
 ·by_cases h2:t.key=s.key<;>simp [h,h2]
theorem swoT:SWO (ltOf cfT) where
 irrefl x:=by rw [ltT];simp
 trans x y z h1 h2:=by rw [ltT] at *;simp at *;omega
 ntrans x y z h1 h2:=by rw [ltT] at *;simp at *;omega
theorem wD {w w':World} (h:Below w.heap.size w w') (hd:w.drawn≤w'.drawn):∃q os',w'=grow (w.drewN q) os':=by
 refine ⟨w'.drawn-w.drawn,w'.heap.extract w.heap.size w'.heap.size,?_⟩;obtain ⟨h1,h2,h3,h4,h5⟩:=h;obtain ⟨hp,tp,dr,os,ou⟩:=w';simp only at h1 h2 h3 h4 h5 hd ⊢;unfold grow World.drewN;simp only [World.mk.injEq];refine ⟨?_,h2,by omega,h1,h3⟩;apply Array.ext
 ·simp;omega
 ·intro i hi1 hi2;rw [Array.getElem_append]
  split
  ·next hlt =>
   have:=h5 i hlt;rw [Array.getElem?_eq_getElem hi1,Array.getElem?_eq_getElem hlt] at this;exact Option.some.inj this
  ·next hge =>
   simp only [Array.getElem_extract]
   congr 1
   omega
theorem mV (w:World) (s t:Tm) :
  Θ 104 #[s.val,t.val] w fun e w'=>e=.returned (.int .i64 (Iq (Dt t.m0 t.m1 t.m2 t.m3) (Dt s.m0 s.m1 s.m2 s.m3)))∧Below w.heap.size w w'∧w.drawn≤w'.drawn:=by
 have HB:=Ac w.heap.size w;go_enter Tryz.func104,Tryz.ntmps104;go_wp2_with fail;refine (uY _ _ _ _ _ _ _ _ _).mono ?_;rintro e w1 ⟨rfl,hb,hdr⟩;have HB2:=zI w hb;replace hdr:w.drawn≤w1.drawn:=hdr;go_wp2_with fail;go_ret;exact ⟨rfl,HB2,hdr⟩
theorem sY (blk off size:Nat) (w:World):CmpLays Tryz.prog 104 #[] Hk 8 cfT blk off size w:=by
 intro m os dk _ x y;refine (mV _ x.1 y.1).mono ?_;rintro e w' ⟨rfl,hb,hd⟩;refine ⟨?_,wD hb hd⟩;obtain ⟨x,hx⟩:=x;obtain ⟨y,hy⟩:=y;unfold cfT STm.key;rw [N6 hy.1 hy.2.1 hy.2.2.1 hy.2.2.2 hx.1 hx.2.1 hx.2.2.1 hx.2.2.2]
theorem Abf (blk off cap:Nat) (d:Array STm) (w:World) (hH:HoldsK Hk 8 w blk off d) (hblk:blk<w.heap.size) (hsz:d.size<4611686018427387904) :
  Θ 103 #[.slice (some ⟨blk,off,none⟩) d.size cap,.func (.func 104) #[] #[]] w fun e w' =>
   e=.returned (.tuple #[])∧∃d' n os,PermIn 0 d.size d d'∧SortedIn (ltOf cfT) 0 d.size d'∧w'=sortWorldK Hk 8 w blk off n d' os:=by
 have eg:∀args w,(callFunc 104 args).run Tryz.prog w=.ok (.enter 104 args) w:=enters_of Tryz.func104 qC rfl;have hlim:Lib.bitLen d.size<4611686018427387904:=Nat.lt_of_le_of_lt (Lib.bitLen_le d.size 62 qA qA) qA;have hk:∀x:STm,(Hk x).length=8:=fun _=>rfl
 have h1:∀x:STm,∀v∈Hk x,v.oneCell'=true:=fun x v hv=>by
  simp [Hk,Tm.cells] at hv;rcases hv with rfl|rfl|rfl|rfl|rfl|rfl|rfl|rfl<;>rfl
 have hp:=AnyQ.pdqsortCmpFunc_all Tryz.laysPdq228 8 (fun w=>by first|exact Tryz.isAgg79 w|kernel_rfl) (fun w=>by first|exact Tryz.sizeOf79 w|kernel_rfl) Hk cfT 104 #[] swoT blk off cap d w eg (sY blk off d.size w) ⟨hk,h1,hH,hblk⟩ (d.size+1) 0 d.size (Lib.bitLen d.size) d w qA rfl (SWK.start hH) (Ba _) (Ad _) hsz hlim (Or.inl rfl)
 change Θ 172 _ _ _ at hp
 have hl:Θ 116 #[.int .u64 (d.size:Int)] w fun e w'=>e=.returned (.int .i64 (Lib.bitLen d.size:Nat))∧w'=w:=by
  have h:=Tryz.bits_Len (d.size:Int) w qA qA;rwa [Int.toNat_natCast] at h
 have wr:IntKind.u64.wrap (d.size:Int)=d.size:=by simp [IntKind.wrap,IntKind.bits,IntKind.signed];omega
 have hsort:=pdq_sorts (ltOf cfT) swoT d 0 d.size (Lib.bitLen d.size) true true (Ba _) (Ad _) (Or.inl rfl);generalize pdq (ltOf cfT) d 0 d.size (Lib.bitLen d.size) true true=d' at *;clear hH hblk hlim hk h1 eg;go_enter Tryz.func103,Tryz.ntmps103;go_wp2_with (first|(go_at_call 116;refine hl.mono ?_;rintro e w' ⟨rfl,rfl⟩)|(go_at_call 172;refine hp.mono ?_;rintro e w' ⟨rfl,n,os,rfl⟩));exact bodyPost_end (v:=.tuple #[]) (by simp [results,Tryz.results103,go_sem]) rfl ⟨rfl,d',n,os,hsort.1,hsort.2,rfl⟩
theorem Vs (p:Γ) (cap:Nat) (w:World):Θ 103 #[.slice p 0 cap,.func (.func 104) #[] #[]] w fun e w'=>e=.returned (.tuple #[])∧w'=w:=by
 have hp:=fun lim W=>AnyF.pdqsortCmpFunc_none Tryz.laysPdq228 p cap lim (.func (.func 104) #[] #[]) W
 have hp':∀lim W,Θ 172 #[.slice p 0 cap,.int .i64 0,.int .i64 0,.int .i64 lim,.func (.func 104) #[] #[]] W fun e w'=>e=.returned (.tuple #[])∧w'=W:=hp
 have hl:∀W,Θ 116 #[.int .u64 0] W fun e w'=>e=.returned (.int .i64 (Lib.bitLen 0:Nat))∧w'=W:=fun W=>Tryz.bits_Len 0 W qA qA
 clear hp;go_enter Tryz.func103,Tryz.ntmps103;go_wp2_with (first|(go_at_call 116;refine (hl _).mono ?_;rintro e w' ⟨rfl,rfl⟩)|(go_at_call 172;refine (hp' _ _).mono ?_;rintro e w' ⟨rfl,rfl⟩));exact bodyPost_end (v:=.tuple #[]) (by simp [results,Tryz.results103,go_sem]) rfl ⟨rfl,rfl⟩
def Ot (l:List STm):List Value:=l.flatMap Hk
theorem eD (l:List STm) (t:STm):Ot (l++[t])=Ot l++t.1.cells:=by simp [Ot,Hk]
theorem gS (l:List STm) (i k:Nat) (hi:i<l.length) (hk:k<8):(Ot l)[i*8+k]? = (l[i].1.cells)[k]?:=by
 induction l generalizing i with
 | nil=>simp at hi
 | cons t l ih =>
  show (Hk t++Ot l)[i*8+k]? = _;have h8:(Hk t).length=8:=rfl
  cases i with
  | zero=>rw [Az qA];simp [Hk]
  | succ i =>
   rw [A5 qA,h8];have:=ih i (by simpa using hi);rw [show (i+1)*8+k-8=i*8+k by omega];simpa using this
theorem Mo {w:World} {base g c n:Nat} {l:List STm} (h:w.ownsRow base 79 8 (.slice (some ⟨g,0,none⟩) n c) n (Ot l)) (hn:n=l.length):HoldsK Hk 8 w g 0 l.toArray:=by
 subst hn;obtain ⟨h1,h2⟩:=h;rcases h2 with ⟨h2,_⟩|⟨g',cap,cur,hv,hg,hb,hnc,hm,hsz,htk⟩
 ·cases h2
 ·simp only [Value.slice.injEq,Option.some.injEq,Addr.mk.injEq,and_true,true_and] at hv;obtain ⟨rfl,rfl⟩:=hv;intro j hj;rw [size_flatK] at hj;simp only [List.size_toArray] at hj;refine ⟨?_,?_⟩
  ·have e1:j/8<l.length:=by omega
   have e2:=gS l (j/8) (j%8) e1 qA;rw [show j/8*8+j%8=j by omega] at e2;have e3:(Ot l)[j]? = cur[j]?:=by
    rw [←htk,List.getElem?_take,if_pos qA];simp
   rw [get_flatK _ _ _ _ (by simpa using hj)];have e4:w.cell? ⟨g,0+j,none⟩=cur[j]?:=by
    unfold World.cell?;simp [hb]
   rw [e4,←e3,e2];have e5:(l.toArray)[j/8]! = l[j/8]:=by rw [getElem!_pos _ _ (by simpa using e1)];simp
   rw [e5];have e6:j%8<(Hk l[j/8]).length:=by show j%8<8;omega
   rw [id,getElem!_pos (Hk l[j/8]) (j%8) e6];exact Ai (l:=Hk l[j/8]) e6
  ·unfold World.frozen?;simp [hb]
theorem Ug {w:World} {g:Nat} {d:Array STm} (h:HoldsK Hk 8 w g 0 d) {i:Nat} (hi:i<d.size):Ll w g (0+i*8) (d[i]!).1:=by
 have key:∀k,k<8→w.cell? ⟨g,0+i*8+k,none⟩=some (((d[i]!).1.cells)[k]!):=fun k hk=>by
  have h1:=(h (i*8+k) (by rw [size_flatK];omega)).1;rw [get_flatK _ _ _ _ qA] at h1;rw [show (i*8+k)/8=i by omega,show (i*8+k)%8=k by omega] at h1;rw [Nat.add_assoc];exact h1
 exact ⟨key 0 qA,key 1 qA,key 2 qA,key 3 qA,key 4 qA,key 5 qA,key 6 qA,key 7 qA⟩
theorem dD (k:Nat) (h:k<18446744073709551616):k/281474976710656<65536∧k/4294967296%65536<65536∧k/65536%65536<65536∧k%65536<65536∧Cg (k/281474976710656) (k/4294967296%65536) (k/65536%65536) (k%65536)=k:=by
 unfold Cg;omega
end Go.Proofs.YtnnhcbeiogaknaaGreatDoor
end
