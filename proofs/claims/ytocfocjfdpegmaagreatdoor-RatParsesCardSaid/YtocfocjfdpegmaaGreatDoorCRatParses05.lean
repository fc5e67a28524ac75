/- Texts under the proof, joined by a program (prune.py): Shelf, HDiv, HDivS, HDivL, HQuo, HGcd, HBits. -/
import Derived.Shelf.Strings.Builder1
import Derived.Shelf.Strings.Builder2
import Derived.Shelf.Strings.Trim
import Derived.Shelf.Small.Utf8
import Derived.Shelf.Small.Bits
import Derived.Shelf.Small.Strs
import Derived.Shelf.Small.Wraps
import Derived.Shelf.Strings.BuilderF
import Derived.Shelf.Strings.BuilderK
import Derived.Shelf.Strings.BuilderRune
import Derived.Shelf.Strconv.Atoi
import Derived.Shelf.Strconv.Itoa0
import Derived.Shelf.Strconv.Itoa1
import Derived.Shelf.LaysM
import Derived.Shelf.Strconv.Itoa2
import Derived.Shelf.Strconv.Itoa3
import Derived.Shelf.Strings.Search1
import Derived.Shelf.Strings.Prefix
import Derived.Shelf.Strings.Runes
import Derived.Shelf.Strings.AsciiSet
import Derived.Shelf.Bits.Mul64
import Derived.Shelf.Strings.Repeat
import Derived.Shelf.Unicode.DecodeSlow
import Derived.Shelf.Unicode.DecodeAny
import Derived.Test.YtocfocjfdpegmaaGreatDoorProg
import Derived.Test.YtocfocjfdpegmaaGreatDoorCRatParses04
set_option linter.unusedVariables false
set_option linter.unusedSimpArgs false
set_option exponentiation.threshold 20001
set_option maxHeartbeats 8000000
set_option maxRecDepth 100000
section
namespace Go.Proofs
open Go.Shelf
def Tryz.lays161_ren:Go.Shelf.Ren:=⟨fun|161=>174|231=>224|227=>225|233=>226|235=>227|228=>249|197=>250|151=>251|260=>264|152=>265|137=>223|119=>279|224=>280|225=>281|217=>248|266=>263|n=>n,fun|9=>9|4=>4|3=>3|5=>5|117=>218|116=>217|0=>0|124=>221|105=>238|21=>21|119=>271|46=>148|139=>274|138=>273|n=>n,fun|3=>3|4=>4|n=>n⟩
theorem Tryz.lays161:Go.Proofs.Lays.n161 Tryz.prog Tryz.lays161_ren:={
 mixed:=by kernel_rfl
 f119:=Tryz.func279.trans (congrArg some (by kernel_rfl))
 f137:=Tryz.func223.trans (congrArg some (by kernel_rfl))
 f151:=Tryz.func251.trans (congrArg some (by kernel_rfl))
 f152:=Tryz.func265.trans (congrArg some (by kernel_rfl))
 f161:=Tryz.func174.trans (congrArg some (by kernel_rfl))
 f197:=Tryz.func250.trans (congrArg some (by kernel_rfl))
 f217:=Tryz.func248.trans (congrArg some (by kernel_rfl))
 f224:=Tryz.func280.trans (congrArg some (by kernel_rfl))
 f225:=Tryz.func281.trans (congrArg some (by kernel_rfl))
 f227:=Tryz.func225.trans (congrArg some (by kernel_rfl))
 f228:=Tryz.func249.trans (congrArg some (by kernel_rfl))
 f231:=Tryz.func224.trans (congrArg some (by kernel_rfl))
 f233:=Tryz.func226.trans (congrArg some (by kernel_rfl))
 f235:=Tryz.func227.trans (congrArg some (by kernel_rfl))
 f260:=Tryz.func264.trans (congrArg some (by kernel_rfl))
 f266:=Tryz.func263.trans (congrArg some (by kernel_rfl))
 t0:=Tryz.underlying0
 a0:=Tryz.isAgg0
 z0:=Tryz.sizeOf0
 v0:=Tryz.zeroValue0
 t3:=Tryz.underlying3
 a3:=Tryz.isAgg3
 z3:=Tryz.sizeOf3
 v3:=Tryz.zeroValue3
 t4:=Tryz.underlying4
 a4:=Tryz.isAgg4
 z4:=Tryz.sizeOf4
 v4:=Tryz.zeroValue4
 t5:=Tryz.underlying5
 a5:=Tryz.isAgg5
 z5:=Tryz.sizeOf5
 v5:=Tryz.zeroValue5
 t9:=Tryz.underlying9
 a9:=Tryz.isAgg9
 z9:=Tryz.sizeOf9
 v9:=Tryz.zeroValue9
 t21:=Tryz.underlying21
 a21:=Tryz.isAgg21
 z21:=Tryz.sizeOf21
 v21:=Tryz.zeroValue21
 t46:=Tryz.underlying148
 a46:=Tryz.isAgg148
 z46:=Tryz.sizeOf148
 v46:=Tryz.zeroValue148
 t105:=Tryz.underlying238
 a105:=Tryz.isAgg238
 z105:=Tryz.sizeOf238
 v105:=Tryz.zeroValue238
 t116:=Tryz.underlying217
 a116:=Tryz.isAgg217
 z116:=Tryz.sizeOf217
 t117:=Tryz.underlying218
 a117:=Tryz.isAgg218
 z117:=Tryz.sizeOf218
 v117:=Tryz.zeroValue218
 t119:=Tryz.underlying271
 a119:=Tryz.isAgg271
 z119:=Tryz.sizeOf271
 t124:=Tryz.underlying221
 a124:=Tryz.isAgg221
 z124:=Tryz.sizeOf221
 v124:=Tryz.zeroValue221
 t138:=Tryz.underlying273
 a138:=Tryz.isAgg273
 z138:=Tryz.sizeOf273
 v138:=Tryz.zeroValue273
 t139:=Tryz.underlying274
 a139:=Tryz.isAgg274
 z139:=Tryz.sizeOf274
 v139:=Tryz.zeroValue274
 g3:=by kernel_rfl
 g4:=by kernel_rfl }
open Go.RowKit in
theorem Tryz.strings_TrimLeft_one (s:ByteArray) (c:UInt8) (hc:c.toNat<128) (w:World) :
  Calls Tryz.prog 174 #[.string s,.string ⟨#[c]⟩] w fun e w'=>e = .returned (.string ⟨(Lib.trimLeftB s.data.toList c).toArray⟩)∧w'=w:=Any.strings_TrimLeft_one Tryz.lays161 s c hc w
def Tryz.lays128_ren:Go.Shelf.Ren:=⟨fun|128=>168|n=>n,fun|51=>144|3=>3|4=>4|46=>148|5=>5|9=>9|n=>n,fun|n=>n⟩
theorem Tryz.lays128:Go.Proofs.Lays.n128 Tryz.prog Tryz.lays128_ren:={
 mixed:=by kernel_rfl
 f128:=Tryz.func168.trans (congrArg some (by kernel_rfl))
 t3:=Tryz.underlying3
 a3:=Tryz.isAgg3
 z3:=Tryz.sizeOf3
 v3:=Tryz.zeroValue3
 t4:=Tryz.underlying4
 a4:=Tryz.isAgg4
 z4:=Tryz.sizeOf4
 v4:=Tryz.zeroValue4
 t5:=Tryz.underlying5
 a5:=Tryz.isAgg5
 z5:=Tryz.sizeOf5
 v5:=Tryz.zeroValue5
 t9:=Tryz.underlying9
 a9:=Tryz.isAgg9
 z9:=Tryz.sizeOf9
 v9:=Tryz.zeroValue9
 t46:=Tryz.underlying148
 a46:=Tryz.isAgg148
 z46:=Tryz.sizeOf148
 v46:=Tryz.zeroValue148
 t51:=Tryz.underlying144
 a51:=Tryz.isAgg144
 z51:=Tryz.sizeOf144
 v51:=Tryz.zeroValue144 }
theorem Tryz.bits_Len32 (x:Int) (w:World) (h0:0≤x) (h1:x≤4294967295) :
  Calls Tryz.prog 168 #[.int .u32 x] w fun e w'=>e = .returned (.int .i64 (Lib.bitLen x.toNat))∧w'=w:=Any.bits_Len32 Tryz.lays128 x w h0 h1
def Tryz.lays133_ren:Go.Shelf.Ren:=⟨fun|133=>241|128=>168|n=>n,fun|51=>144|3=>3|4=>4|46=>148|5=>5|9=>9|n=>n,fun|n=>n⟩
theorem Tryz.lays133:Go.Proofs.Lays.n133 Tryz.prog Tryz.lays133_ren:={
 mixed:=by kernel_rfl
 f128:=Tryz.func168.trans (congrArg some (by kernel_rfl))
 f133:=Tryz.func241.trans (congrArg some (by kernel_rfl))
 t3:=Tryz.underlying3
 a3:=Tryz.isAgg3
 z3:=Tryz.sizeOf3
 v3:=Tryz.zeroValue3
 t4:=Tryz.underlying4
 a4:=Tryz.isAgg4
 z4:=Tryz.sizeOf4
 v4:=Tryz.zeroValue4
 t5:=Tryz.underlying5
 a5:=Tryz.isAgg5
 z5:=Tryz.sizeOf5
 v5:=Tryz.zeroValue5
 t9:=Tryz.underlying9
 a9:=Tryz.isAgg9
 z9:=Tryz.sizeOf9
 v9:=Tryz.zeroValue9
 t46:=Tryz.underlying148
 a46:=Tryz.isAgg148
 z46:=Tryz.sizeOf148
 v46:=Tryz.zeroValue148
 t51:=Tryz.underlying144
 a51:=Tryz.isAgg144
 z51:=Tryz.sizeOf144
 v51:=Tryz.zeroValue144 }
theorem Tryz.bits_LeadingZeros32 (x:Int) (w:World) (h0:0≤x) (h1:x≤4294967295) :
  Calls Tryz.prog 241 #[.int .u32 x] w fun e w'=>e = .returned (.int .i64 (32-(Lib.bitLen x.toNat:Int)))∧w'=w:=Any.bits_LeadingZeros32 Tryz.lays133 x w h0 h1
def Tryz.lays137_ren:Go.Shelf.Ren:=⟨fun|137=>223|217=>248|266=>263|n=>n,fun|9=>9|5=>5|3=>3|n=>n,fun|n=>n⟩
theorem Tryz.lays137:Go.Proofs.Lays.n137 Tryz.prog Tryz.lays137_ren:={
 mixed:=by kernel_rfl
 f137:=Tryz.func223.trans (congrArg some (by kernel_rfl))
 f217:=Tryz.func248.trans (congrArg some (by kernel_rfl))
 f266:=Tryz.func263.trans (congrArg some (by kernel_rfl))
 t3:=Tryz.underlying3
 a3:=Tryz.isAgg3
 z3:=Tryz.sizeOf3
 v3:=Tryz.zeroValue3
 t5:=Tryz.underlying5
 a5:=Tryz.isAgg5
 z5:=Tryz.sizeOf5
 v5:=Tryz.zeroValue5
 t9:=Tryz.underlying9
 a9:=Tryz.isAgg9
 z9:=Tryz.sizeOf9
 v9:=Tryz.zeroValue9 }
open Go.RowKit in
theorem Tryz.strings_IndexByte (s:ByteArray) (c:Int) (w:World) :
  Calls Tryz.prog 223 #[.string s,.int .u8 c] w fun e w'=>e = .returned (.int .i64 (Lib.indexByte s.data.toList c.toNat.toUInt8))∧w'=w:=Any.strings_IndexByte Tryz.lays137 s c w
def Tryz.lays103_ren:Go.Shelf.Ren:=⟨fun|103=>149|210=>213|206=>207|n=>n,fun|9=>9|4=>4|24=>159|3=>3|n=>n,fun|n=>n⟩
theorem Tryz.lays103:Go.Proofs.Lays.n103 Tryz.prog Tryz.lays103_ren:={
 mixed:=by kernel_rfl
 f103:=Tryz.func149.trans (congrArg some (by kernel_rfl))
 f206:=Tryz.func207.trans (congrArg some (by kernel_rfl))
 f210:=Tryz.func213.trans (congrArg some (by kernel_rfl))
 t3:=Tryz.underlying3
 a3:=Tryz.isAgg3
 z3:=Tryz.sizeOf3
 v3:=Tryz.zeroValue3
 t4:=Tryz.underlying4
 a4:=Tryz.isAgg4
 z4:=Tryz.sizeOf4
 v4:=Tryz.zeroValue4
 t9:=Tryz.underlying9
 a9:=Tryz.isAgg9
 z9:=Tryz.sizeOf9
 v9:=Tryz.zeroValue9
 t24:=Tryz.underlying159
 a24:=Tryz.isAgg159
 z24:=Tryz.sizeOf159
 v24:=Tryz.zeroValue159 }
open Go.RowKit in
theorem Tryz.strings_CutPrefix (s p:ByteArray) (w:World) :
  Calls Tryz.prog 149 #[.string s,.string p] w fun e w'=>e = .returned (.tuple #[.string ⟨(Lib.trimPrefix s.data.toList p.data.toList).toArray⟩,.bool (Lib.hasPrefix s.data.toList p.data.toList)])∧w'=w:=Any.strings_CutPrefix Tryz.lays103 s p w
def Tryz.lays172_ren:Go.Shelf.Ren:=⟨fun|172=>178|244=>228|245=>229|247=>252|279=>253|280=>254|281=>255|282=>256|287=>266|316=>267|171=>191|205=>268|321=>282|322=>283|243=>235|246=>262|283=>275|284=>276|285=>277|286=>278|129=>290|317=>289|318=>291|319=>292|320=>293|337=>295|338=>296|n=>n,fun|9=>9|3=>3|75=>156|76=>157|4=>4|5=>5|167=>241|37=>133|0=>0|85=>242|2=>2|168=>244|53=>167|175=>258|46=>148|210=>261|127=>203|145=>280|143=>278|21=>21|171=>266|173=>269|212=>285|51=>144|20=>20|213=>286|232=>289|233=>290|80=>72|n=>n,fun|15=>1|16=>2|17=>5|18=>6|19=>7|n=>n⟩
theorem Tryz.lays172:Go.Proofs.Lays.n172 Tryz.prog Tryz.lays172_ren:={
 mixed:=by kernel_rfl
 f129:=Tryz.func290.trans (congrArg some (by kernel_rfl))
 f171:=Tryz.func191.trans (congrArg some (by kernel_rfl))
 f172:=Tryz.func178.trans (congrArg some (by kernel_rfl))
 f205:=Tryz.func268.trans (congrArg some (by kernel_rfl))
 f243:=Tryz.func235.trans (congrArg some (by kernel_rfl))
 f244:=Tryz.func228.trans (congrArg some (by kernel_rfl))
 f245:=Tryz.func229.trans (congrArg some (by kernel_rfl))
 f246:=Tryz.func262.trans (congrArg some (by kernel_rfl))
 f247:=Tryz.func252.trans (congrArg some (by kernel_rfl))
 f279:=Tryz.func253.trans (congrArg some (by kernel_rfl))
 f280:=Tryz.func254.trans (congrArg some (by kernel_rfl))
 f281:=Tryz.func255.trans (congrArg some (by kernel_rfl))
 f282:=Tryz.func256.trans (congrArg some (by kernel_rfl))
 f283:=Tryz.func275.trans (congrArg some (by kernel_rfl))
 f284:=Tryz.func276.trans (congrArg some (by kernel_rfl))
 f285:=Tryz.func277.trans (congrArg some (by kernel_rfl))
 f286:=Tryz.func278.trans (congrArg some (by kernel_rfl))
 f287:=Tryz.func266.trans (congrArg some (by kernel_rfl))
 f316:=Tryz.func267.trans (congrArg some (by kernel_rfl))
 f317:=Tryz.func289.trans (congrArg some (by kernel_rfl))
 f318:=Tryz.func291.trans (congrArg some (by kernel_rfl))
 f319:=Tryz.func292.trans (congrArg some (by kernel_rfl))
 f320:=Tryz.func293.trans (congrArg some (by kernel_rfl))
 f321:=Tryz.func282.trans (congrArg some (by kernel_rfl))
 f322:=Tryz.func283.trans (congrArg some (by kernel_rfl))
 f337:=Tryz.func295.trans (congrArg some (by kernel_rfl))
 f338:=Tryz.func296.trans (congrArg some (by kernel_rfl))
 t0:=Tryz.underlying0
 a0:=Tryz.isAgg0
 z0:=Tryz.sizeOf0
 v0:=Tryz.zeroValue0
 t2:=Tryz.underlying2
 a2:=Tryz.isAgg2
 z2:=Tryz.sizeOf2
 v2:=Tryz.zeroValue2
 t3:=Tryz.underlying3
 a3:=Tryz.isAgg3
 z3:=Tryz.sizeOf3
 v3:=Tryz.zeroValue3
 t4:=Tryz.underlying4
 a4:=Tryz.isAgg4
 z4:=Tryz.sizeOf4
 v4:=Tryz.zeroValue4
 t5:=Tryz.underlying5
 a5:=Tryz.isAgg5
 z5:=Tryz.sizeOf5
 v5:=Tryz.zeroValue5
 t9:=Tryz.underlying9
 a9:=Tryz.isAgg9
 z9:=Tryz.sizeOf9
 v9:=Tryz.zeroValue9
 t20:=Tryz.underlying20
 a20:=Tryz.isAgg20
 z20:=Tryz.sizeOf20
 v20:=Tryz.zeroValue20
 t21:=Tryz.underlying21
 a21:=Tryz.isAgg21
 z21:=Tryz.sizeOf21
 v21:=Tryz.zeroValue21
 t37:=Tryz.underlying133
 a37:=Tryz.isAgg133
 z37:=Tryz.sizeOf133
 v37:=Tryz.zeroValue133
 t46:=Tryz.underlying148
 a46:=Tryz.isAgg148
 z46:=Tryz.sizeOf148
 v46:=Tryz.zeroValue148
 t51:=Tryz.underlying144
 a51:=Tryz.isAgg144
 z51:=Tryz.sizeOf144
 v51:=Tryz.zeroValue144
 t53:=Tryz.underlying167
 a53:=Tryz.isAgg167
 z53:=Tryz.sizeOf167
 v53:=Tryz.zeroValue167
 t75:=Tryz.underlying156
 a75:=Tryz.isAgg156
 z75:=Tryz.sizeOf156
 v75:=Tryz.zeroValue156
 t76:=Tryz.underlying157
 a76:=Tryz.isAgg157
 z76:=Tryz.sizeOf157
 v76:=Tryz.zeroValue157
 t85:=Tryz.underlying242
 a85:=Tryz.isAgg242
 z85:=Tryz.sizeOf242
 v85:=Tryz.zeroValue242
 t127:=Tryz.underlying203
 a127:=Tryz.isAgg203
 z127:=Tryz.sizeOf203
 v127:=Tryz.zeroValue203
 t143:=Tryz.underlying278
 a143:=Tryz.isAgg278
 z143:=Tryz.sizeOf278
 v143:=Tryz.zeroValue278
 t145:=Tryz.underlying280
 a145:=Tryz.isAgg280
 z145:=Tryz.sizeOf280
 v145:=Tryz.zeroValue280
 t167:=Tryz.underlying241
 a167:=Tryz.isAgg241
 z167:=Tryz.sizeOf241
 v167:=Tryz.zeroValue241
 t168:=Tryz.underlying244
 a168:=Tryz.isAgg244
 z168:=Tryz.sizeOf244
 v168:=Tryz.zeroValue244
 t171:=Tryz.underlying266
 a171:=Tryz.isAgg266
 z171:=Tryz.sizeOf266
 v171:=Tryz.zeroValue266
 t173:=Tryz.underlying269
 a173:=Tryz.isAgg269
 z173:=Tryz.sizeOf269
 v173:=Tryz.zeroValue269
 t175:=Tryz.underlying258
 a175:=Tryz.isAgg258
 z175:=Tryz.sizeOf258
 v175:=Tryz.zeroValue258
 t210:=Tryz.underlying261
 a210:=Tryz.isAgg261
 z210:=Tryz.sizeOf261
 v210:=Tryz.zeroValue261
 t212:=Tryz.underlying285
 a212:=Tryz.isAgg285
 z212:=Tryz.sizeOf285
 v212:=Tryz.zeroValue285
 t213:=Tryz.underlying286
 a213:=Tryz.isAgg286
 z213:=Tryz.sizeOf286
 t232:=Tryz.underlying289
 a232:=Tryz.isAgg289
 z232:=Tryz.sizeOf289
 v232:=Tryz.zeroValue289
 t233:=Tryz.underlying290
 a233:=Tryz.isAgg290
 z233:=Tryz.sizeOf290
 v233:=Tryz.zeroValue290
 g15:=by kernel_rfl
 g16:=by kernel_rfl
 g17:=by kernel_rfl
 g18:=by kernel_rfl
 g19:=by kernel_rfl }
open Go.RowKit in
theorem Tryz.strconv_Atoi (s:ByteArray) (n:Int) (hl:s.size≤18) (h:Lib.atoi s.data.toList=some n) (w:World) :
  Calls Tryz.prog 178 #[.string s] w fun e w'=>e = .returned (.tuple #[.int .i64 n,.nilIface])∧∃ t,w'=Lib.bytesWorld w 5 t:=Any.strconv_Atoi Tryz.lays172 s n hl h w
def Tryz.lays101_ren:Go.Shelf.Ren:=⟨fun|101=>153|208=>215|206=>207|n=>n,fun|9=>9|4=>4|3=>3|n=>n,fun|n=>n⟩
theorem Tryz.lays101:Go.Proofs.Lays.n101 Tryz.prog Tryz.lays101_ren:={
 mixed:=by kernel_rfl
 f101:=Tryz.func153.trans (congrArg some (by kernel_rfl))
 f206:=Tryz.func207.trans (congrArg some (by kernel_rfl))
 f208:=Tryz.func215.trans (congrArg some (by kernel_rfl))
 t3:=Tryz.underlying3
 a3:=Tryz.isAgg3
 z3:=Tryz.sizeOf3
 v3:=Tryz.zeroValue3
 t4:=Tryz.underlying4
 a4:=Tryz.isAgg4
 z4:=Tryz.sizeOf4
 v4:=Tryz.zeroValue4
 t9:=Tryz.underlying9
 a9:=Tryz.isAgg9
 z9:=Tryz.sizeOf9
 v9:=Tryz.zeroValue9 }
open Go.RowKit Go.Lib in
theorem Tryz.strings_TrimPrefix (s p:ByteArray) (w:World) :
  Calls Tryz.prog 153 #[.string s,.string p] w fun e w'=>e = .returned (.string ⟨(Lib.trimPrefix s.data.toList p.data.toList).toArray⟩)∧w'=w:=Any.strings_TrimPrefix Tryz.lays101 s p w
def Tryz.lays105_ren:Go.Shelf.Ren:=⟨fun|105=>61|212=>141|99=>142|165=>143|166=>144|170=>145|169=>146|263=>205|264=>206|206=>207|240=>208|241=>209|276=>245|277=>246|n=>n,fun|9=>9|3=>3|4=>4|20=>20|0=>0|46=>148|109=>149|5=>5|72=>153|76=>157|51=>144|146=>199|53=>167|148=>201|70=>151|37=>133|75=>156|127=>203|164=>233|80=>72|n=>n,fun|n=>n⟩
theorem Tryz.lays105:Go.Proofs.Lays.n105 Tryz.prog Tryz.lays105_ren:={
 mixed:=by kernel_rfl
 f99:=Tryz.func142.trans (congrArg some (by kernel_rfl))
 f105:=Tryz.func61.trans (congrArg some (by kernel_rfl))
 f165:=Tryz.func143.trans (congrArg some (by kernel_rfl))
 f166:=Tryz.func144.trans (congrArg some (by kernel_rfl))
 f169:=Tryz.func146.trans (congrArg some (by kernel_rfl))
 f170:=Tryz.func145.trans (congrArg some (by kernel_rfl))
 f206:=Tryz.func207.trans (congrArg some (by kernel_rfl))
 f212:=Tryz.func141.trans (congrArg some (by kernel_rfl))
 f240:=Tryz.func208.trans (congrArg some (by kernel_rfl))
 f241:=Tryz.func209.trans (congrArg some (by kernel_rfl))
 f263:=Tryz.func205.trans (congrArg some (by kernel_rfl))
 f264:=Tryz.func206.trans (congrArg some (by kernel_rfl))
 f276:=Tryz.func245.trans (congrArg some (by kernel_rfl))
 f277:=Tryz.func246.trans (congrArg some (by kernel_rfl))
 t0:=Tryz.underlying0
 a0:=Tryz.isAgg0
 z0:=Tryz.sizeOf0
 v0:=Tryz.zeroValue0
 t3:=Tryz.underlying3
 a3:=Tryz.isAgg3
 z3:=Tryz.sizeOf3
 v3:=Tryz.zeroValue3
 t4:=Tryz.underlying4
 a4:=Tryz.isAgg4
 z4:=Tryz.sizeOf4
 v4:=Tryz.zeroValue4
 t5:=Tryz.underlying5
 a5:=Tryz.isAgg5
 z5:=Tryz.sizeOf5
 v5:=Tryz.zeroValue5
 t9:=Tryz.underlying9
 a9:=Tryz.isAgg9
 z9:=Tryz.sizeOf9
 v9:=Tryz.zeroValue9
 t20:=Tryz.underlying20
 a20:=Tryz.isAgg20
 z20:=Tryz.sizeOf20
 v20:=Tryz.zeroValue20
 t37:=Tryz.underlying133
 a37:=Tryz.isAgg133
 z37:=Tryz.sizeOf133
 v37:=Tryz.zeroValue133
 t46:=Tryz.underlying148
 a46:=Tryz.isAgg148
 z46:=Tryz.sizeOf148
 v46:=Tryz.zeroValue148
 t51:=Tryz.underlying144
 a51:=Tryz.isAgg144
 z51:=Tryz.sizeOf144
 v51:=Tryz.zeroValue144
 t53:=Tryz.underlying167
 a53:=Tryz.isAgg167
 z53:=Tryz.sizeOf167
 v53:=Tryz.zeroValue167
 t70:=Tryz.underlying151
 a70:=Tryz.isAgg151
 z70:=Tryz.sizeOf151
 v70:=Tryz.zeroValue151
 t72:=Tryz.underlying153
 a72:=Tryz.isAgg153
 z72:=Tryz.sizeOf153
 v72:=Tryz.zeroValue153
 t75:=Tryz.underlying156
 a75:=Tryz.isAgg156
 z75:=Tryz.sizeOf156
 v75:=Tryz.zeroValue156
 t76:=Tryz.underlying157
 a76:=Tryz.isAgg157
 z76:=Tryz.sizeOf157
 v76:=Tryz.zeroValue157
 t109:=Tryz.underlying149
 a109:=Tryz.isAgg149
 z109:=Tryz.sizeOf149
 v109:=Tryz.zeroValue149
 t127:=Tryz.underlying203
 a127:=Tryz.isAgg203
 z127:=Tryz.sizeOf203
 v127:=Tryz.zeroValue203
 t146:=Tryz.underlying199
 a146:=Tryz.isAgg199
 z146:=Tryz.sizeOf199
 v146:=Tryz.zeroValue199
 t148:=Tryz.underlying201
 a148:=Tryz.isAgg201
 z148:=Tryz.sizeOf201
 v148:=Tryz.zeroValue201
 t164:=Tryz.underlying233
 a164:=Tryz.isAgg233
 z164:=Tryz.sizeOf233
 v164:=Tryz.zeroValue233 }
theorem Tryz.Builder_Extra_105:Builder.Extra Tryz.prog Tryz.lays105_ren:={
 sizeBuilder:=by kernel_rfl
 liesBuilder:=by kernel_rfl
 t5:=Tryz.underlying5
 a5:=Tryz.isAgg5
 z5:=Tryz.sizeOf5
 v5:=Tryz.zeroValue5
 infoByte:=by kernel_rfl
 cellsByte:=by kernel_rfl
 sizeByte:=by kernel_rfl
 neB5:=by decide }
open Go.RowKit Go.Lib in
theorem Tryz.strings_Repeat (s:ByteArray) (c:Nat) (w:World) (hc:c≤9223372036854775807) (hlen:s.size*c≤140737488355328) :
  Calls Tryz.prog 61 #[.string s,.int .i64 c] w fun e w'=>e = .returned (.string ⟨(Lib.repeatL s.data.toList c).toArray⟩)∧Below w.heap.size w w':=Any.strings_Repeat Tryz.lays105 Tryz.Builder_Extra_105 s c w hc hlen
end Go.Proofs
end
section
namespace Go.Proofs.ZP
open Go.RowKit Go.Proofs.ZW.Wa
theorem zbZ:∀ (f x:Nat),x<2^f→x<2^Lib.bitLenAux f x∧(x≠0→2^(Lib.bitLenAux f x-1)≤x∧1≤Lib.bitLenAux f x)
 | 0,x,h=>by
  have:x=0:=by simpa using h
  subst this; simp [Lib.bitLenAux]
 | f + 1, x, h => by
  simp only [Lib.bitLenAux]
  by_cases hx:x=0
  ·subst hx; simp
  ·rw [if_neg hx]
   have ih:=zbZ f (x/2) (by rw [Nat.pow_succ] at h; omega)
   have h00:x/2=0→Lib.bitLenAux f (x/2)=0:=fun h=>by rw [h]; cases f<;>simp [Lib.bitLenAux]
   generalize Lib.bitLenAux f (x/2)=n at ih h00
   refine ⟨?_,fun _=>⟨?_,by omega⟩⟩
   ·rw [Nat.add_comm,Nat.pow_succ]; omega
   ·rw [Nat.add_sub_cancel_left]
    by_cases h2:x/2=0
    ·have:x=1:=by omega
     subst this
     rw [h00 h2]; decide
    ·obtain ⟨h3,h4⟩:=ih.2 h2
     obtain ⟨m,rfl⟩:∃ m,n=m+1:=⟨n-1,by omega⟩
     rw [Nat.add_sub_cancel] at h3
     rw [Nat.pow_succ]; omega
structure Quot (w w':World) (a b:Int) (A1:Option Addr) (c1:Nat) (qs:List Int) (A2:Option Addr) (c2:Nat) (rs:List Int):Prop where
 wq:WAt w' A1 c1 qs
 wr:WAt w' A2 c2 rs
 dq:Wd qs
 dr:Wd rs
 tq:qs.getLast? ≠ some 0
 tr:rs.getLast? ≠ some 0
 eq:a=b*val qs+val rs
 lt:val rs<b
 below:Below w.heap.size w w'
theorem divide_lt (A:Option Addr) (cx:Nat) (xs:List Int) (A':Option Addr) (cy:Nat) (ys:List Int) (w:World) (hx:WAt w A cx xs) (hy:WAt w A' cy ys) (dx:Wd xs) (dy:Wd ys) (tx:xs.getLast? ≠ some 0) (ty:ys.getLast? ≠ some 0) (lx:xs.length≤34359738368) (hlt:val xs<val ys) :
  Calls Tryz.prog 202 #[.slice A xs.length cx,.slice A' ys.length cy] w fun e w'=>∃ A1 c1 qs A2 c2 rs,e = .returned (.tuple #[.slice A1 (List.length qs) c1,.slice A2 (List.length rs) c2])∧Quot w w' (val xs) (val ys) A1 c1 qs A2 c2 rs:=by
 go_enter Tryz.func202,Tryz.ntmps202
 go_wp2_with fail
 refine (zaR A cx xs A' cy ys _ hx hy dx dy tx ty).mono ?_
 rintro e w1 ⟨r,rfl,hr,hrb,⟨⟨nd,rfl⟩⟩⟩
 have hr0:=za7 hr
 have hr1:r<0:=by omega
 clear hr hr0
 go_wp2_with fail
 refine (zbz A cx xs _ (hx.below (zai _ _)) (by omega)).mono ?_
 rintro e w2 ⟨A2,c2,rfl,hw2,hb2⟩
 go_wp2
 go_ret2
 exact ⟨none,0,[],A2,c2,xs,rfl,WAt.nil _,hw2,Wd.nil,dx,by simp,tx,by simp [val],hlt,bthen (zai _ _) hb2⟩
theorem divide_one (A:Option Addr) (cx:Nat) (xs:List Int) (A':Option Addr) (cy:Nat) (y:Int) (w:World) (hx:WAt w A cx xs) (hy:WAt w A' cy [y]) (dx:Wd xs) (dy:Wd [y]) (tx:xs.getLast? ≠ some 0) (hy0:y≠0) (lx:xs.length≤34359738368) (hge:val [y]≤val xs) :
  Calls Tryz.prog 202 #[.slice A xs.length cx,.slice A' 1 cy] w fun e w'=>∃ A1 c1 qs A2 c2 rs,e = .returned (.tuple #[.slice A1 (List.length qs) c1,.slice A2 (List.length rs) c2])∧Quot w w' (val xs) (val [y]) A1 c1 qs A2 c2 rs:=by
 have hyb:=dy y (by simp)
 obtain ⟨ad,rfl⟩:=hy.ptr (by simp)
 have hcy:=hy.cell (j:=0) (by simp)
 rw [List.getD_cons_zero,show ad.add 0=ad by simp [Addr.add]] at hcy
 go_enter Tryz.func202,Tryz.ntmps202
 go_wp2_with fail
 refine (zaR A cx xs (some ad) cy [y] _ hx hy dx dy tx (by simpa using hy0)).mono ?_
 rintro e w1 ⟨r,rfl,hr,hrb,hd⟩
 obtain ⟨⟨nd,hw1⟩⟩:=hd
 have hb1:Below w.heap.size w w1:=by subst hw1; exact zai _ _
 have hcy1:w1.cell? ad=some (.int .u32 y):=by subst hw1; exact hcy
 have hr0:=za7 hr
 have hr1:0≤r:=by omega
 have HB1:=Lib.hid hb1
 clear hr hr0 hw1 hcy hb1
 go_wp2_with fail
 refine (small_calls A cx xs y _ (hx.below HB1.out) dx (by omega) hyb.2 (by omega)).mono ?_
 rintro e w2 ⟨A2,c2,zs,s,rfl,hw2,hz2,hzl,hs0,hs1,hv,hb2⟩
 have HV:=Lib.hid hv
 have HB2:=Lib.hid (bthen HB1.out hb2)
 have HZL:=Lib.hid hzl
 clear hv hzl hb2
 go_wp2_with fail
 refine (zb0 A2 c2 zs _ hw2 hz2).mono ?_
 rintro e w3 ⟨n,rfl,hcut,rfl⟩
 have hl:=WAt.lit w2 [s] (by simp)
 have HL:=Lib.hid hl
 clear hl
 go_wp2_with fail
 refine (zb0 _ _ [s] _ HL.out (Wd.cons hs0 (by omega) Wd.nil)).mono ?_
 rintro e w4 ⟨n2,rfl,hcut2,rfl⟩
 go_wp2
 go_ret2
 have e1:(zs.take n).length=n:=by rw [List.length_take]; have:=hcut.le; omega
 have e2:(([s]:List Int).take n2).length=n2:=by rw [List.length_take]; have:=hcut2.le; omega
 refine ⟨A2,c2,zs.take n,_,_,[s].take n2,by rw [e1,e2]; rfl,(hw2.below (zaa (Below.refl _ _) _)).take n hcut.le,HL.out.take n2 hcut2.le,hz2.take n,(Wd.cons hs0 (by omega) Wd.nil).take n2,hcut.top,hcut2.top,?_,?_,bthen HB2.out (zaa (Below.refl _ _) _)⟩
 ·rw [hcut.eq,hcut2.eq,HV.out]; simp [val]
 ·rw [hcut2.eq]; simp [val]; exact hs1
theorem KeepB.grown {w w':World} {g:Nat} (h:KeepB w w' g):w.grownBy w' (some g):=⟨h.os,h.tape,h.output,h.size,fun k hk hne=>h.other k hk (fun e=>hne (by rw [e]))⟩
theorem zcj (us:List Int) (i:Nat) (h:i≤us.length):val us=val (us.take i)+4294967296^i*val (us.drop i):=by
 have:=za0 (us.take i) (us.drop i)
 rw [List.take_append_drop,List.length_take,Nat.min_eq_left h] at this
 exact this
structure DSt (w wr:World) (g1 N cap1 gq m g2 cap2 j:Nat) (X:Int) (vs us qs:List Int):Prop where
 le:j≤m
 ul:us.length=N
 nl:N=m+vs.length
 ql:qs.length=m
 du:Wd us
 dq:Wd qs
 ou:wr.ownsRow w.heap.size 144 1 (.slice (some ⟨g1,0,none⟩) N cap1) N (nums .u32 us)
 oq:wr.ownsRow w.heap.size 144 1 (.slice (some ⟨gq,0,none⟩) m m) m (nums .u32 qs)
 wv:WAt wr (some ⟨g2,0,none⟩) cap2 vs
 below:Below w.heap.size w wr
 eq:X=val (qs.drop j)*4294967296^j*val vs+val us
 lt:val (us.drop j)<val vs
theorem DSt.pure {i m:Nat} {X q:Int} {vs us qs us':List Int} (hn:0<vs.length) (hi:i<m) (hul:us.length=m+vs.length) (hql:qs.length=m) (du:Wd us) (dv:Wd vs) (dq:Wd qs)
  (heq:X=val (qs.drop (i+1))*4294967296^(i+1)*val vs+val us) (hlt:val (us.drop (i+1))<val vs) :
  val ((us.drop i).take (vs.length+1))<4294967296*val vs ∧
  (us'.length=vs.length+1→val ((us.drop i).take (vs.length+1))=q*val vs+val us'→val us'<val vs →
   X=val ((qs.set i q).drop i)*4294967296^i*val vs+val (us.take i++us'++us.drop (i+vs.length+1))∧val ((us.take i++us'++us.drop (i+vs.length+1)).drop i)<val vs):=by
 have h1:=zcj (us.drop (i+1)) vs.length (by rw [List.length_drop]; omega)
 rw [List.drop_drop] at h1
 have p1:=zap ((du.drop (i+1)).take vs.length)
 have p2:=zap (du.drop (i+1+vs.length))
 have p3:=zbH dv
 have pB:(0:Int)<4294967296^vs.length:=Int.pow_pos (by decide)
 have hpost:val (us.drop (i+1+vs.length))=0:=by
  apply Classical.byContradiction
  intro h
  have:=Int.mul_le_mul_of_nonneg_left (show 1≤val (us.drop (i+1+vs.length)) by omega) (Int.le_of_lt pB)
  omega
 have hpost':val (us.drop (i+vs.length+1))=0:=by rw [show i+vs.length+1=i+1+vs.length by omega]; exact hpost
 rw [hpost,Int.mul_zero,Int.add_zero] at h1
 have hd:=zcd (xs:=us) (i:=i) (by omega)
 have hw:val ((us.drop i).take (vs.length+1))=rd us (i:Int)+4294967296*val (us.drop (i+1)):=by
  rw [hd,List.take_succ_cons,h1]; rfl
 have hb:=du.rd (i:Int)
 refine ⟨by rw [hw]; omega,fun hl' he hlt' => ?_⟩
 have hs:=zcj us i (by omega)
 have hsd:val (us.drop i)=val ((us.drop i).take (vs.length+1)):=by rw [hw,hd]; rfl
 have e1:val (us.take i++us'++us.drop (i+vs.length+1))=val (us.take i)+4294967296^i*val us':=by
  rw [List.append_assoc,za0,za0,hpost',Int.mul_zero,Int.add_zero,List.length_take,Nat.min_eq_left (by omega)]
 have e2:val ((us.take i++us'++us.drop (i+vs.length+1)).drop i)=val us':=by
  rw [List.append_assoc,List.drop_append_of_le_length (by rw [List.length_take]; omega),List.drop_of_length_le (by rw [List.length_take]; omega),List.nil_append,za0,hpost',Int.mul_zero,Int.add_zero]
 refine ⟨?_,by rw [e2]; exact hlt'⟩
 rw [e1,heq,hs,hsd,he,zcV (by omega)]
 have e3:val (q :: qs.drop (i+1))=q+4294967296*val (qs.drop (i+1)):=rfl
 rw [e3,Int.pow_succ]
 generalize val (qs.drop (i+1))=Q
 generalize (4294967296:Int)^i=P
 generalize val vs=V
 generalize val us'=U
 generalize val (us.take i)=T
 grind
theorem DSt.step {w wr:World} {g1 N cap1 gq m g2 cap2 i:Nat} {X:Int} {vs us qs:List Int} (h:DSt w wr g1 N cap1 gq m g2 cap2 (i+1) X vs us qs) (hn:0<vs.length) (dv:Wd vs) (htop:rd vs ((vs.length-1:Nat):Int)≠0) (h12:g2≠g1) (h1q:gq≠g1) (h2q:g2≠gq) (hg1:w.heap.size≤g1) (hgq:w.heap.size≤gq) (cu:Nat) (hcu:vs.length+1≤cu) (hmax:vs.length≤34359738369) :
  Calls Tryz.prog 243 #[.slice (some ⟨g1,i,none⟩) (vs.length+1) cu,.slice (some ⟨g2,0,none⟩) vs.length cap2] wr fun e w'=>∃ (q:Int) (us':List Int),e = .returned (.int .u32 q)∧0≤q∧q<4294967296∧(∃ v,w'.cell? ⟨gq,i,none⟩=some (.int .u32 v))∧w'.frozen? ⟨gq,i,none⟩=false ∧
   DSt w (w'.setCell ⟨gq,i,none⟩ (.int .u32 q)) g1 N cap1 gq m g2 cap2 i X vs us' (qs.set i q):=by
 have hi:i<m:=h.le
 have hul:=h.ul
 have hnl:=h.nl
 have hpre:(us.take i).length=i:=by rw [List.length_take]; omega
 have hwl:((us.drop i).take (vs.length+1)).length=vs.length+1:=by rw [List.length_take,List.length_drop]; omega
 have hsplit:us.take i++(us.drop i).take (vs.length+1)++us.drop (i+vs.length+1)=us:=by
  rw [List.append_assoc,show i+vs.length+1=i+(vs.length+1) by omega,←List.drop_drop,List.take_append_drop,List.take_append_drop]
 have hW:Win wr w.heap.size g1 N cap1 (us.take i) ((us.drop i).take (vs.length+1)) (us.drop (i+vs.length+1)):=by
  unfold Win; rw [hsplit]; exact h.ou
 have hp:=fun (q:Int) (us':List Int)=>DSt.pure (q:=q) (us':=us') hn hi (by omega) h.ql h.du dv h.dq h.eq h.lt
 have hg:=guess_calls g1 N cap1 cu w.heap.size (us.take i) ((us.drop i).take (vs.length+1)) (us.drop (i+vs.length+1)) vs _ cap2 wr hW h.wv (fun ad he=>by cases he; exact h12) hwl hn ((h.du.drop i).take _) dv htop (hp 0 []).1 hcu hmax
 rw [hpre] at hg
 refine hg.mono fun e w' ⟨q,us',he,hq0,hq1,hl',hd',hW',hk,hve,hvl⟩ => ?_
 obtain ⟨hE,hL⟩:=(hp q us').2 hl' hve hvl
 have hoq:=h.oq.kept hk.grown (Or.inr (by simpa [Value.ownBlock] using h1q))
 have hql:=h.ql
 obtain ⟨hs1,hs2⟩:=zbP hoq (i:Int) (by omega) (by omega)
 have hst:=zaX hoq (i:Int) q
 rw [Int.toNat_natCast] at hs1 hs2 hst
 have hbl:=KeepB.below h.below hk hg1
 have hk2:KeepB w' (w'.setCell ⟨gq,i,none⟩ (.int .u32 q)) gq:=(KeepB.refl w' gq).set i _
 refine ⟨q,us.take i++us'++us.drop (i+vs.length+1),he,hq0,hq1,⟨_,hs1⟩,hs2,?_⟩
 exact {
  le:=by omega
  ul:=by rw [List.length_append,List.length_append,hpre,hl',List.length_drop]; omega
  nl:=hnl
  ql:=by rw [List.length_set]; exact hql
  du:=((h.du.take i).append hd').append (h.du.drop _)
  dq:=zbA h.dq i hq0 hq1
  ou:=(show w'.ownsRow w.heap.size 144 1 (.slice (some ⟨g1,0,none⟩) N cap1) N _ from hW').kept hk2.grown (Or.inr (by simpa [Value.ownBlock] using (fun e=>h1q e.symm)))
  oq:=hst.1
  wv:=(h.wv.keepB hk (fun ad he=>by cases he; exact h12)).keepB hk2 (fun ad he=>by cases he; exact h2q)
  below:=KeepB.below hbl hk2 hgq
  eq:=hE
  lt:=hL }
theorem DSt.start {w wr:World} {g1 N cap1 gq m g2 cap2 s:Nat} {xs us vs:List Int} (dx:Wd xs) (dz:Wd us) (hs:s≤31) (hm:m+vs.length=xs.length+1) (hn:0<vs.length) (hul:us.length=xs.length+1) (hN:N=xs.length+1) (hu:val us=val xs*2^s) (hv:2147483648*4294967296^(vs.length-1)≤val vs)
  (ou:wr.ownsRow w.heap.size 144 1 (.slice (some ⟨g1,0,none⟩) N cap1) N (nums .u32 us)) (oq:wr.ownsRow w.heap.size 144 1 (.slice (some ⟨gq,0,none⟩) m m) m (nums .u32 (List.replicate m 0)))
  (wv:WAt wr (some ⟨g2,0,none⟩) cap2 vs) (hb:Below w.heap.size w wr):DSt w wr g1 N cap1 gq m g2 cap2 m (val xs*2^s) vs us (List.replicate m 0) where
 le:=Nat.le_refl _
 ul:=by omega
 nl:=by omega
 ql:=by simp
 du:=dz
 dq:=zbS _
 ou:=ou
 oq:=oq
 wv:=wv
 below:=hb
 eq:=by rw [List.drop_of_length_le (by simp),hu]; simp [val]
 lt:=by
  have h1:=zcj us m (by omega)
  have h2:=zap (dz.take m)
  have h3:=zbH dx
  have hd:(0:Int)<2^s:=Int.pow_pos (by decide)
  have hd2:(2:Int)^s≤2147483648:=by
   have:=Nat.pow_le_pow_right (n:=2) (by decide) hs
   have:=Int.ofNat_le.2 this
   rw [Int.natCast_pow] at this
   exact this
  have hx:xs.length=m+(vs.length-1):=by omega
  rw [hx,Int.pow_add] at h3
  have pm:(0:Int)<4294967296^m:=Int.pow_pos (by decide)
  have pn:(0:Int)<4294967296^(vs.length-1):=Int.pow_pos (by decide)
  rw [hu] at h1
  generalize (4294967296:Int)^m=M at *
  generalize (4294967296:Int)^(vs.length-1)=K at *
  generalize (2:Int)^s=D at *
  have h4:val xs*D<M*K*D:=Int.mul_lt_mul_of_pos_right h3 hd
  have h5:M*(K*D)≤M*(K*2147483648):=Int.mul_le_mul_of_nonneg_left (Int.mul_le_mul_of_nonneg_left hd2 (Int.le_of_lt pn)) (Int.le_of_lt pm)
  apply Classical.byContradiction
  intro h
  have h6:M*(K*2147483648)≤M*val (us.drop m):=Int.mul_le_mul_of_nonneg_left (by omega) (Int.le_of_lt pm)
  rw [Int.mul_assoc] at h4
  omega
theorem DSt.fin {w wr:World} {g1 N cap1 gq m g2 cap2 s:Nat} {x y:Int} {vs us qs:List Int} (h:DSt w wr g1 N cap1 gq m g2 cap2 0 (x*2^s) vs us qs) (dv:Wd vs) (hv:val vs=y*2^s) :
  val (us.take vs.length)=val us∧x=y*val qs+val us/2^s∧val us/2^s<y:=by
 have hd:(0:Int)<2^s:=Int.pow_pos (by decide)
 have h1:=h.eq
 have h2:=h.lt
 rw [List.drop_zero] at h1 h2
 rw [Int.pow_zero,Int.mul_one,hv] at h1
 have h3:=zcj us vs.length (by have:=h.ul; have:=h.nl; omega)
 have h4:=zap (h.du.take vs.length)
 have h5:=zap (h.du.drop vs.length)
 have h6:=zbH dv
 have hp:(0:Int)<4294967296^vs.length:=Int.pow_pos (by decide)
 have hz:val (us.drop vs.length)=0:=by
  apply Classical.byContradiction
  intro h
  have:=Int.mul_le_mul_of_nonneg_left (show 1≤val (us.drop vs.length) by omega) (Int.le_of_lt hp)
  omega
 rw [hz,Int.mul_zero,Int.add_zero] at h3
 generalize (2:Int)^s=D at *
 have hu:val us=(x-y*val qs)*D:=by
  rw [Int.sub_mul,h1]
  rw [show val qs*(y*D)=y*val qs*D by rw [←Int.mul_assoc,Int.mul_comm (val qs)]]
  omega
 have hq:val us/D=x-y*val qs:=by rw [hu]; exact Int.mul_ediv_cancel _ (by omega)
 refine ⟨h3.symm,by rw [hq]; omega,?_⟩
 rw [hv] at h2
 exact Int.ediv_lt_of_lt_mul hd h2
theorem DSt.wq {w wr:World} {g1 N cap1 gq m g2 cap2 j:Nat} {X:Int} {vs us qs:List Int} (h:DSt w wr g1 N cap1 gq m g2 cap2 j X vs us qs):WAt wr (some ⟨gq,0,none⟩) m qs:=by
 have h1:OwnW wr w.heap.size (.slice (some ⟨gq,0,none⟩) m m) qs:=by unfold OwnW; rw [h.ql]; exact h.oq
 obtain ⟨A,c,he,hw⟩:=h1.wat
 injection he with e1 _ e3
 subst e1 e3
 exact hw
theorem DSt.wu {w wr:World} {g1 N cap1 gq m g2 cap2 j:Nat} {X:Int} {vs us qs:List Int} (h:DSt w wr g1 N cap1 gq m g2 cap2 j X vs us qs):WAt wr (some ⟨g1,0,none⟩) cap1 us:=by
 have h1:OwnW wr w.heap.size (.slice (some ⟨g1,0,none⟩) N cap1) us:=by unfold OwnW; rw [h.ul]; exact h.ou
 obtain ⟨A,c,he,hw⟩:=h1.wat
 injection he with e1 _ e3
 subst e1 e3
 exact hw
theorem tail_q {w wr:World} {g1 N cap1 gq m g2 cap2 j:Nat} {X:Int} {vs us qs:List Int} (h:DSt w wr g1 N cap1 gq m g2 cap2 j X vs us qs) (W:World) (hb:Below wr.heap.size wr W) :
  Calls Tryz.prog 139 #[.slice (some ⟨gq,0,none⟩) m m] W fun e w'=>∃ n:Nat,e = .returned (.slice (some ⟨gq,0,none⟩) n m)∧Cut qs n∧W=w':=by
 have:=zb0 _ m qs W (h.wq.below hb) h.dq
 rw [h.ql] at this
 exact this
theorem tail_r {w wr:World} {g1 N cap1 gq m g2 cap2 j s:Nat} {X:Int} {vs us qs:List Int} (h:DSt w wr g1 N cap1 gq m g2 cap2 j X vs us qs) (hs:s≤31) (h0:0<vs.length) (hm:vs.length≤34359738369) (W:World) (hb:Below wr.heap.size wr W) :
  Calls Tryz.prog 244 #[.slice (some ⟨g1,0,none⟩) vs.length cap1,.int .i64 s] W fun e w'=>∃ (A':Option Addr) (c':Nat) (zs:List Int),e = .returned (.slice A' zs.length c')∧WAt w' A' c' zs∧Wd zs∧Hid (zs.length=vs.length)∧Hid (val zs=val (us.take vs.length)/2^s)∧Below W.heap.size W w':=by
 have hul:=h.ul
 have hnl:=h.nl
 have hl:(us.take vs.length).length=vs.length:=by rw [List.length_take]; omega
 have:=right_calls _ cap1 (us.take vs.length) s W ((h.wu.below hb).take vs.length (by omega)) (h.du.take _) hs (by omega)
 rw [hl] at this
 exact this.mono fun e w' ⟨A',c',zs,h1,h2,h3,h4,h5,h6⟩=>⟨A',c',zs,h1,h2,h3,h4,h5,h6⟩
theorem lz_spec (x:Int) (h0:0<x) (h1:x<4294967296):∃ s:Nat,s≤31∧(32-(Lib.bitLen x.toNat:Int))=(s:Int)∧x*2^s<4294967296∧2147483648≤x*2^s:=by
 obtain ⟨X,rfl⟩:=Int.eq_ofNat_of_zero_le (Int.le_of_lt h0)
 rw [Int.toNat_natCast]
 have hX:X<2^64:=by omega
 obtain ⟨h2,h3⟩:=zbZ 64 X hX
 obtain ⟨h4,h5⟩:=h3 (by omega)
 change X<2^Lib.bitLen X at h2
 change 2^(Lib.bitLen X-1)≤X at h4
 change 1≤Lib.bitLen X at h5
 generalize Lib.bitLen X=n at *
 have hn:n≤32:=by
  apply Classical.byContradiction
  intro hn
  have:2^32≤2^(n-1):=Nat.pow_le_pow_right (by decide) (by omega)
  omega
 have e1:2^(n-1)*2^(32-n)=2147483648:=by rw [←Nat.pow_add,show n-1+(32-n)=31 by omega]
 have e2:2^n*2^(32-n)=4294967296:=by rw [←Nat.pow_add,show n+(32-n)=32 by omega]
 refine ⟨32-n,by omega,by omega,?_,?_⟩
 ·have h6:X*2^(32-n)<2^n*2^(32-n):=Nat.mul_lt_mul_of_pos_right h2 (Nat.pow_pos (by decide))
  rw [e2] at h6
  have:=Int.ofNat_lt.2 h6
  rw [Int.natCast_mul,Int.natCast_pow] at this
  exact this
 ·have h6:2^(n-1)*2^(32-n)≤X*2^(32-n):=Nat.mul_le_mul_right _ h4
  rw [e1] at h6
  have:=Int.ofNat_le.2 h6
  rw [Int.natCast_mul,Int.natCast_pow] at this
  exact this
theorem left_own (A:Option Addr) (c:Nat) (xs:List Int) (n:Nat) (w:World) (hw:WAt w A c xs) (hx:Wd xs) (hn:n≤31) (hm:xs.length≤34359738369) :
  Calls Tryz.prog 242 #[.slice A xs.length c,.int .i64 n] w fun e w'=>∃ (g cap:Nat) (zs:List Int),e = .returned (.slice (some ⟨g,0,none⟩) (xs.length+1) cap)∧OwnW w' w.heap.size (.slice (some ⟨g,0,none⟩) (xs.length+1) cap) zs∧w.heap.size≤g∧g<w'.heap.size∧xs.length+1≤cap∧Wd zs∧Hid (zs.length=xs.length+1)∧Hid (val zs=val xs*2^n)∧Below w.heap.size w w':=by
 refine (left_calls A c xs n w hw hx hn hm).mono fun e w' ⟨v,zs,he,ho,hd,hl,hv,hb⟩ => ?_
 have ho':=ho
 unfold OwnW at ho'
 rw [hl] at ho'
 obtain ⟨g,cap,rfl,hg1,hg2⟩:=World.ownsRow.form ho' (by omega)
 have hc:xs.length+1≤cap:=by
  rcases ho'.2 with ⟨h,_⟩|⟨g',cap',cur,he',_,_,h1,_⟩
  ·cases h
  ·injection he' with _ _ h2
   subst h2; exact h1
 exact ⟨g,cap,zs,he,ho,hg1,hg2,hc,hd,hl,hv,hb⟩
theorem norm_fits (ys vs:List Int) (s:Nat) (yt:Int) (dy:Wd ys) (dv:Wd vs) (hn:0<ys.length) (hs:s≤31) (ht:rd ys ((ys.length-1:Nat):Int)=yt) (hl:vs.length=ys.length+1) (hv:val vs=val ys*2^s) (hs1:yt*2^s<4294967296) (hs2:2147483648≤yt*2^s) :
  val (vs.take ys.length)=val ys*2^s∧rd (vs.take ys.length) ((ys.length-1:Nat):Int)≠0∧2147483648*4294967296^(ys.length-1)≤val ys*2^s:=by
 obtain ⟨m,hm⟩:∃ m,ys.length=m+1:=⟨ys.length-1,by omega⟩
 rw [hm] at ht hl ⊢
 simp only [Nat.add_sub_cancel] at ht ⊢
 have e1:=zao (xs:=ys) (i:=m) (by omega)
 rw [List.take_of_length_le (by omega),ht] at e1
 have b1:=zbH (dy.take m)
 rw [List.length_take,Nat.min_eq_left (by omega)] at b1
 have b0:=zap (dy.take m)
 have hp:(0:Int)<4294967296^m:=Int.pow_pos (by decide)
 have hd:(0:Int)<2^s:=Int.pow_pos (by decide)
 have e2:(2:Int)^(32-s)*2^s=4294967296:=by rw [←Int.pow_add,show 32-s+s=32 by omega]; rfl
 generalize (2:Int)^s=D at *
 generalize (2:Int)^(32-s)=E at *
 have h1:yt<E:=by
  apply Classical.byContradiction
  intro h
  have:=Int.mul_le_mul_of_nonneg_right (show E≤yt by omega) (Int.le_of_lt hd)
  omega
 have h2:(yt+1)*D≤4294967296:=by
  have:=Int.mul_le_mul_of_nonneg_right (show yt+1≤E by omega) (Int.le_of_lt hd)
  omega
 have ex:(4294967296:Int)^(m+1)=4294967296^m*4294967296:=by rw [Int.pow_succ]
 generalize hB:(4294967296:Int)^m=B at *
 have hup:val ys*D<B*4294967296:=by
  have h3:val ys+1≤B*(yt+1):=by rw [e1,Int.mul_add]; omega
  have h4:=Int.mul_le_mul_of_nonneg_right h3 (Int.le_of_lt hd)
  have h5:=Int.mul_le_mul_of_nonneg_left h2 (Int.le_of_lt hp)
  rw [←Int.mul_assoc] at h5
  rw [Int.add_mul] at h4
  omega
 have hlo:2147483648*B≤val ys*D:=by
  rw [e1,Int.add_mul]
  have h6:=Int.mul_le_mul_of_nonneg_left hs2 (Int.le_of_lt hp)
  rw [←Int.mul_assoc] at h6
  have h7:=Int.mul_nonneg b0 (Int.le_of_lt hd)
  omega
 have f1:=zao (xs:=vs) (i:=m+1) (by omega)
 rw [List.take_of_length_le (by omega),ex] at f1
 have c0:=zap (dv.take (m+1))
 have r1:=dv.rd ((m+1:Nat):Int)
 have hz:rd vs ((m+1:Nat):Int)=0:=by
  apply Classical.byContradiction
  intro h
  have:=Int.mul_le_mul_of_nonneg_left (show 1≤rd vs ((m+1:Nat):Int) by omega) (show 0≤B*4294967296 by omega)
  omega
 rw [hz,Int.mul_zero,Int.add_zero] at f1
 refine ⟨by omega,?_,hlo⟩
 have f2:=zao (xs:=vs) (i:=m) (by omega)
 have b2:=zbH (dv.take m)
 rw [List.length_take,Nat.min_eq_left (by omega),hB] at b2
 rw [hB] at f2
 have hr:rd (vs.take (m+1)) ((m:Nat):Int)=rd vs (m:Int):=by
  rw [rd_lt (by rw [List.length_take]; omega),rd_lt (by omega)]
  simp
 rw [hr]
 intro h
 rw [h,Int.mul_zero] at f2
 omega
theorem divide_long (A:Option Addr) (cx:Nat) (xs:List Int) (A':Option Addr) (cy:Nat) (ys:List Int) (w:World) (hx:WAt w A cx xs) (hy:WAt w A' cy ys) (dx:Wd xs) (dy:Wd ys) (tx:xs.getLast? ≠ some 0) (ty:ys.getLast? ≠ some 0) (hn:1<ys.length) (lx:xs.length≤34359738368) (hge:val ys≤val xs) :
  Calls Tryz.prog 202 #[.slice A xs.length cx,.slice A' ys.length cy] w fun e w'=>∃ A1 c1 qs A2 c2 rs,e = .returned (.tuple #[.slice A1 (List.length qs) c1,.slice A2 (List.length rs) c2])∧Quot w w' (val xs) (val ys) A1 c1 qs A2 c2 rs:=by
 have hll:=zaQ dx dy ty hge
 obtain ⟨ad,rfl⟩:=hy.ptr (by omega)
 have hcy:=hy.cell (j:=ys.length-1) (by omega)
 rw [zaO] at hcy
 have htop:rd ys ((ys.length-1:Nat):Int)≠0:=by
  intro h
  apply ty
  rw [List.getLast?_eq_getElem?,List.getElem?_eq_getElem (by omega)]
  rw [rd_lt (by omega)] at h
  rw [h]
 have hbt:=dy.rd ((ys.length-1:Nat):Int)
 generalize ht:rd ys ((ys.length-1:Nat):Int)=yt at hcy htop hbt
 have HT:=Lib.hid ht
 clear ht
 obtain ⟨s,hs31,hse,hs1,hs2⟩:=lz_spec yt (by omega) hbt.2
 have HSE:=Lib.hid hse
 have hb1:((ys.length:Int) == 1)=false:=beq_eq_false_iff_ne.2 (by omega)
 obtain ⟨m,hm⟩:∃ m:Nat,m+ys.length=xs.length+1:=⟨xs.length+1-ys.length,by omega⟩
 have hmk:=zbw (P:=Tryz.prog) 68 144 .u32 4 Tryz.underlying68 zcD (by decide) m (by omega)
 rw [show (m:Int)=(xs.length:Int)+1-(ys.length:Int) by omega] at hmk
 have hmb:m≤34359738369:=by omega
 have hm1:1≤m:=by omega
 have HM:=Lib.hid hm
 clear hm hse
 go_enter Tryz.func202,Tryz.ntmps202
 go_wp2_with fail
 refine (zaR A cx xs (some ad) cy ys _ hx hy dx dy tx ty).mono ?_
 rintro e w1 ⟨r,rfl,hr,hrb,hd⟩
 obtain ⟨⟨nd,hw1⟩⟩:=hd
 have hb1':Below w.heap.size w w1:=by subst hw1; exact zai _ _
 have hcy1:w1.cell? (ad.add (ys.length-1))=some (.int .u32 yt):=by subst hw1; exact hcy
 have hr0:=za7 hr
 have hr1:0≤r:=by omega
 have HB1:=Lib.hid hb1'
 clear hr hr0 hw1 hcy hb1'
 go_wp2_with fail
 refine (Tryz.bits_LeadingZeros32 yt _ hbt.1 (by omega)).mono ?_
 rintro e w2 ⟨rfl,hw2⟩
 subst hw2
 rw [HSE.out]
 go_wp2_with fail
 go_region_held3 (fun _=>True) (exact trivial)
  ((first
   | (go_simp; go_at_call 242; with_reducible refine (left_own A cx xs s _ (hx.below (bthen HB1.out (zac _))) dx hs31 (by omega)).mono ?_; rintro e w3 ⟨g1,cap1,us,rfl,ho1,hg1,hg1',hcap1,hd1,hl1,hv1,hb2⟩)
   | (go_simp; go_at_call 242; with_reducible refine (left_own (some ad) cy ys s _ (hy.below (bthen (bthen HB1.out (zac _)) hb2)) dy hs31 (by omega)).mono ?_; rintro e w4 ⟨g2,cap2,vs,rfl,ho2,hg2,hg2',hcap2,hd2,hl2,hv2,hb3⟩; have hq1:(ys.length:Int)≤(cap2:Int):=by omega)))
 have hsz:w.heap.size≤w2.drew.heap.size:=HB1.out.size
 have hown:=zcb w4 w.heap.size 144 .u32 m (by have:=hb2.size; have:=hb3.size; omega) (by omega)
 obtain ⟨hn1,hn2,hn3⟩:=norm_fits ys vs s yt dy hd2 (by omega) hs31 HT.out hl2.out hv2.out hs1 hs2
 have hB4:Below w.heap.size w w4:=bthen (bthen (bthen HB1.out (zac _)) hb2) hb3
 have hvl:(vs.take ys.length).length=ys.length:=by rw [List.length_take,hl2.out]; omega
 obtain ⟨A2,c2,he2,hwv⟩:=ho2.wat
 rw [hl2.out] at he2
 injection he2 with e1 _ e3
 subst e1 e3
 have hou:w3.ownsRow w2.drew.heap.size 144 1 (.slice (some ⟨g1,0,none⟩) (xs.length+1) cap1) (xs.length+1) (nums .u32 us):=by have:=ho1; unfold OwnW at this; rw [hl1.out] at this; exact this
 have hou4:=(own_weaken hou hsz).kept (World.grownBy.mk hb3.os hb3.tape hb3.output hb3.size (row:=none) (fun k hk _=>hb3.block k hk)) (Classical.em _)
 have hS:DSt w (w4.alloc (.cells (madeCells #[.int .u32 0] m) 144)) g1 (xs.length+1) cap1 w4.heap.size m g2 cap2 m (val xs*2^s) (vs.take ys.length) us (List.replicate m 0):=
  DSt.start dx hd1 hs31 (by rw [hvl]; exact HM.out) (by omega) hl1.out rfl hv1.out (by rw [hn1,hvl]; exact hn3) (hou4.alloc _) hown ((hwv.take ys.length (by rw [hl2.out]; omega)).below (zaa (Below.refl _ _) _)) (bthen hB4 (zaa (Below.refl _ _) _))
 have h12:g2≠g1:=by omega
 have h1q:w4.heap.size≠g1:=by have:=hb3.size; omega
 have h2q:g2≠w4.heap.size:=by omega
 have hgq:w.heap.size≤w4.heap.size:=hB4.size
 have hgg1:w.heap.size≤g1:=by omega
 have hnt:rd (vs.take ys.length) (((vs.take ys.length).length-1:Nat):Int)≠0:=by rw [hvl]; exact hn2
 clear hn2
 have HS:=Lib.hid hS
 have hdv:Wd (vs.take ys.length):=hd2.take _
 clear hb3 hou4 hou hwv ho2 ho1 hown hb2
 generalize hvt:vs.take ys.length=vt at *
 have HV:=Lib.hid hn1
 have HVL:=Lib.hid hvl
 clear hn1 hvt hl1 hv1 hl2 hv2 hd1 hd2 hn3 HT vs hvl
 go_wp2
 go_loopw [12] (fun vz wr=>∃ (z:Int) (j:Nat) (us qs:List Int),vz = .int .i64 z∧Hid (z=(j:Int)-1) ∧ -1≤z∧z<m∧Hid (DSt w wr g1 (xs.length+1) cap1 w4.heap.size m g2 cap2 j (val xs*2^s) vt us qs)) (fun vz _=>(intOf vz+1).toNat)
 case atStart=>exact ⟨_,m,us,_,by go_num,Lib.hid rfl,by omega,by omega,HS⟩
 case round =>
  obtain ⟨z,j,us,qs,rfl,HZ,hz0,hz1,HD⟩:=hrel
  by_cases hz:0≤z
  ·obtain ⟨i,rfl⟩:=Int.eq_ofNat_of_zero_le hz
   have hj:j=i+1:=by have:=HZ.out; omega
   subst hj
   have hi:i<m:=by omega
   have hcp:i+ys.length+1≤cap1:=by have:=HM.out; omega
   have hle:i≤i+ys.length+1:=by omega
   have hc2:i≤cap1:=by omega
   have hg:=DSt.step HD.out (by rw [HVL.out]; omega) hdv hnt h12 h1q h2q hgg1 hgq (cap1-i) (by rw [HVL.out]; omega) (by rw [HVL.out]; omega)
   rw [HVL.out,show ys.length+1=i+ys.length+1-i by omega] at hg
   have HG:=Lib.hid hg
   clear hg
   go_wp2_with fail
   with_reducible refine HG.out.mono ?_
   rintro e w5 ⟨q,us',rfl,hq0,hq1,⟨v,hcv⟩,hfv,hS'⟩
   have HS':=Lib.hid hS'
   clear hS'
   go_wp2
   go_roundw
   case rel=>exact ⟨(i:Int)-1,i,us',qs.set i q,by go_num,Lib.hid rfl,by omega,by omega,HS'⟩
   case measure=>simp [intOf]
  ·have hj:j=0:=by have:=HZ.out; omega
   subst hj
   obtain ⟨F1,F2,F3⟩:=HD.out.fin hdv HV.out
   have F1':=Lib.hid F1
   have F2':=Lib.hid F2
   clear F1 F2
   have hT1:=tail_q HD.out
   have hR1:=tail_r (s:=s) HD.out hs31 (by rw [HVL.out]; omega) (by rw [HVL.out]; omega)
   rw [HVL.out] at hR1
   have HT1:=Lib.hid hT1
   have HR1:=Lib.hid hR1
   clear hT1 hR1
   have hcI:(ys.length:Int)≤(cap1:Int):=by have:=HM.out; omega
   go_wp2_with fail
   go_region_held3 (fun _=>True) (exact trivial)
    ((first
     | (go_simp; go_at_call 139; with_reducible refine (HT1.out _ (zac _)).mono ?_; rintro e w5 ⟨n1,rfl,hcut1,rfl⟩)
     | (go_simp; go_at_call 244; with_reducible refine (HR1.out _ (zac _)).mono ?_; rintro e w6 ⟨A3,c3,rs,rfl,hw6,hd6,hl6,hv6,hb6⟩)
     | (go_simp; go_at_call 139; with_reducible refine (zb0 A3 c3 rs _ hw6 hd6).mono ?_; rintro e w7 ⟨n2,rfl,hcut2,rfl⟩)))
   go_wp2
   go_ret2
   have hbx:Below wr.heap.size wr w6:=bthen (zac _) hb6
   have e1:(qs.take n1).length=n1:=by rw [List.length_take]; have:=hcut1.le; omega
   have e2:(rs.take n2).length=n2:=by rw [List.length_take]; have:=hcut2.le; omega
   refine ⟨_,_,qs.take n1,_,_,rs.take n2,by rw [e1,e2]; rfl,(HD.out.wq.below hbx).take n1 hcut1.le,hw6.take n2 hcut2.le,HD.out.dq.take n1,hd6.take n2,hcut1.top,hcut2.top,?_,?_,bthen HD.out.below hbx⟩
   ·rw [hcut1.eq,hcut2.eq,hv6.out,←HVL.out,F1'.out]; exact F2'.out
   ·rw [hcut2.eq,hv6.out,←HVL.out,F1'.out]; exact F3
theorem zcq (A:Option Addr) (cx:Nat) (xs:List Int) (A':Option Addr) (cy:Nat) (ys:List Int) (w:World) (hx:WAt w A cx xs) (hy:WAt w A' cy ys) (dx:Wd xs) (dy:Wd ys) (tx:xs.getLast? ≠ some 0) (ty:ys.getLast? ≠ some 0) (hn:ys ≠ []) (lx:xs.length≤34359738368) :
  Calls Tryz.prog 202 #[.slice A xs.length cx,.slice A' ys.length cy] w fun e w'=>∃ A1 c1 qs A2 c2 rs,e = .returned (.tuple #[.slice A1 (List.length qs) c1,.slice A2 (List.length rs) c2])∧Quot w w' (val xs) (val ys) A1 c1 qs A2 c2 rs:=by
 by_cases hlt:val xs<val ys
 ·exact divide_lt A cx xs A' cy ys w hx hy dx dy tx ty lx hlt
 ·by_cases h1:1<ys.length
  ·exact divide_long A cx xs A' cy ys w hx hy dx dy tx ty h1 lx (by omega)
  ·match ys,hn,h1 with
   | [y],_,_=>exact divide_one A cx xs A' cy y w hx hy dx dy tx (by simpa using ty) lx (by omega)
   | y :: z :: r,_,h1=>exact absurd (by simp) h1
theorem quot_pos {X Y q r:Int} (h:X=Y*q+r) (h0:0≤r) (h1:r<Y):X/Y=q∧X%Y=r:=by
 have hY:0<Y:=by omega
 subst h
 rw [Int.add_comm,Int.add_mul_ediv_left _ _ (by omega),Int.ediv_eq_zero_of_lt h0 h1,Int.zero_add,Int.add_mul_emod_self_left,Int.emod_eq_of_lt h0 h1]
 exact ⟨rfl,rfl⟩
theorem quot_sg {neg neg':Bool} {xs ys:List Int} {x y q r:Int} (hx:Norm neg xs x) (hy:Norm neg' ys y) (h:val xs=val ys*q+r) (h0:0≤r) (h1:r<val ys):sg (!(neg == neg')) q=x.tdiv y:=by
 have hX:=zap hx.wd
 have hq:=(quot_pos h h0 h1).1
 have e:(val xs).tdiv (val ys)=q:=by rw [Int.tdiv_eq_ediv_of_nonneg hX,hq]
 rw [hx.eq,hy.eq]
 unfold sg
 cases neg<;>cases neg'<;>simp [Int.neg_tdiv,Int.tdiv_neg,e]
theorem Norm.ne {neg:Bool} {ws:List Int} {x:Int} (h:Norm neg ws x) (hx:x≠0):ws ≠ []:=fun e=>hx (h.nil_iff.1 e)
theorem bcell {w w1:World} {a:Addr} {u:Value} (hb:Below w.heap.size w w1) (h:w.cell? a=some u):w1.cell? a=some u:=(hb.cell (World.block_lt_of_cell? w _ h)).trans h
theorem quo_calls (b o b1 o1 b2 o2:Nat) (x y:Int) (w:World) (hz:Slot w b o) (hx:IntAt w b1 o1 x) (hy:IntAt w b2 o2 y) (hy0:y≠0) {n:Nat} (hs:Bd n x) (hn:n≤big) :
  Calls Tryz.prog 154 #[.pointer (some ⟨b,o,none⟩),.pointer (some ⟨b1,o1,none⟩),.pointer (some ⟨b2,o2,none⟩)] w fun e w'=>e = .returned (.pointer (some ⟨b,o,none⟩))∧IntAt w' b o (x.tdiv y)∧Upd w w' b o (o+2):=by
 obtain ⟨neg,A,c,xs,h1,h2,h3,h4⟩:=hx.out
 obtain ⟨neg',A',c',ys,k1,k2,k3,k4⟩:=hy.out
 have hl1:xs.length≤34359738368:=h4.small hs hn
 have hlt1:=hx.lt
 have hlt2:=hy.lt
 have hyn:=k4.ne hy0
 clear hs hy0
 go_enter Tryz.func154,Tryz.ntmps154
 have hD:=fun (W:World) (hb:Below w.heap.size w W)=>zcq A c xs A' c' ys W (h3.below hb) (k3.below hb) h4.wd k4.wd h4.top k4.top hyn hl1
 have HD:=Lib.hid hD
 clear hD
 go_wp2_with fail
 go_region_held3 (fun w'=>w'.cell? ⟨b1,o1+1,none⟩=some (.slice A xs.length c)∧w'.cell? ⟨b2,o2+1,none⟩=some (.slice A' ys.length c'))
  (first|go_keep|exact ⟨h2,k2⟩|exact ⟨bcell (bthen (zac _) hq.below) h2,bcell (bthen (zac _) hq.below) k2⟩)
  ((first
   | (go_simp; go_at_call 202; with_reducible refine (HD.out _ (by first|exact zac _|exact zai _ _|exact Below.refl _ _)).mono ?_; rintro e w1 ⟨A1,c1,qs,A2,c2,rs,rfl,hq⟩)))
 have hB1:Below w.heap.size w w1:=bthen (zac _) hq.below
 have g1:=bcell hB1 h1
 have g2:=bcell hB1 k1
 have hk:=quot_sg h4 k4 (hq.eq) (zap hq.dr) hq.lt
 have HK:=Lib.hid hk
 have HQ:=Lib.hid hq
 clear hk hq
 go_wp2_with fail
 go_still_tail 11,(by kernel_rfl)
 change wpList _ _ _ _ _ w1.drew
 go_wp2_with fail
 refine (zax b o (!(neg == neg')) _ _ qs _ (hz.upd (Upd.of_below (bthen hB1 (zac _)) 0 0 0)) (HQ.out.wq.below (zac _)) HQ.out.dq).mono ?_
 rintro e w3 ⟨rfl,hx3,hu3⟩
 rw [HK.out] at hx3
 go_wp2
 go_ret
 exact ⟨rfl,hx3,(Upd.of_below (bthen hB1 (zac _)) _ _ _).trans hu3⟩
end Go.Proofs.ZP
end
section
namespace Go.Proofs.ZP
open Go.RowKit Go.Proofs.ZW.Wa
open Classical in
noncomputable def vmeas (v:Value) (w:World):Nat:=if h:∃ ys,∃ A c,v = .slice A (List.length ys) c∧WAt w A c ys then (val h.choose).toNat else 0
theorem WAt.uniq {w:World} {A:Option Addr} {c c':Nat} {xs ys:List Int} (h:WAt w A c xs) (k:WAt w A c' ys) (hl:xs.length=ys.length):xs=ys:=by
 refine List.ext_getElem hl fun j h1 h2 => ?_
 obtain ⟨ad,rfl⟩:=h.ptr (by omega)
 have e1:=h.cell h1
 have e2:=k.cell h2
 rw [e1] at e2
 rw [zaO,zaO,rd_lt h1,rd_lt h2] at e2
 injection e2 with e2
 injection e2
theorem vmeas_eq {w:World} {A:Option Addr} {c:Nat} {ys:List Int} (h:WAt w A c ys):vmeas (.slice A ys.length c) w=(val ys).toNat:=by
 have hx:∃ zs,∃ A' c',Value.slice A ys.length c = .slice A' (List.length zs) c'∧WAt w A' c' zs:=⟨ys,A,c,rfl,h⟩
 unfold vmeas
 rw [dif_pos hx]
 obtain ⟨A',c',he,hw⟩:=hx.choose_spec
 generalize hx.choose=zs at he hw ⊢
 injection he with e1 e2 e3
 subst e1
 rw [h.uniq hw e2]
structure GSt (w wr:World) (x y:Int) (A:Option Addr) (c:Nat) (us:List Int) (A':Option Addr) (c':Nat) (vs:List Int):Prop where
 wu:WAt wr A c us
 wv:WAt wr A' c' vs
 du:Wd us
 dv:Wd vs
 tu:us.getLast? ≠ some 0
 tv:vs.getLast? ≠ some 0
 lu:us.length≤34359738368
 lv:vs.length≤34359738368
 below:Below w.heap.size w wr
 gcd:Int.gcd (val us) (val vs)=Int.gcd x y
theorem gcd_turn {u v q r:Int} (h:u=v*q+r) (h0:0≤r) (h1:r<v) (hu:0≤u):Int.gcd v r=Int.gcd u v:=by
 have e:=(quot_pos h h0 h1).2
 obtain ⟨U,rfl⟩:=Int.eq_ofNat_of_zero_le hu
 obtain ⟨V,rfl⟩:=Int.eq_ofNat_of_zero_le (show 0≤v by omega)
 rw [←e]
 show Nat.gcd V (U%V)=Nat.gcd U V
 rw [Nat.gcd_comm U V,Nat.gcd_rec V U,Nat.gcd_comm]
theorem GSt.step {w wr:World} {x y:Int} {A A':Option Addr} {c c':Nat} {us vs:List Int} (h:GSt w wr x y A c us A' c' vs) (hv:0<vs.length) :
  Calls Tryz.prog 202 #[.slice A us.length c,.slice A' vs.length c'] wr fun e w'=>∃ (A1:Option Addr) (c1:Nat) (qs:List Int) (A2:Option Addr) (c2:Nat) (rs:List Int),e = .returned (.tuple #[.slice A1 (List.length qs) c1,.slice A2 (List.length rs) c2])∧Hid (GSt w w' x y A' c' vs A2 c2 rs)∧Hid (vmeas (.slice A2 rs.length c2) w'<vmeas (.slice A' vs.length c') wr):=by
 refine (zcq A c us A' c' vs wr h.wu h.wv h.du h.dv h.tu h.tv (by intro e; rw [e] at hv; simp at hv) h.lu).mono fun e w' ⟨A1,c1,qs,A2,c2,rs,he,q⟩=>⟨A1,c1,qs,A2,c2,rs,he,?_,?_⟩
 ·have hl:=zaQ h.dv q.dr q.tr (Int.le_of_lt q.lt)
  have:=h.lv
  exact ⟨h.wv.below q.below,q.wr,h.dv,q.dr,h.tv,q.tr,h.lv,by omega,bthen h.below q.below,(gcd_turn q.eq (zap q.dr) q.lt (zap h.du)).trans h.gcd⟩
 ·show vmeas _ _<vmeas _ _
  rw [vmeas_eq q.wr,vmeas_eq h.wv]
  have:=q.lt
  have:=zap q.dr
  omega
theorem gcd_calls (b o b1 o1 b2 o2:Nat) (u v:Value) (x y:Int) (w:World) (hz:Slot w b o) (hx:IntAt w b1 o1 x) (hy:IntAt w b2 o2 y) (hx0:0≤x) (hy0:0≤y) {n:Nat} (hs:Bd n x) (ht:Bd n y) (hn:n≤big) :
  Calls Tryz.prog 133 #[.pointer (some ⟨b,o,none⟩),u,v,.pointer (some ⟨b1,o1,none⟩),.pointer (some ⟨b2,o2,none⟩)] w fun e w'=>e = .returned (.pointer (some ⟨b,o,none⟩))∧IntAt w' b o (Int.gcd x y)∧Upd w w' b o (o+2):=by
 obtain ⟨neg,A,c,xs,h1,h2,h3,h4⟩:=hx.out
 obtain ⟨neg',A',c',ys,k1,k2,k3,k4⟩:=hy.out
 have hl1:xs.length≤34359738368:=h4.small hs hn
 have hl2:ys.length≤34359738368:=k4.small ht hn
 have hlt1:=hx.lt
 have hlt2:=hy.lt
 clear hs ht
 go_enter Tryz.func133,Tryz.ntmps133
 go_wp2_with fail
 go_quiet (fail)
 generalize hq:w.drewN _=w1
 have hb1:Below w.heap.size w w1:=by subst hq; exact zai _ _
 have hG:GSt w w1 x y A c xs A' c' ys:=⟨h3.below hb1,k3.below hb1,h4.wd,k4.wd,h4.top,k4.top,hl1,hl2,hb1,by rw [h4.val_eq,k4.val_eq]; rfl⟩
 have HG0:=Lib.hid hG
 clear hG hq
 go_wp2
 go_loopw [11,12] (fun vx vy wr=>∃ (Ax Ay:Option Addr) (cx cy:Nat) (us vs:List Int),vx = .slice Ax us.length cx∧vy = .slice Ay vs.length cy∧Hid (GSt w wr x y Ax cx us Ay cy vs)) (fun _ vy wr=>vmeas vy wr)
 case atStart=>exact ⟨A,A',c,c',xs,ys,rfl,rfl,HG0⟩
 case round =>
  obtain ⟨Ax,Ay,cx,cy,us,vs,rfl,rfl,HG⟩:=hrel
  by_cases hv:0<vs.length
  ·have hvI:(0:Int)<(vs.length:Int):=by omega
   go_wp2_with fail
   with_reducible refine (HG.out.step hv).mono ?_
   rintro e w5 ⟨A1,c1,qs,A2,c2,rs,rfl,HG2,HM⟩
   go_wp2
   go_roundw
   case rel=>exact ⟨Ay,A2,cy,c2,vs,rs,rfl,rfl,HG2⟩
   case measure=>exact HM.out
  ·have hnil:vs = []:=by apply List.length_eq_zero_iff.1; omega
   have hg:=HG.out.gcd
   rw [hnil] at hg
   have HGG:=Lib.hid (show sg false (val us)=(Int.gcd x y:Int) by
    have h0:=zap HG.out.du
    rw [←hg]
    show val us=((Int.gcd (val us) (val [])):Int)
    rw [show val []=0 from rfl,Int.gcd_zero_right]
    omega)
   clear hnil hg
   go_wp2_with fail
   with_reducible refine (zbz Ax cx us _ HG.out.wu (by have:=HG.out.lu; omega)).mono ?_
   rintro e w5 ⟨A3,c3,rfl,hw5,hb5⟩
   go_wp2_with fail
   refine (zax b o false A3 c3 us _ (hz.upd (Upd.of_below (bthen HG.out.below hb5) 0 0 0)) hw5 HG.out.du).mono ?_
   rintro e w6 ⟨rfl,hx6,hu6⟩
   rw [HGG.out] at hx6
   go_wp2
   go_ret
   exact ⟨rfl,hx6,(Upd.of_below (bthen HG.out.below hb5) _ _ _).trans hu6⟩
end Go.Proofs.ZP
end
section
namespace Go.Proofs.ZP
open Go.RowKit Go.Proofs.ZW.Wa
def bl (n:Nat):Nat:=if n=0 then 0 else Nat.log2 n+1
theorem bl_eq {n k:Nat} (hk:1≤k) (h1:2^(k-1)≤n) (h2:n<2^k):bl n=k:=by
 have hn:n≠0:=by have:=Nat.pow_pos (n:=k-1) (show 0<2 by decide); omega
 unfold bl
 rw [if_neg hn]
 have e1:=(Nat.log2_lt hn).2 h2
 have e2:=(Nat.le_log2 hn).2 h1
 omega
theorem bl_words (ws:List Int) (hd:Wd ws) (ht:ws.getLast? ≠ some 0) (hn:0<ws.length) (y:Int) (hy:rd ws ((ws.length-1:Nat):Int)=y):0≤y∧y<4294967296∧32*((ws.length:Int)-1)+(Lib.bitLen y.toNat:Int)=(bl (val ws).toNat:Int)∧Lib.bitLen y.toNat≤32:=by
 obtain ⟨m,hm⟩:∃ m,ws.length=m+1:=⟨ws.length-1,by omega⟩
 rw [hm] at hy ⊢
 simp only [Nat.add_sub_cancel] at hy
 have e1:=zao (xs:=ws) (i:=m) (by omega)
 rw [List.take_of_length_le (by omega),hy] at e1
 have hb:=hd.rd (m:Int)
 rw [hy] at hb
 have b1:=zbH (hd.take m)
 rw [List.length_take,Nat.min_eq_left (by omega)] at b1
 have b0:=zap (hd.take m)
 have hy0:y≠0:=by
  intro h
  apply ht
  rw [List.getLast?_eq_getElem?,List.getElem?_eq_getElem (by omega)]
  rw [←hy,rd_lt (by omega)] at h
  simp only [hm,Nat.add_sub_cancel]
  rw [h]
 obtain ⟨Y,rfl⟩:=Int.eq_ofNat_of_zero_le hb.1
 obtain ⟨T,hT⟩:=Int.eq_ofNat_of_zero_le b0
 rw [Int.toNat_natCast]
 obtain ⟨h2,h3⟩:=zbZ 64 Y (by omega)
 obtain ⟨h4,h5⟩:=h3 (by omega)
 change Y<2^Lib.bitLen Y at h2
 change 2^(Lib.bitLen Y-1)≤Y at h4
 change 1≤Lib.bitLen Y at h5
 generalize Lib.bitLen Y=k at *
 have hk:k≤32:=by
  apply Classical.byContradiction
  intro hk
  have:2^32≤2^(k-1):=Nat.pow_le_pow_right (by decide) (by omega)
  omega
 rw [hT] at e1 b1
 have ev:val ws=((T+2^(32*m)*Y:Nat):Int):=by
  rw [e1,Int.natCast_add,Int.natCast_mul,Int.natCast_pow,show (4294967296:Int)^m=((2:Nat):Int)^(32*m) by rw [Int.pow_mul]; rfl]
 have bT:T<2^(32*m):=by
  rw [show (4294967296:Int)^m=((2^(32*m):Nat):Int) by rw [Int.natCast_pow,Int.pow_mul]; rfl] at b1
  exact Int.ofNat_lt.1 b1
 have hbl:bl (T+2^(32*m)*Y)=32*m+k:=by
  refine bl_eq (by omega) ?_ ?_
  ·rw [show 32*m+k-1=32*m+(k-1) by omega,Nat.pow_add]
   have:=Nat.mul_le_mul_left (2^(32*m)) h4
   omega
  ·rw [Nat.pow_add]
   have:=Nat.mul_le_mul_left (2^(32*m)) (show Y+1≤2^k by omega)
   rw [Nat.mul_add] at this
   omega
 refine ⟨hb.1,hb.2,?_,hk⟩
 rw [ev,Int.toNat_natCast,hbl]
 omega
theorem zcr (b o:Nat) (x:Int) (w:World) (hx:IntAt w b o x) {n:Nat} (hs:Bd n x) (hn:n≤big) :
  Calls Tryz.prog 107 #[.pointer (some ⟨b,o,none⟩)] w fun e w'=>e = .returned (.int .i64 (bl x.natAbs))∧Hid (∃ nd,w'=w.drewN nd):=by
 obtain ⟨neg,A,c,ws,h1,h2,h3,h4⟩:=hx.out
 have hl1:ws.length≤34359738368:=h4.small hs hn
 have hlt1:=hx.lt
 have hv:=h4.val_eq
 clear hs
 by_cases h0:0<ws.length
 ·obtain ⟨ad,rfl⟩:=h3.ptr h0
  have hcy:=h3.cell (j:=ws.length-1) (by omega)
  rw [zaO] at hcy
  obtain ⟨hy0,hy1,hy2,hy3⟩:=bl_words ws h4.wd h4.top h0 _ rfl
  rw [hv,Int.toNat_natCast] at hy2
  generalize rd ws ((ws.length-1:Nat):Int)=y at *
  have HY:=Lib.hid hy2
  clear hy2 hv
  clear h3 h4
  generalize ws.length=L at *
  have hne:((L:Int) == 0)=false:=beq_eq_false_iff_ne.2 (by omega)
  go_enter Tryz.func107,Tryz.ntmps107
  go_wp2_with fail
  have q1:IntKind.i64.wrap ((L:Int)-1)=(L:Int)-1:=IntWalk.i64_in _ (by omega)
  have q2:IntKind.i64.wrap (32*((L:Int)-1))=32*((L:Int)-1):=IntWalk.i64_in _ (by omega)
  have q3:0≤(L:Int)-1:=by omega
  have q4:(L:Int)-1<(L:Int):=by omega
  have q5:((L:Int)-1).toNat=L-1:=by omega
  have q6:IntKind.i64.wrap (32*((L:Int)-1)+(Lib.bitLen y.toNat:Int))=32*((L:Int)-1)+(Lib.bitLen y.toNat:Int):=IntWalk.i64_in _ (by omega)
  go_quiet ((go_at_call 168; exact Calls.quiet_of_same (Tryz.bits_Len32 y _ hy0 (by omega))))
  clear q1 q2 q3 q4 q5 q6
  go_wp2
  go_ret
  exact ⟨congrArg (fun v=>Ending.returned (.int .i64 v)) HY.out,⟨_,rfl⟩⟩
 ·have hnil:ws = []:=by apply List.length_eq_zero_iff.1; omega
  subst hnil
  have hx0:x=0:=h4.nil_iff.1 rfl
  subst hx0
  clear hv
  go_enter Tryz.func107,Tryz.ntmps107
  go_wp2
  go_ret
  exact ⟨rfl,⟨0,rfl⟩⟩
theorem bit_words (ws:List Int) (hd:Wd ws) (j t:Nat) (ht:t<32) (hj:j<ws.length):(val ws).toNat/2^(32*j+t)%2=((rd ws (j:Int))/2^t%2).toNat:=by
 have e1:=zcj ws j (by omega)
 rw [zcd hj] at e1
 have e2:val (rd ws (j:Int) :: ws.drop (j+1))=rd ws (j:Int)+4294967296*val (ws.drop (j+1)):=rfl
 rw [e2] at e1
 have b0:=zap (hd.take j)
 have b1:=zbH (hd.take j)
 rw [List.length_take,Nat.min_eq_left (by omega)] at b1
 have b2:=zap (hd.drop (j+1))
 have b3:=(hd.rd (j:Int)).1
 generalize rd ws (j:Int)=y at *
 generalize val (ws.drop (j+1))=r at *
 generalize val (ws.take j)=T at *
 obtain ⟨Y,rfl⟩:=Int.eq_ofNat_of_zero_le b3
 obtain ⟨R,rfl⟩:=Int.eq_ofNat_of_zero_le b2
 obtain ⟨T,rfl⟩:=Int.eq_ofNat_of_zero_le b0
 have hp:(4294967296:Int)^j=((2^(32*j):Nat):Int):=by rw [Int.natCast_pow,Int.pow_mul]; rfl
 rw [hp] at e1 b1
 have b4:T<2^(32*j):=Int.ofNat_lt.1 b1
 have ev:val ws=((T+2^(32*j)*(Y+4294967296*R):Nat):Int):=by
  rw [e1,Int.natCast_add,Int.natCast_mul,Int.natCast_add,Int.natCast_mul]; rfl
 rw [ev,Int.toNat_natCast,Nat.pow_add,←Nat.div_div_eq_div_mul,Nat.add_mul_div_left _ _ (Nat.pow_pos (by decide)),Nat.div_eq_of_lt b4,Nat.zero_add]
 have e5:4294967296*R=2^t*(2*(2^(31-t)*R)):=by
  rw [←Nat.mul_assoc,←Nat.mul_assoc,←Nat.pow_succ,←Nat.pow_add,show t+1+(31-t)=32 by omega]
 rw [e5,Nat.add_mul_div_left _ _ (Nat.pow_pos (by decide)),Nat.add_mul_mod_self_left]
 rw [show (2:Int)^t=((2^t:Nat):Int) by rw [Int.natCast_pow]; rfl,←Int.natCast_ediv]
 omega
theorem bit_high (ws:List Int) (hd:Wd ws) (j t:Nat) (hj:ws.length≤j):(val ws).toNat/2^(32*j+t)%2=0:=by
 have b1:=zbH hd
 have b0:=zap hd
 obtain ⟨V,hV⟩:=Int.eq_ofNat_of_zero_le b0
 rw [hV] at b1 ⊢
 rw [show (4294967296:Int)^ws.length=((2^(32*ws.length):Nat):Int) by rw [Int.natCast_pow,Int.pow_mul]; rfl] at b1
 have b2:V<2^(32*ws.length):=Int.ofNat_lt.1 b1
 have b3:2^(32*ws.length)≤2^(32*j+t):=Nat.pow_le_pow_right (by decide) (by omega)
 rw [Int.toNat_natCast,Nat.div_eq_of_lt (by omega)]
theorem shr32_eq (x:Int) (n:Nat) (hn:n≤31):shr .u32 x (n:Int)=x/2^n:=by
 unfold shr
 rw [Int.toNat_natCast,Nat.min_eq_left (by show n≤32; omega)]
theorem and_one (x:Int) (h0:0≤x) (h1:x<18446744073709551616):Go.bits .and .u64 x 1=x%2:=by
 obtain ⟨X,rfl⟩:=Int.eq_ofNat_of_zero_le h0
 rw [show (1:Int)=((1:Nat):Int) from rfl,bits_and_u64_nat _ _ (by omega) (by decide)]
 rw [Nat.and_one_is_mod]; omega
theorem bit_calls (b o:Nat) (x:Int) (i:Nat) (w:World) (hx:IntAt w b o x) (hi:i≤1099511627776) {n:Nat} (hs:Bd n x) (hn:n≤big) :
  Calls Tryz.prog 169 #[.pointer (some ⟨b,o,none⟩),.int .i64 i] w fun e w'=>e = .returned (.int .u64 ((x.natAbs/2^i%2:Nat):Int))∧Hid (∃ nd,w'=w.drewN nd):=by
 obtain ⟨neg,A,c,ws,h1,h2,h3,h4⟩:=hx.out
 have hl1:ws.length≤34359738368:=h4.small hs hn
 have hlt1:=hx.lt
 have hv:=h4.val_eq
 have hv2:(val ws).toNat=x.natAbs:=by omega
 clear hs hv
 obtain ⟨j,t,ht,hjt⟩:∃ j t:Nat,t<32∧i=32*j+t:=⟨i/32,i%32,by omega,by omega⟩
 have hd1:Int.tdiv (i:Int) 32=(j:Int):=by rw [Int.tdiv_eq_ediv_of_nonneg (by omega)]; omega
 have hd2:Int.tmod (i:Int) 32=(t:Int):=by rw [Int.tmod_eq_emod_of_nonneg (by omega)]; omega
 have hd3:IntKind.i64.wrap (j:Int)=(j:Int):=IntWalk.i64_in _ (by omega)
 have hd4:IntKind.i64.wrap (t:Int)=(t:Int):=IntWalk.i64_in _ (by omega)
 by_cases h0:j<ws.length
 ·obtain ⟨ad,rfl⟩:=h3.ptr (by omega)
  have hcy:=h3.cell (j:=j) h0
  rw [zaO] at hcy
  have hb:=bit_words ws h4.wd j t ht h0
  have hby:=h4.wd.rd (j:Int)
  rw [hv2,←hjt] at hb
  generalize rd ws (j:Int)=y at *
  have h2p:(0:Int)<2^t:=Int.pow_pos (by decide)
  have hy1:0≤y/2^t:=Int.ediv_nonneg hby.1 (Int.le_of_lt h2p)
  have hy2:y/2^t≤y:=Int.ediv_le_self _ hby.1
  have hfin:Go.bits .and .u64 (IntKind.u64.wrap (y/2^t)) 1=((x.natAbs/2^i%2:Nat):Int):=by
   rw [u64w hy1 (by omega),and_one _ hy1 (by omega),hb,Int.toNat_of_nonneg (by omega)]
  have HF:=Lib.hid hfin
  have hge:¬ (ws.length:Int)≤(j:Int):=by omega
  have hs1:=shr32_eq y t (by omega)
  clear hb hv2 hjt hfin hy1 hy2 h2p
  clear h3 h4
  generalize ws.length=L at *
  go_enter Tryz.func169,Tryz.ntmps169
  go_wp2
  go_ret
  exact ⟨congrArg (fun v=>Ending.returned (.int .u64 v)) HF.out,⟨0,rfl⟩⟩
 ·have hb:=bit_high ws h4.wd j t (by omega)
  rw [hv2,←hjt] at hb
  have hge:(ws.length:Int)≤(j:Int):=by omega
  have HB:=Lib.hid hb
  clear hb hv2 hjt h3 h4
  generalize ws.length=L at *
  rw [HB.out]
  go_enter Tryz.func169,Tryz.ntmps169
  go_wp2
  go_ret
  exact ⟨rfl,⟨0,rfl⟩⟩
end Go.Proofs.ZP
end
