/- Texts under the proof, joined by a program (prune.py): Shelf, QTabShow. -/
import Derived.Shelf.Strings.Builder1
import Derived.Shelf.Strings.Builder2
import Derived.Shelf.Strings.Trim
import Derived.Shelf.Small.Utf8
import Derived.Shelf.Small.Bits
import Derived.Shelf.Small.Strs
import Derived.Shelf.Small.Wraps
import Derived.Shelf.Strings.BuilderF
import Derived.Shelf.Strconv.Itoa0
import Derived.Shelf.Strconv.Itoa1
import Derived.Shelf.LaysM
import Derived.Shelf.Strconv.Itoa2
import Derived.Shelf.Strconv.Itoa3
import Derived.Shelf.Strings.Search1
import Derived.Shelf.Strings.Prefix
import Derived.Shelf.Strings.Runes
import Derived.Shelf.Strings.AsciiSet
import Derived.Shelf.Bits.Mul64
import Derived.Shelf.Strings.Repeat
import Derived.Shelf.Unicode.DecodeSlow
import Derived.Test.YtglaeambknhjlaaGreatDoorProg
import Derived.Test.YtglaeambknhjlaaGreatDoorCShowTable02
import Derived.Deep.CutRange
set_option linter.unusedVariables false
set_option linter.unusedSimpArgs false
set_option exponentiation.threshold 20001
set_option maxHeartbeats 8000000
set_option maxRecDepth 100000
section
namespace Go.Proofs
open Go.Shelf
def Tryz.lays128_ren:Go.Shelf.Ren:=⟨fun|128=>215|n=>n,fun|51=>171|3=>3|4=>4|46=>155|5=>5|9=>9|n=>n,fun|n=>n⟩
theorem Tryz.lays128:Go.Proofs.Lays.n128 Tryz.prog Tryz.lays128_ren:={
 mixed:=by kernel_rfl
 f128:=Tryz.func215.trans (congrArg some (by kernel_rfl))
 t3:=Tryz.underlying3
 a3:=Tryz.isAgg3
 z3:=Tryz.sizeOf3
 v3:=Tryz.zeroValue3
 t4:=Tryz.underlying4
 a4:=Tryz.isAgg4
 z4:=Tryz.sizeOf4
 v4:=Tryz.zeroValue4
 t5:=Tryz.underlying5
 a5:=Tryz.isAgg5
 z5:=Tryz.sizeOf5
 v5:=Tryz.zeroValue5
 t9:=Tryz.underlying9
 a9:=Tryz.isAgg9
 z9:=Tryz.sizeOf9
 v9:=Tryz.zeroValue9
 t46:=Tryz.underlying155
 a46:=Tryz.isAgg155
 z46:=Tryz.sizeOf155
 v46:=Tryz.zeroValue155
 t51:=Tryz.underlying171
 a51:=Tryz.isAgg171
 z51:=Tryz.sizeOf171
 v51:=Tryz.zeroValue171 }
theorem Tryz.bits_Len32 (x:Int) (w:World) (h0:0≤x) (h1:x≤4294967295) :
  Calls Tryz.prog 215 #[.int .u32 x] w fun e w'=>e = .returned (.int .i64 (Lib.bitLen x.toNat))∧w'=w:=Any.bits_Len32 Tryz.lays128 x w h0 h1
def Tryz.lays133_ren:Go.Shelf.Ren:=⟨fun|133=>243|128=>215|n=>n,fun|51=>171|3=>3|4=>4|46=>155|5=>5|9=>9|n=>n,fun|n=>n⟩
theorem Tryz.lays133:Go.Proofs.Lays.n133 Tryz.prog Tryz.lays133_ren:={
 mixed:=by kernel_rfl
 f128:=Tryz.func215.trans (congrArg some (by kernel_rfl))
 f133:=Tryz.func243.trans (congrArg some (by kernel_rfl))
 t3:=Tryz.underlying3
 a3:=Tryz.isAgg3
 z3:=Tryz.sizeOf3
 v3:=Tryz.zeroValue3
 t4:=Tryz.underlying4
 a4:=Tryz.isAgg4
 z4:=Tryz.sizeOf4
 v4:=Tryz.zeroValue4
 t5:=Tryz.underlying5
 a5:=Tryz.isAgg5
 z5:=Tryz.sizeOf5
 v5:=Tryz.zeroValue5
 t9:=Tryz.underlying9
 a9:=Tryz.isAgg9
 z9:=Tryz.sizeOf9
 v9:=Tryz.zeroValue9
 t46:=Tryz.underlying155
 a46:=Tryz.isAgg155
 z46:=Tryz.sizeOf155
 v46:=Tryz.zeroValue155
 t51:=Tryz.underlying171
 a51:=Tryz.isAgg171
 z51:=Tryz.sizeOf171
 v51:=Tryz.zeroValue171 }
theorem Tryz.bits_LeadingZeros32 (x:Int) (w:World) (h0:0≤x) (h1:x≤4294967295) :
  Calls Tryz.prog 243 #[.int .u32 x] w fun e w'=>e = .returned (.int .i64 (32-(Lib.bitLen x.toNat:Int)))∧w'=w:=Any.bits_LeadingZeros32 Tryz.lays133 x w h0 h1
def Tryz.lays103_ren:Go.Shelf.Ren:=⟨fun|103=>192|210=>231|206=>226|n=>n,fun|9=>9|4=>4|24=>96|3=>3|n=>n,fun|n=>n⟩
theorem Tryz.lays103:Go.Proofs.Lays.n103 Tryz.prog Tryz.lays103_ren:={
 mixed:=by kernel_rfl
 f103:=Tryz.func192.trans (congrArg some (by kernel_rfl))
 f206:=Tryz.func226.trans (congrArg some (by kernel_rfl))
 f210:=Tryz.func231.trans (congrArg some (by kernel_rfl))
 t3:=Tryz.underlying3
 a3:=Tryz.isAgg3
 z3:=Tryz.sizeOf3
 v3:=Tryz.zeroValue3
 t4:=Tryz.underlying4
 a4:=Tryz.isAgg4
 z4:=Tryz.sizeOf4
 v4:=Tryz.zeroValue4
 t9:=Tryz.underlying9
 a9:=Tryz.isAgg9
 z9:=Tryz.sizeOf9
 v9:=Tryz.zeroValue9
 t24:=Tryz.underlying96
 a24:=Tryz.isAgg96
 z24:=Tryz.sizeOf96
 v24:=Tryz.zeroValue96 }
open Go.RowKit in
theorem Tryz.strings_CutPrefix (s p:ByteArray) (w:World) :
  Calls Tryz.prog 192 #[.string s,.string p] w fun e w'=>e = .returned (.tuple #[.string ⟨(Lib.trimPrefix s.data.toList p.data.toList).toArray⟩,.bool (Lib.hasPrefix s.data.toList p.data.toList)])∧w'=w:=Any.strings_CutPrefix Tryz.lays103 s p w
def Tryz.laysM171_ren:Go.Shelf.Ren:=⟨fun|171=>170|243=>221|246=>240|283=>252|284=>253|285=>254|286=>255|129=>260|317=>259|318=>261|319=>262|320=>263|337=>267|338=>268|n=>n,fun|3=>3|9=>9|2=>2|4=>4|171=>222|0=>0|53=>64|37=>95|5=>5|173=>225|212=>230|51=>171|20=>20|213=>231|46=>155|232=>239|233=>240|n=>n,fun|17=>1|18=>4|19=>5|n=>n⟩
theorem Tryz.laysM171:Go.Proofs.LaysM.n171 Tryz.prog Tryz.laysM171_ren:={
 mixed:=by kernel_rfl
 f129:=Tryz.func260.trans (congrArg some (by kernel_rfl))
 f171:=Tryz.func170.trans (congrArg some (by kernel_rfl))
 f243:=Tryz.func221.trans (congrArg some (by kernel_rfl))
 f246:=Tryz.func240.trans (congrArg some (by kernel_rfl))
 f283:=Tryz.func252.trans (congrArg some (by kernel_rfl))
 f284:=Tryz.func253.trans (congrArg some (by kernel_rfl))
 f285:=Tryz.func254.trans (congrArg some (by kernel_rfl))
 f286:=Tryz.func255.trans (congrArg some (by kernel_rfl))
 f317:=Tryz.func259.trans (congrArg some (by kernel_rfl))
 f318:=Tryz.func261.trans (congrArg some (by kernel_rfl))
 f319:=Tryz.func262.trans (congrArg some (by kernel_rfl))
 f320:=Tryz.func263.trans (congrArg some (by kernel_rfl))
 f337:=Tryz.func267.trans (congrArg some (by kernel_rfl))
 f338:=Tryz.func268.trans (congrArg some (by kernel_rfl))
 t0:=Tryz.underlying0
 a0:=Tryz.isAgg0
 z0:=Tryz.sizeOf0
 v0:=Tryz.zeroValue0
 t2:=Tryz.underlying2
 a2:=Tryz.isAgg2
 z2:=Tryz.sizeOf2
 v2:=Tryz.zeroValue2
 t3:=Tryz.underlying3
 a3:=Tryz.isAgg3
 z3:=Tryz.sizeOf3
 v3:=Tryz.zeroValue3
 t4:=Tryz.underlying4
 a4:=Tryz.isAgg4
 z4:=Tryz.sizeOf4
 v4:=Tryz.zeroValue4
 t5:=Tryz.underlying5
 a5:=Tryz.isAgg5
 z5:=Tryz.sizeOf5
 v5:=Tryz.zeroValue5
 t9:=Tryz.underlying9
 a9:=Tryz.isAgg9
 z9:=Tryz.sizeOf9
 v9:=Tryz.zeroValue9
 t20:=Tryz.underlying20
 a20:=Tryz.isAgg20
 z20:=Tryz.sizeOf20
 v20:=Tryz.zeroValue20
 t37:=Tryz.underlying95
 a37:=Tryz.isAgg95
 z37:=Tryz.sizeOf95
 v37:=Tryz.zeroValue95
 t46:=Tryz.underlying155
 a46:=Tryz.isAgg155
 z46:=Tryz.sizeOf155
 v46:=Tryz.zeroValue155
 t51:=Tryz.underlying171
 a51:=Tryz.isAgg171
 z51:=Tryz.sizeOf171
 v51:=Tryz.zeroValue171
 t53:=Tryz.underlying64
 a53:=Tryz.isAgg64
 z53:=Tryz.sizeOf64
 v53:=Tryz.zeroValue64
 t171:=Tryz.underlying222
 a171:=Tryz.isAgg222
 z171:=Tryz.sizeOf222
 v171:=Tryz.zeroValue222
 t173:=Tryz.underlying225
 a173:=Tryz.isAgg225
 z173:=Tryz.sizeOf225
 v173:=Tryz.zeroValue225
 t212:=Tryz.underlying230
 a212:=Tryz.isAgg230
 z212:=Tryz.sizeOf230
 v212:=Tryz.zeroValue230
 t213:=Tryz.underlying231
 a213:=Tryz.isAgg231
 z213:=Tryz.sizeOf231
 t232:=Tryz.underlying239
 a232:=Tryz.isAgg239
 z232:=Tryz.sizeOf239
 v232:=Tryz.zeroValue239
 t233:=Tryz.underlying240
 a233:=Tryz.isAgg240
 z233:=Tryz.sizeOf240
 v233:=Tryz.zeroValue240
 g17:=by kernel_rfl
 g18:=by kernel_rfl
 g19:=by kernel_rfl
 i0:=by kernel_rfl
 i2:=by kernel_rfl
 i3:=by kernel_rfl
 i4:=by kernel_rfl
 i5:=by kernel_rfl
 i9:=by kernel_rfl
 i20:=by kernel_rfl
 i37:=by kernel_rfl
 i46:=by kernel_rfl
 i51:=by kernel_rfl
 i53:=by kernel_rfl
 i171:=by kernel_rfl
 i173:=by kernel_rfl
 i212:=by kernel_rfl
 i232:=by kernel_rfl
 i233:=by kernel_rfl
 m17:=by kernel_rfl
 m18:=by kernel_rfl
 m19:=by kernel_rfl }
open Go.RowKit Go.Sort Go.Lib in
theorem Tryz.strconv_Itoa (n:Int) (h0 : -9223372036854775808≤n) (h1:n≤9223372036854775807) (w:World) (htab:Lib.TabIs Tryz.prog w "internal/strconv.uint64pow10" .u64 Lib.pow10Tab) :
  Calls Tryz.prog 170 #[.int .i64 n] w fun e w'=>e = .returned (.string ⟨(Lib.itoa n).toArray⟩)∧∃ k os,w'=grow (w.drewN k) os:=Any.strconv_Itoa Tryz.laysM171 n h0 h1 w htab
def Tryz.lays105_ren:Go.Shelf.Ren:=⟨fun|105=>99|212=>178|99=>179|165=>180|166=>181|170=>182|169=>183|263=>224|264=>225|206=>226|240=>227|241=>228|276=>241|277=>242|n=>n,fun|9=>9|3=>3|4=>4|20=>20|0=>0|46=>155|109=>156|5=>5|72=>161|76=>165|51=>171|146=>194|53=>64|148=>196|70=>159|37=>95|75=>164|127=>198|164=>212|80=>107|n=>n,fun|n=>n⟩
theorem Tryz.lays105:Go.Proofs.Lays.n105 Tryz.prog Tryz.lays105_ren:={
 mixed:=by kernel_rfl
 f99:=Tryz.func179.trans (congrArg some (by kernel_rfl))
 f105:=Tryz.func99.trans (congrArg some (by kernel_rfl))
 f165:=Tryz.func180.trans (congrArg some (by kernel_rfl))
 f166:=Tryz.func181.trans (congrArg some (by kernel_rfl))
 f169:=Tryz.func183.trans (congrArg some (by kernel_rfl))
 f170:=Tryz.func182.trans (congrArg some (by kernel_rfl))
 f206:=Tryz.func226.trans (congrArg some (by kernel_rfl))
 f212:=Tryz.func178.trans (congrArg some (by kernel_rfl))
 f240:=Tryz.func227.trans (congrArg some (by kernel_rfl))
 f241:=Tryz.func228.trans (congrArg some (by kernel_rfl))
 f263:=Tryz.func224.trans (congrArg some (by kernel_rfl))
 f264:=Tryz.func225.trans (congrArg some (by kernel_rfl))
 f276:=Tryz.func241.trans (congrArg some (by kernel_rfl))
 f277:=Tryz.func242.trans (congrArg some (by kernel_rfl))
 t0:=Tryz.underlying0
 a0:=Tryz.isAgg0
 z0:=Tryz.sizeOf0
 v0:=Tryz.zeroValue0
 t3:=Tryz.underlying3
 a3:=Tryz.isAgg3
 z3:=Tryz.sizeOf3
 v3:=Tryz.zeroValue3
 t4:=Tryz.underlying4
 a4:=Tryz.isAgg4
 z4:=Tryz.sizeOf4
 v4:=Tryz.zeroValue4
 t5:=Tryz.underlying5
 a5:=Tryz.isAgg5
 z5:=Tryz.sizeOf5
 v5:=Tryz.zeroValue5
 t9:=Tryz.underlying9
 a9:=Tryz.isAgg9
 z9:=Tryz.sizeOf9
 v9:=Tryz.zeroValue9
 t20:=Tryz.underlying20
 a20:=Tryz.isAgg20
 z20:=Tryz.sizeOf20
 v20:=Tryz.zeroValue20
 t37:=Tryz.underlying95
 a37:=Tryz.isAgg95
 z37:=Tryz.sizeOf95
 v37:=Tryz.zeroValue95
 t46:=Tryz.underlying155
 a46:=Tryz.isAgg155
 z46:=Tryz.sizeOf155
 v46:=Tryz.zeroValue155
 t51:=Tryz.underlying171
 a51:=Tryz.isAgg171
 z51:=Tryz.sizeOf171
 v51:=Tryz.zeroValue171
 t53:=Tryz.underlying64
 a53:=Tryz.isAgg64
 z53:=Tryz.sizeOf64
 v53:=Tryz.zeroValue64
 t70:=Tryz.underlying159
 a70:=Tryz.isAgg159
 z70:=Tryz.sizeOf159
 v70:=Tryz.zeroValue159
 t72:=Tryz.underlying161
 a72:=Tryz.isAgg161
 z72:=Tryz.sizeOf161
 v72:=Tryz.zeroValue161
 t75:=Tryz.underlying164
 a75:=Tryz.isAgg164
 z75:=Tryz.sizeOf164
 v75:=Tryz.zeroValue164
 t76:=Tryz.underlying165
 a76:=Tryz.isAgg165
 z76:=Tryz.sizeOf165
 v76:=Tryz.zeroValue165
 t109:=Tryz.underlying156
 a109:=Tryz.isAgg156
 z109:=Tryz.sizeOf156
 v109:=Tryz.zeroValue156
 t127:=Tryz.underlying198
 a127:=Tryz.isAgg198
 z127:=Tryz.sizeOf198
 v127:=Tryz.zeroValue198
 t146:=Tryz.underlying194
 a146:=Tryz.isAgg194
 z146:=Tryz.sizeOf194
 v146:=Tryz.zeroValue194
 t148:=Tryz.underlying196
 a148:=Tryz.isAgg196
 z148:=Tryz.sizeOf196
 v148:=Tryz.zeroValue196
 t164:=Tryz.underlying212
 a164:=Tryz.isAgg212
 z164:=Tryz.sizeOf212
 v164:=Tryz.zeroValue212 }
theorem Tryz.Builder_Extra_105:Builder.Extra Tryz.prog Tryz.lays105_ren:={
 sizeBuilder:=by kernel_rfl
 liesBuilder:=by kernel_rfl
 t5:=Tryz.underlying5
 a5:=Tryz.isAgg5
 z5:=Tryz.sizeOf5
 v5:=Tryz.zeroValue5
 infoByte:=by kernel_rfl
 cellsByte:=by kernel_rfl
 sizeByte:=by kernel_rfl
 neB5:=by decide }
open Go.RowKit Go.Lib in
theorem Tryz.strings_Repeat_main (s:ByteArray) (c:Nat) (w:World) (hc2:2≤c) (hc:c≤9223372036854775807) (hlen:s.size*c≤140737488355328) (h0:0<s.size) :
  Calls Tryz.prog 99 #[.string s,.int .i64 c] w fun e w'=>e = .returned (.string ⟨(Lib.repeatL s.data.toList c).toArray⟩)∧Below w.heap.size w w':=Any.strings_Repeat_main Tryz.lays105 Tryz.Builder_Extra_105 s c w hc2 hc hlen h0
open Go.RowKit Go.Lib in
theorem Tryz.strings_Repeat_zero (s:ByteArray) (w:World) :
  Calls Tryz.prog 99 #[.string s,.int .i64 0] w fun e w'=>e = .returned (.string ⟨#[]⟩)∧w'=w:=Any.strings_Repeat_zero Tryz.lays105 s w
open Go.RowKit Go.Lib in
theorem Tryz.strings_Repeat_one (s:ByteArray) (w:World) :
  Calls Tryz.prog 99 #[.string s,.int .i64 1] w fun e w'=>e = .returned (.string s)∧w'=w:=Any.strings_Repeat_one Tryz.lays105 s w
end Go.Proofs
end
section
namespace Go.Proofs.YtglaeambknhjlaaGreatDoor.Q
open Go.RowKit Go.Proofs.YtglaeambknhjlaaGreatDoorW.PrintWords Go.Proofs.YtglaeambknhjlaaGreatDoorW.PrintLast Go.Proofs.YtglaeambknhjlaaGreatDoorW.PrintMore Go.Maps
attribute [local go_sem] max2_int min2_int max_two min_two
theorem cut_full {P:Program} (t e:TypeId) (kh km:IntKind) {i:TypeInfo} (ht:P.underlying t=some (.slice e)) (hi:P.info? e=some i) (A:Option Addr) (n c:Nat) (j:Int) (h0:0≤j) (hm:j≤c) :
    ∀ W:World,(Instr.slice t (.slice A n c) none (some (.int kh j)) (some (.int km j))).run P W = .ok (.slice A j.toNat j.toNat) W:=by
  intro W
  have hel:P.elem t=e:=by simp [Program.elem,ht]
  have hu:P.underlying t=some (.slice (P.elem t)):=by rw [hel]; exact ht
  have ha:(A.map fun x=>x.add 0)=A:=by cases A<;>simp [Addr.add]
  rw [run_slice_hm W t A n c hu kh km j j h0 (Int.le_refl _) (by omega),hel]
  simp [sizeOf,typeInfo,hi,sliced,Result.andThen,ha]
def blk (c:Nat):ByteArray:=⟨(List.replicate c 32).toArray⟩
theorem blk_bytes (c:Nat):bytesOf (blk c)=List.replicate c 32:=by
  unfold bytesOf blk
  simp
theorem repeat_blank (c:Nat) (w:World) (h2:2≤c) (hc:c≤100000000):Calls Tryz.prog 99 #[.string ⟨#[32]⟩,.int .i64 c] w fun e w'=>e = .returned (.string (blk c))∧Below w.heap.size w w':=by
  refine (Tryz.strings_Repeat_main ⟨#[32]⟩ c w h2 (by omega) (by show 1*c≤_; omega) (by decide)).mono ?_
  rintro e w' ⟨he,hb⟩
  refine ⟨he.trans ?_,hb⟩
  have hrl:∀ c,Lib.repeatL [(32:UInt8)] c=List.replicate c 32:=fun c=>by
    induction c with
    | zero=>rfl
    | succ n ih=>simp [Lib.repeatL,ih,List.replicate_succ]
  unfold blk
  rw [show (⟨#[32]⟩:ByteArray).data.toList = [32] from rfl,hrl]
theorem grid_in {w0 wx:World} {A:Option Addr} {R:List (List ByteArray)} (h:Grid w0 A R) (hb:Below w0.heap.size w0 wx) {i:Nat} (hi:i<R.length):∃ ad B c,A=some ad∧wx.cell? (ad.add i)=some (.slice B (gd R i).length c)∧(gd R i).length≤c∧Kd.C Kd.string w0 B (gd R i).length (gd R i):=by
  obtain ⟨ad,B,c,e1,e2,e3,e4⟩:=grid_at h hi
  exact ⟨ad,B,c,e1,(World.cell?_of_block (hb.block _ (World.block_lt_of_cell? _ _ e2))).trans e2,e3,e4⟩
theorem table_calls (R : List (List ByteArray)) (A0 : Option Addr) (c0 : Nat) (w : World) (hR : Grid w A0 R) (hcR : R.length ≤ c0) (hbig : R.length ≤ 1048576) (hrow : ∀ i, (gd R i).length ≤ 1048576) (hz : ∀ i k, (ce R i k).size ≤ 1048576) :
    Calls Tryz.prog 26 #[.slice A0 R.length c0] w fun e w'=>e = .returned (.tuple #[.string (tabF R).1,.int .i64 (tabF R).2])∧Below w.heap.size w w':=by
  have HR:=Lib.hid hR
  have HZ:=Lib.hid hz
  have HRW:=Lib.hid hrow
  have HB:=Lib.hid (Below.refl w.heap.size w)
  clear hR hz hrow hcR
  by_cases hn:1000<R.length
  · have HT:=Lib.hid (show tabF R=(⟨#[]⟩,4) from if_pos (Or.inl hn))
    have hb:decide (1000<(R.length:Int))=true:=decide_eq_true (by omega)
    have hb2:decide (1000<R.length)=true:=decide_eq_true hn
    go_enter Tryz.func26,Tryz.ntmps26
    go_wp2
    go_ret2
    exact ⟨by rw [HT.out]; rfl,HB.out⟩
  · have hn1:R.length≤1000:=by omega
    have hb:decide (1000<(R.length:Int))=false:=decide_eq_false (by omega)
    have hb2:decide (1000<R.length)=false:=decide_eq_false (by omega)
    clear hbig
    go_enter Tryz.func26,Tryz.ntmps26
    go_wp2
    go_loopw [26] (fun v26 wr=>∃ i:Nat,i≤R.length∧v26 = .int .i64 i∧Hid (∀ r:Nat,r<i→(gd R r).length≤100)∧Hid (Below w.heap.size w wr)) (fun v26 _=>R.length-(intOf v26).toNat)
    case atStart=>exact ⟨0,Nat.zero_le _,by go_num,Lib.hid (fun r h=>absurd h (Nat.not_lt_zero _)),HB⟩
    case round =>
      obtain ⟨i,hi,rfl,HFW,HB1⟩:=hrel
      clear HB
      by_cases hil:i<R.length
      · obtain ⟨ad,B,cB,rfl,hcell,hcB,hCB⟩:=grid_at (Kd.C_below HR.out HB1.out) hil
        have hl:=HRW.out i
        clear hCB hcB
        by_cases hlen:100<(gd R i).length
        · have HT:=Lib.hid (show tabF R=(⟨#[]⟩,4) from if_pos (Or.inr (fun h=>by have:=h i hil; omega)))
          have hb:decide (100<((gd R i).length:Int))=true:=decide_eq_true (by omega)
          have hb2:decide (100<(gd R i).length)=true:=decide_eq_true (by omega)
          go_wp2
          go_ret2
          exact ⟨by rw [HT.out]; rfl,HB1.out⟩
        · have hb:decide (100<((gd R i).length:Int))=false:=decide_eq_false (by omega)
          have hb2:decide (100<(gd R i).length)=false:=decide_eq_false (by omega)
          have HF:=Lib.hid (show ∀ r:Nat,r<i+1→(gd R r).length≤100 from fun r hr=>by
            rcases Nat.lt_or_ge r i with h|h
            · exact HFW.out r h
            · obtain rfl:r=i:=by omega
              omega)
          clear hlen
          go_wp2
          go_roundw
          case rel=>exact ⟨i+1,by omega,by go_num,HF,HB1⟩
          case measure=>simp [intOf]; omega
      · obtain rfl:i=R.length:=by omega
        have HFEW:=Lib.hid (show fewC R from fun r h=>HFW.out r h)
        have HC:=Lib.hid (few_all HFEW.out)
        clear HFW hil hi HRW
        obtain ⟨wb,hwb⟩:∃ wb,wb=wr:=⟨_,rfl⟩
        subst hwb
        have HRr:=Lib.hid (show Grid wb A0 R from Kd.C_below HR.out HB1.out)
        clear HR
        go_wp2_with fail
        refine (columns_calls R A0 c0 _ HRr.out hn1 HC.out HZ.out).mono ?_
        rintro e w1 ⟨vL,vW,rfl,hst⟩
        obtain ⟨bs,hca,hbl⟩:=hst
        have HWR:=Lib.hid (wAll_rd HZ.out R.length).1
        have HSA:=Lib.hid (size_all HZ.out)
        have HTL:=Lib.hid (tot_le HZ.out HWR.out HC.out)
        have HCL:=Lib.hid (cln_le HZ.out HWR.out)
        have HWL:=Lib.hid (show ∀ r,r<R.length→(gd R r).length≤(wAll R R.length).length from fun r h=>wAll_ge R R.length r h)
        have HTA:=Lib.hid (show tabF R=if 65536<tot R (wAll R R.length) R.length then (⟨#[]⟩,4) else if ¬ okR R then (⟨#[]⟩,3) else (strOfNums (ttx R (wAll R R.length) R.length),0) from if_neg (by rintro (h|h); omega; exact h HFEW.out))
        replace hca:CA wb w1 vL vW (wAll R R.length) bs (cel R R.length 0) (R.length*101+0):=hca
        replace hbl:bs.length=(wAll R R.length).length:=hbl
        generalize wAll R R.length=W at *
        obtain ⟨A4,c4,e4⟩:=Kd.R_slice hca.l
        obtain ⟨A5,c5,e5⟩:=Kd.R_slice hca.w
        subst e4 e5
        have HCA:=Lib.hid hca
        have HBL:=Lib.hid hbl
        have HBR:=Lib.hid (show ∀ wx,Below w1.heap.size w1 wx→Below wb.heap.size wb wx from fun wx h=>hca.below.trans (h.mono hca.below.size))
        have HB2:=Lib.hid (Below.refl w1.heap.size w1)
        clear hca hbl HFEW
        go_wp2
        go_loopw [41,8] (fun v41 v8 wx=>∃ i:Nat,i≤R.length∧v41 = .int .i64 i∧v8 = .int .i64 (tot R W i)∧Hid (Below w1.heap.size w1 wx)) (fun v41 _ _=>R.length-(intOf v41).toNat)
        case atStart=>exact ⟨0,Nat.zero_le _,by go_num,rfl,HB2⟩
        case round =>
          obtain ⟨i,hi,rfl,rfl,HB3⟩:=hrel
          clear HB2
          by_cases hil:i<R.length
          · obtain ⟨ad,B,cB,rfl,hcell,hcB,hCB⟩:=grid_in HRr.out (HBR.out _ HB3.out) hil
            have HCB:=Lib.hid hCB
            have hl100:=HC.out i
            have htl:=HTL.out i
            clear hCB
            go_wp2
            go_loopw [47,8] (fun v47 v8 wx=>∃ k:Nat,k≤(gd R i).length∧v47 = .int .i64 k∧v8 = .int .i64 (tot R W i+cln R W i k)∧Hid (Below w1.heap.size w1 wx)) (fun v47 _ _=>(gd R i).length-(intOf v47).toNat)
            case atStart=>exact ⟨0,Nat.zero_le _,by go_num,by (show Value.int .i64 (tot R W i) = .int .i64 (tot R W i+0)); rw [Int.add_zero],HB3⟩
            case round =>
              clear HB3
              obtain ⟨k,hk,rfl,rfl,HB3⟩:=hrel
              have hcl:=HCL.out i k
              by_cases hkl:k<(gd R i).length
              · obtain ⟨ad2,rfl,hcell2⟩:=cell_at (Kd.C_below HCB.out (HBR.out _ HB3.out)) hkl
                have hsz:=HZ.out i k
                by_cases hlast:(k:Int)<((gd R i).length:Int)-1
                · have hb:decide ((k:Int)<((gd R i).length:Int)-1)=true:=decide_eq_true hlast
                  have hkW:k<W.length:=by have:=HWL.out i hil; omega
                  obtain ⟨g5,c5',e5,_,_,_⟩:=Kd.R_form HCA.out.w (by omega)
                  injection e5 with e5 _ e6
                  subst e5 e6
                  have c2:=(Kd.R_cell (enc:=Value.int .i64) (h1:=fun _=>rfl) 0 (HCA.out.move HB3.out).w (k:Int) (by omega) (by omega)).1
                  rw [Int.toNat_natCast,show rdOf 0 W (k:Int)=rd W (k:Int) from rfl] at c2
                  have hq:=HWR.out k
                  have HX:=Lib.hid (show cln R W i (k+1)=cln R W i k+(rd W (k:Int)+2) from by conv=>lhs; unfold cln; rw [if_pos hlast])
                  generalize rd W (k:Int)=q at *
                  clear hlast hcell
                  go_wp2
                  go_roundw
                  case rel=>exact ⟨k+1,by omega,by go_num,by rw [HX.out]; first|done|go_num,HB3⟩
                  case measure=>simp [intOf]; omega
                · have hb:decide ((k:Int)<((gd R i).length:Int)-1)=false:=decide_eq_false hlast
                  have hes:(gd R i)[k]=ce R i k:=by
                    unfold ce; rw [List.getD_eq_getElem?_getD,List.getElem?_eq_getElem hkl]; rfl
                  have HX:=Lib.hid (show cln R W i (k+1)=cln R W i k+(ce R i k).size from by conv=>lhs; unfold cln; rw [if_neg hlast])
                  rw [show (gd R i).getD k ByteArray.empty=ce R i k from rfl] at hcell2
                  generalize ce R i k=s at *
                  clear hlast hcell hes
                  go_wp2
                  go_roundw
                  case rel=>exact ⟨k+1,by omega,by go_num,by rw [HX.out]; first|done|go_num,HB3⟩
                  case measure=>simp [intOf]; omega
              · obtain rfl:k=(gd R i).length:=by omega
                have HX:=Lib.hid (show tot R W (i+1)=tot R W i+cln R W i (gd R i).length+1 from rfl)
                clear hcell HCB
                go_wp2
                go_roundw
                case rel=>exact ⟨i+1,by omega,by go_num,by rw [HX.out]; first|done|go_num,HB3⟩
                case measure=>simp [intOf]; omega
          · obtain rfl:i=R.length:=by omega
            have htl:=HTL.out R.length
            clear hil hi
            by_cases hlarge:65536<tot R W R.length
            · have HT:=Lib.hid (show tabF R=(⟨#[]⟩,4) from by rw [HTA.out,if_pos hlarge])
              have hb:decide (65536<tot R W R.length)=true:=decide_eq_true hlarge
              go_wp2
              go_ret2
              exact ⟨by rw [HT.out]; rfl,HB1.out.trans ((HBR.out _ HB3.out).mono HB1.out.size)⟩
            · have HTA2 := Lib.hid (show tabF R = if ¬ okR R then (⟨#[]⟩, 3) else (strOfNums (ttx R W R.length), 0) from by rw [HTA.out, if_neg hlarge])
              have hb:decide (65536<tot R W R.length)=false:=decide_eq_false hlarge
              clear HTA
              go_wp2
              have HO0:=Lib.hid (show Ost R W bs (R.length*101+0) wb wr (.slice A4 bs.length c4) (.slice A5 W.length c5) (.slice none 0 0) 0 0 from ⟨(HCA.out.move HB3.out).imp (Nat.le_refl _) (fun j r x h=>rem_start h),Kd.R_nil _ _ _ _ _,fun r q h=>by omega⟩)
              have HTN:=Lib.hid (show tot R W R.length≤65536 from by omega)
              clear HCA hlarge htl HB3 HBR
              go_loopw [76,13] (fun v76 v13 wx=>∃ i:Nat,i≤R.length∧v76 = .int .i64 i∧Hid (Ost R W bs (R.length*101+0) wb wx (.slice A4 bs.length c4) (.slice A5 W.length c5) v13 i 0)) (fun v76 _ _=>R.length-(intOf v76).toNat)
              case atStart=>exact ⟨0,Nat.zero_le _,by go_num,HO0⟩
              case round =>
                clear HO0
                obtain ⟨i,hi,rfl,HO⟩:=hrel
                by_cases hil:i<R.length
                · obtain ⟨ad,B,cB,rfl,hcell,hcB,hCB⟩:=grid_in HRr.out HO.out.c.below hil
                  have HCB:=Lib.hid hCB
                  have hl100:=HC.out i
                  clear hCB
                  go_wp2
                  go_loopw [83,13] (fun v83 v13 wx=>∃ k:Nat,k≤(gd R i).length∧v83 = .int .i64 k∧Hid (Ost R W bs (R.length*101+0) wb wx (.slice A4 bs.length c4) (.slice A5 W.length c5) v13 i k)) (fun v83 _ _=>(gd R i).length-(intOf v83).toNat)
                  case atStart=>exact ⟨0,Nat.zero_le _,by go_num,HO⟩
                  case round =>
                    clear HO hcell
                    obtain ⟨k,hk,rfl,HO⟩:=hrel
                    by_cases hkl:k<(gd R i).length
                    · have hkW:k<W.length:=by have:=HWL.out i hil; omega
                      have hkb:k<bs.length:=by have:=HBL.out; omega
                      obtain ⟨b,hb⟩:∃ b,bs[k]? = some b:=⟨_,List.getElem?_eq_getElem hkb⟩
                      obtain ⟨g4,c4',e4,_,_,_⟩:=Kd.R_form HO.out.c.l (by omega)
                      injection e4 with e4 _ e6
                      subst e4 e6
                      have c1:=(Kd.R_cell (enc:=fun b=>Value.map (some b)) (h1:=fun _=>rfl) 0 HO.out.c.l (k:Int) (by omega) (by omega)).1
                      have eb:rdOf 0 bs (k:Int)=b:=by
                        show bs.getD (k:Int).toNat 0=b
                        rw [Int.toNat_natCast,List.getD_eq_getElem?_getD,hb]; rfl
                      rw [eb,Int.toNat_natCast] at c1
                      have HBB:=Lib.hid hb
                      clear eb hb
                      go_wp2_with fail
                      refine (take_calls b (R.length*101+0) i (ce R i k) (rem R i k k) _ (HO.out.c.maps k b HBB.out).2 (rem_here hil hkl) (by omega)).mono ?_
                      rintro e w2 ⟨okb,rfl,hm2,hg2⟩
                      obtain ⟨hc2,ho2⟩:=HO.out.take HBB.out hm2 hg2
                      have HC2:=Lib.hid hc2
                      have HO2:=Lib.hid ho2
                      have HOK:=Lib.hid HO.out.ok
                      clear hc2 ho2 hm2 hg2 c1 HO HBB
                      have hz2:=HZ.out i k
                      have HBAD:=Lib.hid (show ∀ j:Nat,j<(ce R i k).size→¬ 32≤bt (ce R i k) (j:Int)→tabF R=(⟨#[]⟩,3) from fun j hj h=>by rw [HTA2.out,if_pos (fun hall=>h (hall i k hil hkl j hj))])
                      have HCTX:=Lib.hid (show ctx R W i (k+1)=ctx R W i k++bytesOf (ce R i k)++(if (k:Int)<((gd R i).length:Int)-1 then List.replicate (rd W (k:Int)+2-(ce R i k).size).toNat 32 else []) from rfl)
                      have HLE:=Lib.hid (show ((ce R i k).size:Int)≤rd W (k:Int) from HSA.out i k hkl)
                      have HLN:=Lib.hid (show (ttx R W i++ctx R W i k).length≤200000000000 from by
                        have h1:=ttx_len HSA.out i
                        have h2:=ctx_len (HSA.out i) k (by omega)
                        have h3:=HTL.out i
                        have h4:=HCL.out i k
                        rw [List.length_append]; omega)
                      have HSN:=Lib.hid (show ∀ r q:Nat,(r<i∨(r=i∧q<k+1))→q<(gd R r).length→okc (ce R i k)→okc (ce R r q) from fun r q h1 h2 h3=>by
                        by_cases hq:r=i∧q=k
                        · rw [hq.1,hq.2]; exact h3
                        · exact HOK.out r q (by omega) h2)
                      have hz3:(ce R i k).size≤1048576:=hz2
                      clear HOK hz2
                      generalize ce R i k=s at *
                      have kb:=fun W=>print_bytes (P:=Tryz.prog) 9 95 5 Tryz.underlying9 Tryz.underlying95 Tryz.underlying5 s W
                      have hb3:=bytes_below (Below.refl w2.heap.size w2) (Nat.le_refl _) 5 s
                      have hrd:=bytes_reads w2 5 s (by omega)
                      have HBY:=Lib.hid (show ∀ j:Nat,j<s.size→(Lib.bytesWorld w2 5 s).cell? ⟨w2.heap.size,j,none⟩=some (.int .u8 (bt s (j:Int))) from fun j hj=>by
                        obtain ⟨ad,he,hc⟩:=hrd.2.2 (by omega)
                        injection he with he
                        subst he
                        have:=hc j hj
                        rw [add_plain,←rd_nat,rd_bytesOf] at this
                        exact this)
                      have HC3:=Lib.hid (HC2.out.move hb3)
                      have HO3:=Lib.hid (show RowB (Lib.bytesWorld w2 5 s) wb.heap.size _ _ from Kd.R_below HO2.out hb3)
                      clear hb3 hrd HC2 HO2
                      go_wp2
                      generalize Lib.bytesWorld w2 5 s=w3 at *
                      generalize w2.heap.size=bb at *
                      have HB4:=Lib.hid (Below.refl w3.heap.size w3)
                      have HK0:=Lib.hid (show ∀ q:Nat,q<0→32≤bt s (q:Int) from fun q h=>absurd h (Nat.not_lt_zero _))
                      go_loopw [98] (fun v98 wx=>∃ j:Nat,j≤s.size∧v98 = .int .i64 j∧Hid (∀ q:Nat,q<j→32≤bt s (q:Int))∧Hid (Below w3.heap.size w3 wx)) (fun v98 _=>s.size-(intOf v98).toNat)
                      case atStart=>exact ⟨0,Nat.zero_le _,by go_num,HK0,HB4⟩
                      case round =>
                        clear HB4 HK0
                        obtain ⟨j,hj,rfl,HKJ,HB4⟩:=hrel
                        by_cases hjs:j<s.size
                        · have c5:=(HB4.out.cell (World.block_lt_of_cell? _ _ (HBY.out j hjs))).trans (HBY.out j hjs)
                          by_cases hlow:32≤bt s (j:Int)
                          · have hb:decide (bt s (j:Int)<32)=false:=decide_eq_false (by omega)
                            have HKN:=Lib.hid (show ∀ q:Nat,q<j+1→32≤bt s (q:Int) from fun q hq=>by
                              by_cases e:q=j
                              · rw [e]; exact hlow
                              · exact HKJ.out q (by omega))
                            clear hlow
                            generalize bt s (j:Int)=cc at *
                            go_wp2
                            go_roundw
                            case rel=>exact ⟨j+1,by omega,by go_num,HKN,HB4⟩
                            case measure=>simp [intOf]; omega
                          · have hb:decide (bt s (j:Int)<32)=true:=decide_eq_true (by omega)
                            have HT:=Lib.hid (HBAD.out j hjs (by omega))
                            clear hlow
                            generalize bt s (j:Int)=cc at *
                            go_wp2
                            go_ret2
                            exact ⟨by rw [HT.out]; rfl,HB1.out.trans ((HC3.out.move HB4.out).below.mono HB1.out.size)⟩
                        · obtain rfl : j = s.size := by omega
                          have HOKS:=Lib.hid (show okc s from HKJ.out)
                          have HC4:=Lib.hid (HC3.out.move HB4.out)
                          have HO4:=Lib.hid (show RowB wr wb.heap.size _ _ from Kd.R_below HO3.out HB4.out)
                          clear HC3 HO3 HKJ HBAD HBY HB4
                          by_cases hlast:(k:Int)<((gd R i).length:Int)-1
                          · have hb : decide ((k : Int) < ((gd R i).length : Int) - 1) = true := decide_eq_true hlast
                            rw [if_pos hlast] at HCTX
                            have hq:=HWR.out k
                            have hle:=HLE.out
                            clear hlast HLE
                            generalize hqq:rd W (k:Int)=q at *
                            have HQQ:=Lib.hid hqq
                            clear hqq
                            go_wp2_with (first
                              | (at_builtin; refine print_append_str (w0 := wb) wb.heap.size rfl (.tmp 105) (.tmp 106) 95 9 5 rfl Tryz.underlying95 Tryz.underlying9 info5 _ (ttx R W i ++ ctx R W i k) s rfl rfl ?aO ?aB ?aS ?aL ?_; (case aO => exact Kd.own_of_R HO4.out); (case aB => exact HC4.out.below); (case aS => exact HC4.out.below.size); (case aL => have := HLN.out; omega); intro v5 w5 ho hb5 hg5; have HCw5 := Lib.hid (HC4.out.out HO4.out hg5 hb5); have HOw5 := Lib.hid (show RowB w5 wb.heap.size v5 _ from Kd.R_of_own (h1 := fun _ => rfl) (ok := fun _ => True) ho (fun _ _ => trivial)); clear ho hb5 hg5;
                                 (obtain ⟨g5,c5',e5,_,_,_⟩:=Kd.R_form HCw5.out.w (by omega)); injection e5 with e5 _ e6; subst e5 e6; have c2:=(Kd.R_cell (enc:=Value.int .i64) (h1:=fun _=>rfl) 0 HCw5.out.w (k:Int) (by omega) (by omega)).1; rw [Int.toNat_natCast,show rdOf 0 W (k:Int)=rd W (k:Int) from rfl,HQQ.out] at c2))
                            obtain ⟨cnt,hcnt⟩:∃ cnt:Nat,q+2-(s.size:Int)=(cnt:Int):=⟨(q+2-(s.size:Int)).toNat,by omega⟩
                            rw [hcnt]
                            have hc2:2≤cnt∧cnt≤1048578:=by omega
                            have HCN:=Lib.hid (show (q+2-(s.size:Int)).toNat=cnt by rw [hcnt]; rfl)
                            have HSB:=Lib.hid (show (blk cnt).size≤1048578 by unfold blk; show (List.replicate cnt (32:UInt8)).toArray.size≤1048578; simp; exact hc2.2)
                            clear hcnt c2
                            refine (repeat_blank cnt _ hc2.1 (by omega)).mono ?_
                            rintro e w6 ⟨rfl,hb6⟩
                            have HC6:=Lib.hid (HCw5.out.move hb6)
                            have HO6:=Lib.hid (show RowB w6 wb.heap.size v5 _ from Kd.R_below HOw5.out hb6)
                            have HL6:=Lib.hid (show (ttx R W i++ctx R W i k++bytesOf s).length≤200001048576 by rw [List.length_append,bytesOf_length]; have:=HLN.out; omega)
                            clear hb6 HCw5 HOw5 hq hle
                            go_wp2_with (first
                              | (at_builtin; refine print_append_str (w0:=wb) wb.heap.size rfl (.tmp 113) (.tmp 122) 95 9 5 rfl Tryz.underlying95 Tryz.underlying9 info5 _ (ttx R W i++ctx R W i k++bytesOf s) (blk cnt) rfl rfl ?aO ?aB ?aS ?aL ?_; (case aO=>exact Kd.own_of_R HO6.out); (case aB=>exact HC6.out.below); (case aS=>exact HC6.out.below.size); (case aL=>have:=HL6.out; have:=HSB.out; omega); intro v7 w7 ho hb5 hg5; have HCw7:=Lib.hid (HC6.out.out HO6.out hg5 hb5); have HOw7:=Lib.hid (show RowB w7 wb.heap.size v7 _ from Kd.R_of_own (h1:=fun _=>rfl) (ok:=fun _=>True) ho (fun _ _=>trivial)); clear ho hb5 hg5))
                            have HF:=Lib.hid (show Ost R W bs (R.length*101+0) wb w7 _ _ v7 i (k+1) from ⟨HCw7.out,by rw [HCTX.out,HCN.out,←blk_bytes,←List.append_assoc,←List.append_assoc]; exact HOw7.out,fun r q h1 h2=>HSN.out r q h1 h2 HOKS.out⟩)
                            clear HCw7 HOw7 HC4 HO4 HC6 HO6
                            go_roundw
                            case rel=>exact ⟨k+1,by omega,by go_num,HF⟩
                            case measure=>simp [intOf]; omega
                          · have hb:decide ((k:Int)<((gd R i).length:Int)-1)=false:=decide_eq_false hlast
                            rw [if_neg hlast] at HCTX
                            clear hlast HLE
                            go_wp2_with (first
                              | (at_builtin; refine print_append_str (w0:=wb) wb.heap.size rfl (.tmp 105) (.tmp 106) 95 9 5 rfl Tryz.underlying95 Tryz.underlying9 info5 _ (ttx R W i++ctx R W i k) s rfl rfl ?aO ?aB ?aS ?aL ?_; (case aO=>exact Kd.own_of_R HO4.out); (case aB=>exact HC4.out.below); (case aS=>exact HC4.out.below.size); (case aL=>have:=HLN.out; omega); intro v5 w5 ho hb5 hg5; have HCw5:=Lib.hid (HC4.out.out HO4.out hg5 hb5); have HOw5:=Lib.hid (show RowB w5 wb.heap.size v5 _ from Kd.R_of_own (h1:=fun _=>rfl) (ok:=fun _=>True) ho (fun _ _=>trivial)); clear ho hb5 hg5))
                            have HF:=Lib.hid (show Ost R W bs (R.length*101+0) wb w5 _ _ v5 i (k+1) from ⟨HCw5.out,by rw [HCTX.out,List.append_nil,←List.append_assoc]; exact HOw5.out,fun r q h1 h2=>HSN.out r q h1 h2 HOKS.out⟩)
                            clear HCw5 HOw5 HC4 HO4
                            go_roundw
                            case rel=>exact ⟨k+1,by omega,by go_num,HF⟩
                            case measure=>simp [intOf]; omega
                    · obtain rfl:k=(gd R i).length:=by omega
                      have HLN:=Lib.hid (show (ttx R W i++ctx R W i (gd R i).length).length≤200000000000 from by
                        have h1:=ttx_len HSA.out i
                        have h2:=ctx_len (HSA.out i) (gd R i).length (Nat.le_refl _)
                        have h3:=HTL.out i
                        have h4:=HCL.out i (gd R i).length
                        rw [List.length_append]; omega)
                      go_wp2_with (first
                        | ((with_reducible refine gate_builtin (b:=.append) (xs:=#[.tmp 125,.tmp 126]) rfl ?_); at_builtin; refine Kd.R_append (Kd.int .u8) (w0:=wb) wb.heap.size rfl (.tmp 125) (.tmp 126) 95 5 (.int .u8 0) 1 rfl Tryz.underlying95 info5 (by rfl) (by decide) (by omega) _ (ttx R W i++ctx R W i (gd R i).length) 10 [.int .u8 10] (fun _=>True) (fun _=>False) rfl rfl ?aP (fun _ hk=>hk.elim) (fun _ _=>trivial) ?aO ?aB ?aS ?aL ?_; (case aP=>exact rfl); (case aO=>exact HO.out.o); (case aB=>exact HO.out.c.below); (case aS=>exact HO.out.c.below.size); (case aL=>have:=HLN.out; omega); intro v5 w5 ho hb5 hg5 hat; have HF:=Lib.hid (HO.out.next ho hg5 hb5); clear ho hb5 hg5 hat))
                      clear HO
                      go_roundw
                      case rel=>exact ⟨i+1,by omega,by go_num,HF⟩
                      case measure=>simp [intOf]; omega
                · obtain rfl:i=R.length:=by omega
                  have hL:tot R W R.length=((ttx R W R.length).length:Int):=(ttx_len HSA.out R.length).symm
                  have HOK:=Lib.hid (show tabF R=(strOfNums (ttx R W R.length),0) from by rw [HTA2.out,if_neg (fun h=>h (fun r k hr hk=>HO.out.ok r k (Or.inl hr) hk))])
                  have ho:=HO.out.o
                  rw [show ttx R W R.length++ctx R W R.length 0=ttx R W R.length from List.append_nil _] at ho
                  obtain ⟨A,c,e4,hc,hC⟩:=Kd.R_reads ho
                  subst e4
                  have hcv:=Kd.C_string (P:=Tryz.prog) (c:=(ttx R W R.length).length) Tryz.underlying95 Tryz.underlying5 Tryz.underlying9 hC
                  obtain ⟨i09,hi09,_,_,_⟩:=info_parts info5
                  rw [hL]
                  have hcut:=cut_full (P:=Tryz.prog) 95 5 .i64 .i64 Tryz.underlying95 hi09 A (ttx R W R.length).length c ((ttx R W R.length).length:Int) (by omega) (by omega)
                  rw [Int.toNat_natCast] at hcut
                  have HBF:=Lib.hid (HB1.out.trans (HO.out.c.below.mono HB1.out.size))
                  clear hL ho hC hc hi09 HO
                  generalize ttx R W R.length=xs at *
                  go_wp2
                  go_ret2
                  exact ⟨by rw [HOK.out]; rfl,HBF.out⟩
end Go.Proofs.YtglaeambknhjlaaGreatDoor.Q
end
