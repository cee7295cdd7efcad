/- Lemmas for the law FnProgramText, no statement of their own: no conditions. -/
import Derived.Test.YtcildnfcpkpomaaGreatDoorAk
import Derived.Lib.OthersKept
import Derived.Shelf.Bits.Mul64
import Derived.Shelf.LaysM
import Derived.Shelf.Slices.Turned
import Derived.Shelf.Small.Wraps
import Derived.Shelf.Strconv.Atoi
import Derived.Shelf.Strconv.Itoa0
import Derived.Shelf.Strconv.Itoa1
import Derived.Shelf.Strconv.Itoa2
import Derived.Shelf.Strconv.Itoa3
import Derived.Shelf.Strings.Builder1
import Derived.Shelf.Strings.Builder2
import Derived.Shelf.Strings.Builder2Cap
import Derived.Shelf.Strings.BuilderCap
import Derived.Shelf.Strings.BuilderF
import Derived.Shelf.Strings.BuilderK
import Derived.Shelf.Strings.Prefix
import Derived.Shelf.Strings.Repeat
set_option maxHeartbeats 4000000
set_option linter.unusedVariables false
set_option linter.unusedSimpArgs false
namespace Go.Proofs.YtcildnfcpkpomaaGreatDoor
open Go
variable {L:List Nat} {w w':World} {B b:Nat} {ps ts:List aq} {t y:aq}
end Go.Proofs.YtcildnfcpkpomaaGreatDoor
namespace Go.Proofs
open Go.Shelf
def Tryz.aqR:Go.Shelf.Ren:=⟨fun|170=>202|n=>n,fun|70=>97|3=>3|0=>0|72=>99|37=>22|5=>5|n=>n,fun|n=>n⟩
theorem Tryz.aqS:Go.Proofs.Lays.n170 Tryz.prog Tryz.aqR:={
 mixed:=by kernel_rfl
 f170:=Tryz.func202.trans (congrArg some<|by kernel_rfl)
 t0:=Tryz.underlying0
 a0:=Tryz.isAgg0
 z0:=Tryz.sizeOf0
 v0:=Tryz.zeroValue0
 t3:=Tryz.underlying3
 a3:=Tryz.isAgg3
 z3:=Tryz.sizeOf3
 v3:=Tryz.zeroValue3
 t37:=Tryz.underlying22
 a37:=Tryz.isAgg22
 z37:=Tryz.sizeOf22
 v37:=Tryz.zeroValue22
 t70:=Tryz.underlying97
 a70:=Tryz.isAgg97
 z70:=Tryz.sizeOf97
 v70:=Tryz.zeroValue97
 t72:=Tryz.underlying99
 a72:=Tryz.isAgg99
 z72:=Tryz.sizeOf99
 v72:=Tryz.zeroValue99}
def Tryz.aaP:Go.Shelf.Ren:=⟨fun|169=>77|n=>n,fun|70=>97|9=>9|0=>0|72=>99|37=>22|127=>125|3=>3|5=>5|n=>n,fun|n=>n⟩
theorem Tryz.aaQ:Go.Proofs.Lays.n169 Tryz.prog Tryz.aaP:={
 mixed:=by kernel_rfl
 f169:=Tryz.func77.trans (congrArg some<|by kernel_rfl)
 t0:=Tryz.underlying0
 a0:=Tryz.isAgg0
 z0:=Tryz.sizeOf0
 v0:=Tryz.zeroValue0
 t3:=Tryz.underlying3
 a3:=Tryz.isAgg3
 z3:=Tryz.sizeOf3
 v3:=Tryz.zeroValue3
 t9:=Tryz.underlying9
 a9:=Tryz.isAgg9
 z9:=Tryz.sizeOf9
 v9:=Tryz.zeroValue9
 t37:=Tryz.underlying22
 a37:=Tryz.isAgg22
 z37:=Tryz.sizeOf22
 v37:=Tryz.zeroValue22
 t70:=Tryz.underlying97
 a70:=Tryz.isAgg97
 z70:=Tryz.sizeOf97
 v70:=Tryz.zeroValue97
 t72:=Tryz.underlying99
 a72:=Tryz.isAgg99
 z72:=Tryz.sizeOf99
 v72:=Tryz.zeroValue99
 t127:=Tryz.underlying125
 a127:=Tryz.isAgg125
 z127:=Tryz.sizeOf125
 v127:=Tryz.zeroValue125}
theorem Tryz.aaR:Builder.Extra Tryz.prog Tryz.aaP:={
 sizeBuilder:=by kernel_rfl
 liesBuilder:=by kernel_rfl
 t5:=Tryz.underlying5
 a5:=Tryz.isAgg5
 z5:=Tryz.sizeOf5
 v5:=Tryz.zeroValue5
 infoByte:=by kernel_rfl
 cellsByte:=by kernel_rfl
 sizeByte:=by kernel_rfl
 neB5:=by decide}
def Tryz.aaS:Go.Shelf.Ren:=⟨fun|165=>201|240=>136|241=>216|276=>180|277=>227|n=>n,fun|70=>97|3=>3|0=>0|4=>4|9=>9|20=>20|72=>99|37=>22|164=>188|5=>5|n=>n,fun|n=>n⟩
theorem Tryz.aqT:Go.Proofs.Lays.n165 Tryz.prog Tryz.aaS:={
 mixed:=by kernel_rfl
 f165:=Tryz.func201.trans (congrArg some<|by kernel_rfl)
 f240:=Tryz.func136.trans (congrArg some<|by kernel_rfl)
 f241:=Tryz.func216.trans (congrArg some<|by kernel_rfl)
 f276:=Tryz.func180.trans (congrArg some<|by kernel_rfl)
 f277:=Tryz.func227.trans (congrArg some<|by kernel_rfl)
 t0:=Tryz.underlying0
 a0:=Tryz.isAgg0
 z0:=Tryz.sizeOf0
 v0:=Tryz.zeroValue0
 t3:=Tryz.underlying3
 a3:=Tryz.isAgg3
 z3:=Tryz.sizeOf3
 v3:=Tryz.zeroValue3
 t4:=Tryz.underlying4
 a4:=Tryz.isAgg4
 z4:=Tryz.sizeOf4
 v4:=Tryz.zeroValue4
 t9:=Tryz.underlying9
 a9:=Tryz.isAgg9
 z9:=Tryz.sizeOf9
 v9:=Tryz.zeroValue9
 t20:=Tryz.underlying20
 a20:=Tryz.isAgg20
 z20:=Tryz.sizeOf20
 v20:=Tryz.zeroValue20
 t37:=Tryz.underlying22
 a37:=Tryz.isAgg22
 z37:=Tryz.sizeOf22
 v37:=Tryz.zeroValue22
 t70:=Tryz.underlying97
 a70:=Tryz.isAgg97
 z70:=Tryz.sizeOf97
 v70:=Tryz.zeroValue97
 t72:=Tryz.underlying99
 a72:=Tryz.isAgg99
 z72:=Tryz.sizeOf99
 v72:=Tryz.zeroValue99
 t164:=Tryz.underlying188
 a164:=Tryz.isAgg188
 z164:=Tryz.sizeOf188
 v164:=Tryz.zeroValue188}
theorem Tryz.aqU:Builder.Extra Tryz.prog Tryz.aaS:={
 sizeBuilder:=by kernel_rfl
 liesBuilder:=by kernel_rfl
 t5:=Tryz.underlying5
 a5:=Tryz.isAgg5
 z5:=Tryz.sizeOf5
 v5:=Tryz.zeroValue5
 infoByte:=by kernel_rfl
 cellsByte:=by kernel_rfl
 sizeByte:=by kernel_rfl
 neB5:=by decide}
open Go.RowKit in
theorem Tryz.Builder_Grow_fresh (B b n:Nat) (w:World) (c:B<=b) (a:w.heap[b]?=some (.cells #[.pointer none,.slice none 0 0] 99 (0,0))) (f:B<=w.heap.size) (d:n<=281474976710656):
  Calls Tryz.prog 201 #[.pointer<|some ⟨b,0,none⟩,.int .i64 n] w λe w'=>e= .returned (.tuple #[])/\(Lib.BuilderAt 99 5 B b (.pointer<|some ⟨b,0,none⟩) [] w'/\Below B w w'):=Any.Builder_Grow_fresh Tryz.aqT Tryz.aqU B b n w c a f d
def Tryz.awI:Go.Shelf.Ren:=⟨fun|210=>213|206=>138|n=>n,fun|9=>9|4=>4|3=>3|n=>n,fun|n=>n⟩
open Go.RowKit in
theorem Tryz.Builder_Len_f (B b:Nat) (bs:List Value) (w:World) (h:Lib.IsBuilderF 99 5 B b bs w):
  Calls Tryz.prog 202 #[.pointer (some ⟨b,0,none⟩)] w λe w'=>e= .returned (.int .i64 bs.length)/\w'=w:=Any.Builder_Len_f Tryz.aqS B b bs w h
open Go.RowKit in
theorem Tryz.Builder_String_f (B b:Nat) (l:List UInt8) (w:World) (h:Lib.IsBuilderF 99 5 B b (Lib.byteCells l) w) (a:l≠[]):
  Calls Tryz.prog 77 #[.pointer (some ⟨b,0,none⟩)] w λe w'=>e= .returned (.string ⟨l.toArray⟩)/\(Lib.IsBuilderF 99 5 B b (Lib.byteCells l) w'/\Below B w w'):=Any.Builder_String_f Tryz.aaQ Tryz.aaR B b l w h a
open Go.RowKit in
theorem Tryz.Builder_String_any_f (B b:Nat) (l:List UInt8) (w:World) (h:Lib.IsBuilderF 99 5 B b (Lib.byteCells l) w) (a:B<=w.heap.size):
  Calls Tryz.prog 77 #[.pointer (some ⟨b,0,none⟩)] w λe w'=>e= .returned (.string ⟨l.toArray⟩)/\(Lib.IsBuilderF 99 5 B b (Lib.byteCells l) w'/\Below B w w'):=Any.Builder_String_any_f Tryz.aaQ Tryz.aaR B b l w h a
def Tryz.aqV:Go.Shelf.Ren:=⟨fun|172=>178|244=>204|245=>205|247=>217|279=>218|280=>219|281=>220|282=>221|287=>228|316=>229|171=>147|205=>230|321=>236|322=>237|243=>183|246=>206|283=>222|284=>223|285=>224|286=>225|129=>232|317=>231|318=>233|319=>234|320=>235|337=>238|338=>239|n=>n,fun|9=>9|3=>3|75=>121|76=>122|4=>4|5=>5|167=>221|37=>22|0=>0|85=>222|2=>2|168=>224|53=>218|175=>234|46=>204|210=>237|127=>125|145=>246|143=>244|21=>21|171=>227|173=>230|212=>240|51=>215|20=>20|213=>241|232=>248|233=>249|80=>63|n=>n,fun|15=>0|16=>1|17=>2|18=>4|19=>5|n=>n⟩
theorem Tryz.aqW:Go.Proofs.Lays.n172 Tryz.prog Tryz.aqV:={
 mixed:=by kernel_rfl
 f129:=Tryz.func232.trans (congrArg some<|by kernel_rfl)
 f171:=Tryz.func147.trans (congrArg some<|by kernel_rfl)
 f172:=Tryz.func178.trans (congrArg some<|by kernel_rfl)
 f205:=Tryz.func230.trans (congrArg some<|by kernel_rfl)
 f243:=Tryz.func183.trans (congrArg some<|by kernel_rfl)
 f244:=Tryz.func204.trans (congrArg some<|by kernel_rfl)
 f245:=Tryz.func205.trans (congrArg some<|by kernel_rfl)
 f246:=Tryz.func206.trans (congrArg some<|by kernel_rfl)
 f247:=Tryz.func217.trans (congrArg some<|by kernel_rfl)
 f279:=Tryz.func218.trans (congrArg some<|by kernel_rfl)
 f280:=Tryz.func219.trans (congrArg some<|by kernel_rfl)
 f281:=Tryz.func220.trans (congrArg some<|by kernel_rfl)
 f282:=Tryz.func221.trans (congrArg some<|by kernel_rfl)
 f283:=Tryz.func222.trans (congrArg some<|by kernel_rfl)
 f284:=Tryz.func223.trans (congrArg some<|by kernel_rfl)
 f285:=Tryz.func224.trans (congrArg some<|by kernel_rfl)
 f286:=Tryz.func225.trans (congrArg some<|by kernel_rfl)
 f287:=Tryz.func228.trans (congrArg some<|by kernel_rfl)
 f316:=Tryz.func229.trans (congrArg some<|by kernel_rfl)
 f317:=Tryz.func231.trans (congrArg some<|by kernel_rfl)
 f318:=Tryz.func233.trans (congrArg some<|by kernel_rfl)
 f319:=Tryz.func234.trans (congrArg some<|by kernel_rfl)
 f320:=Tryz.func235.trans (congrArg some<|by kernel_rfl)
 f321:=Tryz.func236.trans (congrArg some<|by kernel_rfl)
 f322:=Tryz.func237.trans (congrArg some<|by kernel_rfl)
 f337:=Tryz.func238.trans (congrArg some<|by kernel_rfl)
 f338:=Tryz.func239.trans (congrArg some<|by kernel_rfl)
 t0:=Tryz.underlying0
 a0:=Tryz.isAgg0
 z0:=Tryz.sizeOf0
 v0:=Tryz.zeroValue0
 t2:=Tryz.underlying2
 a2:=Tryz.isAgg2
 z2:=Tryz.sizeOf2
 v2:=Tryz.zeroValue2
 t3:=Tryz.underlying3
 a3:=Tryz.isAgg3
 z3:=Tryz.sizeOf3
 v3:=Tryz.zeroValue3
 t4:=Tryz.underlying4
 a4:=Tryz.isAgg4
 z4:=Tryz.sizeOf4
 v4:=Tryz.zeroValue4
 t5:=Tryz.underlying5
 a5:=Tryz.isAgg5
 z5:=Tryz.sizeOf5
 v5:=Tryz.zeroValue5
 t9:=Tryz.underlying9
 a9:=Tryz.isAgg9
 z9:=Tryz.sizeOf9
 v9:=Tryz.zeroValue9
 t20:=Tryz.underlying20
 a20:=Tryz.isAgg20
 z20:=Tryz.sizeOf20
 v20:=Tryz.zeroValue20
 t21:=Tryz.underlying21
 a21:=Tryz.isAgg21
 z21:=Tryz.sizeOf21
 v21:=Tryz.zeroValue21
 t37:=Tryz.underlying22
 a37:=Tryz.isAgg22
 z37:=Tryz.sizeOf22
 v37:=Tryz.zeroValue22
 t46:=Tryz.underlying204
 a46:=Tryz.isAgg204
 z46:=Tryz.sizeOf204
 v46:=Tryz.zeroValue204
 t51:=Tryz.underlying215
 a51:=Tryz.isAgg215
 z51:=Tryz.sizeOf215
 v51:=Tryz.zeroValue215
 t53:=Tryz.underlying218
 a53:=Tryz.isAgg218
 z53:=Tryz.sizeOf218
 v53:=Tryz.zeroValue218
 t75:=Tryz.underlying121
 a75:=Tryz.isAgg121
 z75:=Tryz.sizeOf121
 v75:=Tryz.zeroValue121
 t76:=Tryz.underlying122
 a76:=Tryz.isAgg122
 z76:=Tryz.sizeOf122
 v76:=Tryz.zeroValue122
 t85:=Tryz.underlying222
 a85:=Tryz.isAgg222
 z85:=Tryz.sizeOf222
 v85:=Tryz.zeroValue222
 t127:=Tryz.underlying125
 a127:=Tryz.isAgg125
 z127:=Tryz.sizeOf125
 v127:=Tryz.zeroValue125
 t143:=Tryz.underlying244
 a143:=Tryz.isAgg244
 z143:=Tryz.sizeOf244
 v143:=Tryz.zeroValue244
 t145:=Tryz.underlying246
 a145:=Tryz.isAgg246
 z145:=Tryz.sizeOf246
 v145:=Tryz.zeroValue246
 t167:=Tryz.underlying221
 a167:=Tryz.isAgg221
 z167:=Tryz.sizeOf221
 v167:=Tryz.zeroValue221
 t168:=Tryz.underlying224
 a168:=Tryz.isAgg224
 z168:=Tryz.sizeOf224
 v168:=Tryz.zeroValue224
 t171:=Tryz.underlying227
 a171:=Tryz.isAgg227
 z171:=Tryz.sizeOf227
 v171:=Tryz.zeroValue227
 t173:=Tryz.underlying230
 a173:=Tryz.isAgg230
 z173:=Tryz.sizeOf230
 v173:=Tryz.zeroValue230
 t175:=Tryz.underlying234
 a175:=Tryz.isAgg234
 z175:=Tryz.sizeOf234
 v175:=Tryz.zeroValue234
 t210:=Tryz.underlying237
 a210:=Tryz.isAgg237
 z210:=Tryz.sizeOf237
 v210:=Tryz.zeroValue237
 t212:=Tryz.underlying240
 a212:=Tryz.isAgg240
 z212:=Tryz.sizeOf240
 v212:=Tryz.zeroValue240
 t213:=Tryz.underlying241
 a213:=Tryz.isAgg241
 z213:=Tryz.sizeOf241
 t232:=Tryz.underlying248
 a232:=Tryz.isAgg248
 z232:=Tryz.sizeOf248
 v232:=Tryz.zeroValue248
 t233:=Tryz.underlying249
 a233:=Tryz.isAgg249
 z233:=Tryz.sizeOf249
 v233:=Tryz.zeroValue249
 g15:=by kernel_rfl
 g16:=by kernel_rfl
 g17:=by kernel_rfl
 g18:=by kernel_rfl
 g19:=by kernel_rfl}
open Go.RowKit in
theorem Tryz.strconv_Atoi (s:ByteArray) (n:Int) (a:s.size<=18) (h:Lib.atoi s.data.toList=some n) (w:World):
  Calls Tryz.prog 178 #[.string s] w λe w'=>e= .returned (.tuple #[.int .i64 n,.nilIface])/\∃t,w'=Lib.bytesWorld w 5 t:=Any.strconv_Atoi Tryz.aqW s n a h w
def Tryz.awJ:Go.Shelf.Ren:=⟨fun|246=>206|283=>222|284=>223|285=>224|286=>225|129=>232|317=>231|318=>233|319=>234|320=>235|337=>238|338=>239|n=>n,fun|2=>2|3=>3|9=>9|4=>4|171=>227|0=>0|53=>218|37=>22|5=>5|173=>230|212=>240|51=>215|20=>20|213=>241|46=>204|232=>248|233=>249|n=>n,fun|17=>2|18=>4|19=>5|n=>n⟩
def Tryz.awK:Go.Shelf.Ren:=⟨fun|243=>183|246=>206|283=>222|284=>223|285=>224|286=>225|129=>232|317=>231|318=>233|319=>234|320=>235|337=>238|338=>239|n=>n,fun|3=>3|9=>9|2=>2|4=>4|171=>227|0=>0|53=>218|37=>22|5=>5|173=>230|212=>240|51=>215|20=>20|213=>241|46=>204|232=>248|233=>249|n=>n,fun|17=>2|18=>4|19=>5|n=>n⟩
def Tryz.awL:Go.Shelf.Ren:=⟨fun|171=>147|243=>183|246=>206|283=>222|284=>223|285=>224|286=>225|129=>232|317=>231|318=>233|319=>234|320=>235|337=>238|338=>239|n=>n,fun|3=>3|9=>9|2=>2|4=>4|171=>227|0=>0|53=>218|37=>22|5=>5|173=>230|212=>240|51=>215|20=>20|213=>241|46=>204|232=>248|233=>249|n=>n,fun|17=>2|18=>4|19=>5|n=>n⟩
def Tryz.aqX:Go.Shelf.Ren:=⟨fun|171=>147|243=>183|246=>206|283=>222|284=>223|285=>224|286=>225|129=>232|317=>231|318=>233|319=>234|320=>235|337=>238|338=>239|n=>n,fun|3=>3|9=>9|2=>2|4=>4|171=>227|0=>0|53=>218|37=>22|5=>5|173=>230|212=>240|51=>215|20=>20|213=>241|46=>204|232=>248|233=>249|n=>n,fun|17=>2|18=>4|19=>5|n=>n⟩
theorem Tryz.aqY:Go.Proofs.Lays.n171 Tryz.prog Tryz.aqX:={
 mixed:=by kernel_rfl
 f129:=Tryz.func232.trans (congrArg some<|by kernel_rfl)
 f171:=Tryz.func147.trans (congrArg some<|by kernel_rfl)
 f243:=Tryz.func183.trans (congrArg some<|by kernel_rfl)
 f246:=Tryz.func206.trans (congrArg some<|by kernel_rfl)
 f283:=Tryz.func222.trans (congrArg some<|by kernel_rfl)
 f284:=Tryz.func223.trans (congrArg some<|by kernel_rfl)
 f285:=Tryz.func224.trans (congrArg some<|by kernel_rfl)
 f286:=Tryz.func225.trans (congrArg some<|by kernel_rfl)
 f317:=Tryz.func231.trans (congrArg some<|by kernel_rfl)
 f318:=Tryz.func233.trans (congrArg some<|by kernel_rfl)
 f319:=Tryz.func234.trans (congrArg some<|by kernel_rfl)
 f320:=Tryz.func235.trans (congrArg some<|by kernel_rfl)
 f337:=Tryz.func238.trans (congrArg some<|by kernel_rfl)
 f338:=Tryz.func239.trans (congrArg some<|by kernel_rfl)
 t0:=Tryz.underlying0
 a0:=Tryz.isAgg0
 z0:=Tryz.sizeOf0
 v0:=Tryz.zeroValue0
 t2:=Tryz.underlying2
 a2:=Tryz.isAgg2
 z2:=Tryz.sizeOf2
 v2:=Tryz.zeroValue2
 t3:=Tryz.underlying3
 a3:=Tryz.isAgg3
 z3:=Tryz.sizeOf3
 v3:=Tryz.zeroValue3
 t4:=Tryz.underlying4
 a4:=Tryz.isAgg4
 z4:=Tryz.sizeOf4
 v4:=Tryz.zeroValue4
 t5:=Tryz.underlying5
 a5:=Tryz.isAgg5
 z5:=Tryz.sizeOf5
 v5:=Tryz.zeroValue5
 t9:=Tryz.underlying9
 a9:=Tryz.isAgg9
 z9:=Tryz.sizeOf9
 v9:=Tryz.zeroValue9
 t20:=Tryz.underlying20
 a20:=Tryz.isAgg20
 z20:=Tryz.sizeOf20
 v20:=Tryz.zeroValue20
 t37:=Tryz.underlying22
 a37:=Tryz.isAgg22
 z37:=Tryz.sizeOf22
 v37:=Tryz.zeroValue22
 t46:=Tryz.underlying204
 a46:=Tryz.isAgg204
 z46:=Tryz.sizeOf204
 v46:=Tryz.zeroValue204
 t51:=Tryz.underlying215
 a51:=Tryz.isAgg215
 z51:=Tryz.sizeOf215
 v51:=Tryz.zeroValue215
 t53:=Tryz.underlying218
 a53:=Tryz.isAgg218
 z53:=Tryz.sizeOf218
 v53:=Tryz.zeroValue218
 t171:=Tryz.underlying227
 a171:=Tryz.isAgg227
 z171:=Tryz.sizeOf227
 v171:=Tryz.zeroValue227
 t173:=Tryz.underlying230
 a173:=Tryz.isAgg230
 z173:=Tryz.sizeOf230
 v173:=Tryz.zeroValue230
 t212:=Tryz.underlying240
 a212:=Tryz.isAgg240
 z212:=Tryz.sizeOf240
 v212:=Tryz.zeroValue240
 t213:=Tryz.underlying241
 a213:=Tryz.isAgg241
 z213:=Tryz.sizeOf241
 t232:=Tryz.underlying248
 a232:=Tryz.isAgg248
 z232:=Tryz.sizeOf248
 v232:=Tryz.zeroValue248
 t233:=Tryz.underlying249
 a233:=Tryz.isAgg249
 z233:=Tryz.sizeOf249
 v233:=Tryz.zeroValue249
 g17:=by kernel_rfl
 g18:=by kernel_rfl
 g19:=by kernel_rfl}
open Go.RowKit Go.Sort Go.Lib in
theorem Tryz.strconv_Itoa_small (i:Nat) (a:i<100) (w:World):
  Calls Tryz.prog 147 #[.int .i64 i] w λe w'=>e= .returned (.string ⟨(Lib.decDigits i).toArray⟩)/\w'=w:=Any.strconv_Itoa_small Tryz.aqY i a w
def Tryz.aqZ:Go.Shelf.Ren:=⟨fun|99=>108|206=>138|n=>n,fun|9=>9|4=>4|3=>3|n=>n,fun|n=>n⟩
theorem Tryz.aq0:Go.Proofs.Lays.n99 Tryz.prog Tryz.aqZ:={
 mixed:=by kernel_rfl
 f99:=Tryz.func108.trans (congrArg some<|by kernel_rfl)
 f206:=Tryz.func138.trans (congrArg some<|by kernel_rfl)
 t3:=Tryz.underlying3
 a3:=Tryz.isAgg3
 z3:=Tryz.sizeOf3
 v3:=Tryz.zeroValue3
 t4:=Tryz.underlying4
 a4:=Tryz.isAgg4
 z4:=Tryz.sizeOf4
 v4:=Tryz.zeroValue4
 t9:=Tryz.underlying9
 a9:=Tryz.isAgg9
 z9:=Tryz.sizeOf9
 v9:=Tryz.zeroValue9}
open Go.RowKit Go.Lib in
theorem Tryz.strings_HasPrefix (s p:ByteArray) (w:World):
  Calls Tryz.prog 108 #[.string s,.string p] w λe w'=>e= .returned (.bool<|Lib.hasPrefix s.data.toList p.data.toList)/\w'=w:=Any.strings_HasPrefix Tryz.aq0 s p w
def Tryz.aq1:Go.Shelf.Ren:=⟨fun|101=>176|208=>203|206=>138|n=>n,fun|9=>9|4=>4|3=>3|n=>n,fun|n=>n⟩
theorem Tryz.aq2:Go.Proofs.Lays.n101 Tryz.prog Tryz.aq1:={
 mixed:=by kernel_rfl
 f101:=Tryz.func176.trans (congrArg some<|by kernel_rfl)
 f206:=Tryz.func138.trans (congrArg some<|by kernel_rfl)
 f208:=Tryz.func203.trans (congrArg some<|by kernel_rfl)
 t3:=Tryz.underlying3
 a3:=Tryz.isAgg3
 z3:=Tryz.sizeOf3
 v3:=Tryz.zeroValue3
 t4:=Tryz.underlying4
 a4:=Tryz.isAgg4
 z4:=Tryz.sizeOf4
 v4:=Tryz.zeroValue4
 t9:=Tryz.underlying9
 a9:=Tryz.isAgg9
 z9:=Tryz.sizeOf9
 v9:=Tryz.zeroValue9}
open Go.RowKit Go.Lib in
theorem Tryz.strings_TrimPrefix (s p:ByteArray) (w:World):
  Calls Tryz.prog 176 #[.string s,.string p] w λe w'=>e= .returned (.string ⟨(Lib.trimPrefix s.data.toList p.data.toList).toArray⟩)/\w'=w:=Any.strings_TrimPrefix Tryz.aq2 s p w
def Tryz.aq3:Go.Shelf.Ren:=⟨fun|212=>200|263=>214|264=>215|n=>n,fun|46=>204|51=>215|146=>216|53=>218|148=>219|n=>n,fun|n=>n⟩
theorem Tryz.aq4:Go.Proofs.Lays.n212 Tryz.prog Tryz.aq3:={
 mixed:=by kernel_rfl
 f212:=Tryz.func200.trans (congrArg some<|by kernel_rfl)
 f263:=Tryz.func214.trans (congrArg some<|by kernel_rfl)
 f264:=Tryz.func215.trans (congrArg some<|by kernel_rfl)
 t46:=Tryz.underlying204
 a46:=Tryz.isAgg204
 z46:=Tryz.sizeOf204
 v46:=Tryz.zeroValue204
 t51:=Tryz.underlying215
 a51:=Tryz.isAgg215
 z51:=Tryz.sizeOf215
 v51:=Tryz.zeroValue215
 t53:=Tryz.underlying218
 a53:=Tryz.isAgg218
 z53:=Tryz.sizeOf218
 v53:=Tryz.zeroValue218
 t146:=Tryz.underlying216
 a146:=Tryz.isAgg216
 z146:=Tryz.sizeOf216
 v146:=Tryz.zeroValue216
 t148:=Tryz.underlying219
 a148:=Tryz.isAgg219
 z148:=Tryz.sizeOf219
 v148:=Tryz.zeroValue219}
open Go.RowKit Go.Lib in
theorem Tryz.bits_Mul (x y:Nat) (a:x<18446744073709551616) (b:y<18446744073709551616) (w:World):
  Calls Tryz.prog 200 #[.int .u64 x,.int .u64 y] w λe w'=>e= .returned (.tuple #[.int .u64 ((x*y/18446744073709551616:Nat):Int),.int .u64 ((x*y%18446744073709551616:Nat):Int)])/\w'=w:=Any.bits_Mul Tryz.aq4 x y a b w
def Tryz.aaT:Go.Shelf.Ren:=⟨fun|166=>105|240=>136|276=>180|n=>n,fun|70=>97|3=>3|0=>0|4=>4|9=>9|20=>20|72=>99|37=>22|164=>188|5=>5|75=>121|80=>63|n=>n,fun|n=>n⟩
theorem Tryz.aaU:Go.Proofs.Lays.n166 Tryz.prog Tryz.aaT:={
 mixed:=by kernel_rfl
 f166:=Tryz.func105.trans (congrArg some<|by kernel_rfl)
 f240:=Tryz.func136.trans (congrArg some<|by kernel_rfl)
 f276:=Tryz.func180.trans (congrArg some<|by kernel_rfl)
 t0:=Tryz.underlying0
 a0:=Tryz.isAgg0
 z0:=Tryz.sizeOf0
 v0:=Tryz.zeroValue0
 t3:=Tryz.underlying3
 a3:=Tryz.isAgg3
 z3:=Tryz.sizeOf3
 v3:=Tryz.zeroValue3
 t4:=Tryz.underlying4
 a4:=Tryz.isAgg4
 z4:=Tryz.sizeOf4
 v4:=Tryz.zeroValue4
 t9:=Tryz.underlying9
 a9:=Tryz.isAgg9
 z9:=Tryz.sizeOf9
 v9:=Tryz.zeroValue9
 t20:=Tryz.underlying20
 a20:=Tryz.isAgg20
 z20:=Tryz.sizeOf20
 v20:=Tryz.zeroValue20
 t37:=Tryz.underlying22
 a37:=Tryz.isAgg22
 z37:=Tryz.sizeOf22
 v37:=Tryz.zeroValue22
 t70:=Tryz.underlying97
 a70:=Tryz.isAgg97
 z70:=Tryz.sizeOf97
 v70:=Tryz.zeroValue97
 t72:=Tryz.underlying99
 a72:=Tryz.isAgg99
 z72:=Tryz.sizeOf99
 v72:=Tryz.zeroValue99
 t164:=Tryz.underlying188
 a164:=Tryz.isAgg188
 z164:=Tryz.sizeOf188
 v164:=Tryz.zeroValue188
 t75:=Tryz.underlying121
 a75:=Tryz.isAgg121
 z75:=Tryz.sizeOf121
 v75:=Tryz.zeroValue121}
theorem Tryz.aaV:Builder.Extra Tryz.prog Tryz.aaT:={
 sizeBuilder:=by kernel_rfl
 liesBuilder:=by kernel_rfl
 t5:=Tryz.underlying5
 a5:=Tryz.isAgg5
 z5:=Tryz.sizeOf5
 v5:=Tryz.zeroValue5
 infoByte:=by kernel_rfl
 cellsByte:=by kernel_rfl
 sizeByte:=by kernel_rfl
 neB5:=by decide}
open Go.RowKit in
theorem Tryz.Builder_WriteString_f (B b:Nat) (bs:List Value) (s:ByteArray) (w:World) (h:Lib.IsBuilderF 99 5 B b bs w) (a:bs.length+s.size<=140737488355328) (c:B<=w.heap.size):
  Calls Tryz.prog 105 #[.pointer<|some ⟨b,0,none⟩,.string s] w λe w'=>e= .returned (.tuple #[.int .i64 s.size,.nilIface])/\(Lib.BuilderAtF 99 5 B b (.pointer<|some ⟨b,0,none⟩) (bs++Lib.strCells s) w'/\Below B w w'):=Any.Builder_WriteString_f Tryz.aaU Tryz.aaV B b bs s w h a c
def Tryz.aaW:Go.Shelf.Ren:=⟨fun|167=>106|240=>136|276=>180|n=>n,fun|70=>97|3=>3|0=>0|4=>4|9=>9|20=>20|72=>99|37=>22|164=>188|5=>5|75=>121|80=>63|n=>n,fun|n=>n⟩
theorem Tryz.aq5:Go.Proofs.Lays.n167 Tryz.prog Tryz.aaW:={
 mixed:=by kernel_rfl
 f167:=Tryz.func106.trans (congrArg some<|by kernel_rfl)
 f240:=Tryz.func136.trans (congrArg some<|by kernel_rfl)
 f276:=Tryz.func180.trans (congrArg some<|by kernel_rfl)
 t0:=Tryz.underlying0
 a0:=Tryz.isAgg0
 z0:=Tryz.sizeOf0
 v0:=Tryz.zeroValue0
 t4:=Tryz.underlying4
 a4:=Tryz.isAgg4
 z4:=Tryz.sizeOf4
 v4:=Tryz.zeroValue4
 t5:=Tryz.underlying5
 a5:=Tryz.isAgg5
 z5:=Tryz.sizeOf5
 v5:=Tryz.zeroValue5
 t9:=Tryz.underlying9
 a9:=Tryz.isAgg9
 z9:=Tryz.sizeOf9
 v9:=Tryz.zeroValue9
 t20:=Tryz.underlying20
 a20:=Tryz.isAgg20
 z20:=Tryz.sizeOf20
 v20:=Tryz.zeroValue20
 t37:=Tryz.underlying22
 a37:=Tryz.isAgg22
 z37:=Tryz.sizeOf22
 v37:=Tryz.zeroValue22
 t70:=Tryz.underlying97
 a70:=Tryz.isAgg97
 z70:=Tryz.sizeOf97
 v70:=Tryz.zeroValue97
 t72:=Tryz.underlying99
 a72:=Tryz.isAgg99
 z72:=Tryz.sizeOf99
 v72:=Tryz.zeroValue99
 t75:=Tryz.underlying121
 a75:=Tryz.isAgg121
 z75:=Tryz.sizeOf121
 v75:=Tryz.zeroValue121
 t164:=Tryz.underlying188
 a164:=Tryz.isAgg188
 z164:=Tryz.sizeOf188
 v164:=Tryz.zeroValue188}
theorem Tryz.aq6:Builder.Extra Tryz.prog Tryz.aaW:={
 sizeBuilder:=by kernel_rfl
 liesBuilder:=by kernel_rfl
 t5:=Tryz.underlying5
 a5:=Tryz.isAgg5
 z5:=Tryz.sizeOf5
 v5:=Tryz.zeroValue5
 infoByte:=by kernel_rfl
 cellsByte:=by kernel_rfl
 sizeByte:=by kernel_rfl
 neB5:=by decide}
open Go.RowKit in
theorem Tryz.Builder_WriteByte_k (B b:Nat) (bs:List Value) (c:Int) (w:World) (h:Lib.IsBuilderF 99 5 B b bs w) (a:bs.length+1<=140737488355328) (d:B<=w.heap.size):
  Calls Tryz.prog 106 #[.pointer<|some ⟨b,0,none⟩,.int .u8 c] w λe w'=>e= .returned .nilIface/\(Lib.BuilderAtF 99 5 B b (.pointer<|some ⟨b,0,none⟩) (bs++[.int .u8 c]) w'/\Below B w w'/\Lib.OthersKept 5 (some b) w w'):=Any.Builder_WriteByte_k Tryz.aq5 Tryz.aq6 B b bs c w h a d
open Go.RowKit in
theorem Tryz.Builder_WriteString_k (B b:Nat) (bs:List Value) (s:ByteArray) (w:World) (h:Lib.IsBuilderF 99 5 B b bs w) (a:bs.length+s.size<=140737488355328) (c:B<=w.heap.size):
  Calls Tryz.prog 105 #[.pointer<|some ⟨b,0,none⟩,.string s] w λe w'=>e= .returned (.tuple #[.int .i64 s.size,.nilIface])/\(Lib.BuilderAtF 99 5 B b (.pointer<|some ⟨b,0,none⟩) (bs++Lib.strCells s) w'/\Below B w w'/\Lib.OthersKept 5 (some b) w w'):=Any.Builder_WriteString_k Tryz.aaU Tryz.aaV B b bs s w h a c
end Go.Proofs
namespace Go.Proofs.YtcildnfcpkpomaaGreatDoor
open Go
variable {L:List Nat} {w w':World} {B b:Nat} {ps ts:List aq} {t y:aq}
theorem aq7 (s p:ak) (w:World):bD Tryz.prog 108 [str s,str p] w λv w'=>v= .bool (Lib.hasPrefix s p)/\w=w':=
 ⟨ru.mk' Tryz.func108 rfl aet,Calls.mono (Tryz.strings_HasPrefix ⟨s.toArray⟩ ⟨p.toArray⟩ w) λe w' ⟨a,b⟩=>⟨_,a,sm,b.symm⟩⟩
theorem aq8 (s p:ak) (w:World):bD Tryz.prog 176 [str s,str p] w λv w'=>v=str (Lib.trimPrefix s p)/\w=w':=
 ⟨ru.mk' Tryz.func176 rfl afz,Calls.mono (Tryz.strings_TrimPrefix ⟨s.toArray⟩ ⟨p.toArray⟩ w) λe w' ⟨a,b⟩=>⟨_,a,by simp[str],b.symm⟩⟩
theorem aq9 (w:World) (o:Obj) (a:Addr) (n:Nat) (b:a.block=w.heap.size):aj [] w ((w.alloc o).freeze a n):=by
 unfold World.freeze;split
 .exact aj.alloc [] w o
 .refine⟨rfl,rfl,rfl,?_,λk hk _=>?_⟩
  .show w.heap.size<=Array.size (Array.modify (w.alloc o).heap _ _);rw[Array.size_modify];exact(aj.alloc [] w o).size
  .show(Array.modify (w.alloc o).heap _ _)[k]?=_;rw[Array.getElem?_modify,iN (by rw[b];omega)];exact(aj.alloc [] w o).block k hk sm
theorem ara (w:World) (e:TypeId) (s:ByteArray):aj [] w (Lib.bytesWorld w e s):=
 (aj.drew [] w).trans (aq9 _ _ _ _ rfl)
theorem arb (s:ak) {z:Int} (h:numeral s=some z) (w:World):bD Tryz.prog 178 [str s] w λv w'=>v= .tuple #[.int .i64 z,.nilIface]/\aj [] w w':=
 ⟨ru.mk' Tryz.func178 rfl afB,Calls.mono (Tryz.strconv_Atoi ⟨s.toArray⟩ z (by have:=Uk h;simp[ByteArray.size];omega) (by simpa using ac8 h) w) λe w' ⟨a,t,b⟩=>⟨_,a,rfl,by rw[b];exact ara _ _ _⟩⟩
theorem NM (a b c:Int) (w:World):bD Tryz.prog 62 [.int .i64 a,.int .i64 b,.int .i64 c] w λv w'=>v= .bool (decide (b<=a)&&decide (a<=c))/\w=w':=by refine cu [.tmp 6] 15 Tryz.func62 rfl agx rfl rfl ?_;refine W ?_;apply oB 4 10 14 rfl oQ;intro _;exact oQ;intro _;refine W ?_;exact⟨_,rfl,rfl,rfl⟩
theorem arc (c:UInt8) (w:World):bD Tryz.prog 109 [.int .u8 c.toNat] w λv w'=>v= .bool (fi c)/\w=w':=by refine cu [.tmp 2] 33 Tryz.func109 rfl aeu rfl rfl ?_;refine W ?_;apply oB 3 5 8 rfl oQ;intro _;exact oQ;intro a;refine WZ ?_;apply oP 7 9 16 rfl oQ;intro _;refine WZ ?_;apply oB 3 12 15 rfl oQ;intro _;exact oQ;intro a;exact oQ;intro a;refine WZ ?_;apply oP 3 17 20 rfl oQ;intro _;exact oQ;intro a;refine WZ ?_;apply oP 3 21 24 rfl oQ;intro _;exact oQ;intro a;refine WZ ?_;apply oP 3 25 28 rfl oQ;intro _;exact oQ;intro a;refine WZ ?_;apply oP 3 29 32 rfl oQ;intro _;exact oQ;intro a;refine W ?_;exact⟨_,rfl,congrArg Value.bool (To c),rfl⟩
theorem ard (s:ak) (j:s.length<9223372036854775807) (w:World):bD Tryz.prog 177 [str s] w λv w'=>v= .bool (s.all iJ)/\w=w':=by
 refine cu [.tmp 2] 20 Tryz.func177 rfl afA rfl rfl ?_;refine W ?_;refine eW (λk:Nat=>[(0,str s),(5,.int .i64 (s.length:Int)),(6,.int .i64 (k:Int))]) (λk w'=>w'=w/\k<=s.length/\(s.take k).all iJ=true) (λk=>s.length-k) (0) (⟨rfl,rfl,rfl⟩) (⟨rfl,om,sm⟩) λe _ _ g=>?_;obtain⟨rfl,hk,b⟩:=g;refine W ?_;refine zc rfl (λf=>?_) λf=>?_;have a:e<s.length:=by omega
 refine W ?_;refine kJ ji rfl rfl rfl rfl (jP a)<|WZ ?_;apply oP 5 13 18 rfl oQ;intro _;refine zm<|zm<|kJ ji rfl rfl rfl rfl (jP a) ?_;exact oQ;intro _;refine bf<|zc rfl (λc=>?_) λc=>?_;have d:s.all iJ=false:=adb a<|T2 c;refine W ?_;exact⟨_,rfl,by rw[d];rfl,rfl⟩;have i:=T3 c;refine W ?_;exact⟨e+1,⟨rfl,rfl,rfl⟩,⟨rfl,om,by rw[Om a,List.all_append,b];simp only[List.all_cons,i.2.2];rfl⟩,om⟩;have d:s.all iJ=true:=by rw[List.take_of_length_le om] at b;exact b
 refine W ?_;exact⟨_,rfl,by rw[d];rfl,rfl⟩
theorem SJ (s:ak) (d:s.length<9223372036854775807) (w:World):bD Tryz.prog 133 [str s] w λv w'=>v= .bool (numeral s).isSome/\w=w':=by
 have c:(fj s).length<=s.length:=by unfold fj;split<;>simp
 refine cu [.tmp 2] 22 Tryz.func133 rfl aeS rfl rfl ?_;refine W ?_;refine aA (aq8 _ _ _) ?_;rintro _ _ ⟨rfl,rfl⟩;refine W ?_;rw[ac6];apply oP 13 8 21 rfl oQ;intro _;refine W ?_;refine aA (NM _ _ _ _) ?_;rintro _ _ ⟨rfl,rfl⟩;refine WZ ?_;apply oB 3 12 15 rfl oQ;intro _;refine zm<|aA (ard _ om _) ?_;rintro _ _ ⟨rfl,rfl⟩;exact oQ;intro a;refine WZ ?_;apply oB 4 16 20 rfl oQ;intro b;simp at b;refine zm<|kJ (i:=0) ji rfl rfl rfl rfl (jP om) ?_;exact oQ;intro a;exact oQ;intro a;refine W ?_;exact⟨_,rfl,show Value.bool _=Value.bool _ from congrArg _<|ade s,rfl⟩
theorem Kj (s:ak) {z:Int} (h:numeral s=some z) (w:World):bD Tryz.prog 134 [str s] w λv w'=>v= .int .i64 z/\aj [] w w':=by have a:=aj.refl [] w;refine cu [.tmp 2] 11 Tryz.func134 rfl aeT rfl rfl ?_;refine W ?_;refine aA (arb s h w) ?_;rintro _ _ ⟨rfl,b⟩;have c:=b.size;have a:=a.ext b;refine W ?_;exact⟨_,rfl,rfl,a⟩
theorem arf (s:ak) (f:s.length<9223372036854775807) (w:World):bD Tryz.prog 132 [str s] w λv w'=>v= .bool (qL s)/\aj [] w w':=by
 have b:=aj.refl [] w;refine cu [.tmp 2] 10 Tryz.func132 rfl aeR rfl rfl ?_;refine W ?_;refine aA (SJ s f _) ?_;rintro _ _ ⟨rfl,rfl⟩;refine WZ ?_;apply oA 4 5 9 (aj [] w) rfl oQ;intro e;obtain⟨z,c⟩:=Option.isSome_iff_exists.1 e;have d:z=(numeral s).getD 0:=by rw[c];rfl
 refine zm<|aA (Kj s c w) ?_;rintro _ g ⟨rfl,a⟩;have i:=a.size;rw[d];refine aA (NM _ _ _ _) ?_;rintro _ _ ⟨rfl,rfl⟩;exact oQ;intro _ g a;have b:=b.ext a;refine W ?_;exact⟨_,rfl,show Value.bool _=Value.bool _ from congrArg _<|ada s,b⟩
theorem aaX (s:ak) (i:s.length<9223372036854775807) (w:World):bD Tryz.prog 97 [str s] w λr w'=>r= .bool (nu s)/\w=w':=by refine cu [.tmp 2] 35 Tryz.func97 rfl agY rfl rfl ?_;refine W ?_;refine eW (λk:Nat=>[(0,str s),(6,.int .i64 (s.length:Int)),(7,.int .i64 (k:Int))]) (λk w'=>w'=w/\k<=s.length/\∀j,j<k->BF s j=true) (λk=>s.length-k) (0) (⟨rfl,rfl,rfl⟩) (⟨rfl,om,by intro j g;omega⟩) λd _ _ f=>?_;obtain⟨rfl,hk,c⟩:=f;refine W ?_;refine zc rfl (λe=>?_) λe=>?_;refine W ?_;refine kJ ji rfl rfl rfl rfl (jP om)<|W ?_;apply oB 3 15 18 rfl oQ;intro _;exact oQ;intro b;refine WZ ?_;apply oP 11 19 30 rfl oQ;intro _;refine WZ ?_;apply oB 3 22 25 rfl oQ;intro _;exact oQ;intro b;refine WZ ?_;apply oB 3 26 29 rfl oQ;intro _;exact oQ;intro b;exact oQ;intro b;refine kj rfl rfl rfl<|bf<|zc rfl (λa=>?_) λa=>?_;rw[KO] at a;refine W ?_;exact⟨_,rfl,by rw[TX om a];rfl,rfl⟩;rw[KO] at a;refine W ?_;exact⟨d+1,⟨rfl,rfl,rfl⟩,⟨rfl,om,T0 c a⟩,om⟩;refine W ?_;exact⟨_,rfl,by rw[TZ λj g=>c j om];rfl,rfl⟩
theorem Fx (t:aq) (v:Value) (L:List Nat) (w:World) (e:aV L w v t):bD Tryz.prog 81 [v] w λr w'=>r= .bool (decide<|t.ag.length=0)/\aj [] w w':=by obtain⟨a,n,c,rfl,_,_⟩:=cW e;have b:=aj.refl [] w;refine cu [.tmp 2] 7 Tryz.func81 rfl agK rfl rfl ?_;refine zr<|eK rfl λ_ d _ _=>?_;have b:=b.ext d;refine W ?_;exact⟨_,rfl,show Value.bool _=Value.bool _ from congrArg _<|decide_eq_decide.2 om,b⟩
theorem tU (t:aq) (u:WF t) (v:Value) (L:List Nat) (w:World) (p:aV L w v t):bD Tryz.prog 45 [v] w λr w'=>r=str (bC t)/\aj [] w w':=by
 have g:=p;obtain⟨a,n,c,rfl,z,e⟩:=cW p;have d:=aj.refl [] w;refine cu [.tmp 2] 10 Tryz.func45 rfl agj rfl rfl ?_;refine zr<|eK rfl λA s l _=>cQ s d e g λd e g=>?_;refine W ?_;refine aA (Fx t _ L A g) ?_;rintro _ _ ⟨rfl,m⟩;have B:=m.size;refine cQ m d e l λd e l=>?_;refine bf<|zc rfl (λo=>?_) λo=>?_;have j:bC t=[]:=vH (.inr<|List.length_eq_zero_iff.1 o);refine W ?_;exact⟨_,rfl,by rw[j];rfl,d⟩;have f:0<t.ag.length:=by omega
 have y:t.au=[]:=Classical.byContradiction (λh=>by have:=u.leaf h;rw[this] at f;exact absurd f de);have q:=ek f;have j:bC t=(nth t.ag 0).au:=FU y q;obtain⟨b,_,_,_,_,rfl,_,_,_⟩:=gB e q;refine WI ?_;refine zi (i:=0) ic bV rfl rfl (by rw[z];exact f)<|W ?_;exact⟨_,rfl,by rw[j];rfl,d⟩
theorem aaY (t:aq) (j:WF t) (h:ak) (k:Int) (v:Value) (L:List Nat) (w:World) (f:aV L w v t):
  bD Tryz.prog 46 [v,str h,.int .i64 k] w λr w'=>r= .bool (decide ((t.ag.length:Int)=k)&&decide (bC t=h))/\aj [] w w':=by
 have e:=f;obtain⟨a,n,c,rfl,l,_⟩:=cW f;have b:=aj.refl [] w;subst l;refine cu [.tmp 6] 18 Tryz.func46 rfl agk rfl rfl ?_;refine zr<|eK rfl λg i _ _=>bQ i b e λb e=>?_;refine W ?_;apply oA 5 12 17 (aj [] g) rfl oQ;intro _;refine W ?_;refine aA (tU t j _ L g e) ?_;rintro _ m ⟨rfl,d⟩;have o:=d.size;exact oQ;intro _ m d;have b:=b.ext d;refine W ?_;exact⟨_,rfl,rfl,b⟩
theorem arh (d:List aq) (y:d.length<1000000000) (g:aq->Bool) (f:FuncId) (e:List Value) (v:Value) (L:List Nat) (w:World) (m:cD L w v d) 
  (C:∀i,i<d.length->∀(u:Value) (w':World),aj [] w w'->aV L w' u (nth d i)->bD Tryz.prog f (u::e) w' λr q=>r= .bool (g<|nth d i)/\aj [] w' q):
  bD Tryz.prog 199 [v,.func (.func f) #[] e.toArray] w λr w'=>r= .int .i64 (DK d g)/\aj [] w w':=by
 obtain⟨a,c,rfl,_⟩:=sX m;have H:(da d).length=d.length:=iu d;have j:=aj.refl [] w;refine cu [.tmp 4] 19 Tryz.func199 rfl afT rfl rfl ?_;refine W ?_;refine eW (λk:Nat=>[(0,.slice a (da d).length c),(1,.func (.func f) #[] e.toArray),(7,.int .i64 ((da d).length:Int)),(8,.int .i64 (k:Int))]) (λk w'=>aj [] w w'/\k<=d.length/\∀i,i<k->g (nth d i)=false) (λk=>d.length-k) (0) (⟨rfl,rfl,rfl,rfl⟩) (⟨j,om,by intro i t;omega⟩) λl E _ B=>?_;obtain⟨j,hk,n⟩:=B;have m:=m.ext j;refine W ?_;refine zc rfl (λA=>?_) λA=>?_;have D:=ek (ps:=d) (i:=l) om;obtain⟨b,_,_,_,_,rfl,_,_,z⟩:=gB m D;refine W ?_;refine Ok rfl rfl rfl (C l om _ E j<|jQ z) ?_;rintro _ _ ⟨rfl,s⟩;have F:=s.size;have j:=j.ext s;refine bf<|zc rfl (λo=>?_) λo=>?_;have p:=adf om n o;refine W ?_;exact⟨_,rfl,by rw[p];rfl,j⟩;refine W ?_;exact⟨l+1,⟨rfl,rfl,rfl,rfl⟩,⟨j,om,by intro i t;rcases Nat.lt_or_ge i l with h|h;exact n i h;rw[show i=l by omega];exact o⟩,om⟩;have p:=adg λi t=>n i om;refine W ?_;exact⟨_,rfl,by rw[p];rfl,j⟩
theorem ari (b:List aq) (c:b.length<1000000000) (g:aq->Bool) (f:FuncId) (a:List Value) (v:Value) (L:List Nat) (w:World) (m:cD L w v b) 
  (l:∀i,i<b.length->∀(u:Value) (w':World),aj [] w w'->aV L w' u (nth b i)->bD Tryz.prog f (u::a) w' λr e=>r= .bool (g<|nth b i)/\aj [] w' e):
  bD Tryz.prog 173 [v,.func (.func f) #[] a.toArray] w λr w'=>r= .bool (b.any g)/\aj [] w w':=by
 have d:=aj.refl [] w;refine cu [.tmp 4] 9 Tryz.func173 rfl afw rfl rfl ?_;refine W ?_;refine aA (arh b c g f a _ L w m l) ?_;rintro _ _ ⟨rfl,j⟩;have n:=j.size;have d:=d.ext j;refine W ?_;exact⟨_,rfl,congrArg Value.bool<|adh b g,d⟩
def aaZ (m:Nat):Prop:=∀(t:aq),t.size<=m->t.size<=100000->WF t->∀(a:Bool) (v:Value) (L:List Nat) (w:World),aV L w v t->
  bD Tryz.prog 130 [v,.bool a,.bool false] w λr w'=>r= .bool (fX a t)/\aj [] w w'
theorem arj {m:Nat} (u:aaZ m) (t:aq) (h:t.size<=m) (s:t.size<=100000) (q:WF t) (b:Bool) (j l:Nat) (v:Value) (L:List Nat) (w:World) (o:aV L w v t) 
  (g:aK w j #[.bool b] 4) (f:aK w l #[.bool false] 4):
  bD Tryz.prog 174 [v,.pointer<|some ⟨j,0,none⟩,.pointer (some ⟨l,0,none⟩)] w λr w'=>r= .bool (!fX b t)/\aj [] w w':=by
 have e:=o;obtain⟨a,n,c,rfl,_,_⟩:=cW o;have d:=aj.refl [] w;refine cu [.tmp 4] 10 Tryz.func174 rfl afx rfl rfl ?_;refine zr<|eK rfl λy p _ _=>gO p d e g f λd e g f=>?_;refine W ?_;refine aA (u t h s q b _ L y e) ?_;rintro _ _ ⟨rfl,i⟩;have z:=i.size;have d:=d.ext i;refine W ?_;exact⟨_,rfl,rfl,d⟩
theorem ark {a n c:Nat} (h:cD L w (.slice (some ⟨b,a,none⟩) n c) ts) (k:Nat) (p:Prop) (m:p->k<ts.length):
  ∃d f e,KJ p w b (a+k*2) [str (nth ts k).au,.slice d f e]/\KL p L w (.slice d f e) (nth ts k).ag:=by
 by_cases g:p
 .obtain⟨_,_,d,f,e,l,o,_,j⟩:=gB h (ek<|m g);cases l;exact⟨d,f,e,λ_=>o,λ_=>j⟩
 .exact⟨none,0,0,λi=>absurd i g,λi=>absurd i g⟩
theorem aa1 (a:List aq) (k i:Nat):nth (a.drop k) i=nth a (i+k):=by simp[nth,List.getD,List.getElem?_drop,Nat.add_comm]
theorem arn (a:List aq) (f:aq->Bool):(!a.any λu=>!f u)=a.all f:=by
 induction a with
 |nil=>rfl
 |cons t r b=>simp only[List.any_cons,List.all_cons,Bool.not_or,Bool.not_not,b]
theorem SK:∀m,aaZ m:=by
 intro m;induction m with
 |zero=>intro t h;have:=lD t;omega
 |succ m T=>
  intro t _ _ B e v L w S;have g:=S;obtain⟨a,n,c,rfl,_,f⟩:=cW S;have d:=aj.refl [] w;have mP:=lD t;refine cu [.tmp 6] 53 Tryz.func130 rfl aeP rfl rfl ?_;refine zr<|eK rfl λN aI o _=>cQ aI d f g λd f g=>?_;refine N5 rfl rfl rfl λF aw r _=>gO aw d f g o λd f g o=>?_;refine N5 rfl rfl rfl λw3 Z j _=>kT Z d f g o r λd f g o r=>?_;refine W ?_;refine aA (Fx t _ L w3 g) ?_;rintro _ w4 ⟨rfl,P⟩;have fP:=P.size;refine uH P d f g o r j λd f g o r j=>?_;refine bf<|zc rfl (λh1=>?_) λh1=>?_;have y:t.au≠[]:=λh=>by have:=B.pos h;omega
  refine WZ ?_;apply oP 7 12 19 rfl oQ;intro _;refine WZ ?_;apply oB 4 14 18 rfl oQ;intro _;refine WZ ?_;exact oQ;intro Y;exact oQ;intro Y;refine WZ ?_;apply oP 7 20 27 rfl oQ;intro _;refine zl Ir rfl (j.at rfl)<|zm<|Bq (t:=22) (b:=false) rfl ?_;exact oQ;intro Y;refine W ?_;exact⟨_,rfl,show Value.bool _=Value.bool _ from congrArg _<|by rw[T6 y,Bool.or_false],d⟩;have z:0<t.ag.length:=by omega
  have y:t.au=[]:=Classical.byContradiction (λh=>by have:=B.leaf h;rw[this] at z;exact absurd z de);have U:=ek z;have E:bC t=(nth t.ag 0).au:=FU y U;refine W ?_;refine aA (tU t B _ L w4 g) ?_;rintro _ X ⟨rfl,Q⟩;have mq:=Q.size;refine kT Q d f o r j λd f o r j=>?_;obtain⟨b,_,_,_,_,rfl,_,_,_⟩:=gB f U;refine W ?_;refine zc rfl (λI=>?_) λI=>?_;have he:(nth t.ag 0).au=[101]:=E.symm.trans I;have j:aK X F.heap.size #[.bool false] 4:=j;obtain⟨_,_,_,M,O⟩:=ark f 1 ((n:Int)=2) λh=>om;refine j1<|DQ [32,33,34,35,36,37,38,39,40,41,42,43,6] [(6,.bool<|decide ((n:Int)=2)&&fX true (nth t.ag 1))] ?_ ?_;rcases bE (decide ((n:Int)=2)) with ia|ia;apply km dh 13 (rA 32 12++[6]) (rA 32 12++[6]) [[],[0],[1],[2],[3],[4],[4,5],[4,6],[4,7],[4],[4,8,9],[4,10],[11]] [It.v _,It.v _,It.v _,It.v _,It.v<|.bool true,It.v _,It.v _,It.v _,It.v _,It.v _,It.v _,It.v _,It.v _] de rfl;intro wd aC;refine VA ?_;refine vc (λx q s=>?_) ?_;refine WZ ?_;exact pv (by exact congrArg Value.bool ia);refine VA ?_;refine vk aC (λx q s=>?_) ?_;have p:=ia;refine zi (i:=1) ic bV rfl rfl (by have:=of_decide_eq_true p;omega) ?_;exact pv;refine vk aC (λx q s=>?_) ?_;have M:=M.ext s;have p:=ia;refine zL iL bV rfl (M<|of_decide_eq_true p) rfl ?_;exact pv;refine VA ?_;refine vk aC (λx q s=>?_) ?_;have O:=O.ext s;have p:=ia;refine aA (T (nth t.ag 1) (by have:=of_decide_eq_true p;have:=kP (t:=t) (i:=1) om;omega) (by have:=of_decide_eq_true p;have:=kP (t:=t) (i:=1) om;omega) (B.nth (by have:=of_decide_eq_true p;omega)) true _ L q<|jQ (O<|of_decide_eq_true p)) ?_;rintro _ w7 ⟨rfl,A⟩;have mr:=A.size;exact pk A;exact VZ;intro x V C;change OW _ _ _ _ [] (aY (aX _ x _) (zZ 32 [_,_,_,_,_,_,_,_,_,_,_,_]++[(6,_)])) _;refine W ?_;exact kE C;apply km dh 13 (rA 32 12++[6]) (rA 32 12++[6]) [[],[0],[1],[2],[3],[4],[4,5],[4,6],[4,7],[4],[4,8,9],[4,10],[11]] [It.v _,It.v _,It.v _,It.v _,It.v (.bool false),It.v _,It.v _,It.v _,It.v _,It.v _,It.v _,It.v _,It.v _] de rfl;intro wd aC;refine VA ?_;refine vc (λx q s=>?_) ?_;refine WZ ?_;exact pv (by exact congrArg Value.bool ia);exact VZ;intro x V C;change OW _ _ _ _ [] (aY (aX _ x _) (zZ 32 [_,_,_,_,_,_,_,_,_,_,_,_]++[(6,_)])) _;refine W ?_;exact kE C;intro x V C;have d:=d.ext C;refine la<|⟨_,rfl,show Value.bool _=Value.bool _ from congrArg _ ?_,d⟩;rw[Ot y z he]
  congr 1
  exact decide_eq_decide.2 om;have dD:(nth t.ag 0).au≠[101]:=λh=>I<|E.trans h;refine W ?_;refine jq (λ_:Unit=>[(3,.pointer<|some ⟨w.heap.size,0,none⟩),(4,.pointer<|some ⟨N.heap.size,0,none⟩),(5,.pointer<|some ⟨F.heap.size,0,none⟩),(44,.bool (decide (bC t=[116])||decide (bC t=[99])))]) (λ_ w'=>w'=X) ?_ ?_;refine zc rfl (λJ=>?_) λJ=>?_;refine WZ ?_;exact⟨(),⟨rfl,rfl,rfl,congrArg Value.bool<|BH J⟩,rfl⟩;refine W ?_;exact⟨(),⟨rfl,rfl,rfl,congrArg Value.bool<|BI J⟩,rfl⟩;intro _ q _ hI;obtain rfl:=hI;refine zc rfl (λK=>?_) λK=>?_;have D:=BJ K;rw[E] at D;refine W ?_;refine zC (l:=1) ic bV rfl rfl rfl rfl om f λsj H=>?_;have H:cD L q sj (t.ag.drop 1):=by rw[cD,DH];exact H
  refine TJ (vs:=[.pointer<|some ⟨N.heap.size,0,none⟩,.pointer (some ⟨F.heap.size,0,none⟩)]) rfl rfl rfl<|aA (ari (t.ag.drop 1) (by rw[List.length_drop];omega) (λu=>!fX e u) 174 [.pointer<|some ⟨N.heap.size,0,none⟩,.pointer (some ⟨F.heap.size,0,none⟩)] _ L q H λi hi u w' k R=>by rw[List.length_drop] at hi;rw[aa1] at R⊢;exact arj T (nth t.ag<|i+1) (by have:=kP (t:=t) (i:=i+1) om;omega) (by have:=kP (t:=t) (i:=i+1) om;omega) (B.nth om) e _ _ _ L _ R (r.ext k)<|j.ext k) ?_;rintro _ w7 ⟨rfl,A⟩;have mr:=A.size;have d:=d.ext A;refine W ?_;exact⟨_,rfl,show Value.bool _=Value.bool _ from congrArg _<|by rw[Ou y z D,arn],d⟩;have D:=BK K;rw[E] at D;refine W ?_;exact⟨_,rfl,by rw[Ov y z dD D];rfl,d⟩
theorem Fy {a b:World} (h:aj [] w a) (k:RowKit.Below w.heap.size a b):aj [] w b:=
 ⟨k.os.trans h.os,k.tape.trans h.tape,k.output.trans h.output,Nat.le_trans h.size k.size,λi c d=>(k.block i c).trans<|h.block i c d⟩
theorem aro (x y:Nat) (h:x*y<18446744073709551616) (c:x<18446744073709551616) (d:y<18446744073709551616) (w:World):
  bD Tryz.prog 200 [.int .u64 x,.int .u64 y] w λv w'=>v= .tuple #[.int .u64 0,.int .u64 ((x*y:Nat):Int)]/\w=w':=
 ⟨ru.mk' Tryz.func200 rfl afV,Calls.mono (Tryz.bits_Mul x y c d w) λ_ _ ⟨a,b⟩=>⟨_,a,by rw[Nat.div_eq_of_lt h,Nat.mod_eq_of_lt h];rfl,b.symm⟩⟩
theorem arp (B b n:Nat) (w:World) (c:B<=b) (a:aK w b #[.pointer none,.slice none 0 0] 99) (f:B<=w.heap.size) (e:n<=281474976710656):
  bD Tryz.prog 201 [.pointer<|some ⟨b,0,none⟩,.int .i64 n] w λv w'=>v= .tuple #[]/\Lib.IsBuilderF 99 5 B b (Lib.byteCells []) w'/\RowKit.Below B w w':=
 ⟨ru.mk' Tryz.func201 rfl afW,Calls.mono (Tryz.Builder_Grow_fresh B b n w c a f e) λ_ _ ⟨d,hb,hk⟩=>⟨_,d,rfl,.inr<|Lib.BuilderAtF.of hb,hk⟩⟩
theorem aa2 (B b:Nat) (l s:ak) (w:World) (h:Lib.IsBuilderF 99 5 B b (Lib.byteCells l) w) (a:l.length+s.length<=140737488355328) (e:B<=w.heap.size):
  bD Tryz.prog 105 [.pointer<|some ⟨b,0,none⟩,str s] w λv w'=>(∃u,v=u)/\Lib.IsBuilderF 99 5 B b (Lib.byteCells<|l++s) w'/\RowKit.Below B w w':=
 ⟨ru.mk' Tryz.func105 rfl UW,Calls.mono (Tryz.Builder_WriteString_f B b _ ⟨s.toArray⟩ w h (by rw[Lib.byteCells_length];simpa[ByteArray.size] using a) e) λ_ _ ⟨d,hb,hk⟩=>⟨_,d,⟨_,rfl⟩,.inr (by have c:Lib.byteCells (l++s)=Lib.byteCells l++Lib.strCells ⟨s.toArray⟩:=by{simp[Lib.byteCells,Lib.strCells]};rw[c];exact hb),hk⟩⟩
theorem SL (B b:Nat) (l:ak) (w:World) (h:Lib.IsBuilderF 99 5 B b (Lib.byteCells l) w):
  bD Tryz.prog 202 [.pointer (some ⟨b,0,none⟩)] w λv w'=>v= .int .i64 (l.length:Int)/\w=w':=
 ⟨ru.mk' Tryz.func202 rfl afX,Calls.mono (Tryz.Builder_Len_f B b _ w h) λ_ _ ⟨a,c⟩=>⟨_,a,by rw[Lib.byteCells_length],c.symm⟩⟩
theorem aa3 (B b:Nat) (l:ak) (a:l≠[]) (w:World) (h:Lib.IsBuilderF 99 5 B b (Lib.byteCells l) w):
  bD Tryz.prog 77 [.pointer (some ⟨b,0,none⟩)] w λv w'=>v=str l/\Lib.IsBuilderF 99 5 B b (Lib.byteCells l) w'/\RowKit.Below B w w':=
 ⟨ru.mk' Tryz.func77 rfl UY,Calls.mono (Tryz.Builder_String_f B b l w h a) λ_ _ ⟨c,hb,hk⟩=>⟨_,c,rfl,hb,hk⟩⟩
theorem arq (c:Nat) (M:c<=8192) (w:World):bD Tryz.prog 175 [str [115],.int .i64 (c:Int)] w λv w'=>v=str (List.replicate c 115)/\aj [] w w':=by
 have b:=aj.refl [] w;refine cu [.tmp 4] 125 Tryz.func175 rfl afy rfl rfl ?_;refine W ?_;refine zc rfl (λA=>?_) λA=>?_;have z:c=0:=by omega
 refine W ?_;exact⟨_,rfl,by rw[z];rfl,b⟩;refine W ?_;refine zc rfl (λB=>?_) λB=>?_;have t:c=1:=by omega
 refine W ?_;exact⟨_,rfl,by rw[t];rfl,b⟩;refine W ?_;refine zc rfl (λC=>?_) λC=>?_;exfalso;omega;refine W ?_;refine zD yh Lc rfl rfl rfl (show IntKind.u64.wrap (([115]:ak).length:Int)=((1:Nat):Int) from by decide)<|zm<|zD yh Lc rfl rfl rfl (show IntKind.u64.wrap (c:Int)=((c:Nat):Int) from by rw[wrap_u64 _ om om])<|aA (aro 1 c om om om _) ?_;rintro _ _ ⟨rfl,rfl⟩;refine zm<|zx (i:=0) rfl rfl<|zx (i:=1) rfl rfl<|zA<|zA<|bf<|j1<|zr<|zm<|HO rfl rfl rfl rfl rfl<|zm ?_;apply Dx 3 31 34 [31,32,33,34] (λw'=>w=w') rfl;intro f;replace f:=jw f;refine W ?_;exact mg rfl rfl;intro f;replace f:=jw f;refine W ?_;exact mg rfl rfl;rintro _ _ rfl;refine bf<|zc rfl (λj=>?_) λj=>?_;exfalso;simp at j;omega;refine iD<|zr<|zm<|zD Lc yh rfl rfl rfl (show IntKind.i64.wrap ((1*c:Nat):Int)=(c:Int) from by rw[wrap_i64 _ om om];omega)<|W ?_;refine zc rfl (λl=>?_) λl=>?_;exact absurd l de;refine W ?_;refine kJ (i:=0) ji rfl rfl rfl rfl (jP de)<|W ?_;refine zc rfl (λm=>?_) λm=>?_;exact absurd m de;refine W ?_;refine zc rfl (λn=>?_) λn=>?_;exact absurd n de;refine W ?_;refine zc rfl (λo=>?_) λo=>?_;exact absurd o de;refine W ?_;refine zc rfl (λg=>?_) λg=>?_;exact absurd g de;refine W ?_;refine zc rfl (λp=>?_) λp=>?_;exact absurd p de;refine W ?_;refine zc rfl (λF=>?_) λF=>?_;exfalso;omega;refine iD<|zr<|dj Pc rfl rfl rfl λI s u _=>?_;have b:=b.ext s;refine bf<|zr<|zm<|aA (arp w.heap.size w.heap.size c I (lR _) u om om) ?_;rintro _ J ⟨rfl,d,e⟩;have b:=Fy b e;refine bf<|zr<|zm<|aA (aa2 w.heap.size w.heap.size [] [115] J d sm (by have:=b.size;omega)) ?_;rintro _ _ ⟨_,d,e⟩;have b:=Fy b e;refine W ?_;refine eW (λk:Nat=>[(0,str [115]),(7,.int .i64 (c:Int)),(8,.int .i64 (c:Int)),(9,.pointer<|some ⟨w.heap.size,0,none⟩)]) (λk w'=>aj [] w w'/\Lib.IsBuilderF 99 5 w.heap.size w.heap.size (Lib.byteCells<|List.replicate k 115) w'/\1<=k/\k<=c) (λk=>c-k) (1) (⟨rfl,rfl,rfl,rfl⟩) (⟨b,d,om,om⟩) λa q _ D=>?_;obtain⟨b,d,hk,_⟩:=D;have L:=b.size;refine j1<|zr<|aA (SL _ _ _ _ d) ?_;rintro _ _ ⟨rfl,rfl⟩;rw[List.length_replicate];refine W ?_;refine zc rfl (λH=>?_) λH=>?_;have K:a<c:=by omega
 refine W ?_;refine aA (SL _ _ _ _ d) ?_;rintro _ _ ⟨rfl,rfl⟩;rw[List.length_replicate];refine W ?_;refine aA (SL _ _ _ _ d) ?_;rintro _ _ ⟨rfl,rfl⟩;rw[List.length_replicate];refine zm<|acH rfl rfl rfl rfl rfl (show(if(c:Int)<(if(a:Int)<(c:Int)-a then(a:Int) else(c:Int)-a) then(c:Int) else(if(a:Int)<(c:Int)-a then(a:Int) else(c:Int)-a))=((min a (c-a):Nat):Int) from by repeat' split<;>omega)<|zA<|bf<|mf<|aA (aa3 _ _ _ (by intro h;have:=congrArg List.length h;simp at this;omega) q d) ?_;rintro _ r ⟨rfl,d,e⟩;have b:=Fy b e;refine zm<|Dw ji rfl rfl rfl (.inl ⟨rfl,rfl⟩) (.inr ⟨_,rfl⟩) om (by rw[List.length_replicate];omega)<|aA (aa2 w.heap.size w.heap.size _ _ r d so (by have:=b.size;omega)) ?_;rintro _ _ ⟨_,d,e⟩;have b:=Fy b e;refine W ?_;exact⟨a+min a (c-a),⟨rfl,rfl,rfl,rfl⟩,⟨b,by have y:List.replicate a 115++((List.replicate a (115:UInt8)).drop 0).take (min a (c-a)-0)=List.replicate (a+min a (c-a)) 115:=by{rw[List.drop_zero,Nat.sub_zero,List.take_replicate,List.replicate_append_replicate];congr 1;omega};rw[<-y];exact d,om,om⟩,om⟩;have E:a=c:=by omega
 refine W ?_;refine aA (aa3 _ _ _ (by intro h;have:=congrArg List.length h;simp at this;omega) q d) ?_;rintro _ r ⟨rfl,d,e⟩;have b:=Fy b e;refine W ?_;exact⟨_,rfl,by rw[<-E];rfl,b⟩
theorem aa4 (h:ak) (n:Nat) (M:n<=8000) (w:World):bD Tryz.prog 131 [str h,.int .i64 (n:Int)] w λr w'=>r=str (eI h n)/\aj [] w w':=by have a:=aj.refl [] w;refine cu [.tmp 4] 33 Tryz.func131 rfl aeQ rfl rfl ?_;refine W ?_;refine zc rfl (λp=>?_) λp=>?_;have b:=p;refine W ?_;exact⟨_,rfl,show str _=str _ from congrArg _<|by rw[eI,iP b],a⟩;have b:=p;refine W ?_;refine jq (λ_:Unit=>[(1,.int .i64 (n:Int)),(5,str h),(8,.bool (decide (h=[109,111,118])||decide (h=[111,112,101,110])))]) (λ_ w'=>w'=w) ?_ ?_;refine zc rfl (λq=>?_) λq=>?_;refine WZ ?_;exact⟨(),⟨rfl,rfl,congrArg Value.bool<|BH q⟩,rfl⟩;refine W ?_;exact⟨(),⟨rfl,rfl,congrArg Value.bool<|BI q⟩,rfl⟩;intro H J _ i;obtain rfl:=i;refine zc rfl (λs=>?_) λs=>?_;have c:=BJ s;refine W ?_;exact⟨_,rfl,show str _=str _ from congrArg _<|by rw[eI,iN b,iP c],a⟩;have c:=BK s;refine W ?_;refine jq (λ_:Unit=>[(1,.int .i64 (n:Int)),(5,str h),(11,.bool (decide (h=[97,100,100])||decide (h=[115,117,98])||decide (h=[109,117,108])))]) (λ_ w'=>w'=J) ?_ ?_;refine zc rfl (λt=>?_) λt=>?_;refine WZ ?_;exact⟨(),⟨rfl,rfl,congrArg Value.bool<|Ow t⟩,rfl⟩;have F:=t;refine W ?_;refine zc rfl (λu=>?_) λu=>?_;refine WZ ?_;exact⟨(),⟨rfl,rfl,congrArg Value.bool<|Ox F u⟩,rfl⟩;refine W ?_;exact⟨(),⟨rfl,rfl,congrArg Value.bool<|Oy F u⟩,rfl⟩;intro H I _ i;obtain rfl:=i;refine zc rfl (λv=>?_) λv=>?_;have d:=Oz v;refine W ?_;exact⟨_,rfl,show str _=str _ from congrArg _<|by rw[eI,iN b,iN c,iP d],a⟩;have d:=OB v;refine W ?_;refine zc rfl (λy=>?_) λy=>?_;have e:=y;refine W ?_;refine TH rfl rfl rfl rfl (show(if(0:Int)<(n:Int)-2 then(n:Int)-2 else 0)=((n-2:Nat):Int) from by split<;>omega)<|aA (arq (n-2) om I) ?_;rintro _ K ⟨rfl,E⟩;have L:=E.size;have a:=a.ext E;refine W ?_;exact⟨_,rfl,show str _=str _ from congrArg _<|by rw[eI,iN b,iN c,iN d,iP e],a⟩;have e:=y;refine W ?_;refine zc rfl (λz=>?_) λz=>?_;have f:=z;refine W ?_;exact⟨_,rfl,show str _=str _ from congrArg _<|by rw[eI,iN b,iN c,iN d,iN e,iP f],a⟩;have f:=z;refine W ?_;refine zc rfl (λA=>?_) λA=>?_;have g:=A;refine W ?_;exact⟨_,rfl,show str _=str _ from congrArg _<|by rw[eI,iN b,iN c,iN d,iN e,iN f,iP g],a⟩;have g:=A;refine W ?_;refine zc rfl (λo=>?_) λo=>?_;have j:=o;refine W ?_;exact⟨_,rfl,show str _=str _ from congrArg _<|by rw[eI,iN b,iN c,iN d,iN e,iN f,iN g,iP j],a⟩;have j:=o;refine W ?_;refine zc rfl (λD=>?_) λD=>?_;have l:=D;refine W ?_;exact⟨_,rfl,show str _=str _ from congrArg _<|by rw[eI,iN b,iN c,iN d,iN e,iN f,iN g,iN j,iP l],a⟩;have l:=D;refine W ?_;refine jq (λ_:Unit=>[(5,str h),(30,.bool (decide (h=[106,117,109,112])||decide (h=[104,97,108,116])))]) (λ_ w'=>w'=I) ?_ ?_;refine zc rfl (λB=>?_) λB=>?_;refine WZ ?_;exact⟨(),⟨rfl,congrArg Value.bool<|BH B⟩,rfl⟩;refine W ?_;exact⟨(),⟨rfl,congrArg Value.bool<|BI B⟩,rfl⟩;intro H K _ i;obtain rfl:=i;refine zc rfl (λC=>?_) λC=>?_;have m:=BJ C;refine W ?_;exact⟨_,rfl,show str _=str _ from congrArg _<|by rw[eI,iN b,iN c,iN d,iN e,iN f,iN g,iN j,iN l,iP m],a⟩;have m:=BK C;refine W ?_;exact⟨_,rfl,show str _=str _ from congrArg _<|by rw[eI,iN b,iN c,iN d,iN e,iN f,iN g,iN j,iN l,iN m],a⟩
theorem SM {v:Value} (h:cD L w v ts):∃a c,v= .slice a ts.length c:=by obtain⟨a,c,rfl,_⟩:=sX h;exact⟨a,c,by rw[iu]⟩
theorem aa5 (t:aq) (hs:t.size<=12001) (P:WF t) (v:Value) (L:List Nat) (w:World) (hv:aV L w v t):
  bD Tryz.prog 99 [v] w λr w'=>r= .bool (nz t)/\aj [] w w':=by
 have H:=hv;obtain⟨a,n,c,rfl,hn,s⟩:=cW hv;have d:=aj.refl [] w;have hn8:=Up P;subst hn;have hσ:=adA (bC t) t.ag.length;refine cu [.tmp 2] 78 Tryz.func99 rfl ag0 rfl rfl ?_;refine zr<|eK rfl λ_ f F A=>cQ f d s H λd s H=>?_;refine W ?_;apply km dh 7 (rA 7 6++[3]) (rA 7 6++[3]) [[],[0],[],[2],[3],[1,4],[5]] [It.v _,It.v _,It.v _,It.v _,It.v _,It.v _,It.v (str<|eI (bC t) t.ag.length)] de rfl;intro _ aC;refine VA ?_;refine vk aC (λx w2 aw=>?_) ?_;have H:=H.ext aw;refine aA (tU t P _ L w2 H) ?_;rintro _ w3 ⟨rfl,E⟩;have fl:=E.size;exact pk E;refine VA ?_;refine vk aC (λx w2 aw=>?_) ?_;refine aA (aa4 (bC t) t.ag.length om w2) ?_;rintro _ w3 ⟨rfl,E⟩;have fl:=E.size;exact pk E;exact VZ;intro x mu gV;refine cQ gV d s F λd s F=>?_;change OW _ _ _ _ [] (aY (aX _ x _)<|zZ 7 [_,_,_,_,_,_]++[(3,_)]) _;refine W ?_;apply oP 8 15 23 rfl oQ;intro _;refine WZ ?_;exact oQ;intro xx;refine bf<|zc rfl (λB=>?_) λB=>?_;have hb:eI (bC t) t.ag.length=[]\/t.ag.length≠(eI (bC t) t.ag.length).length+1:=by simp only[oE,dE] at B;rcases B with h|h;exact .inl h;exact .inr om
 refine W ?_;exact⟨_,rfl,by rw[KT hb];rfl,d⟩;have hb:¬(eI (bC t) t.ag.length=[]\/t.ag.length≠(eI (bC t) t.ag.length).length+1):=by simp only[Bool.or_eq_false_iff,decide_eq_false_iff_not] at B;rintro(h|h);exact B.1 h;exact B.2 om
 have dD:=List.length_pos_iff.2 λh=>hb<|.inl h;have hl:t.ag.length=(eI (bC t) t.ag.length).length+1:=Classical.byContradiction λh=>hb<|.inr h;obtain⟨_,_,_,_,_,rfl,_,_,_⟩:=gB s<|ek (ps:=t.ag) (i:=0) om;refine W ?_;refine zC (l:=1) ic bV rfl rfl rfl rfl om s λsj u=>?_;have u:cD L mu sj (t.ag.drop 1):=by rw[cD,DH];exact u
 obtain⟨a1,c1,rfl⟩:=SM u;have DC:(t.ag.drop 1).length=t.ag.length-1:=List.length_drop;generalize p:eI (bC t) t.ag.length=m at*;refine W ?_;refine eW (λk:Nat=>[(1,.pointer<|some ⟨w.heap.size,0,none⟩),(3,str m),(26,.slice a1 (t.ag.drop 1).length c1),(27,.int .i64 ((t.ag.drop 1).length:Int)),(28,.int .i64 (k:Int))]) (λk w'=>aj [] w w'/\aj [] mu w'/\k<=(t.ag.drop 1).length/\∀i,i<k->iH ((m.getD i 0).toNat:Int) (nth t.ag (i+1))=true) (λk=>(t.ag.drop 1).length-k) (0) (⟨rfl,rfl,rfl,rfl,rfl⟩) (⟨d,aj.refl [] _,om,by intro i hi;omega⟩) λb ow _ C=>?_;obtain⟨d,f,hk,cZ⟩:=C;refine bQ f u F λu F=>?_;have fR:=d.size;have NN:=f.size;have jf:=F.lt;refine W ?_;refine zc rfl (λh3=>?_) λh3=>?_;have hp:=ek (ps:=t.ag.drop 1) (i:=b) om;obtain⟨b1,fg,_,_,_,rfl,iZ,eA,g⟩:=gB u hp;rw[aa1] at iZ eA g;have N:=P.nth (i:=b+1) om;have mG:=kP (t:=t) (i:=b+1) om;have Ec:=pZ (nth t.ag<|b+1);refine W ?_;refine dj bV rfl rfl rfl λ_ Q K _=>?_;have d:=d.grow;have d:=d.ext Q;have f:=f.grow;have f:=f.ext Q;have g:=g.grow;have g:=g.ext Q;refine zA<|cF bV rfl rfl rfl K rfl λlV T K _=>?_;have d:=d.aB T sx;have f:=f.aB T sx;have g:=g.aB T sx;refine W ?_;have e:=aj.refl [] lV;refine kJ ji rfl rfl rfl rfl (jP om)<|W ?_;refine jq (λ_:Unit=>[(1,.pointer<|some ⟨w.heap.size,0,none⟩),(3,str m),(5,.pointer<|some ⟨ow.heap.size,0,none⟩),(6,.bool false),(26,.slice (some ⟨b1,fg,none⟩) (t.ag.drop 1).length c1),(27,.int .i64 ((t.ag.drop 1).length:Int)),(28,.int .i64 (b:Int)),(35,.int .u8 ((m.getD b 0).toNat:Int)),(36,.bool (decide (((m.getD b 0).toNat:Int)=100)||decide (((m.getD b 0).toNat:Int)=115)))]) (λ_ w'=>w'=lV) ?_ ?_;refine zc rfl (λU=>?_) λU=>?_;refine WZ ?_;exact⟨(),⟨rfl,rfl,rfl,rfl,rfl,rfl,rfl,rfl,congrArg Value.bool<|BH U⟩,rfl⟩;refine W ?_;exact⟨(),⟨rfl,rfl,rfl,rfl,rfl,rfl,rfl,rfl,congrArg Value.bool<|BI U⟩,rfl⟩;intro gu D _ C;obtain rfl:=C;refine jq (λ_:Unit=>[(1,.pointer<|some ⟨w.heap.size,0,none⟩),(3,str m),(6,.bool<|iH ((m.getD b 0).toNat:Int) (nth t.ag<|b+1)),(26,.slice (some ⟨b1,fg,none⟩) (t.ag.drop 1).length c1),(27,.int .i64 ((t.ag.drop 1).length:Int)),(28,.int .i64 (b:Int))]) (λ_ w'=>aj [] D w') ?_ ?_;refine zc rfl (λV=>?_) λV=>?_;have o:=BJ V;refine W ?_;refine aA (arf _ om D) ?_;rintro _ q ⟨rfl,j⟩;have O:=j.size;have e:=e.ext j;refine W ?_;exact⟨(),⟨rfl,rfl,by rw[iH,iP o];rfl,rfl,rfl,rfl⟩,e⟩;have o:=BK V;refine W ?_;refine zc rfl (λX=>?_) λX=>?_;refine W ?_;refine aA (SJ _ om _) ?_;rintro _ _ ⟨rfl,rfl⟩;refine W ?_;exact⟨(),⟨rfl,rfl,by rw[iH,iN o,iP X];rfl,rfl,rfl,rfl⟩,e⟩;have A:=X;refine W ?_;refine zc rfl (λY=>?_) λY=>?_;have y:=Y;refine W ?_;refine aA (SJ _ om _) ?_;rintro _ _ ⟨rfl,rfl⟩;refine WZ ?_;apply oA 5 52 57 (aj [] D) rfl oQ;intro h8;obtain⟨z,J⟩:=Option.isSome_iff_exists.1 h8;have Jz:z=(numeral (nth t.ag<|b+1).au).getD 0:=by rw[J];rfl
 refine W ?_;refine aA (Kj _ J D) ?_;rintro _ q ⟨rfl,j⟩;have O:=j.size;rw[Jz];exact oQ;intro xx q j;have e:=e.ext j;refine W ?_;exact⟨(),⟨rfl,rfl,by rw[iH,iN o,iN A,iP y];rfl,rfl,rfl,rfl⟩,e⟩;have y:=Y;refine W ?_;refine zc rfl (λZ=>?_) λZ=>?_;refine W ?_;refine aA (aaX _ om _) ?_;rintro _ _ ⟨rfl,rfl⟩;refine W ?_;exact⟨(),⟨rfl,rfl,by rw[iH,iN o,iN A,iN y,iP Z];rfl,rfl,rfl,rfl⟩,e⟩;have S:=Z;refine W ?_;refine zc rfl (λR=>?_) λR=>?_;have M:=R;refine W ?_;refine aA (aaY (nth t.ag<|b+1) N [101] 2 _ _ D (jQ g)) ?_;rintro _ q ⟨rfl,j⟩;have O:=j.size;refine cQ j g K e λg K e=>?_;refine WZ ?_;apply oA 3 67 70 (aj [] q) rfl oQ;intro _;refine W ?_;refine aA (SK (nth t.ag (b+1)).size (nth t.ag (b+1)) (lR _) om N false _ _ q (jQ g)) ?_;rintro _ kZ ⟨rfl,kG⟩;have awN:=kG.size;exact oQ;intro xx kZ kG;have e:=e.ext kG;refine W ?_;exact⟨(),⟨rfl,rfl,by rw[iH,iN o,iN A,iN y,iN S,iP M,show decide ((nth t.ag<|b+1).ag.length=2)=decide (((nth t.ag<|b+1).ag.length:Int)=2) from decide_eq_decide.2 om];rfl,rfl,rfl,rfl⟩,e⟩;have M:=R;refine W ?_;refine zc rfl (λjG=>?_) λjG=>?_;have iY:=jG;refine W ?_;refine aA (SK (nth t.ag<|b+1).size (nth t.ag<|b+1) (lR _) om N false _ _ D<|jQ g) ?_;rintro _ q ⟨rfl,j⟩;have O:=j.size;have e:=e.ext j;refine W ?_;exact⟨(),⟨rfl,rfl,by rw[iH,iN o,iN A,iN y,iN S,iN M,iP iY];rfl,rfl,rfl,rfl⟩,e⟩;have iY:=jG;refine WZ ?_;exact⟨(),⟨rfl,rfl,by rw[iH,iN o,iN A,iN y,iN S,iN M,iN iY];rfl,rfl,rfl,rfl⟩,e⟩;intro gu q _ C;have d:=d.ext C;have f:=f.ext C;refine W ?_;refine zc rfl (λmJ=>?_) λmJ=>?_;subst p;have I:iH (((eI (bC t) t.ag.length).getD b 0).toNat:Int) (nth t.ag<|b+1)=false:=by simpa using mJ
 refine W ?_;exact⟨_,rfl,by rw[adi om I];rfl,d⟩;have I:iH ((m.getD b 0).toNat:Int) (nth t.ag<|b+1)=true:=by simpa using mJ
 refine W ?_;exact⟨b+1,⟨rfl,rfl,rfl,rfl,rfl⟩,⟨d,f,om,by intro i hi;rcases Nat.lt_or_ge i b with h|h;exact cZ i h;rw[show i=b by omega];exact I⟩,om⟩;subst p;have I:=adj hb λi hi=>cZ i om;refine W ?_;exact⟨_,rfl,by rw[I];rfl,d⟩
theorem art (t:aq) (g:WF t) (v:Value) (L:List Nat) (w:World) (i:aV L w v t):
  bD Tryz.prog 100 [v] w λr w'=>r= .bool (Ib t)/\aj [] w w':=by
 have d:=i;obtain⟨a,n,c,rfl,_,_⟩:=cW i;have b:=aj.refl [] w;refine cu [.tmp 2] 11 Tryz.func100 rfl aeo rfl rfl ?_;refine zr<|eK rfl λp m e _=>bQ m b d λb d=>?_;refine W ?_;refine aA (tU t g _ L p d) ?_;rintro _ j ⟨rfl,f⟩;have q:=f.size;refine cQ f b d e λb d e=>?_;refine WZ ?_;apply oO 4 6 10 (aj [] j) rfl oQ;intro _;refine W ?_;refine aA (tU t g _ L j d) ?_;rintro _ _ ⟨rfl,l⟩;have s:=l.size;exact oQ;intro _ _ o;have b:=b.ext o;refine W ?_;exact⟨_,rfl,rfl,b⟩
def aru (L:List Nat) (d:Nat) (s:ak) (v:Value) (w:World):Prop:=
 ∃t a r ok,v= .tuple #[a,str r,.bool ok]/\aV L w a t/\BQ d s t r ok
theorem arv:∀(d:Nat) (s:ak) (L:List Nat) (w:World),d<=60->s.length<=12000->(∀x∈L,x<w.heap.size)->
  bD Tryz.prog 80 [str s,.int .i64 ((60:Int)-(d:Int))] w λv w'=>aru L d s v w'/\aj [] w w':=by
 intro d;induction d using Nat.strongRecOn with
 |_ d ih=>
 intro s L w Q hs hL;have b:=aj.refl [] w;refine kM [.cell 4 61,.tmp 5,.tmp 6] 78 Tryz.func80 rfl agJ rfl rfl rfl ?_;refine zr<|dj bV rfl rfl rfl λK aI c _=>?_;have b:=b.grow;have b:=b.ext aI;refine W ?_;refine aA (aq7 _ _ _) ?_;rintro _ _ ⟨rfl,rfl⟩;refine kj rfl rfl rfl<|bf<|zc rfl (λZ=>?_) λZ=>?_;have vM:=Z;refine W ?_;refine eW (λk:Nat=>[(0,str s),(1,.int .i64<|(60:Int)-(d:Int)),(4,.pointer<|some ⟨w.heap.size,0,none⟩),(7,.int .i64 (k:Int))]) (λk w'=>w'=K/\k<=(s.takeWhile fi).length) (λk=>s.length-k) (0) (⟨rfl,rfl,rfl,rfl⟩) (⟨rfl,om⟩) λo w2 _ P=>?_;obtain⟨rfl,Gp⟩:=P;have Eb:=Tt fi s o Gp;have gA:=H3 fi s;refine WZ ?_;apply oB 5 19 24 rfl oQ;intro _;refine zm<|zm<|kJ ji rfl rfl rfl rfl (jP om)<|aA (arc _ _) ?_;rintro _ _ ⟨rfl,rfl⟩;exact oQ;intro xx;refine bf<|zc rfl (λh3=>?_) λh3=>?_;have eN:=Eb.2 (by simpa using h3);refine W ?_;exact⟨o+1,⟨rfl,rfl,rfl,rfl⟩,⟨rfl,om⟩,om⟩;have IL:o=(s.takeWhile fi).length:=Nat.le_antisymm Gp (Nat.le_of_not_lt λhh=>by have z:=Eb.1 hh;rw[z.2,Bool.and_true,decide_eq_false_iff_not] at h3;omega);refine WZ ?_;have f:=(Dy w.heap.size ([str ((s.drop 0).take<|o-0),.slice none 0 0]) 61);apply oS dh f 12 (rA 27 9++[100009,5,6]) (rA 27 9++[100009,5,6]) [[],[],[0,1],[2],[],[],[4,5],[],[7],[3],[6],[8]] [.v _,.v _,.v _,.v _,.v _,.v _,.v _,.v _,.v _,.p λ_ ww=>aK ww w.heap.size ([str ((s.drop 0).take<|o-0),.slice none 0 0]).toArray 61,.v<|str ((s.drop o).take<|s.length-o),.v (.bool (decide<|(0:Int)<(o:Int)))] de (by exact(bJ<|bJ (bJ<|bJ (bJ<|bJ (bJ<|bJ (bJ<|Dz (bJ<|bJ trivial)))))));intro wd aC;refine cI (λ_ _ _=>WZ<|bR f) ?_;refine cI (λ_ _ _=>WZ<|bR f) ?_;refine cI (λ_ _ _=>Dw ji rfl rfl rfl (.inl ⟨rfl,rfl⟩) (.inr ⟨_,rfl⟩) om om<|bR f) ?_;refine cI (λ_ _ _=>jE (U3 _ _) rfl rfl<|bR f) ?_;refine cI (λ_ _ _=>WZ<|bR f) ?_;refine cI (λ_ _ _=>WZ<|bR f) ?_;refine cI (λ_ _ _=>Dw ji rfl rfl rfl (.inr ⟨_,rfl⟩) (.inl ⟨rfl,rfl⟩) om om<|bR f) ?_;refine cI (λ_ _ _=>WZ<|bR f) ?_;refine cI (λ_ _ _=>WZ<|bR f) ?_;refine eH ?_ ?_;intro x J w3 e V Q A;have d3:J 3=(.agg #[str ((s.drop 0).take<|o-0),.slice none 0 0]):=Q;replace V:=f.trans aC V;obtain⟨us,rU,uQ⟩:=V.2.2 ⟨_,(by rfl),c⟩;replace A:e=aY (aX _ x _) [(30,J 3)]:=A;rw[d3] at A;subst A;refine cF bV rfl rfl rfl uQ (by rw[rU];rfl) λw4 M hb _=>W ?_;exact dn ⟨M,λ_=>hb,λ_=>⟨_,rfl,hb⟩⟩ hb;refine cI (λ_ _ _=>WZ<|bR f) ?_;refine cI (λ_ _ _=>WZ<|bR f) ?_;exact trivial;intro x ow yT;intro v9 d9;replace d9:aK ow w.heap.size ([str ((s.drop 0).take (o-0)),.slice none 0 0]).toArray 61:=d9;have b:=b.aB yT.1 sx;have c:=d9;change OW _ _ _ _ [] (aY (aX _ x _)<|zZ 27 [_,_,_,_,_,_,_,_,_]++[(100009,v9),(5,_),(6,_)]) _;refine bf<|la<|⟨[_,_,_],⟨gh iL bV rfl c rfl,rfl,rfl⟩,⟨.mk (s.takeWhile fi) [],_,s.dropWhile fi,_,by rw[List.drop_zero,Nat.sub_zero,IL,KE,OU,H2];rfl,jB ld,?_⟩,b⟩;unfold BQ;rw[adO vM];by_cases R:s.takeWhile fi=[];rw[iP R];exact .inr ⟨rfl,by simp[R]⟩;rw[iN R];refine .inl ⟨rfl,dT ?_⟩;have:=List.length_pos_iff.2 R;omega;obtain⟨S,rfl⟩:=adM Z;refine W ?_;refine zc rfl (λh4=>?_) λh4=>?_;have Sa:d=0:=by omega
 refine zr<|jE (O7 _) rfl rfl<|cF bV rfl rfl rfl c rfl λw2 N c dS=>?_;have b:=b.aB N sx;refine W ?_;exact⟨[_,_,_],⟨gh iL bV rfl c rfl,rfl,rfl⟩,⟨.mk [] [],_,[],_,rfl,jB ld,.inr ⟨by rw[Sa];simp[eZ],rfl⟩⟩,b⟩;have aQ:∃u,d=u+1:=⟨d-1,om⟩;obtain⟨u,rfl⟩:=aQ;refine iD<|zr<|dj bV rfl rfl rfl λw2 N j dS=>?_;have b:=b.grow;have b:=b.ext N;have c:=c.grow;have c:=c.ext N;refine W ?_;have awP:=c.lt;refine eW (λq:List aq×ak×Option Addr×Nat×Option Nat=>[(0,str q.2.1),(1,.int .i64<|(60:Int)-((u+1:Nat):Int)),(4,.pointer<|some ⟨w.heap.size,0,none⟩),(8,.pointer<|some ⟨K.heap.size,0,none⟩)]) (λq w'=>aj [] w w'/\aK w' w.heap.size [str [],.slice none 0 0].toArray 61/\aK w' K.heap.size [str [],.slice q.2.2.1 q.1.length q.2.2.2.1].toArray 61/\Gr w.heap.size (w.heap.size::K.heap.size::L) w' 61 2 (.slice q.2.2.1 q.1.length q.2.2.2.1) q.2.2.2.2 (da q.1)/\0<q.2.1.length/\q.2.1.length+q.1.length<=12000/\nZ (u+1) S=(nZ (u+1)<|q.2.1.drop 1).map λp=>(q.1++p.1,p.2)) (λq=>q.2.1.length) (([],40::S,none,0,none)) (⟨rfl,rfl,rfl,rfl⟩) (⟨b,c,j,Gr.nil (by intro x z;simp at z;rcases z with rfl|rfl|z;omega;omega;have:=hL x z;omega) om,sm,by simp at hs⊢;omega,sm⟩) λo w3 _ P=>?_;obtain⟨m,sc,a,_,g⟩:=o;dsimp only at P⊢;obtain⟨b,c,j,n,_,_,uI⟩:=P;have fR:=b.size;have NO:=c.lt;have awR:=j.lt;refine vw<|zr<|zm<|Dw (l:=1) ji rfl rfl rfl (.inr ⟨_,rfl⟩) (.inl ⟨rfl,rfl⟩) om om<|zm<|oJ rfl rfl rfl rfl rfl (show IntKind.i64.wrap ((60:Int)-((u+1:Nat):Int)+1)=(60:Int)-(u:Int) by rw[wrap_i64 _ om om];omega) ?_;rw[OU];refine aA (ih u om (sc.drop 1) (g.toList++(w.heap.size::K.heap.size::L)) w3 om so n.all) ?_;rintro _ w4 ⟨lu,M⟩;have fP:=M.size;refine gO M b c j n λb c j n=>?_;obtain⟨t,_,r,ok,rfl,y,hm⟩:=lu;obtain⟨_,_,_,rfl,eA,_⟩:=cW y;subst eA;refine W ?_;refine dj bV rfl rfl rfl λ_ E dm iY=>?_;have b:=b.grow;have b:=b.ext E;have c:=c.grow;have c:=c.ext E;have j:=j.grow;have j:=j.ext E;have n:=n.alloc E iY;have y:=y.grow;have y:=y.ext E;refine cF bV rfl rfl rfl dm rfl λ_ F dm _=>?_;have b:=b.aB F sx;have c:=c.aB F sx;have j:=j.aB F sx;have n:=n.aB F sx;have y:=y.aB F sx;refine W ?_;apply oP 3 50 53 rfl oQ;intro _;exact oQ;intro xx;refine WZ ?_;apply oP 9 54 63 rfl oQ;intro h6;simp at h6;have I:=List.length_pos_iff.2 h6.2;refine zm<|kJ (i:=0) ji rfl rfl rfl rfl (jP I)<|WZ ?_;apply oB 4 58 62 rfl oQ;intro _;refine zm<|kJ (i:=0) ji rfl rfl rfl rfl (jP I) ?_;exact oQ;intro xx;exact oQ;intro xx;refine bf<|zc rfl (λh8=>?_) λh8=>?_;have hR:eZ (u+1) (40::S)=none:=by rw[FQ,uI,adR hm h8];rfl
 refine zr<|jE (O7 _) rfl rfl<|cF bV rfl rfl rfl c rfl λw7 Y c nG=>?_;have b:=b.aB Y sx;refine W ?_;exact⟨[_,_,_],⟨gh iL bV rfl c rfl,rfl,rfl⟩,⟨.mk [] [],_,[],_,rfl,jB ld,.inr ⟨hR,rfl⟩⟩,b⟩;obtain⟨pX,I,fJ⟩:=adS hm h8;refine W ?_;refine fW ic bV rfl rfl λw7 Y X nG=>kT Y b c j n y λb c j n y=>?_;refine FT ic bV rfl rfl rfl rfl rfl rfl n X y.Ol om λD C g2 _ B O=>?_;have cH:=O.size;have b:=n.since b O;have c:=c.aB O<|n.wS sm;have j:=j.aB O<|n.wS sm;refine zf vL rfl<|ir F6 rfl rfl rfl j rfl λ_ U j _=>?_;have b:=b.aB U sx;have c:=c.aB U sx;have B:=B.aB U sx;refine W ?_;refine kJ (i:=0) ji rfl rfl rfl rfl (jP pX)<|xZ rfl rfl rfl rfl rfl<|bf<|zc rfl (λh9=>?_) λh9=>?_;have T:r.getD 0 0=41:=UInt8.toNat_inj.1 (by have yu:(41:UInt8).toNat=41:=rfl;rw[yu];omega);have hR:eZ (u+1) (40::S)=some (.mk [] (m++[t]),r.drop 1):=by rw[FQ,uI,fJ,iP T];rfl
 refine WZ ?_;have f:=(Dy w.heap.size ([str [],.slice D (m++[t]).length C]) 61);apply oS dh f 6 [75,76,77,100003,5,6] [75,76,77,100003,5,6] [[],[],[1],[0],[2],[]] [.v _,.v _,.v _,.p λ_ ww=>aK ww w.heap.size ([str [],.slice D (m++[t]).length C]).toArray 61,.v<|str ((r.drop 1).take<|r.length-1),.v (.bool true)] de (by exact(bJ<|bJ (bJ<|Dz (bJ<|bJ trivial))));intro wd aC;refine ga f aC (λx db H=>?_) ?_;have j:=j.aB H.1 sx;refine WZ ?_;exact bR f;refine cI (λ_ _ _=>WZ<|bR f) ?_;refine cI (λ_ _ _=>Dw (l:=1) ji rfl rfl rfl (.inr ⟨_,rfl⟩) (.inl ⟨rfl,rfl⟩) om om<|bR f) ?_;refine eH ?_ ?_;intro x J db e H Q A;have d0:J 0=(.agg #[str [],.slice D (m++[t]).length C]):=Q;replace H:=f.trans aC H;obtain⟨us,rU,uQ⟩:=H.2.2 ⟨_,(by rfl),c⟩;replace A:e=aY (aX _ x _) [(75,J 0)]:=A;rw[d0] at A;subst A;refine cF bV rfl rfl rfl uQ (by rw[rU];rfl) λ_ dk hb _=>W ?_;exact dn ⟨dk,λ_=>hb,λ_=>⟨_,rfl,hb⟩⟩ hb;refine cI (λ_ _ _=>WZ<|bR f) ?_;refine cI (λ_ _ _=>WZ<|bR f) ?_;exact trivial;intro x jY ey;intro v3 d3;replace d3:aK jY w.heap.size ([str [],.slice D (m++[t]).length C]).toArray 61:=d3;have b:=b.aB ey.1 sx;have B:=B.aB ey.1 sx;have c:=d3;change OW _ _ _ _ [] (aY (aX _ x _)<|zZ 75 [_,_,_]++[(100003,v3),(5,_),(6,_)]) _;refine W ?_;exact⟨[_,_,_],⟨gh iL bV rfl c rfl,rfl,rfl⟩,⟨.mk [] (m++[t]),_,r.drop 1,_,by rw[OU];rfl,jB<|B.trees.dY λx z=>by simp[z],.inl ⟨hR,rfl⟩⟩,b⟩;have T:r.getD 0 0≠41:=λh=>h9 (by rw[h];rfl);refine WZ ?_;exact⟨(m++[t],r,D,C,g2),⟨rfl,rfl,rfl,rfl⟩,⟨b,c,j,B.dY λx z=>mK _ z,pX,by simp at I⊢;omega,by rw[uI,fJ,iN T,map_append]⟩,by simp at I;dsimp only;omega⟩
theorem arx {s:ak} (h:12000<s.length):bP s=none:=by unfold bP;rw[iP h]
def ary (L:List Nat) (s:ak) (v:Value) (w:World):Prop:=∃t b,v= .tuple #[b,.bool (bP s).isSome]/\aV L w b t/\∀a,bP s=some a->t=a
theorem SN (s:ak) (L:List Nat) (w:World) (y:∀x∈L,x<w.heap.size):bD Tryz.prog 44 [str s] w λr w'=>ary L s r w'/\aj [] w w':=by
 have a:=aj.refl [] w;refine kM [.cell 2 61,.tmp 3] 23 Tryz.func44 rfl agi rfl rfl rfl ?_;refine zr<|dj bV rfl rfl rfl λo p b _=>?_;have a:=a.grow;have a:=a.ext p;refine W ?_;refine zc rfl (λv=>?_) λv=>?_;have n:=arx (s:=s) om;refine zr<|jE (O7 _) rfl rfl<|cF bV rfl rfl rfl b rfl λC f b _=>?_;have a:=a.aB f sx;refine W ?_;exact⟨[_,_],⟨gh iL bV rfl b rfl,rfl⟩,⟨.mk [] [],_,by rw[n];rfl,jB ld,by rw[n];intro _ h;cases h⟩,a⟩;have d:s.length<=12000:=by omega
 have j:∀x∈w.heap.size::L,x<o.heap.size:=by intro x e;rcases mC.1 e with rfl|e;omega;have:=y x e;omega
 refine iD<|zr<|zm<|aA (arv 60 s (w.heap.size::L) o om d j) ?_;rintro _ C ⟨u,f⟩;have D:=f.size;refine bQ f a b λa b=>?_;obtain⟨t,_,r,ok,rfl,c,z⟩:=u;obtain⟨_,_,_,rfl,q,_⟩:=cW c;subst q;refine W ?_;refine dj bV rfl rfl rfl λ_ g l _=>?_;have a:=a.grow;have a:=a.ext g;have b:=b.grow;have b:=b.ext g;have c:=c.grow;have c:=c.ext g;refine cF bV rfl rfl rfl l rfl λ_ i l _=>?_;have a:=a.aB i sx;have b:=b.aB i sx;have c:=c.aB i sx;refine W ?_;apply oB 3 19 22 rfl oQ;intro _;exact oQ;intro _;refine cF bV rfl rfl rfl b rfl λ_ m b _=>?_;have a:=a.aB m sx;have c:=c.aB m sx;refine W ?_;obtain⟨A,B⟩:=adT d z;exact⟨[_,_],⟨gh iL bV rfl b rfl,rfl⟩,⟨t,_,by rw[<-A];rfl,c.dY λx e=>by simp[e],B⟩,a⟩
def arA (L:List Nat) (s:ak) (v:Value) (w:World):Prop:=∃t b,v= .tuple #[b,.bool (uh s)]/\aV L w b t/\∀a,bP s=some a->t=a
theorem arB (s:ak) (L:List Nat) (w:World) (O:∀x∈L,x<w.heap.size):bD Tryz.prog 98 [str s] w λr w'=>arA L s r w'/\aj [] w w':=by have i:=aj.refl [] w;refine kM [.cell 2 61,.tmp 3] 17 Tryz.func98 rfl agZ rfl rfl rfl ?_;refine zr<|dj bV rfl rfl rfl λT K l _=>?_;have i:=i.grow;have i:=i.ext K;refine W ?_;refine aA (SN s (w.heap.size::L) T (by intro x q;rcases mC.1 q with rfl|q;omega;have:=O x q;omega)) ?_;rintro _ _ ⟨N,E⟩;have X:=E.size;refine bQ E i l λi l=>?_;obtain⟨t,_,rfl,j,D⟩:=N;obtain⟨m,_,n,rfl,M,_⟩:=cW j;subst M;have F:=λh=>DO D h;refine W ?_;refine dj bV rfl rfl rfl λ_ z p _=>?_;have i:=i.grow;have i:=i.ext z;have l:=l.grow;have l:=l.ext z;have j:=j.grow;have j:=j.ext z;refine cF bV rfl rfl rfl p rfl λ_ A p _=>?_;have i:=i.aB A sx;have l:=l.aB A sx;have j:=j.aB A sx;refine W ?_;have g:=(Dy w.heap.size ([str t.au,.slice m t.ag.length n]) 61);apply oS dh g 8 (rA 11 6++[100006,3]) (rA 11 6++[100006,3]) [[],[],[1],[2],[2,3],[2,4],[0],[5]] [.v _,.v _,.v _,.p λv _=>((bP s).isSome)=true->v=(.agg #[str t.au,.slice m t.ag.length n]),.p λv _=>((bP s).isSome)=true->v=(.bool<|fX false t),.v (.bool<|(bP s).isSome&&fX false t),.p λ_ V=>aK V w.heap.size ([str t.au,.slice m t.ag.length n]).toArray 61,.v (.bool<|(bP s).isSome&&fX false t)] de (by exact(bJ<|bJ (bJ<|nk (nk<|bJ (Dz<|bJ trivial)))));intro _ aC;refine ga g aC (λx u d=>?_) ?_;have p:=p.aB d.1 sx;refine WZ ?_;exact bR g;refine cI (λ_ _ _=>WZ<|bR g) ?_;refine cI (λ_ _ _=>WZ<|bR g) ?_;refine eH ?_ ?_;intro x b u e d o a;have d2:b 2=(.bool<|(bP s).isSome):=o;replace d:=g.trans aC d;have p:=p.aB d.1 sx;rcases bE ((bP s).isSome) with c|c;rw[c] at d2;replace a:e=aY (aX _ x _) [(13,b 2)]:=a;rw[d2] at a;subst a;refine W ?_;exact dn (g.refl _)<|show((bP s).isSome)=true->_=((.agg #[str t.au,.slice m t.ag.length n]):Value) from λ_=>rfl;rw[c] at d2;replace a:e=aY (aX _ x _) [(13,b 2)]:=a;rw[d2] at a;subst a;refine W ?_;exact dn (g.refl _) (show((bP s).isSome)=true->_=(_:Value) from λC=>nomatch c.symm.trans C);refine eH ?_ ?_;intro x b u e d o a;have B:(b 2=(.bool<|(bP s).isSome))/\(((bP s).isSome)=true->b 3=(.agg #[str t.au,.slice m t.ag.length n])):=o;obtain⟨d2,d3⟩:=B;replace d:=g.trans aC d;have j:=j.aB d.1 sx;rcases bE ((bP s).isSome) with c|c;rw[c] at d2;replace d3:=d3 c;replace a:e=aY (aX _ x _) [(13,b 2),(14,b 3)]:=a;rw[d2,d3] at a;subst a;refine aA (SK t.size t (lR _) (by have:=(F c).2;omega) (F c).1 false _ _ u j) ?_;rintro _ U ⟨rfl,y⟩;have Y:=y.size;refine W ?_;exact dn (g.of y)<|show((bP s).isSome)=true->_=((.bool<|fX false t):Value) from λ_=>rfl;rw[c] at d2;replace a:e=aY (aX _ x _) [(13,b 2),(14,b 3)]:=a;rw[d2] at a;subst a;refine W ?_;exact dn (g.refl _) (show((bP s).isSome)=true->_=(_:Value) from λC=>nomatch c.symm.trans C);refine eH ?_ ?_;intro x b u e d o a;have B:(b 2=(.bool<|(bP s).isSome))/\(((bP s).isSome)=true->b 4=(.bool<|fX false t)):=o;obtain⟨d2,d4⟩:=B;replace d:=g.trans aC d;rcases bE ((bP s).isSome) with c|c;rw[c] at d2;replace d4:=d4 c;replace a:e=aY (aX _ x _) [(13,b 2),(15,b 4)]:=a;rw[d2,d4] at a;subst a;refine W ?_;exact dn (g.refl _) (by first|rfl|(rw[c];rfl));rw[c] at d2;replace a:e=aY (aX _ x _) [(13,b 2),(15,b 4)]:=a;rw[d2] at a;subst a;refine W ?_;exact dn (g.refl _) (by first|rfl|(rw[c];rfl));refine eH ?_ ?_;intro x b u e d o a;have d0:b 0=(.agg #[str t.au,.slice m t.ag.length n]):=o;replace d:=g.trans aC d;obtain⟨_,Q,R⟩:=d.2.2 ⟨_,(by rfl),l⟩;replace a:e=aY (aX _ x _) [(11,b 0)]:=a;rw[d0] at a;subst a;refine cF bV rfl rfl rfl R (by rw[Q];rfl) λU y hb _=>W ?_;exact dn ⟨y,λ_=>hb,λ_=>⟨_,rfl,hb⟩⟩ hb;refine cI (λ_ _ _=>WZ<|bR g) ?_;exact trivial;intro x P H;intro I d3;intro J d4;intro S d6;replace d3:((bP s).isSome)=true->I=(.agg #[str t.au,.slice m t.ag.length n]):=d3;replace d4:((bP s).isSome)=true->J=(.bool<|fX false t):=d4;replace d6:aK P w.heap.size ([str t.au,.slice m t.ag.length n]).toArray 61:=d6;have i:=i.aB H.1 sx;have j:=j.aB H.1 sx;have l:=d6;change OW _ _ _ _ [] (aY (aX _ x _)<|zZ 11 [_,_,_,I,J,_]++[(100006,S),(3,_)]) _;refine W ?_;exact⟨[_,_],⟨gh iL bV rfl l rfl,rfl⟩,⟨t,_,by rw[KP (f:=fX false) D];rfl,j.dY λx q=>by simp[q],D⟩,i⟩
def aa8 (L:List Nat) (b:Bk) (v:Value) (w:World):Prop:=∃c a,v= .tuple #[a,.bool (pr b)]/\o3 L w a c/\(pr b=true->c=dP b)
theorem SO {b:Bk} (h:pr b=false):aa8 L b (.tuple #[.agg #[str [],.slice none 0 0,.slice none 0 0],.bool false]) w:=
 ⟨⟨[],[],[]⟩,_,by rw[h],PX ld ld,by rw[h];intro h;cases h⟩
theorem arC (k:Bk) (hl:k.aL.length<1000000000) (fB:k.ck.length<1000000000) (fu:k.code.length<1000000000) (v:Value) (Li L:List Nat) (w:World) (hv:pq Li w v k) (hL:∀x∈L,x<w.heap.size):
  bD Tryz.prog 63 [v] w λr w'=>aa8 L k r w'/\aj [] w w':=by
 obtain⟨a1,n1,c1,a2,T,c2,rfl,oo,kK,cH,dA⟩:=BA hv;have c:=aj.refl [] w;refine kM [.cell 2 80,.tmp 3] 102 Tryz.func63 rfl agy rfl rfl rfl ?_;refine zr<|eK rfl λC aI e _=>?_;have c:=c.ext aI;refine dj od rfl rfl rfl λD V d _=>?_;have c:=c.grow;have c:=c.ext V;have e:=e.grow;have e:=e.ext V;refine W ?_;refine aA (aaX _ om _) ?_;rintro _ _ ⟨rfl,rfl⟩;refine WZ ?_;apply oP 5 17 22 rfl oQ;intro _;refine WZ ?_;exact oQ;intro xx;refine WZ ?_;apply oP 5 23 28 rfl oQ;intro _;refine WZ ?_;exact oQ;intro xx;refine WZ ?_;apply oP 6 29 35 rfl oQ;intro _;refine W ?_;refine aA (NM _ _ _ _) ?_;rintro _ _ ⟨rfl,rfl⟩;exact oQ;intro xx;refine bf<|zc rfl (λh4=>?_) λh4=>?_;have I:=adU oo kK h4;refine zr<|jE (O8 _) rfl rfl<|cF od rfl rfl rfl d rfl λw3 N d gj=>?_;have c:=c.aB N sx;refine W ?_;exact⟨[_,_],⟨gh Im od rfl d rfl,rfl⟩,SO I,c⟩;obtain⟨rG,oZ⟩:=adV oo kK h4;have o4:k.ck.length<=40/\k.code.length<=80:=by simp only[aE,dE] at rG;exact⟨rG.1.2,rG.2.2⟩
 refine W ?_;refine jE (ag8 _ _) rfl rfl<|dj od rfl rfl rfl λw3 N f gj=>?_;have c:=c.grow;have c:=c.ext N;have e:=e.grow;have e:=e.ext N;have d:=d.grow;have d:=d.ext N;refine cF od rfl rfl rfl f rfl λ_ aJ f _=>?_;have c:=c.aB aJ sx;have e:=e.aB aJ sx;have d:=d.aB aJ sx;refine W ?_;refine eW (λq:Nat×Option Addr×Nat×Option Nat=>[(1,.pointer<|some ⟨w.heap.size,0,none⟩),(2,.pointer<|some ⟨C.heap.size,0,none⟩),(4,.pointer<|some ⟨D.heap.size,0,none⟩),(41,.slice a1 n1 c1),(42,.int .i64 (n1:Int)),(43,.int .i64 (q.1:Int))]) (λq w'=>aj [] w w'/\aK w' w.heap.size [str k.aL,.slice a1 n1 c1,.slice a2 T c2].toArray 39/\aK w' C.heap.size [str [],.slice none 0 0,.slice none 0 0].toArray 80/\aK w' D.heap.size [str k.aL,.slice q.2.1 ((k.ck.take q.1).map tr).length q.2.2.1,.slice none 0 0].toArray 80/\Gr C.heap.size (C.heap.size::D.heap.size::L) w' 61 2 (.slice q.2.1 ((k.ck.take q.1).map tr).length q.2.2.1) q.2.2.2 (da<|(k.ck.take q.1).map tr)/\q.1<=k.ck.length/\∀i,i<q.1->uh (cO k.ck i)=true) (λq=>k.ck.length-q.1) ((0,none,0,none)) (⟨rfl,rfl,rfl,rfl,rfl,rfl⟩) (⟨c,e,d,f,Gr.nil (by intro x s;simp at s;rcases s with rfl|rfl|s;omega;omega;have:=hL x s;omega) om,sm,by intro i Y;simp at Y⟩) λgg w5 _ R=>?_;obtain⟨i,a,cc,g⟩:=gg;dsimp only at R⊢;obtain⟨c,e,d,f,m,hk,J⟩:=R;have fR:=c.size;have Yi:=e.lt;have QL:=d.lt;have NO:=f.lt;refine W ?_;refine zc rfl (λh5=>?_) λh5=>?_;have P:=lP (xs:=k.ck) (i:=i) om;obtain⟨b,off,rfl,hc⟩:=qJ (cH.ext c) P;refine W ?_;refine aA (arB (cO k.ck i) (g.toList++(C.heap.size::D.heap.size::L)) w5 m.all) ?_;rintro _ w6 ⟨EP,bM⟩;have ln:=bM.size;refine kT bM c e d f m λc e d f m=>?_;obtain⟨t,tv,rfl,n,K⟩:=EP;obtain⟨pa,pn,pc,rfl,eA,aR⟩:=cW n;subst eA;refine W ?_;refine dj bV rfl rfl rfl λw7 z cX nG=>?_;have c:=c.grow;have c:=c.ext z;have e:=e.grow;have e:=e.ext z;have d:=d.grow;have d:=d.ext z;have f:=f.grow;have f:=f.ext z;have m:=m.alloc z nG;have n:=n.grow;have n:=n.ext z;refine cF bV rfl rfl rfl cX rfl λw8 y cX l3=>?_;have c:=c.aB y sx;have e:=e.aB y sx;have d:=d.aB y sx;have f:=f.aB y sx;have m:=m.aB y sx;have n:=n.aB y sx;refine W ?_;refine zc rfl (λh6=>?_) λh6=>?_;have I:=adW (b:=k) (i:=i) om (by simpa using h6);refine zr<|jE (O8 _) rfl rfl<|cF od rfl rfl rfl d rfl λw9 B d dB=>?_;have c:=c.aB B sx;refine W ?_;exact⟨[_,_],⟨gh Im od rfl d rfl,rfl⟩,SO I,c⟩;have S:uh (cO k.ck i)=true:=by simpa using h6
 refine W ?_;refine fW ic bV rfl rfl λw9 B SB dB=>uH B c e d f m n λc e d f m n=>?_;refine FT ic bV rfl rfl rfl rfl rfl rfl m SB n.Ol (by rw[BR _ hk];omega) λa3 Kk g3 u E p=>?_;have aa9:=p.size;have c:=aj.DI om m.low c p;have e:=e.aB p<|m.KM om;have d:=d.aB p<|m.wS sm;have f:=f.aB p<|m.wS sm;rw[adY S K,DM tr P] at E⊢;refine zf U7 rfl<|ir F6 rfl rfl rfl f rfl λfb A f _=>?_;have c:=c.aB A sx;have e:=e.aB A sx;have d:=d.aB A sx;have E:=E.aB A sx;refine W ?_;exact⟨(i+1,a3,Kk,g3),⟨rfl,rfl,rfl,rfl,rfl,rfl⟩,⟨c,e,d,f,E.dY λx s=>mK _ s,by dsimp only;omega,by intro j Z;rcases Nat.lt_or_ge j i with h|h;exact J j h;rw[show j=i by dsimp only at Z;omega];exact S⟩,by dsimp only;omega⟩;have PW:∀j,j<k.ck.length->uh (cO k.ck j)=true:=λj Z=>J j om;rw[DN tr om] at f m;have Rl:=m.trees;have o:=aj.refl [C.heap.size,D.heap.size] w5;clear J m;refine W ?_;refine eW (λq:Nat×Option Addr×Nat×Option Nat=>[(1,.pointer<|some ⟨w.heap.size,0,none⟩),(2,.pointer<|some ⟨C.heap.size,0,none⟩),(4,.pointer<|some ⟨D.heap.size,0,none⟩),(63,.slice a2 T c2),(64,.int .i64 (T:Int)),(65,.int .i64 (q.1:Int))]) (λq w'=>aj [] w w'/\aj [C.heap.size,D.heap.size] w5 w'/\aK w' w.heap.size [str k.aL,.slice a1 n1 c1,.slice a2 T c2].toArray 39/\aK w' C.heap.size [str [],.slice none 0 0,.slice none 0 0].toArray 80/\aK w' D.heap.size [str k.aL,.slice a (k.ck.map tr).length cc,.slice q.2.1 ((k.code.take q.1).map tr).length q.2.2.1].toArray 80/\Gr w5.heap.size (C.heap.size::D.heap.size::L) w' 61 2 (.slice q.2.1 ((k.code.take q.1).map tr).length q.2.2.1) q.2.2.2 (da<|(k.code.take q.1).map tr)/\q.1<=k.code.length/\∀i,i<q.1->s5 k.code i=true) (λq=>k.code.length-q.1) ((0,none,0,none)) (⟨rfl,rfl,rfl,rfl,rfl,rfl⟩) (⟨c,o,e,d,f,Gr.nil (by intro x s;simp at s;rcases s with rfl|rfl|s;omega;omega;have:=hL x s;omega) om,sm,by intro i Y;simp at Y⟩) λgg w6 _ R=>?_;obtain⟨j,_,_,g⟩:=gg;dsimp only at R⊢;obtain⟨c,o,e,d,f,m,V,J⟩:=R;have fR:=c.size;have aba:=o.size;have Yi:=e.lt;have QL:=d.lt;have NO:=f.lt;refine W ?_;refine zc rfl (λh7=>?_) λh7=>?_;have P:=lP (xs:=k.code) (i:=j) om;obtain⟨b,off,rfl,hc⟩:=qJ (dA.ext c) P;refine W ?_;refine aA (SN (cO k.code j) (g.toList++(C.heap.size::D.heap.size::L)) w6 m.all) ?_;rintro _ w7 ⟨AG,z⟩;have mr:=z.size;refine uH z c o e d f m λc o e d f m=>?_;obtain⟨t,tv,rfl,n,K⟩:=AG;obtain⟨pa,pn,pc,rfl,eA,aR⟩:=cW n;subst eA;have O:=λh=>DO K h;refine W ?_;refine dj bV rfl rfl rfl λw8 y X l3=>?_;have c:=c.grow;have c:=c.ext y;have o:=o.grow;have o:=o.ext y;have e:=e.grow;have e:=e.ext y;have d:=d.grow;have d:=d.ext y;have f:=f.grow;have f:=f.ext y;have m:=m.alloc y l3;have n:=n.grow;have n:=n.ext y;refine cF bV rfl rfl rfl X rfl λw9 B X dB=>?_;have c:=c.aB B sx;have o:=o.aB B sx;have e:=e.aB B sx;have d:=d.aB B sx;have f:=f.aB B sx;have m:=m.aB B sx;have n:=n.aB B sx;refine W ?_;refine DQ [75,76,77,78,79,80,81,82,83,84,85,86,87,88,89,90,91,92] [(92,.bool ((!(bP<|cO k.code j).isSome||!nz t)||(Ib t !=decide ((j:Int)=(T:Int)-1))))] ?_ ?_;rcases bE (!(bP (cO k.code j)).isSome) with ia|ia;apply km dh 18 (rA 75 18) (rA 75 18) [[],[0],[1],[2],[2,3],[2,4],[2,5],[6],[7],[7,8],[7],[7],[7,11],[7,12],[7,13],[7,10,14],[7,9,15],[7,16]] [It.v _,It.v _,It.v (.bool true),It.v _,It.v _,It.v _,It.v _,It.v (.bool true),It.v _,It.v _,It.v _,It.v _,It.v _,It.v _,It.v _,It.v _,It.v _,It.v _] de rfl;intro wd aC;refine VA ?_;refine vc (λx u p=>?_) ?_;refine WZ ?_;exact pv (by exact congrArg Value.bool ia);refine vk aC (λx u p=>?_) ?_;exact cS pv;refine vk aC (λx u p=>?_) ?_;exact cS pv;refine vc (λx u p=>?_) ?_;exact cS pv;refine vc (λ_ _ _=>WZ pv) ?_;refine vc (λx u p=>?_) ?_;refine WZ ?_;exact pv (by rfl);exact VZ;intro x jY H;change OW _ _ _ _ [] (aY (aX _ x _) (zZ 75 [_,_,_,_,_,_,_,_,_,_,_,_,_,_,_,_,_,_])) _;refine W ?_;exact kE H;rcases bE (!(bP (cO k.code j)).isSome||!nz t) with j5|j5;apply km dh 18 (rA 75 18) (rA 75 18) [[],[0],[1],[2],[2,3],[2,4],[2,5],[6],[7],[7,8],[7],[7],[7,11],[7,12],[7,13],[7,10,14],[7,9,15],[7,16]] [It.v _,It.v _,It.v (.bool false),It.v _,It.v _,It.v _,It.v _,It.v (.bool true),It.v _,It.v _,It.v _,It.v _,It.v _,It.v _,It.v _,It.v _,It.v _,It.v _] de rfl;intro wd aC;refine VA ?_;refine vc (λx u p=>?_) ?_;refine WZ ?_;exact pv (by exact congrArg Value.bool ia);refine VA ?_;refine vk aC (λx u p=>?_) ?_;have n:=n.ext p;have F:=ia;refine aA (aa5 t (O<|by simpa using F).2 (O<|by simpa using F).1 _ _ u n) ?_;rintro _ fb ⟨rfl,A⟩;have Dd:=A.size;exact pk A;refine VA ?_;refine vc (λx u p=>?_) ?_;refine WZ ?_;exact pv (by first|exact congrArg Value.bool j5|(rw[ia] at j5;exact congrArg Value.bool j5));exact VZ;intro x jY H;change OW _ _ _ _ [] (aY (aX _ x _) (zZ 75 [_,_,_,_,_,_,_,_,_,_,_,_,_,_,_,_,_,_])) _;refine W ?_;exact kE H;apply km dh 18 (rA 75 18) (rA 75 18) [[],[0],[1],[2],[2,3],[2,4],[2,5],[6],[7],[7,8],[7],[7],[7,11],[7,12],[7,13],[7,10,14],[7,9,15],[7,16]] [It.v _,It.v _,It.v (.bool false),It.v _,It.v _,It.v _,It.v _,It.v (.bool false),It.v _,It.v _,It.v _,It.v _,It.v _,It.v _,It.v _,It.v _,It.v _,It.v _] de rfl;intro wd aC;refine VA ?_;refine vc (λx u p=>?_) ?_;refine WZ ?_;exact pv (by exact congrArg Value.bool ia);refine VA ?_;refine vk aC (λx u p=>?_) ?_;have n:=n.ext p;have F:=ia;refine aA (aa5 t (O<|by simpa using F).2 (O<|by simpa using F).1 _ _ u n) ?_;rintro _ fb ⟨rfl,A⟩;have Dd:=A.size;exact pk A;refine VA ?_;refine vc (λx u p=>?_) ?_;refine WZ ?_;exact pv (by first|exact congrArg Value.bool j5|(rw[ia] at j5;exact congrArg Value.bool j5));refine VA ?_;refine vk aC (λx u p=>?_) ?_;have n:=n.ext p;have F:=j5;refine aA (art t (O (by rw[Bool.or_eq_false_iff] at F;simpa using F.1)).1 _ _ u n) ?_;rintro _ fb ⟨rfl,A⟩;have Dd:=A.size;exact pk A;exact VZ;intro x jY H;change OW _ _ _ _ [] (aY (aX _ x _) (zZ 75 [_,_,_,_,_,_,_,_,_,_,_,_,_,_,_,_,_,_])) _;refine W ?_;exact kE H;intro x jY H;refine D9 H c o e d f m n X λc o e d f m n X=>?_;refine zc rfl (λQ=>?_) λQ=>?_;rw[UC kK om K] at Q;have I:=adX (b:=k) (i:=j) om (by simpa using Q);refine zr<|jE (O8 _) rfl rfl<|cF od rfl rfl rfl d rfl λil eF d arD=>?_;have c:=c.aB eF sx;refine W ?_;exact⟨[_,_],⟨gh Im od rfl d rfl,rfl⟩,SO I,c⟩;rw[UC kK om K] at Q;have S:s5 k.code j=true:=by simpa using Q
 refine W ?_;refine fW ic bV rfl rfl λil eF JY arD=>Gn eF c o e d f m n λc o e d f m n=>?_;refine FT ic bV rfl rfl rfl rfl rfl rfl m JY n.Ol (by rw[BR _ V];omega) λa3 Kk g3 _ E M=>?_;have aa9:=M.size;have c:=aj.DI om m.low c M;have o:=m.since o M;have e:=e.aB M<|m.KM om;have d:=d.aB M<|m.wS sm;have f:=f.aB M<|m.wS sm;rw[adZ S K,DM tr P] at E⊢;refine zf U8 rfl<|ir F6 rfl rfl rfl f rfl λ_ U f _=>?_;have c:=c.aB U sx;have o:=o.aB U sx;have e:=e.aB U sx;have d:=d.aB U sx;have E:=E.aB U sx;refine W ?_;exact⟨(j+1,a3,Kk,g3),⟨rfl,rfl,rfl,rfl,rfl,rfl⟩,⟨c,o,e,d,f,E.dY λx s=>mK _ s,by dsimp only;omega,by intro i2 Z;rcases Nat.lt_or_ge i2 j with h|h;exact J i2 h;rw[show i2=j by dsimp only at Z;omega];exact S⟩,by dsimp only;omega⟩;have I:=Uf rG PW λi Y=>J i om;have hqI:pr k=true:=by unfold pr;rw[I,oZ];rfl
 rw[DN tr om] at f m;refine W ?_;refine cF od rfl rfl rfl d rfl λw7 z d nG=>?_;have c:=c.aB z sx;have o:=o.aB z sx;have m:=m.aB z sx;refine W ?_;exact⟨[_,_],⟨gh Im od rfl d rfl,rfl⟩,⟨dP k,_,by rw[hqI];rfl,PX (l:=k.aL) ((Rl.aB o sm).dY λx s=>by simp[s])<|m.trees.dY λx s=>by simp[s],λ_=>rfl⟩,c⟩
theorem arF (k:dM) (l:ak) (c:Nat) (v:Value) (L:List Nat) (w:World) (e:o3 L w v k) (b:aK w c [str l].toArray 9):
  bD Tryz.prog 71 [v,.pointer (some ⟨c,0,none⟩)] w λr w'=>r= .bool (decide<|k.aL=l)/\aj [] w w':=by
 obtain⟨_,c1,_,c2,rfl,_,_⟩:=Wt e;have a:=aj.refl [] w;refine cu [.tmp 3] 8 Tryz.func71 rfl agC rfl rfl ?_;refine zr<|eK rfl λ_ d _ _=>bQ d a b λa b=>?_;refine W ?_;exact⟨_,rfl,rfl,a⟩
theorem arG (ps:List dM) (t:ps.length<1000000000) (g:dM->Bool) (f:FuncId) (d:List Value) (v:Value) (L:List Nat) (w:World) (l:j9 L w v ps) 
  (A:∀i,i<ps.length->∀(u:Value) (w':World),aj [] w w'->o3 L w' u (dU ps i)->bD Tryz.prog f (u::d) w' λr p=>r= .bool (g<|dU ps i)/\aj [] w' p):
  bD Tryz.prog 70 [v,.func (.func f) #[] d.toArray] w λr w'=>r= .int .i64 (Ih ps g)/\aj [] w w':=by
 obtain⟨a,c,rfl⟩:=Gq l;have e:=aj.refl [] w;refine cu [.tmp 4] 19 Tryz.func70 rfl agB rfl rfl ?_;refine W ?_;refine eW (λk:Nat=>[(0,.slice a ps.length c),(1,.func (.func f) #[] d.toArray),(7,.int .i64 (ps.length:Int)),(8,.int .i64 (k:Int))]) (λk w'=>aj [] w w'/\k<=ps.length/\∀i,i<k->g (dU ps i)=false) (λk=>ps.length-k) (0) (⟨rfl,rfl,rfl,rfl⟩) (⟨e,om,by intro i s;omega⟩) λj E _ z=>?_;obtain⟨e,hk,m⟩:=z;have l:=l.ext e;refine W ?_;refine zc rfl (λy=>?_) λy=>?_;have B:=DP (ps:=ps) (i:=j) om;obtain⟨b,_,_,c1,_,c2,rfl,_,C,D⟩:=Gs l B;refine W ?_;refine Ok rfl rfl rfl (A j om _ E e<|PX C D) ?_;rintro _ _ ⟨rfl,q⟩;have F:=q.size;have e:=e.ext q;refine bf<|zc rfl (λn=>?_) λn=>?_;have o:=ad0 om m n;refine W ?_;exact⟨_,rfl,by rw[o];rfl,e⟩;refine W ?_;exact⟨j+1,⟨rfl,rfl,rfl,rfl⟩,⟨e,om,by intro i s;rcases Nat.lt_or_ge i j with h|h;exact m i h;rw[show i=j by omega];exact n⟩,om⟩;have o:=ad1 λi s=>m i om;refine W ?_;exact⟨_,rfl,by rw[o];rfl,e⟩
theorem abb (d:List dM) (c:d.length<1000000000) (l:ak) (v:Value) (L:List Nat) (w:World) (e:j9 L w v d):
  bD Tryz.prog 37 [v,str l] w λr w'=>r= .int .i64 (yf d l)/\aj [] w w':=by
 have a:=aj.refl [] w;refine cu [.tmp 4] 8 Tryz.func37 rfl af9 rfl rfl ?_;refine zr<|N5 rfl rfl rfl λn g j _=>bQ g a e λa e=>?_;refine W ?_;refine TJ (vs:=[.pointer (some ⟨w.heap.size,0,none⟩)]) rfl rfl rfl<|aA (arG d c (λb=>decide<|b.aL=l) 71 [.pointer (some ⟨w.heap.size,0,none⟩)] _ L n e λi _ u w' k m=>arF (dU d i) l _ _ L _ m<|j.ext k) ?_;rintro _ _ ⟨rfl,f⟩;have o:=f.size;have a:=a.ext f;refine W ?_;exact⟨_,rfl,rfl,a⟩
def arH (L:List Nat) (bs:List Bk) (v:Value) (w:World):Prop:=∃ps pv,v= .tuple #[pv,.bool (lf bs)]/\j9 L w pv ps/\(lf bs=true->ps=bs.map dP)
theorem SP (bs:List Bk) (hb:uj bs) (v:Value) (Li L:List Nat) (w:World) (U:l0 Li w v bs) (hL:∀x∈L,x<w.heap.size):
  bD Tryz.prog 31 [v] w λr w'=>arH L bs r w'/\aj [] w w':=by
 obtain⟨a,n,c,rfl,_⟩:=BC U;have d:=aj.refl [] w;have jf:=hb.1;refine cu [.tmp 2,.tmp 3] 52 Tryz.func31 rfl af7 rfl rfl ?_;refine W ?_;refine aA (NM _ _ _ _) ?_;rintro _ _ ⟨rfl,rfl⟩;refine kj rfl rfl rfl<|bf<|zc rfl (λB=>?_) λB=>?_;have s:lf bs=false:=ad5 (λh=>by rw[dT (p:=(1:Int)<=(n:Int)) om,dT (p:=(n:Int)<=40) om] at B;exact absurd B de);refine W ?_;exact⟨_,rfl,⟨[],_,by rw[s];rfl,Wu,by rw[s];intro h;cases h⟩,d⟩;have t:1<=bs.length/\bs.length<=40:=by have:=B;simp only[aE,dE] at this;omega
 refine W ?_;refine eW (λq:Nat×Option Addr×Nat×Option Nat=>[(0,.slice a n c),(4,.slice q.2.1 ((bs.take q.1).map dP).length q.2.2.1),(13,.slice a n c),(14,.int .i64 (n:Int)),(15,.int .i64 (q.1:Int))]) (λq w'=>aj [] w w'/\Gr w.heap.size L w' 80 3 (.slice q.2.1 ((bs.take q.1).map dP).length q.2.2.1) q.2.2.2 (((bs.take q.1).map dP).map dM.enc)/\q.1<=bs.length/\∀i,i<q.1->pr (bX bs i)=true/\p4 bs (bX bs i).aL=i) (λq=>bs.length-q.1) ((0,none,0,none)) (⟨rfl,rfl,rfl,rfl,rfl⟩) (⟨d,Gr.nil hL om,sm,by intro i hi;simp at hi⟩) λgg w1 _ R=>?_;obtain⟨i,_,cc,g⟩:=gg;dsimp only at R⊢;obtain⟨d,e,hk,O⟩:=R;have fR:=d.size;refine W ?_;refine zc rfl (λh2=>?_) λh2=>?_;have Q:=s0 (bs:=bs) (i:=i) om;obtain⟨b,y,_,rn,_,_,_,_,rfl,H,_,_,cH,dA⟩:=zJ U Q;have J:=hb.2 i om;refine WL ?_;refine zL BT ix rfl (H.ext d) rfl<|dj ix rfl rfl rfl λz m N dS=>?_;have d:=d.grow;have d:=d.ext m;have e:=e.alloc m dS;refine cF ix rfl rfl rfl N rfl λw3 K N _=>?_;have d:=d.aB K sx;have e:=e.aB K sx;refine W ?_;refine aA (arC (bX bs i) J.1 J.2.1 J.2.2 _ _ (g.toList++(w1.heap.size::L)) w3 (pq.ext (BB cH dA) d) e.all) ?_;rintro _ _ ⟨lu,M⟩;have fP:=M.size;refine bQ M d e λd e=>?_;obtain⟨_,_,rfl,f,T⟩:=lu;obtain⟨_,_,_,_,rfl,_,_⟩:=Wt f;refine W ?_;refine dj od rfl rfl rfl λ_ D A iY=>?_;have d:=d.grow;have d:=d.ext D;have e:=e.alloc D iY;have f:=f.grow;have f:=f.ext D;refine cF od rfl rfl rfl A rfl λY F A _=>?_;have d:=d.aB F sx;have e:=e.aB F sx;have f:=f.aB F sx;refine W ?_;apply oO 6 26 32 (aj [] Y) rfl oQ;intro h3;have C:pr (bX bs i)=true:=by simpa using h3
 have NP:=T C;subst NP;refine W ?_;refine aA (abb ((bs.take i).map dP) (by rw[BR _ hk];omega) (bX bs i).aL _ L Y<|e.prog.dY λx l=>by simp[l]) ?_;rintro _ _ ⟨rfl,cC⟩;have mr:=cC.size;exact oQ;intro _ _ cg;refine gO cg d e f A λd e f A=>?_;refine bf<|zc rfl (λo=>?_) λo=>?_;have s:lf bs=false:=ad3 (i:=i) om (by simp only[oE,Bool.not_eq_true'] at o;rcases o with h|h;exact .inl h;rw[UD om] at h;exact .inr (of_decide_eq_true h));refine W ?_;exact⟨_,rfl,⟨[],_,by rw[s];rfl,Wu,by rw[s];intro h;cases h⟩,d⟩;have C:pr (bX bs i)=true/\p4 bs (bX bs i).aL=i:=by simp only[Bool.or_eq_false_iff,Bool.not_eq_false'] at o;rw[UD om] at o;exact⟨o.1,Classical.byContradiction<|of_decide_eq_false o.2⟩
 refine W ?_;refine fW F8 od rfl rfl λ_ aD E _=>cQ aD d e f λd e f=>?_;refine ai0 F8 od rfl rfl rfl rfl rfl rfl e E (f.dY (λx l=>by simp at l⊢;rcases l with h|h|h<;>simp[h])) (by rw[BR _ hk];omega) λa3 Z g3 _ V P=>?_;have aa9:=P.size;have d:=e.since d P;rw[T C.1,DM dP Q] at V⊢;refine W ?_;exact⟨(i+1,a3,Z,g3),⟨rfl,rfl,rfl,rfl,rfl⟩,⟨d,V.dY λx l=>by simp[l],by dsimp only;omega,by intro I S;rcases Nat.lt_or_ge I i with h|h;exact O I h;rw[show I=i by dsimp only at S;omega];exact C⟩,by dsimp only;omega⟩;have s:=ad4 λj S=>O j om;rw[DN dP om] at e⊢;obtain⟨b,y,_,_,_,_,rfl,H,cE,cM⟩:=Gs e.prog<|DP (ps:=bs.map dP) (i:=0) so;have e0:dU (bs.map dP) 0=dP (bX bs 0):=by simp[gE (show 0<bs.length by omega)]
 rw[e0] at H cE cM;refine W ?_;refine DQ [38,39,40,41,42,43,44,45,46,47,48,49,50,51,2,3] [(2,.slice (some ⟨b,y,none⟩) (bs.map dP).length cc),(3,.bool<|decide ((bX bs 0).aL=[109,97,105,110])&&decide (((dP<|bX bs 0).regs.length:Int)=0))] ?_ ?_;rcases bE (decide ((bX bs 0).aL=[109,97,105,110])) with ia|ia;apply km dh 16 (rA 38 14++[2,3]) (rA 38 14++[2,3]) [[],[],[1],[2],[3],[4],[5],[6],[6,7],[6,8],[6,9],[6,10],[6,11],[6,12],[0],[13]] [It.v _,It.v _,It.v _,It.v _,It.v _,It.v _,It.v<|.bool true,It.v _,It.v _,It.v _,It.v _,It.v _,It.v _,It.v _,It.v _,It.v _] de rfl;intro wd aC;refine VA ?_;refine vk aC (λx z m=>?_) ?_;refine zi (i:=0) F8 od rfl rfl so ?_;exact pv;refine VA ?_;refine vc (λx z m=>?_) ?_;refine zm ?_;exact pv (by exact congrArg Value.bool ia);refine VA ?_;refine vk aC (λx z m=>?_) ?_;refine zi (i:=0) F8 od rfl rfl so ?_;exact pv;exact VZ;intro x X u;change OW _ _ _ _ [] (aY (aX _ x _) (zZ 38 [_,_,_,_,_,_,_,_,_,_,_,_,_,_]++[(2,_),(3,_)])) _;refine W ?_;exact kE u;apply km dh 16 (rA 38 14++[2,3]) (rA 38 14++[2,3]) [[],[],[1],[2],[3],[4],[5],[6],[6,7],[6,8],[6,9],[6,10],[6,11],[6,12],[0],[13]] [It.v _,It.v _,It.v _,It.v _,It.v _,It.v _,It.v (.bool false),It.v _,It.v _,It.v _,It.v _,It.v _,It.v _,It.v _,It.v _,It.v _] de rfl;intro wd aC;refine VA ?_;refine vk aC (λx z m=>?_) ?_;refine zi (i:=0) F8 od rfl rfl so ?_;exact pv;refine VA ?_;refine vc (λx z m=>?_) ?_;refine zm ?_;exact pv (by exact congrArg Value.bool ia);exact VZ;intro x X u;change OW _ _ _ _ [] (aY (aX _ x _) (zZ 38 [_,_,_,_,_,_,_,_,_,_,_,_,_,_]++[(2,_),(3,_)])) _;refine W ?_;exact kE u;intro x X u;refine bQ u d e λd e=>?_;refine la<|⟨_,rfl,⟨bs.map dP,_,?_,e.prog.dY λx l=>by simp[l],λ_=>rfl⟩,d⟩;rw[s,dT t.1,dT t.2,show decide (((dP<|bX bs 0).regs.length:Int)=0)=decide ((bX bs 0).ck.length=0) from decide_eq_decide.2 (by have:(dP<|bX bs 0).regs.length=(bX bs 0).ck.length:=List.length_map _;omega)];rfl
theorem arJ (bs:List Bk) (hb:uj bs) (v:Value) (b:List Nat) (w:World) (e:l0 b w v bs):
  bD Tryz.prog 48 [v] w λr w'=>r= .bool (lf bs)/\aj [] w w':=by
 have a:=aj.refl [] w;refine cu [.tmp 2] 11 Tryz.func48 rfl agm rfl rfl ?_;refine W ?_;refine aA (SP bs hb _ b [] w e sm) ?_;rintro _ _ ⟨d,c⟩;have f:=c.size;have a:=a.ext c;obtain⟨ps,pv,rfl,_,_⟩:=d;refine W ?_;exact⟨_,rfl,rfl,a⟩
def Bd (B b:Nat) (l:ak) (w:World):Prop:=Lib.IsBuilderF 99 5 B b (Lib.byteCells l) w
theorem Bd.ext {l:ak} (h:Bd B b l w) (k:aj [] w w'):Bd B b l w':=by
 have cell:∀{i:Nat} {o:Obj},w.heap[i]?=some o->w'.heap[i]?=some o:=fun{i o} hi=>(k.block i (Array.getElem?_eq_some_iff.1 hi).1 sm).trans hi;have a:∀p,Lib.BuilderAtF 99 5 B b p (Lib.byteCells l) w->Lib.BuilderAtF 99 5 B b p (Lib.byteCells l) w':=by
  rintro p ⟨s,v,hb,e,f⟩;refine⟨s,v,cell hb,⟨e.1,?_⟩,f⟩;rcases e.2 with h|⟨g,c,d,j,m,n,q,r⟩
  .exact .inl h
  .exact .inr ⟨g,c,d,j,m,n,cell q,r⟩
 exact h.imp (a _)<|a _
structure qC (B b:Nat) (w w':World):Prop where
 below:RowKit.Below B w w'
 others:Lib.OthersKept 5 (some b) w w'
theorem qC.trans {a:World} (h:qC B b w w') (k:qC B b w' a):qC B b w a:=⟨h.below.trans k.below,h.others.trans k.others⟩
theorem qC.of {b:Nat} (h:aj [] w w') (a:B<=w.heap.size):qC B b w w':=
 ⟨h.below a sm,λk o hk _ _=>(h.block k (Array.getElem?_eq_some_iff.1 hk).1 sm).trans hk⟩
theorem qC.aG {a:World} (k:qC a.heap.size b w w') (h:aj [] a w):aj [] a w':=Fy h k.below
theorem aK.others {c:Nat} {a:Array Value} {T:TypeId} (h:aK w c a T) (k:qC B b w w') (e:c≠b) (d:T≠5):aK w' c a T:=
 k.others c _ h (by simpa using e) (by intro _ _ f;cases f;exact d rfl)
theorem arK (B b:Nat) (l s:ak) (w:World) (h:Bd B b l w) (a:l.length+s.length<=140737488355328) (f:B<=w.heap.size):
  bD Tryz.prog 105 [.pointer<|some ⟨b,0,none⟩,str s] w λ_ w'=>Bd B b (l++s) w'/\qC B b w w':=
 ⟨ru.mk' Tryz.func105 rfl UW,Calls.mono (Tryz.Builder_WriteString_k B b _ ⟨s.toArray⟩ w h (by rw[Lib.byteCells_length];simpa[ByteArray.size] using a) f) λ_ _ ⟨d,hb,hk,e⟩=>⟨_,d,.inr (by have c:Lib.byteCells (l++s)=Lib.byteCells l++Lib.strCells ⟨s.toArray⟩:=by{simp[Lib.byteCells,Lib.strCells]};rw[c];exact hb),hk,e⟩⟩
theorem SQ (B b:Nat) (l:ak) (c:Nat) (i:c<256) (w:World) (h:Bd B b l w) (a:l.length+1<=140737488355328) (g:B<=w.heap.size):
  bD Tryz.prog 106 [.pointer<|some ⟨b,0,none⟩,.int .u8 (c:Int)] w λ_ w'=>Bd B b (l++[UInt8.ofNat c]) w'/\qC B b w w':=
 ⟨ru.mk' Tryz.func106 rfl aes,Calls.mono (Tryz.Builder_WriteByte_k B b _ (c:Int) w h (by rw[Lib.byteCells_length];exact a) g) λ_ _ ⟨e,hb,hk,f⟩=>⟨_,e,.inr (by have d:Lib.byteCells (l++[UInt8.ofNat c])=Lib.byteCells l++[.int .u8 (c:Int)]:=by{simp[Lib.byteCells];omega};rw[d];exact hb),hk,f⟩⟩
theorem arL (B b:Nat) (l:ak) (w:World) (h:Bd B b l w) (c:B<=w.heap.size):
  bD Tryz.prog 77 [.pointer (some ⟨b,0,none⟩)] w λv w'=>v=str l/\RowKit.Below B w w':=
 ⟨ru.mk' Tryz.func77 rfl UY,Calls.mono (Tryz.Builder_String_any_f B b l w h c) λ_ _ ⟨a,hb,hk⟩=>⟨_,a,rfl,hk⟩⟩
theorem arM:∀(m:Nat) (t:aq),t.size<=m->WF t->∀(v:Value) (L:List Nat) (f w:World) (b:Nat) (l:ak),aV L f v t->aj [] f w->b<w.heap.size->Bd f.heap.size b l w->l.length+t.text.length<=1000000000->t.size<=1000000000->
  bD Tryz.prog 76 [v,.pointer (some ⟨b,0,none⟩)] w λr w'=>r= .tuple #[]/\Bd f.heap.size b (l++t.text) w'/\qC f.heap.size b w w':=by
 intro m;induction m with
 |zero=>intro t h s;have:=OL s;omega
 |succ m ih=>
  intro t _ s v L f w b l O d _ q _ _;have Z:=O;obtain⟨a,n,c,rfl,hn,T⟩:=cW O;subst hn;have mP:=lD t;have e:=aj.refl [] w;have F:=d.size;refine cu [] 32 Tryz.func76 rfl agH rfl rfl ?_;refine zr<|eK rfl λw1 S J _=>bQ S d e λd e=>?_;refine W ?_;refine aA (Fx t _ L w1<|Z.ext d) ?_;rintro _ w2 ⟨rfl,M⟩;have B:=M.size;refine cQ M d e J λd e J=>?_;refine bf<|zc rfl (λN=>?_) λN=>?_;have D:=UG s N;refine W ?_;refine aA (arK f.heap.size b l t.au w2 (q.ext e) (by rw[<-D];omega) (by have:=d.size;omega)) ?_;rintro _ z ⟨p,o⟩;refine W ?_;exact⟨_,rfl,rfl,by rw[D];exact p,(qC.of e F).trans o⟩;have y:=q.ext e;have o:=qC.of (b:=b) e F;have U:w.heap.size≠b:=by omega
  refine W ?_;refine eW (λk:Nat=>[(1,.pointer<|some ⟨b,0,none⟩),(2,.pointer<|some ⟨w.heap.size,0,none⟩),(13,.slice a t.ag.length c),(14,.int .i64 (t.ag.length:Int)),(15,.int .i64 (k:Int))]) (λk w'=>aj [] f w'/\Bd f.heap.size b (l++pre (t.ag.take k)) w'/\qC f.heap.size b w w'/\k<=t.ag.length/\w.heap.size<=w'.heap.size) (λk=>t.ag.length-k) (0) (⟨rfl,rfl,rfl,rfl,rfl⟩) (⟨d,by simpa[pre] using y,o,om,e.size⟩) λg z _ C=>?_;obtain⟨d,q,o,hk,_⟩:=C;clear e y;refine W ?_;refine zc rfl (λh2=>?_) λh2=>?_;have ei:=ek (ps:=t.ag) (i:=g) om;obtain⟨Y,fg,pa,_,pc,rfl,iZ,eA,fJ⟩:=gB T ei;subst eA;have R:=s.nth (i:=g) om;have mG:=kP (t:=t) (i:=g) om;have V:=UH s hk;have X:=UH s (k:=g+1) om;have H:=UE (ps:=t.ag) (k:=g) om;have sN:=congrArg List.length H;rw[lA,lC] at sN;refine WZ ?_;have e:=aj.refl [] z;refine WL ?_;refine zL iL bV rfl (iZ.ext d) rfl<|dj bV rfl rfl rfl λw4 I u _=>?_;have d:=d.grow;have d:=d.ext I;have e:=e.grow;have e:=e.ext I;refine zA<|cF bV rfl rfl rfl u rfl λQ K u _=>?_;have d:=d.aB K sx;have e:=e.aB K sx;refine W ?_;refine jq (λ_:Unit=>[(1,.pointer<|some ⟨b,0,none⟩),(2,.pointer<|some ⟨w.heap.size,0,none⟩),(5,.pointer<|some ⟨z.heap.size,0,none⟩),(13,.slice (some ⟨Y,fg,none⟩) t.ag.length c),(14,.int .i64 (t.ag.length:Int)),(15,.int .i64 (g:Int))]) (λ_ w'=>aj [] f w'/\Bd f.heap.size b (l++pre (t.ag.take g)++[if g=0 then 40 else 32]) w'/\qC f.heap.size b w w'/\w.heap.size<=w'.heap.size/\aK w' z.heap.size [str (nth t.ag g).au,.slice pa (nth t.ag g).ag.length pc].toArray 61) ?_ ?_;refine zc rfl (λh3=>?_) λh3=>?_;have A:g=0:=by omega
  refine mf<|zm<|aA (SQ f.heap.size b _ 40 de Q (q.ext e) so (by have:=d.size;omega)) ?_;rintro _ w6 ⟨p,j⟩;have B:=j.below.size;refine W ?_;exact⟨(),⟨rfl,rfl,rfl,rfl,rfl,rfl⟩,j.aG d,by rw[iP A];exact p,(o.trans<|qC.of e (by have:=o.below.size;omega)).trans j,by have:=e.size;omega,u.others j om de⟩;have A:¬g=0:=by omega
  refine mf<|zm<|aA (SQ f.heap.size b _ 32 de Q (q.ext e) so (by have:=d.size;omega)) ?_;rintro _ w6 ⟨p,j⟩;have B:=j.below.size;refine W ?_;exact⟨(),⟨rfl,rfl,rfl,rfl,rfl,rfl⟩,j.aG d,by rw[iN A];exact p,(o.trans<|qC.of e (by have:=o.below.size;omega)).trans j,by have:=e.size;omega,u.others j om de⟩;intro _ w7 _ C;clear d q o u e;obtain⟨d,q,o,_,u⟩:=C;refine W ?_;refine aA (ih (nth t.ag g) om R _ L f w7 b _ (jQ fJ) d om q so om) ?_;rintro _ _ ⟨rfl,p,j⟩;have B:=j.below.size;have d:=j.aG d;refine W ?_;exact⟨g+1,⟨rfl,rfl,rfl,rfl,rfl⟩,⟨d,by rw[H];simpa using p,o.trans j,om,om⟩,om⟩;have gd:g=t.ag.length:=by omega
  have E:=UF s om;have P:=congrArg List.length E;rw[lA] at P;subst gd;refine W ?_;refine aA (SQ f.heap.size b _ 41 de z q (by simp at P⊢;omega) (by have:=d.size;omega)) ?_;rintro _ w4 ⟨p,j⟩;refine W ?_;exact⟨_,rfl,rfl,by rw[<-E,<-List.append_assoc];exact p,o.trans j⟩
theorem abe (t:aq) (o:WF t) (z:t.size<=100000000) (y:t.text.length<=100000000) (v:Value) (L:List Nat) (w:World) (i:aV L w v t):
  bD Tryz.prog 41 [v] w λr w'=>r=str t.text/\aj [] w w':=by
 have l:=i;obtain⟨a,n,c,rfl,_,_⟩:=cW i;have u:=aj.refl [] w;refine cu [.tmp 2] 7 Tryz.func41 rfl age rfl rfl ?_;refine zr<|eK rfl λb e f _=>zA<|bf<|zr<|dj Pc rfl rfl rfl λp d m _=>?_;have f:=f.ext d;refine W ?_;refine aA (arM t.size t (lR _) o _ L b p b.heap.size [] (l.ext e) d om (.inl ⟨lR _,_,m,⟨rfl,.inl ⟨rfl,rfl⟩⟩,by simp[Value.ownBlock]⟩) so om) ?_;rintro _ q ⟨rfl,s,g⟩;refine bf<|zr<|aA (arL b.heap.size b.heap.size _ q s (by have:=g.below.size;omega)) ?_;rintro _ _ ⟨rfl,j⟩;refine W ?_;exact⟨_,rfl,rfl,e.trans (Fy (g.aG d) j)⟩
theorem abf (e:List aq) (h:UK e) (v:Value) (L:List Nat) (w:World) (t:cD L w v e):
  bD Tryz.prog 47 [v] w λr w'=>(∃a n c g,r= .slice a n c/\n=e.length/\cN w' 9 (.slice a n c) g (e.map aq.text)/\(∀b,g=some b->w.heap.size<=b)/\(e=[]->g=none))/\aj [] w w':=by
 obtain⟨a,c,rfl⟩:=SM t;have d:=aj.refl [] w;have S:=h.1;refine cu [.tmp 2] 19 Tryz.func47 rfl agl rfl rfl ?_;refine W ?_;refine eW (λq:Nat×Option Addr×Nat×Option Nat=>[(3,.slice q.2.1 ((e.take q.1).map aq.text).length q.2.2.1),(6,.slice a e.length c),(7,.int .i64 (e.length:Int)),(8,.int .i64 (q.1:Int))]) (λq w'=>aj [] w w'/\Gr w.heap.size [] w' 9 1 (.slice q.2.1 ((e.take q.1).map aq.text).length q.2.2.1) q.2.2.2 (iG<|(e.take q.1).map aq.text)/\q.1<=e.length/\(q.1=0->q.2.2.2=none)) (λq=>e.length-q.1) ((0,none,0,none)) (⟨rfl,rfl,rfl,rfl⟩) (⟨d,Gr.nil sm om,sm,λ_=>rfl⟩) λM _ _ s=>?_;obtain⟨i,_,_,g⟩:=M;dsimp only at s⊢;obtain⟨d,f,hk,y⟩:=s;have R:=d.size;refine W ?_;refine zc rfl (λN=>?_) λN=>?_;have j:=ek (ps:=e) (i:=i) om;obtain⟨_,_,_,_,_,rfl,O,_,I⟩:=gB t j;obtain⟨D,E,F⟩:=h.2 (nth e i)<|List.mem_of_getElem? j;refine WL ?_;refine zL iL bV rfl (O.ext d) rfl<|dj bV rfl rfl rfl λ_ o p H=>?_;have d:=d.grow;have d:=d.ext o;have f:=f.alloc o H;refine cF bV rfl rfl rfl p rfl λP l p _=>?_;have d:=d.aB l sx;have f:=f.aB l sx;refine W ?_;refine aA (abe (nth e i) D E F _ L P<|(jQ I).ext d) ?_;rintro _ _ ⟨rfl,m⟩;have Q:=m.size;refine bQ m d f λd f=>?_;refine fW bA bw rfl rfl λ_ B z _=>bQ B d f λd f=>?_;refine TP bA bw rfl rfl rfl rfl rfl rfl f z (by rw[BR _ hk];omega) λA K J _ u C=>?_;have d:=f.since d C;rw[DM aq.text j] at u⊢;refine W ?_;exact⟨(i+1,A,K,J),⟨rfl,rfl,rfl,rfl⟩,⟨d,u.dY sm,by dsimp only;omega,by dsimp only;intro h;omega⟩,by dsimp only;omega⟩;rw[DN aq.text om] at f⊢;refine W ?_;exact⟨_,rfl,⟨_,_,_,g,rfl,List.length_map _,f.wT,f.low,λh=>y (by rw[h] at hk;simp at hk;omega)⟩,d⟩
theorem arO:∀(m:Nat) (t:aq),t.size<=m->t.size<=1000000000->∀(v:Value) (L:List Nat) (w:World),aV L w v t->
  bD Tryz.prog 74 [v] w λr w'=>r= .int .i64 (t.depth:Int)/\aj [] w w':=by
 intro m;induction m with
 |zero=>intro t h;have:=pZ t;omega
 |succ m M=>
  intro t _ _ v L w p;have B:=p;obtain⟨a,n,c,rfl,J,z⟩:=cW p;subst J;have T:=lD t;have b:=aj.refl [] w;have q:=λk=>aeg (t:=t) (k:=k);refine cu [.tmp 2] 22 Tryz.func74 rfl agF rfl rfl ?_;refine zr<|eK rfl λN s g _=>?_;have b:=b.ext s;refine W ?_;refine aA (Fx t _ L N<|B.ext b) ?_;rintro _ _ ⟨rfl,j⟩;have P:=j.size;refine bQ j b g λb g=>?_;refine bf<|zc rfl (λe=>?_) λe=>?_;have f:=aed e;refine W ?_;exact⟨_,rfl,by rw[f];rfl,b⟩;have f:=aee e;refine W ?_;refine eW (λk:Nat=>[(3,.int .i64 (maxD (t.ag.take k):Int)),(9,.slice a t.ag.length c),(10,.int .i64 (t.ag.length:Int)),(11,.int .i64 (k:Int))]) (λk w'=>aj [] w w'/\k<=t.ag.length) (λk=>t.ag.length-k) (0) (⟨rfl,rfl,rfl,rfl⟩) (⟨b,om⟩) λd _ _ I=>?_;obtain⟨b,hk⟩:=I;have Q:=b.size;have U:=q d;refine W ?_;refine zc rfl (λH=>?_) λH=>?_;have D:=ek (ps:=t.ag) (i:=d) om;obtain⟨_,_,_,_,_,rfl,K,C,E⟩:=gB z D;subst C;have S:=kP (t:=t) (i:=d) om;have A:=aec (ps:=t.ag) (k:=d) om;refine WL ?_;refine zL iL bV rfl (K.ext b) rfl<|dj bV rfl rfl rfl λ_ u o _=>?_;have b:=b.grow;have b:=b.ext u;refine cF bV rfl rfl rfl o rfl λO y o _=>?_;have b:=b.aB y sx;refine W ?_;refine aA (M (nth t.ag d) om om _ L O<|(jQ E).ext b) ?_;rintro _ _ ⟨rfl,l⟩;have R:=l.size;have b:=b.ext l;refine TH rfl rfl rfl rfl (show(if((maxD (t.ag.take d):Nat):Int)<((nth t.ag d).depth:Int) then((nth t.ag d).depth:Int) else((maxD (t.ag.take d):Nat):Int))=((maxD (t.ag.take<|d+1):Nat):Int) from by rw[A];split<;>omega)<|W ?_;exact⟨d+1,⟨rfl,rfl,rfl,rfl⟩,⟨b,om⟩,om⟩;have F:d=t.ag.length:=by omega
  subst F;refine W ?_;exact⟨_,rfl,by rw[f];rfl,b⟩
theorem arP:∀(m:Nat) (t:aq),t.size<=m->t.size<=1000000000->t.len<=1000000000->∀(v:Value) (L:List Nat) (w:World),aV L w v t->
  bD Tryz.prog 75 [v] w λr w'=>r= .int .i64 (t.len:Int)/\aj [] w w':=by
 intro m;induction m with
 |zero=>intro t h;have:=pZ t;omega
 |succ m K=>
  intro t _ _ _ v L w q;have A:=q;obtain⟨a,n,c,rfl,I,z⟩:=cW q;subst I;have U:=lD t;have b:=aj.refl [] w;refine cu [.tmp 2] 25 Tryz.func75 rfl agG rfl rfl ?_;refine zr<|eK rfl λM s j _=>?_;have b:=b.ext s;refine W ?_;refine aA (Fx t _ L M<|A.ext b) ?_;rintro _ _ ⟨rfl,l⟩;have P:=l.size;refine bQ l b j λb j=>?_;refine bf<|zc rfl (λe=>?_) λe=>?_;have f:=aei e;refine W ?_;exact⟨_,rfl,by rw[f];rfl,b⟩;have f:=UQ e;have g:=λk=>aej (k:=k) e;refine W ?_;refine eW (λk:Nat=>[(3,.int .i64 ((1+aq.len.lens (t.ag.take k):Nat):Int)),(12,.slice a t.ag.length c),(13,.int .i64 (t.ag.length:Int)),(14,.int .i64 (k:Int))]) (λk w'=>aj [] w w'/\k<=t.ag.length) (λk=>t.ag.length-k) (0) (⟨rfl,rfl,rfl,rfl⟩) (⟨b,om⟩) λd _ _ H=>?_;obtain⟨b,hk⟩:=H;have R:=b.size;refine W ?_;refine zc rfl (λF=>?_) λF=>?_;have C:=ek (ps:=t.ag) (i:=d) om;obtain⟨_,_,_,_,_,rfl,J,B,D⟩:=gB z C;subst B;have T:=kP (t:=t) (i:=d) om;have O:=aeh (ps:=t.ag) (k:=d) om;have Q:=g<|d+1;refine WL ?_;refine zL iL bV rfl (J.ext b) rfl<|dj bV rfl rfl rfl λ_ u p _=>?_;have b:=b.grow;have b:=b.ext u;refine cF bV rfl rfl rfl p rfl λN y p _=>?_;have b:=b.aB y sx;refine W ?_;refine aA (K (nth t.ag d) om om om _ L N<|(jQ D).ext b) ?_;rintro _ _ ⟨rfl,o⟩;have S:=o.size;have b:=b.ext o;refine W ?_;exact⟨d+1,⟨congrArg (Value.int .i64) om,rfl,rfl,rfl⟩,⟨b,om⟩,om⟩;have E:d=t.ag.length:=by omega
  subst E;refine W ?_;exact⟨_,rfl,by rw[f];rfl,b⟩
theorem abg (t:aq) (j:t.size<=1000000000) (o:t.len<=1000000000) (v:Value) (L:List Nat) (w:World) (i:aV L w v t):
  bD Tryz.prog 40 [v] w λr w'=>r= .bool (oa t)/\aj [] w w':=by
 have d:=i;obtain⟨a,n,c,rfl,_,_⟩:=cW i;have b:=aj.refl [] w;refine cu [.tmp 2] 11 Tryz.func40 rfl agd rfl rfl ?_;refine zr<|eK rfl λp m f _=>bQ m b d λb d=>?_;refine W ?_;refine aA (arO t.size t (lR _) j _ L p d) ?_;rintro _ l ⟨rfl,g⟩;have s:=g.size;refine cQ g b d f λb d f=>?_;refine WZ ?_;apply oA 4 6 10 (aj [] l) rfl oQ;intro _;refine W ?_;refine aA (arP t.size t (lR _) j o _ L l d) ?_;rintro _ q ⟨rfl,e⟩;have u:=e.size;exact oQ;intro _ q e;have b:=b.ext e;refine W ?_;exact⟨_,rfl,congrArg Value.bool (by unfold oa;rw[show decide ((t.depth:Int)<=60)=decide (t.depth<=60) from decide_eq_decide.2 om,show decide ((t.len:Int)<=12000)=decide (t.len<=12000) from decide_eq_decide.2 om]),b⟩
theorem NQ (s:ak) (w:World):bD Tryz.prog 73 [str s] w λr w'=>r= .agg #[str s,.slice none 0 0]/\aj [] w w':=by have a:=aj.refl [] w;refine kM [.cell 2 61] 5 Tryz.func73 rfl agE rfl rfl rfl ?_;refine zr<|dj bV rfl rfl rfl λ_ c b _=>?_;have a:=a.grow;have a:=a.ext c;refine bf<|zr<|zm<|jE (U3 _ _) rfl rfl<|cF bV rfl rfl rfl b rfl λ_ d b _=>?_;have a:=a.aB d sx;refine W ?_;exact⟨[_],gh iL bV rfl b rfl,rfl,a⟩
def Dm (B:Nat) (L:List Nat) (h:ak) (b:List aq) (v:Value) (w:World):Prop:=∃a c g,v= .agg #[str [],.slice a (bI h::b).length c]/\Gr B L w 61 2 (.slice a (bI h::b).length c) g (da (bI h::b))
theorem Dm.av {h:ak} {v:Value} (d:Dm B L h ts v w):aV L w v (iw h ts):=by obtain⟨a,c,g,rfl,b⟩:=d;exact jB b.trees
theorem HH (h:ak) (g:List aq) (I:g.length<=1000000) (v:Value) (L:List Nat) (w:World) (f:cD L w v g) (q:∀x∈L,x<w.heap.size):
  bD Tryz.prog 72 [str h,v] w λr w'=>Dm w.heap.size L h g r w'/\aj [] w w':=by
 obtain⟨a,c,rfl⟩:=yy f;have b:=aj.refl [] w;refine kM [.cell 4 61] 11 Tryz.func72 rfl agD rfl rfl rfl ?_;refine zr<|dj bV rfl rfl rfl λA n e _=>?_;have b:=b.grow;have b:=b.ext n;have f:=f.grow;have f:=f.ext n;refine bf<|zr<|zm<|aA (NQ h A) ?_;rintro _ C ⟨rfl,j⟩;have E:=j.size;refine cQ j b f e λb f e=>?_;have l:=cA.fresh f<|ua (w:=C);refine fW ic bV rfl rfl λ_ t u _=>cQ t b e l λb e l=>?_;refine WZ ?_;have H:=j.size;have F:=b.size;have D:=e.lt;have m:=aiH (B:=w.heap.size) (L:=w.heap.size::L) (sz:=2) (N:=1) (rows:=da [bI h]) u ⟨.val _,.nil _ _ _,trivial⟩ (Oi _) rfl om om (by intro d;simp at d;rcases d with d|d;omega;have:=q _ d;omega) (by intro x d;simp at d;rcases d with rfl|d;omega;have:=q x d;omega);refine yt ic bV rfl rfl rfl rfl rfl rfl m (cA.weaken l sm) aiI (by rw[iu,iu];simp;omega) λs z y _ i o=>?_;have e:=e.aB o<|m.wS sm;have b:=m.since b o;rw[show(da [bI h]).length+(da g).length=(bI h::g).length from by simp[iu,Nat.add_comm]] at i⊢;rw[show da [bI h]++da g=da (bI h::g) from by simp[da]] at i;refine jE (ag7 _ _ _ _) rfl rfl<|cF bV rfl rfl rfl e rfl λ_ p e _=>?_;have b:=b.aB p sx;have i:=i.aB p sx;refine W ?_;exact⟨[_],gh iL bV rfl e rfl,⟨s,z,y,rfl,i.dY (L':=L) λx d=>by simp[d]⟩,b⟩
mutual
def bK:aq->aq->Bool
 | .mk a ps,.mk b c=>decide (a=b)&&tV ps c
def tV:List aq->List aq->Bool
 |[],[]=>true
 |p::ps,q::qs=>bK p q&&tV ps qs
 |[],_::_=>false
 |_::_,[]=>false
end
mutual
theorem Fz:∀x y:aq,bK x y=true↔x=y
 | .mk a ps,.mk b c=>by rw[bK,aE,dE,Kl ps c,aq.mk.injEq]
theorem Kl:∀ps a:List aq,tV ps a=true↔ps=a
 |[],[]=>by simp[tV]
 |p::ps,q::a=>by rw[tV,aE,Fz p q,Kl ps a,List.cons.injEq]
 |[],_::_=>by simp[tV]
 |_::_,[]=>by simp[tV]
end
theorem arQ (x y:aq):bK x y=(decide (x.au=y.au)&&tV x.ag y.ag):=by cases x;cases y;rw[bK];rfl
theorem arR {ps qs:List aq} (h:ps.length≠qs.length):tV ps qs=false:=by
 cases a:tV ps qs with
 |false=>rfl
 |true=>rw[(Kl ps qs).1 a] at h;exact absurd rfl h
theorem arS {ps qs:List aq} {i:Nat} (b:i<ps.length) (c:ps.length=qs.length) (h:bK (nth ps i) (nth qs i)=false):tV ps qs=false:=by
 cases a:tV ps qs with
 |false=>rfl
 |true=>rw[(Kl ps qs).1 a,(Fz _ _).2 rfl] at h;cases h
theorem arT {a:List aq} (d:ps.length=a.length) (h:∀i,i<ps.length->bK (nth ps i) (nth a i)=true):tV ps a=true:=
 (Kl ps a).2 (List.ext_getElem d λi b c=>by have:=(Fz _ _).1<|h i b;rwa [wU b,wU c] at this)
theorem arU (ps qs:List aq) (B:ps.length<1000000000) (f:FuncId) (E F:Value) (o p:List Nat) (w:World) (y:cD o w E ps) (z:cD p w F qs) 
  (P:∀i,i<ps.length->i<qs.length->∀(C D:Value) (w':World),aj [] w w'->aV o w' C (nth ps i)->aV p w' D (nth qs i)->bD Tryz.prog f [C,D] w' λr n=>r= .bool (bK (nth ps i)<|nth qs i)/\aj [] w' n):
  bD Tryz.prog 182 [E,F,.func (.func f) #[] #[]] w λr w'=>r= .bool (tV ps qs)/\aj [] w w':=by
 obtain⟨I,c1,rfl⟩:=yy y;obtain⟨J,c2,rfl⟩:=yy z;have a:=aj.refl [] w;refine cu [.tmp 6] 32 Tryz.func182 rfl afE rfl rfl ?_;refine W ?_;refine zc rfl (λL=>?_) λL=>?_;have g:=arR (ps:=ps) (qs:=qs) om;refine W ?_;exact⟨_,rfl,by rw[g];rfl,a⟩;have e:ps.length=qs.length:=by omega
 refine W ?_;refine eW (λk:Nat=>[(1,.slice J qs.length c2),(2,.func (.func f) #[] #[]),(15,.slice I ps.length c1),(16,.int .i64 (ps.length:Int)),(17,.int .i64 (k:Int))]) (λk w'=>aj [] w w'/\k<=ps.length/\∀i,i<k->bK (nth ps i) (nth qs i)=true) (λk=>ps.length-k) (0) (⟨rfl,rfl,rfl,rfl,rfl⟩) (⟨a,om,by intro i A;omega⟩) λc X _ N=>?_;obtain⟨a,hk,u⟩:=N;have Z:=a.size;refine W ?_;refine zc rfl (λM=>?_) λM=>?_;have T:=ek (ps:=ps) (i:=c) om;have Q:=ek (ps:=qs) (i:=c) om;obtain⟨_,_,_,_,_,rfl,_,_,R⟩:=gB (y.ext a) T;obtain⟨_,_,_,_,_,rfl,K,_,S⟩:=gB (z.ext a) Q;have U:=jQ R;have V:=jQ S;have O:=a;have b:=aj.refl [] X;refine W ?_;refine dj bV rfl rfl rfl λ_ s d _=>?_;have a:=a.grow;have a:=a.ext s;have b:=b.grow;have b:=b.ext s;refine zA<|cF bV rfl rfl rfl d rfl λ_ q d _=>?_;have a:=a.aB q sx;have b:=b.aB q sx;refine WL ?_;refine zL iL bV rfl (K.ext b) rfl<|dj bV rfl rfl rfl λ_ j v _=>?_;have a:=a.grow;have a:=a.ext j;have b:=b.grow;have b:=b.ext j;have d:=d.grow;have d:=d.ext j;refine cF bV rfl rfl rfl v rfl λY l v _=>?_;have a:=a.aB l sx;have b:=b.aB l sx;have d:=d.aB l sx;refine W ?_;refine Ok rfl rfl rfl (P c om om _ _ Y a (aV.ext U b)<|aV.ext V b) ?_;rintro _ _ ⟨rfl,t⟩;have ln:=t.size;have a:=a.ext t;refine kj rfl rfl rfl<|bf<|zc rfl (λm=>?_) λm=>?_;have g:=arS (ps:=ps) (qs:=qs) (i:=c) om e (by simpa using m);refine W ?_;exact⟨_,rfl,by rw[g];rfl,a⟩;have H:bK (nth ps c) (nth qs c)=true:=by simpa using m
 refine W ?_;exact⟨c+1,⟨rfl,rfl,rfl,rfl,rfl⟩,⟨a,om,by intro i A;rcases Nat.lt_or_ge i c with h|h;exact u i h;rw[show i=c by omega];exact H⟩,om⟩;have g:=arT e λi A=>u i om;refine W ?_;exact⟨_,rfl,by rw[g];rfl,a⟩
theorem Kn:∀(m:Nat) (x:aq),x.size<=m->x.size<=1000000000->∀(y:aq) (f g:Value) (b c:List Nat) (w:World),aV b w f x->aV c w g y->
  bD Tryz.prog 145 [f,g] w λr w'=>r= .bool (bK x y)/\aj [] w w':=by
 intro m;induction m with
 |zero=>intro x h;have:=pZ x;omega
 |succ m v=>intro x _ _ y f g b c w s u;obtain⟨_,_,c1,rfl,_,e⟩:=cW s;obtain⟨_,_,c2,rfl,_,o⟩:=cW u;have F:=lD x;have a:=aj.refl [] w;refine cu [.tmp 4] 17 Tryz.func145 rfl ae3 rfl rfl ?_;refine zr<|eK rfl λ_ p j _=>?_;have a:=a.ext p;refine eK rfl λn q _ _=>bQ q a j λa j=>?_;refine W ?_;apply oA 6 10 16 (aj [] n) rfl oQ;intro _;refine W ?_;refine aA (arU x.ag y.ag om 145 _ _ b c n (e.ext a) (o.ext a) λi l _ B C w' _ z A=>v (nth x.ag i) (by have:=kP (t:=x) (i:=i) l;omega) (by have:=kP (t:=x) (i:=i) l;omega) _ B C b c w' z A) ?_;rintro _ D ⟨rfl,d⟩;have E:=d.size;exact oQ;intro _ D d;have a:=a.ext d;refine W ?_;exact⟨_,rfl,congrArg Value.bool (arQ x y).symm,a⟩
theorem SR (y t:aq):dZ y t=if t.au=[118] then y else if t.au≠[]\/zP t.ag=[101] then t else .mk [] (t.ag.map<|dZ y):=by
 cases t with
 |mk a ps=>rw[dZ,K0];rfl
theorem arW {y:aq} (h:(decide (t.ag.length=0)&&decide (t.au=[118]))=true):dZ y t=y:=by rw[aE,dE,dE] at h;rw[SR,iP h.2]
theorem arX {y:aq} (c:WF t) (d:(decide (t.ag.length=0)&&decide (t.au=[118]))=false) (h:(decide (t.ag.length=0)||decide (bC t=[101]))=true):dZ y t=t:=by
 rw[oE,dE,dE] at h;rw[SR];cases c with
 |au a e=>
  have b:¬a=[118]:=by intro b;subst b;simp[aq.ag,aq.au] at d
  rw[iN<|show¬(aq.mk a []).au=[118] from b,iP (.inl e)]
 |list ps f _=>
  rw[iN (by intro h;cases h)];rcases h with h|h
  .exact absurd (List.length_eq_zero_iff.1 h) f
  .rw[OS] at h;rw[iP (.inr h)]
theorem arY {y:aq} (c:WF t) (h:(decide (t.ag.length=0)||decide (bC t=[101]))=false):dZ y t= .mk [] (t.ag.map<|dZ y):=by
 rw[Bool.or_eq_false_iff,decide_eq_false_iff_not,decide_eq_false_iff_not] at h;rw[SR];cases c with
 |au a _=>exact absurd rfl h.1
 |list ps _ _=>rw[iN (by intro h;cases h),iN (by rintro(b|b);(·exact b rfl);(·rw[OS] at h;exact h.2 b))]
theorem abi (y:aq):∀(m:Nat) (t:aq),t.size<=m->t.size<=10000000->WF t->∀(v vy:Value) (L:List Nat) (w:World),aV L w v t->aV L w vy y->(∀x∈L,x<w.heap.size)->
  bD Tryz.prog 146 [v,vy] w λr w'=>aV L w' r (dZ y t)/\aj [] w w':=by
 intro m;induction m with
 |zero=>intro t h;have:=pZ t;omega
 |succ m ih=>
  intro t _ _ Y v vy L w hv hy hL;have o:=hv;have z:=hy;have Ko:=hy;obtain⟨a,n,c,rfl,hn,aR⟩:=cW hv;obtain⟨ya,yn,yc,rfl,_,_⟩:=cW hy;subst hn;have mP:=lD t;have d:=aj.refl [] w;refine kM [.cell 4 61] 43 Tryz.func146 rfl ae4 rfl rfl rfl ?_;refine zr<|eK rfl λw1 aI u _=>cQ aI d o z λd o z=>?_;refine eK rfl λC aw j _=>gO aw d o z u λd o z u=>?_;refine dj bV rfl rfl rfl λw3 R f _=>?_;have d:=d.grow;have d:=d.ext R;have o:=o.grow;have o:=o.ext R;have z:=z.grow;have z:=z.ext R;have u:=u.grow;have u:=u.ext R;have j:=j.grow;have j:=j.ext R;refine W ?_;refine aA (Fx t _ _ w3 o) ?_;rintro _ w4 ⟨rfl,aJ⟩;have fP:=aJ.size;refine uH aJ d o z u j f λd o z u j f=>?_;refine WZ ?_;apply oB 4 11 15 rfl oQ;intro _;refine WZ ?_;exact oQ;intro xx;refine zA<|bf<|zc rfl (λU=>?_) λU=>?_;have X:=arW (y:=y) U;refine W ?_;refine cF bV rfl rfl rfl f rfl λw5 S f _=>?_;have d:=d.aB S sx;have z:=z.aB S sx;refine W ?_;exact⟨[_],gh iL bV rfl f rfl,by rw[X];exact aV.dY z λx l=>by simp[l],d⟩;have vM:=U;refine W ?_;refine aA (Fx t _ _ w4 o) ?_;rintro _ w5 ⟨rfl,S⟩;have mq:=S.size;refine kT S d o u j f λd o u j f=>?_;refine WZ ?_;apply oO 4 20 24 (aj [] w5) rfl oQ;intro _;refine W ?_;refine aA (tU t Y _ _ w5 o) ?_;rintro _ _ ⟨rfl,bM⟩;have ln:=bM.size;exact oQ;intro xx A cC;refine kT cC d o u j f λd o u j f=>?_;refine zA<|bf<|zc rfl (λh4=>?_) λh4=>?_;have X:=arX (y:=y) Y vM h4;refine W ?_;refine cF bV rfl rfl rfl f rfl λw8 N f l3=>?_;have d:=d.aB N sx;have o:=o.aB N sx;refine W ?_;exact⟨[_],gh iL bV rfl f rfl,by rw[X];exact aV.dY o λx l=>by simp[l],d⟩;have X:=arY (y:=y) Y h4;have hq7:=d.size;have tu:=j.lt;have Ac:=f.lt;refine iD<|zr<|dj bV rfl rfl rfl λw8 N p l3=>?_;have d:=d.grow;have d:=d.ext N;have u:=u.grow;have u:=u.ext N;have j:=j.grow;have j:=j.ext N;have f:=f.grow;have f:=f.ext N;refine W ?_;refine eW (λq:Nat×Option Addr×Nat×Option Nat=>[(3,.pointer<|some ⟨w1.heap.size,0,none⟩),(4,.pointer<|some ⟨C.heap.size,0,none⟩),(5,.pointer<|some ⟨A.heap.size,0,none⟩),(27,.slice a t.ag.length c),(28,.int .i64 (t.ag.length:Int)),(29,.int .i64 (q.1:Int))]) (λq w'=>aj [] w w'/\aK w' w1.heap.size [str y.au,.slice ya yn yc].toArray 61/\aK w' C.heap.size [str [],.slice none 0 0].toArray 61/\aK w' A.heap.size [str [],.slice q.2.1 ((t.ag.take q.1).map<|dZ y).length q.2.2.1].toArray 61/\Gr A.heap.size (A.heap.size::C.heap.size::L) w' 61 2 (.slice q.2.1 ((t.ag.take q.1).map<|dZ y).length q.2.2.1) q.2.2.2 (da ((t.ag.take q.1).map<|dZ y))/\q.1<=t.ag.length) (λq=>t.ag.length-q.1) ((0,none,0,none)) (⟨rfl,rfl,rfl,rfl,rfl,rfl⟩) (⟨d,j,f,p,Gr.nil (by intro x l;have:=d.size;simp at l;rcases l with rfl|rfl|l;omega;omega;have:=hL x l;omega) om,sm⟩) λgg M _ hI=>?_;obtain⟨i,_,_,g⟩:=gg;dsimp only at hI⊢;obtain⟨d,j,f,p,s,hk⟩:=hI;have fR:=d.size;have abj:=j.lt;have NO:=f.lt;have awW:=p.lt;refine W ?_;refine zc rfl (λh5=>?_) λh5=>?_;have ei:=ek (ps:=t.ag) (i:=i) om;have V:∀x∈g.toList++(A.heap.size::C.heap.size::L),x∈L\/w.heap.size<=x:=by{intro x l;rcases mA.1 l with l|l;(·right;have:=s.low x (by simpa using l);omega);(·simp at l;rcases l with rfl|rfl|l;(·right;omega);(·right;omega);(·exact .inl l))}
  have arZ:cD (g.toList++(A.heap.size::C.heap.size::L)) M _ t.ag:=cD.ext (cA.fresh aR V) d;have H:aV (g.toList++(A.heap.size::C.heap.size::L)) M _ y:=aV.ext (jh.fresh Ko V) d;obtain⟨_,_,pa,_,pc,rfl,_,eA,fJ⟩:=gB arZ ei;subst eA;have F:=jQ fJ;have mG:=kP (t:=t) (i:=i) om;refine W ?_;refine dj bV rfl rfl rfl λdb E Z yw=>?_;have d:=d.grow;have d:=d.ext E;have j:=j.grow;have j:=j.ext E;have f:=f.grow;have f:=f.ext E;have p:=p.grow;have p:=p.ext E;have s:=s.alloc E yw;have F:=F.grow;have F:=F.ext E;have H:=H.grow;have H:=H.ext E;refine cF bV rfl rfl rfl Z rfl λ_ O Z _=>?_;have d:=d.aB O sx;have j:=j.aB O sx;have f:=f.aB O sx;have p:=p.aB O sx;have s:=s.aB O sx;have F:=F.aB O sx;have H:=H.aB O sx;refine W ?_;apply oS dh bz 6 (rA 33 6) (rA 33 6) [[],[0],[],[],[2,3],[4]] [.v _,.v _,.v _,.v _,.p<|fun(v:Value) (D:World)=>aV (g.toList++(M.heap.size::A.heap.size::C.heap.size::L)) D v (dZ y<|nth t.ag i),.p (fun(v:Value) (D:World)=>∃b J K,v= .slice (some ⟨b,0,none⟩) 1 1/\aK D b [J,K].toArray 61/\aV (g.toList++(M.heap.size::A.heap.size::C.heap.size::L)) D (.agg #[J,K]) (dZ y<|nth t.ag i))] de (by exact(bJ<|bJ (bJ<|bJ (ky (λv w w' h k=>aV.ext h k)<|ky (λv w w' ⟨b,J,K,e,h1,U⟩ k=>⟨b,J,K,e,h1.ext k,aV.ext U k⟩) trivial))));intro _ aC;refine cI (λ_ _ _=>WZ<|bR bz) ?_;refine ga bz aC (λx Q B=>?_) ?_;have p:=p.ext B;refine WZ ?_;exact bR bz;refine ga bz aC (λx Q B=>?_) ?_;have Z:=Z.ext B;refine WZ ?_;exact bR bz;refine ga bz aC (λx Q B=>?_) ?_;have j:=j.ext B;refine WZ ?_;exact bR bz;refine eH ?_ ?_;intro x P Q e B hd I;have aQ:(P 2=(.agg #[str (nth t.ag i).au,.slice pa (nth t.ag i).ag.length pc]))/\(P 3=(.agg #[str y.au,.slice ya yn yc])):=hd;obtain⟨d2,d3⟩:=aQ;replace B:=bz.trans aC B;refine cQ B s F H λs F H=>?_;replace I:e=aY (aX _ x _) [(35,P 2),(36,P 3)]:=I;rw[d2,d3] at I;subst I;refine aA (ih (nth t.ag i) om om (Y.nth om) _ _ (g.toList++(M.heap.size::A.heap.size::C.heap.size::L)) Q (aV.dY F (by intro x l;simp at l⊢;rcases l with h|h|h|h|h<;>simp[h])) (aV.dY H (by intro x l;simp at l⊢;rcases l with h|h|h|h|h<;>simp[h])) s.all) ?_;rintro _ jK ⟨Sj,T⟩;have Hh:=T.size;have xO:=Sj;refine W ?_;exact dn (bz.of T) xO;refine eH ?_ ?_;intro x P Q e B hd I;have d4:(fun(v:Value) (D:World)=>aV (g.toList++(M.heap.size::A.heap.size::C.heap.size::L)) D v (dZ y<|nth t.ag i)) (P 4) Q:=hd;replace B:=bz.trans aC B;replace I:e=aY (aX _ x _) [(37,P 4)]:=I;obtain⟨_,_,_,e7,_,_⟩:=cW d4;rw[e7] at I;rw[e7] at d4;subst I;refine fW ic bV rfl rfl λjK T ar0 _=>W ?_;exact dn (bz.of T) ⟨_,_,_,rfl,ar0,aV.ext d4 T⟩;exact trivial;intro x jZ iV;intro v4 d4;intro v5 d5;replace d4:(fun(v:Value) (D:World)=>aV (g.toList++(M.heap.size::A.heap.size::C.heap.size::L)) D v (dZ y<|nth t.ag i)) v4 jZ:=d4;replace d5:(fun(v:Value) (D:World)=>∃b J K,v= .slice (some ⟨b,0,none⟩) 1 1/\aK D b [J,K].toArray 61/\aV (g.toList++(M.heap.size::A.heap.size::C.heap.size::L)) D (.agg #[J,K]) (dZ y<|nth t.ag i)) v5 jZ:=d5;refine kT iV d j f p s λd j f p s=>?_;change OW _ _ _ _ _ (aY (aX _ x _)<|zZ 33 [_,_,_,_,v4,v5]) _;obtain⟨_,J,K,e7,o4,ht⟩:=d5;rw[e7];refine FT ic bV rfl rfl rfl rfl rfl rfl s o4 ht (by rw[BR _ hk];omega) λa4 gP g4 _ iR nO=>?_;have d:=aj.DI om s.low d nO;have j:=j.aB nO<|s.KM om;have f:=f.aB nO<|s.wS sm;have p:=p.aB nO<|s.wS sm;rw[DM (dZ y) ei] at iR⊢;refine zf vL rfl<|ir F6 rfl rfl rfl p rfl λ_ xD p _=>?_;have d:=d.aB xD sx;have j:=j.aB xD sx;have f:=f.aB xD sx;have iR:=iR.aB xD sx;refine W ?_;exact⟨(i+1,a4,gP,g4),⟨rfl,rfl,rfl,rfl,rfl,rfl⟩,⟨d,j,f,p,iR.dY λx l=>mK _ l,by dsimp only;omega⟩,by dsimp only;omega⟩;rw[DN (dZ y) om] at p s;refine W ?_;refine cF bV rfl rfl rfl f rfl λdb E f yw=>?_;have d:=d.aB E sx;have s:=s.aB E sx;refine W ?_;exact⟨[_],gh iL bV rfl f rfl,by rw[X];exact jB<|s.trees.dY λx l=>by simp[l],d⟩
end Go.Proofs.YtcildnfcpkpomaaGreatDoor
