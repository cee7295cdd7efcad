/- Lemmas for the law FnWants, no statement of their own: no conditions. -/
import Derived.Test.YtcildnfcpkpomaaGreatDoorGi
import Derived.Lib.OthersKept
import Derived.Shelf.Bits.Mul64
import Derived.Shelf.LaysM
import Derived.Shelf.Slices.Turned
import Derived.Shelf.Small.Wraps
import Derived.Shelf.Strconv.Atoi
import Derived.Shelf.Strconv.Itoa0
import Derived.Shelf.Strconv.Itoa1
import Derived.Shelf.Strconv.Itoa2
import Derived.Shelf.Strconv.Itoa3
import Derived.Shelf.Strings.Builder1
import Derived.Shelf.Strings.Builder2
import Derived.Shelf.Strings.Builder2Cap
import Derived.Shelf.Strings.BuilderCap
import Derived.Shelf.Strings.BuilderF
import Derived.Shelf.Strings.BuilderK
import Derived.Shelf.Strings.Prefix
import Derived.Shelf.Strings.Repeat
set_option maxHeartbeats 4000000
set_option linter.unusedVariables false
set_option linter.unusedSimpArgs false
namespace Go.Proofs.YtcildnfcpkpomaaGreatDoor
open Go
variable {L:List Nat} {w w':World} {B b i:Nat} {v:Value} {ps:List cM} {l:aj} {xs:List aj}
end Go.Proofs.YtcildnfcpkpomaaGreatDoor
namespace Go.Proofs
open Go.Shelf
def Tryz.apw:Go.Shelf.Ren:=⟨fun|170=>202|n=>n,fun|70=>97|3=>3|0=>0|72=>99|37=>22|5=>5|n=>n,fun|n=>n⟩
theorem Tryz.apx:Go.Proofs.Lays.n170 Tryz.prog Tryz.apw:={
 mixed:=by kernel_rfl
 f170:=Tryz.func202.trans (congrArg some<|by kernel_rfl)
 t0:=Tryz.underlying0
 a0:=Tryz.isAgg0
 z0:=Tryz.sizeOf0
 v0:=Tryz.zeroValue0
 t3:=Tryz.underlying3
 a3:=Tryz.isAgg3
 z3:=Tryz.sizeOf3
 v3:=Tryz.zeroValue3
 t37:=Tryz.underlying22
 a37:=Tryz.isAgg22
 z37:=Tryz.sizeOf22
 v37:=Tryz.zeroValue22
 t70:=Tryz.underlying97
 a70:=Tryz.isAgg97
 z70:=Tryz.sizeOf97
 v70:=Tryz.zeroValue97
 t72:=Tryz.underlying99
 a72:=Tryz.isAgg99
 z72:=Tryz.sizeOf99
 v72:=Tryz.zeroValue99}
def Tryz.aaM:Go.Shelf.Ren:=⟨fun|169=>77|n=>n,fun|70=>97|9=>9|0=>0|72=>99|37=>22|127=>125|3=>3|5=>5|n=>n,fun|n=>n⟩
theorem Tryz.aaN:Go.Proofs.Lays.n169 Tryz.prog Tryz.aaM:={
 mixed:=by kernel_rfl
 f169:=Tryz.func77.trans (congrArg some<|by kernel_rfl)
 t0:=Tryz.underlying0
 a0:=Tryz.isAgg0
 z0:=Tryz.sizeOf0
 v0:=Tryz.zeroValue0
 t3:=Tryz.underlying3
 a3:=Tryz.isAgg3
 z3:=Tryz.sizeOf3
 v3:=Tryz.zeroValue3
 t9:=Tryz.underlying9
 a9:=Tryz.isAgg9
 z9:=Tryz.sizeOf9
 v9:=Tryz.zeroValue9
 t37:=Tryz.underlying22
 a37:=Tryz.isAgg22
 z37:=Tryz.sizeOf22
 v37:=Tryz.zeroValue22
 t70:=Tryz.underlying97
 a70:=Tryz.isAgg97
 z70:=Tryz.sizeOf97
 v70:=Tryz.zeroValue97
 t72:=Tryz.underlying99
 a72:=Tryz.isAgg99
 z72:=Tryz.sizeOf99
 v72:=Tryz.zeroValue99
 t127:=Tryz.underlying125
 a127:=Tryz.isAgg125
 z127:=Tryz.sizeOf125
 v127:=Tryz.zeroValue125}
theorem Tryz.aaO:Builder.Extra Tryz.prog Tryz.aaM:={
 sizeBuilder:=by kernel_rfl
 liesBuilder:=by kernel_rfl
 t5:=Tryz.underlying5
 a5:=Tryz.isAgg5
 z5:=Tryz.sizeOf5
 v5:=Tryz.zeroValue5
 infoByte:=by kernel_rfl
 cellsByte:=by kernel_rfl
 sizeByte:=by kernel_rfl
 neB5:=by decide}
def Tryz.aaP:Go.Shelf.Ren:=⟨fun|165=>201|240=>136|241=>216|276=>180|277=>227|n=>n,fun|70=>97|3=>3|0=>0|4=>4|9=>9|20=>20|72=>99|37=>22|164=>188|5=>5|n=>n,fun|n=>n⟩
theorem Tryz.apy:Go.Proofs.Lays.n165 Tryz.prog Tryz.aaP:={
 mixed:=by kernel_rfl
 f165:=Tryz.func201.trans (congrArg some<|by kernel_rfl)
 f240:=Tryz.func136.trans (congrArg some<|by kernel_rfl)
 f241:=Tryz.func216.trans (congrArg some<|by kernel_rfl)
 f276:=Tryz.func180.trans (congrArg some<|by kernel_rfl)
 f277:=Tryz.func227.trans (congrArg some<|by kernel_rfl)
 t0:=Tryz.underlying0
 a0:=Tryz.isAgg0
 z0:=Tryz.sizeOf0
 v0:=Tryz.zeroValue0
 t3:=Tryz.underlying3
 a3:=Tryz.isAgg3
 z3:=Tryz.sizeOf3
 v3:=Tryz.zeroValue3
 t4:=Tryz.underlying4
 a4:=Tryz.isAgg4
 z4:=Tryz.sizeOf4
 v4:=Tryz.zeroValue4
 t9:=Tryz.underlying9
 a9:=Tryz.isAgg9
 z9:=Tryz.sizeOf9
 v9:=Tryz.zeroValue9
 t20:=Tryz.underlying20
 a20:=Tryz.isAgg20
 z20:=Tryz.sizeOf20
 v20:=Tryz.zeroValue20
 t37:=Tryz.underlying22
 a37:=Tryz.isAgg22
 z37:=Tryz.sizeOf22
 v37:=Tryz.zeroValue22
 t70:=Tryz.underlying97
 a70:=Tryz.isAgg97
 z70:=Tryz.sizeOf97
 v70:=Tryz.zeroValue97
 t72:=Tryz.underlying99
 a72:=Tryz.isAgg99
 z72:=Tryz.sizeOf99
 v72:=Tryz.zeroValue99
 t164:=Tryz.underlying188
 a164:=Tryz.isAgg188
 z164:=Tryz.sizeOf188
 v164:=Tryz.zeroValue188}
theorem Tryz.apz:Builder.Extra Tryz.prog Tryz.aaP:={
 sizeBuilder:=by kernel_rfl
 liesBuilder:=by kernel_rfl
 t5:=Tryz.underlying5
 a5:=Tryz.isAgg5
 z5:=Tryz.sizeOf5
 v5:=Tryz.zeroValue5
 infoByte:=by kernel_rfl
 cellsByte:=by kernel_rfl
 sizeByte:=by kernel_rfl
 neB5:=by decide}
open Go.RowKit in
theorem Tryz.Builder_Grow_fresh (B b n:Nat) (w:World) (c:B<=b) (a:w.heap[b]?=some (.cells #[.pointer none,.slice none 0 0] 99 (0,0))) (f:B<=w.heap.size) (d:n<=281474976710656):
  Calls Tryz.prog 201 #[.pointer<|some ⟨b,0,none⟩,.int .i64 n] w λe w'=>e= .returned (.tuple #[])/\(Lib.BuilderAt 99 5 B b (.pointer<|some ⟨b,0,none⟩) [] w'/\Below B w w'):=Any.Builder_Grow_fresh Tryz.apy Tryz.apz B b n w c a f d
def Tryz.awP:Go.Shelf.Ren:=⟨fun|210=>213|206=>138|n=>n,fun|9=>9|4=>4|3=>3|n=>n,fun|n=>n⟩
open Go.RowKit in
theorem Tryz.Builder_Len_f (B b:Nat) (bs:List Value) (w:World) (h:Lib.IsBuilderF 99 5 B b bs w):
  Calls Tryz.prog 202 #[.pointer (some ⟨b,0,none⟩)] w λe w'=>e= .returned (.int .i64 bs.length)/\w'=w:=Any.Builder_Len_f Tryz.apx B b bs w h
open Go.RowKit in
theorem Tryz.Builder_String_f (B b:Nat) (l:List UInt8) (w:World) (h:Lib.IsBuilderF 99 5 B b (Lib.byteCells l) w) (a:l≠[]):
  Calls Tryz.prog 77 #[.pointer (some ⟨b,0,none⟩)] w λe w'=>e= .returned (.string ⟨l.toArray⟩)/\(Lib.IsBuilderF 99 5 B b (Lib.byteCells l) w'/\Below B w w'):=Any.Builder_String_f Tryz.aaN Tryz.aaO B b l w h a
open Go.RowKit in
theorem Tryz.Builder_String_any_f (B b:Nat) (l:List UInt8) (w:World) (h:Lib.IsBuilderF 99 5 B b (Lib.byteCells l) w) (a:B<=w.heap.size):
  Calls Tryz.prog 77 #[.pointer (some ⟨b,0,none⟩)] w λe w'=>e= .returned (.string ⟨l.toArray⟩)/\(Lib.IsBuilderF 99 5 B b (Lib.byteCells l) w'/\Below B w w'):=Any.Builder_String_any_f Tryz.aaN Tryz.aaO B b l w h a
def Tryz.apA:Go.Shelf.Ren:=⟨fun|172=>178|244=>204|245=>205|247=>217|279=>218|280=>219|281=>220|282=>221|287=>228|316=>229|171=>147|205=>230|321=>236|322=>237|243=>183|246=>206|283=>222|284=>223|285=>224|286=>225|129=>232|317=>231|318=>233|319=>234|320=>235|337=>238|338=>239|n=>n,fun|9=>9|3=>3|75=>121|76=>122|4=>4|5=>5|167=>221|37=>22|0=>0|85=>222|2=>2|168=>224|53=>218|175=>234|46=>204|210=>237|127=>125|145=>246|143=>244|21=>21|171=>227|173=>230|212=>240|51=>215|20=>20|213=>241|232=>248|233=>249|80=>63|n=>n,fun|15=>0|16=>1|17=>2|18=>4|19=>5|n=>n⟩
theorem Tryz.apB:Go.Proofs.Lays.n172 Tryz.prog Tryz.apA:={
 mixed:=by kernel_rfl
 f129:=Tryz.func232.trans (congrArg some<|by kernel_rfl)
 f171:=Tryz.func147.trans (congrArg some<|by kernel_rfl)
 f172:=Tryz.func178.trans (congrArg some<|by kernel_rfl)
 f205:=Tryz.func230.trans (congrArg some<|by kernel_rfl)
 f243:=Tryz.func183.trans (congrArg some<|by kernel_rfl)
 f244:=Tryz.func204.trans (congrArg some<|by kernel_rfl)
 f245:=Tryz.func205.trans (congrArg some<|by kernel_rfl)
 f246:=Tryz.func206.trans (congrArg some<|by kernel_rfl)
 f247:=Tryz.func217.trans (congrArg some<|by kernel_rfl)
 f279:=Tryz.func218.trans (congrArg some<|by kernel_rfl)
 f280:=Tryz.func219.trans (congrArg some<|by kernel_rfl)
 f281:=Tryz.func220.trans (congrArg some<|by kernel_rfl)
 f282:=Tryz.func221.trans (congrArg some<|by kernel_rfl)
 f283:=Tryz.func222.trans (congrArg some<|by kernel_rfl)
 f284:=Tryz.func223.trans (congrArg some<|by kernel_rfl)
 f285:=Tryz.func224.trans (congrArg some<|by kernel_rfl)
 f286:=Tryz.func225.trans (congrArg some<|by kernel_rfl)
 f287:=Tryz.func228.trans (congrArg some<|by kernel_rfl)
 f316:=Tryz.func229.trans (congrArg some<|by kernel_rfl)
 f317:=Tryz.func231.trans (congrArg some<|by kernel_rfl)
 f318:=Tryz.func233.trans (congrArg some<|by kernel_rfl)
 f319:=Tryz.func234.trans (congrArg some<|by kernel_rfl)
 f320:=Tryz.func235.trans (congrArg some<|by kernel_rfl)
 f321:=Tryz.func236.trans (congrArg some<|by kernel_rfl)
 f322:=Tryz.func237.trans (congrArg some<|by kernel_rfl)
 f337:=Tryz.func238.trans (congrArg some<|by kernel_rfl)
 f338:=Tryz.func239.trans (congrArg some<|by kernel_rfl)
 t0:=Tryz.underlying0
 a0:=Tryz.isAgg0
 z0:=Tryz.sizeOf0
 v0:=Tryz.zeroValue0
 t2:=Tryz.underlying2
 a2:=Tryz.isAgg2
 z2:=Tryz.sizeOf2
 v2:=Tryz.zeroValue2
 t3:=Tryz.underlying3
 a3:=Tryz.isAgg3
 z3:=Tryz.sizeOf3
 v3:=Tryz.zeroValue3
 t4:=Tryz.underlying4
 a4:=Tryz.isAgg4
 z4:=Tryz.sizeOf4
 v4:=Tryz.zeroValue4
 t5:=Tryz.underlying5
 a5:=Tryz.isAgg5
 z5:=Tryz.sizeOf5
 v5:=Tryz.zeroValue5
 t9:=Tryz.underlying9
 a9:=Tryz.isAgg9
 z9:=Tryz.sizeOf9
 v9:=Tryz.zeroValue9
 t20:=Tryz.underlying20
 a20:=Tryz.isAgg20
 z20:=Tryz.sizeOf20
 v20:=Tryz.zeroValue20
 t21:=Tryz.underlying21
 a21:=Tryz.isAgg21
 z21:=Tryz.sizeOf21
 v21:=Tryz.zeroValue21
 t37:=Tryz.underlying22
 a37:=Tryz.isAgg22
 z37:=Tryz.sizeOf22
 v37:=Tryz.zeroValue22
 t46:=Tryz.underlying204
 a46:=Tryz.isAgg204
 z46:=Tryz.sizeOf204
 v46:=Tryz.zeroValue204
 t51:=Tryz.underlying215
 a51:=Tryz.isAgg215
 z51:=Tryz.sizeOf215
 v51:=Tryz.zeroValue215
 t53:=Tryz.underlying218
 a53:=Tryz.isAgg218
 z53:=Tryz.sizeOf218
 v53:=Tryz.zeroValue218
 t75:=Tryz.underlying121
 a75:=Tryz.isAgg121
 z75:=Tryz.sizeOf121
 v75:=Tryz.zeroValue121
 t76:=Tryz.underlying122
 a76:=Tryz.isAgg122
 z76:=Tryz.sizeOf122
 v76:=Tryz.zeroValue122
 t85:=Tryz.underlying222
 a85:=Tryz.isAgg222
 z85:=Tryz.sizeOf222
 v85:=Tryz.zeroValue222
 t127:=Tryz.underlying125
 a127:=Tryz.isAgg125
 z127:=Tryz.sizeOf125
 v127:=Tryz.zeroValue125
 t143:=Tryz.underlying244
 a143:=Tryz.isAgg244
 z143:=Tryz.sizeOf244
 v143:=Tryz.zeroValue244
 t145:=Tryz.underlying246
 a145:=Tryz.isAgg246
 z145:=Tryz.sizeOf246
 v145:=Tryz.zeroValue246
 t167:=Tryz.underlying221
 a167:=Tryz.isAgg221
 z167:=Tryz.sizeOf221
 v167:=Tryz.zeroValue221
 t168:=Tryz.underlying224
 a168:=Tryz.isAgg224
 z168:=Tryz.sizeOf224
 v168:=Tryz.zeroValue224
 t171:=Tryz.underlying227
 a171:=Tryz.isAgg227
 z171:=Tryz.sizeOf227
 v171:=Tryz.zeroValue227
 t173:=Tryz.underlying230
 a173:=Tryz.isAgg230
 z173:=Tryz.sizeOf230
 v173:=Tryz.zeroValue230
 t175:=Tryz.underlying234
 a175:=Tryz.isAgg234
 z175:=Tryz.sizeOf234
 v175:=Tryz.zeroValue234
 t210:=Tryz.underlying237
 a210:=Tryz.isAgg237
 z210:=Tryz.sizeOf237
 v210:=Tryz.zeroValue237
 t212:=Tryz.underlying240
 a212:=Tryz.isAgg240
 z212:=Tryz.sizeOf240
 v212:=Tryz.zeroValue240
 t213:=Tryz.underlying241
 a213:=Tryz.isAgg241
 z213:=Tryz.sizeOf241
 t232:=Tryz.underlying248
 a232:=Tryz.isAgg248
 z232:=Tryz.sizeOf248
 v232:=Tryz.zeroValue248
 t233:=Tryz.underlying249
 a233:=Tryz.isAgg249
 z233:=Tryz.sizeOf249
 v233:=Tryz.zeroValue249
 g15:=by kernel_rfl
 g16:=by kernel_rfl
 g17:=by kernel_rfl
 g18:=by kernel_rfl
 g19:=by kernel_rfl}
open Go.RowKit in
theorem Tryz.strconv_Atoi (s:ByteArray) (n:Int) (a:s.size<=18) (h:Lib.atoi s.data.toList=some n) (w:World):
  Calls Tryz.prog 178 #[.string s] w λe w'=>e= .returned (.tuple #[.int .i64 n,.nilIface])/\∃t,w'=Lib.bytesWorld w 5 t:=Any.strconv_Atoi Tryz.apB s n a h w
def Tryz.awQ:Go.Shelf.Ren:=⟨fun|246=>206|283=>222|284=>223|285=>224|286=>225|129=>232|317=>231|318=>233|319=>234|320=>235|337=>238|338=>239|n=>n,fun|2=>2|3=>3|9=>9|4=>4|171=>227|0=>0|53=>218|37=>22|5=>5|173=>230|212=>240|51=>215|20=>20|213=>241|46=>204|232=>248|233=>249|n=>n,fun|17=>2|18=>4|19=>5|n=>n⟩
def Tryz.awR:Go.Shelf.Ren:=⟨fun|243=>183|246=>206|283=>222|284=>223|285=>224|286=>225|129=>232|317=>231|318=>233|319=>234|320=>235|337=>238|338=>239|n=>n,fun|3=>3|9=>9|2=>2|4=>4|171=>227|0=>0|53=>218|37=>22|5=>5|173=>230|212=>240|51=>215|20=>20|213=>241|46=>204|232=>248|233=>249|n=>n,fun|17=>2|18=>4|19=>5|n=>n⟩
def Tryz.awS:Go.Shelf.Ren:=⟨fun|171=>147|243=>183|246=>206|283=>222|284=>223|285=>224|286=>225|129=>232|317=>231|318=>233|319=>234|320=>235|337=>238|338=>239|n=>n,fun|3=>3|9=>9|2=>2|4=>4|171=>227|0=>0|53=>218|37=>22|5=>5|173=>230|212=>240|51=>215|20=>20|213=>241|46=>204|232=>248|233=>249|n=>n,fun|17=>2|18=>4|19=>5|n=>n⟩
def Tryz.apC:Go.Shelf.Ren:=⟨fun|171=>147|243=>183|246=>206|283=>222|284=>223|285=>224|286=>225|129=>232|317=>231|318=>233|319=>234|320=>235|337=>238|338=>239|n=>n,fun|3=>3|9=>9|2=>2|4=>4|171=>227|0=>0|53=>218|37=>22|5=>5|173=>230|212=>240|51=>215|20=>20|213=>241|46=>204|232=>248|233=>249|n=>n,fun|17=>2|18=>4|19=>5|n=>n⟩
theorem Tryz.apD:Go.Proofs.Lays.n171 Tryz.prog Tryz.apC:={
 mixed:=by kernel_rfl
 f129:=Tryz.func232.trans (congrArg some<|by kernel_rfl)
 f171:=Tryz.func147.trans (congrArg some<|by kernel_rfl)
 f243:=Tryz.func183.trans (congrArg some<|by kernel_rfl)
 f246:=Tryz.func206.trans (congrArg some<|by kernel_rfl)
 f283:=Tryz.func222.trans (congrArg some<|by kernel_rfl)
 f284:=Tryz.func223.trans (congrArg some<|by kernel_rfl)
 f285:=Tryz.func224.trans (congrArg some<|by kernel_rfl)
 f286:=Tryz.func225.trans (congrArg some<|by kernel_rfl)
 f317:=Tryz.func231.trans (congrArg some<|by kernel_rfl)
 f318:=Tryz.func233.trans (congrArg some<|by kernel_rfl)
 f319:=Tryz.func234.trans (congrArg some<|by kernel_rfl)
 f320:=Tryz.func235.trans (congrArg some<|by kernel_rfl)
 f337:=Tryz.func238.trans (congrArg some<|by kernel_rfl)
 f338:=Tryz.func239.trans (congrArg some<|by kernel_rfl)
 t0:=Tryz.underlying0
 a0:=Tryz.isAgg0
 z0:=Tryz.sizeOf0
 v0:=Tryz.zeroValue0
 t2:=Tryz.underlying2
 a2:=Tryz.isAgg2
 z2:=Tryz.sizeOf2
 v2:=Tryz.zeroValue2
 t3:=Tryz.underlying3
 a3:=Tryz.isAgg3
 z3:=Tryz.sizeOf3
 v3:=Tryz.zeroValue3
 t4:=Tryz.underlying4
 a4:=Tryz.isAgg4
 z4:=Tryz.sizeOf4
 v4:=Tryz.zeroValue4
 t5:=Tryz.underlying5
 a5:=Tryz.isAgg5
 z5:=Tryz.sizeOf5
 v5:=Tryz.zeroValue5
 t9:=Tryz.underlying9
 a9:=Tryz.isAgg9
 z9:=Tryz.sizeOf9
 v9:=Tryz.zeroValue9
 t20:=Tryz.underlying20
 a20:=Tryz.isAgg20
 z20:=Tryz.sizeOf20
 v20:=Tryz.zeroValue20
 t37:=Tryz.underlying22
 a37:=Tryz.isAgg22
 z37:=Tryz.sizeOf22
 v37:=Tryz.zeroValue22
 t46:=Tryz.underlying204
 a46:=Tryz.isAgg204
 z46:=Tryz.sizeOf204
 v46:=Tryz.zeroValue204
 t51:=Tryz.underlying215
 a51:=Tryz.isAgg215
 z51:=Tryz.sizeOf215
 v51:=Tryz.zeroValue215
 t53:=Tryz.underlying218
 a53:=Tryz.isAgg218
 z53:=Tryz.sizeOf218
 v53:=Tryz.zeroValue218
 t171:=Tryz.underlying227
 a171:=Tryz.isAgg227
 z171:=Tryz.sizeOf227
 v171:=Tryz.zeroValue227
 t173:=Tryz.underlying230
 a173:=Tryz.isAgg230
 z173:=Tryz.sizeOf230
 v173:=Tryz.zeroValue230
 t212:=Tryz.underlying240
 a212:=Tryz.isAgg240
 z212:=Tryz.sizeOf240
 v212:=Tryz.zeroValue240
 t213:=Tryz.underlying241
 a213:=Tryz.isAgg241
 z213:=Tryz.sizeOf241
 t232:=Tryz.underlying248
 a232:=Tryz.isAgg248
 z232:=Tryz.sizeOf248
 v232:=Tryz.zeroValue248
 t233:=Tryz.underlying249
 a233:=Tryz.isAgg249
 z233:=Tryz.sizeOf249
 v233:=Tryz.zeroValue249
 g17:=by kernel_rfl
 g18:=by kernel_rfl
 g19:=by kernel_rfl}
open Go.RowKit Go.Sort Go.Lib in
theorem Tryz.strconv_Itoa_small (i:Nat) (a:i<100) (w:World):
  Calls Tryz.prog 147 #[.int .i64 i] w λe w'=>e= .returned (.string ⟨(Lib.decDigits i).toArray⟩)/\w'=w:=Any.strconv_Itoa_small Tryz.apD i a w
def Tryz.apE:Go.Shelf.Ren:=⟨fun|99=>108|206=>138|n=>n,fun|9=>9|4=>4|3=>3|n=>n,fun|n=>n⟩
theorem Tryz.apF:Go.Proofs.Lays.n99 Tryz.prog Tryz.apE:={
 mixed:=by kernel_rfl
 f99:=Tryz.func108.trans (congrArg some<|by kernel_rfl)
 f206:=Tryz.func138.trans (congrArg some<|by kernel_rfl)
 t3:=Tryz.underlying3
 a3:=Tryz.isAgg3
 z3:=Tryz.sizeOf3
 v3:=Tryz.zeroValue3
 t4:=Tryz.underlying4
 a4:=Tryz.isAgg4
 z4:=Tryz.sizeOf4
 v4:=Tryz.zeroValue4
 t9:=Tryz.underlying9
 a9:=Tryz.isAgg9
 z9:=Tryz.sizeOf9
 v9:=Tryz.zeroValue9}
open Go.RowKit Go.Lib in
theorem Tryz.strings_HasPrefix (s p:ByteArray) (w:World):
  Calls Tryz.prog 108 #[.string s,.string p] w λe w'=>e= .returned (.bool<|Lib.hasPrefix s.data.toList p.data.toList)/\w'=w:=Any.strings_HasPrefix Tryz.apF s p w
def Tryz.apG:Go.Shelf.Ren:=⟨fun|101=>176|208=>203|206=>138|n=>n,fun|9=>9|4=>4|3=>3|n=>n,fun|n=>n⟩
theorem Tryz.apH:Go.Proofs.Lays.n101 Tryz.prog Tryz.apG:={
 mixed:=by kernel_rfl
 f101:=Tryz.func176.trans (congrArg some<|by kernel_rfl)
 f206:=Tryz.func138.trans (congrArg some<|by kernel_rfl)
 f208:=Tryz.func203.trans (congrArg some<|by kernel_rfl)
 t3:=Tryz.underlying3
 a3:=Tryz.isAgg3
 z3:=Tryz.sizeOf3
 v3:=Tryz.zeroValue3
 t4:=Tryz.underlying4
 a4:=Tryz.isAgg4
 z4:=Tryz.sizeOf4
 v4:=Tryz.zeroValue4
 t9:=Tryz.underlying9
 a9:=Tryz.isAgg9
 z9:=Tryz.sizeOf9
 v9:=Tryz.zeroValue9}
open Go.RowKit Go.Lib in
theorem Tryz.strings_TrimPrefix (s p:ByteArray) (w:World):
  Calls Tryz.prog 176 #[.string s,.string p] w λe w'=>e= .returned (.string ⟨(Lib.trimPrefix s.data.toList p.data.toList).toArray⟩)/\w'=w:=Any.strings_TrimPrefix Tryz.apH s p w
def Tryz.apI:Go.Shelf.Ren:=⟨fun|212=>200|263=>214|264=>215|n=>n,fun|46=>204|51=>215|146=>216|53=>218|148=>219|n=>n,fun|n=>n⟩
theorem Tryz.apJ:Go.Proofs.Lays.n212 Tryz.prog Tryz.apI:={
 mixed:=by kernel_rfl
 f212:=Tryz.func200.trans (congrArg some<|by kernel_rfl)
 f263:=Tryz.func214.trans (congrArg some<|by kernel_rfl)
 f264:=Tryz.func215.trans (congrArg some<|by kernel_rfl)
 t46:=Tryz.underlying204
 a46:=Tryz.isAgg204
 z46:=Tryz.sizeOf204
 v46:=Tryz.zeroValue204
 t51:=Tryz.underlying215
 a51:=Tryz.isAgg215
 z51:=Tryz.sizeOf215
 v51:=Tryz.zeroValue215
 t53:=Tryz.underlying218
 a53:=Tryz.isAgg218
 z53:=Tryz.sizeOf218
 v53:=Tryz.zeroValue218
 t146:=Tryz.underlying216
 a146:=Tryz.isAgg216
 z146:=Tryz.sizeOf216
 v146:=Tryz.zeroValue216
 t148:=Tryz.underlying219
 a148:=Tryz.isAgg219
 z148:=Tryz.sizeOf219
 v148:=Tryz.zeroValue219}
open Go.RowKit Go.Lib in
theorem Tryz.bits_Mul (x y:Nat) (a:x<18446744073709551616) (b:y<18446744073709551616) (w:World):
  Calls Tryz.prog 200 #[.int .u64 x,.int .u64 y] w λe w'=>e= .returned (.tuple #[.int .u64 ((x*y/18446744073709551616:Nat):Int),.int .u64 ((x*y%18446744073709551616:Nat):Int)])/\w'=w:=Any.bits_Mul Tryz.apJ x y a b w
def Tryz.aaQ:Go.Shelf.Ren:=⟨fun|166=>105|240=>136|276=>180|n=>n,fun|70=>97|3=>3|0=>0|4=>4|9=>9|20=>20|72=>99|37=>22|164=>188|5=>5|75=>121|80=>63|n=>n,fun|n=>n⟩
theorem Tryz.aaR:Go.Proofs.Lays.n166 Tryz.prog Tryz.aaQ:={
 mixed:=by kernel_rfl
 f166:=Tryz.func105.trans (congrArg some<|by kernel_rfl)
 f240:=Tryz.func136.trans (congrArg some<|by kernel_rfl)
 f276:=Tryz.func180.trans (congrArg some<|by kernel_rfl)
 t0:=Tryz.underlying0
 a0:=Tryz.isAgg0
 z0:=Tryz.sizeOf0
 v0:=Tryz.zeroValue0
 t3:=Tryz.underlying3
 a3:=Tryz.isAgg3
 z3:=Tryz.sizeOf3
 v3:=Tryz.zeroValue3
 t4:=Tryz.underlying4
 a4:=Tryz.isAgg4
 z4:=Tryz.sizeOf4
 v4:=Tryz.zeroValue4
 t9:=Tryz.underlying9
 a9:=Tryz.isAgg9
 z9:=Tryz.sizeOf9
 v9:=Tryz.zeroValue9
 t20:=Tryz.underlying20
 a20:=Tryz.isAgg20
 z20:=Tryz.sizeOf20
 v20:=Tryz.zeroValue20
 t37:=Tryz.underlying22
 a37:=Tryz.isAgg22
 z37:=Tryz.sizeOf22
 v37:=Tryz.zeroValue22
 t70:=Tryz.underlying97
 a70:=Tryz.isAgg97
 z70:=Tryz.sizeOf97
 v70:=Tryz.zeroValue97
 t72:=Tryz.underlying99
 a72:=Tryz.isAgg99
 z72:=Tryz.sizeOf99
 v72:=Tryz.zeroValue99
 t164:=Tryz.underlying188
 a164:=Tryz.isAgg188
 z164:=Tryz.sizeOf188
 v164:=Tryz.zeroValue188
 t75:=Tryz.underlying121
 a75:=Tryz.isAgg121
 z75:=Tryz.sizeOf121
 v75:=Tryz.zeroValue121}
theorem Tryz.aaS:Builder.Extra Tryz.prog Tryz.aaQ:={
 sizeBuilder:=by kernel_rfl
 liesBuilder:=by kernel_rfl
 t5:=Tryz.underlying5
 a5:=Tryz.isAgg5
 z5:=Tryz.sizeOf5
 v5:=Tryz.zeroValue5
 infoByte:=by kernel_rfl
 cellsByte:=by kernel_rfl
 sizeByte:=by kernel_rfl
 neB5:=by decide}
open Go.RowKit in
theorem Tryz.Builder_WriteString_f (B b:Nat) (bs:List Value) (s:ByteArray) (w:World) (h:Lib.IsBuilderF 99 5 B b bs w) (a:bs.length+s.size<=140737488355328) (c:B<=w.heap.size):
  Calls Tryz.prog 105 #[.pointer<|some ⟨b,0,none⟩,.string s] w λe w'=>e= .returned (.tuple #[.int .i64 s.size,.nilIface])/\(Lib.BuilderAtF 99 5 B b (.pointer<|some ⟨b,0,none⟩) (bs++Lib.strCells s) w'/\Below B w w'):=Any.Builder_WriteString_f Tryz.aaR Tryz.aaS B b bs s w h a c
def Tryz.aaT:Go.Shelf.Ren:=⟨fun|167=>106|240=>136|276=>180|n=>n,fun|70=>97|3=>3|0=>0|4=>4|9=>9|20=>20|72=>99|37=>22|164=>188|5=>5|75=>121|80=>63|n=>n,fun|n=>n⟩
theorem Tryz.apK:Go.Proofs.Lays.n167 Tryz.prog Tryz.aaT:={
 mixed:=by kernel_rfl
 f167:=Tryz.func106.trans (congrArg some<|by kernel_rfl)
 f240:=Tryz.func136.trans (congrArg some<|by kernel_rfl)
 f276:=Tryz.func180.trans (congrArg some<|by kernel_rfl)
 t0:=Tryz.underlying0
 a0:=Tryz.isAgg0
 z0:=Tryz.sizeOf0
 v0:=Tryz.zeroValue0
 t4:=Tryz.underlying4
 a4:=Tryz.isAgg4
 z4:=Tryz.sizeOf4
 v4:=Tryz.zeroValue4
 t5:=Tryz.underlying5
 a5:=Tryz.isAgg5
 z5:=Tryz.sizeOf5
 v5:=Tryz.zeroValue5
 t9:=Tryz.underlying9
 a9:=Tryz.isAgg9
 z9:=Tryz.sizeOf9
 v9:=Tryz.zeroValue9
 t20:=Tryz.underlying20
 a20:=Tryz.isAgg20
 z20:=Tryz.sizeOf20
 v20:=Tryz.zeroValue20
 t37:=Tryz.underlying22
 a37:=Tryz.isAgg22
 z37:=Tryz.sizeOf22
 v37:=Tryz.zeroValue22
 t70:=Tryz.underlying97
 a70:=Tryz.isAgg97
 z70:=Tryz.sizeOf97
 v70:=Tryz.zeroValue97
 t72:=Tryz.underlying99
 a72:=Tryz.isAgg99
 z72:=Tryz.sizeOf99
 v72:=Tryz.zeroValue99
 t75:=Tryz.underlying121
 a75:=Tryz.isAgg121
 z75:=Tryz.sizeOf121
 v75:=Tryz.zeroValue121
 t164:=Tryz.underlying188
 a164:=Tryz.isAgg188
 z164:=Tryz.sizeOf188
 v164:=Tryz.zeroValue188}
theorem Tryz.apL:Builder.Extra Tryz.prog Tryz.aaT:={
 sizeBuilder:=by kernel_rfl
 liesBuilder:=by kernel_rfl
 t5:=Tryz.underlying5
 a5:=Tryz.isAgg5
 z5:=Tryz.sizeOf5
 v5:=Tryz.zeroValue5
 infoByte:=by kernel_rfl
 cellsByte:=by kernel_rfl
 sizeByte:=by kernel_rfl
 neB5:=by decide}
open Go.RowKit in
theorem Tryz.Builder_WriteByte_k (B b:Nat) (bs:List Value) (c:Int) (w:World) (h:Lib.IsBuilderF 99 5 B b bs w) (a:bs.length+1<=140737488355328) (d:B<=w.heap.size):
  Calls Tryz.prog 106 #[.pointer<|some ⟨b,0,none⟩,.int .u8 c] w λe w'=>e= .returned .nilIface/\(Lib.BuilderAtF 99 5 B b (.pointer<|some ⟨b,0,none⟩) (bs++[.int .u8 c]) w'/\Below B w w'/\Lib.OthersKept 5 (some b) w w'):=Any.Builder_WriteByte_k Tryz.apK Tryz.apL B b bs c w h a d
open Go.RowKit in
theorem Tryz.Builder_WriteString_k (B b:Nat) (bs:List Value) (s:ByteArray) (w:World) (h:Lib.IsBuilderF 99 5 B b bs w) (a:bs.length+s.size<=140737488355328) (c:B<=w.heap.size):
  Calls Tryz.prog 105 #[.pointer<|some ⟨b,0,none⟩,.string s] w λe w'=>e= .returned (.tuple #[.int .i64 s.size,.nilIface])/\(Lib.BuilderAtF 99 5 B b (.pointer<|some ⟨b,0,none⟩) (bs++Lib.strCells s) w'/\Below B w w'/\Lib.OthersKept 5 (some b) w w'):=Any.Builder_WriteString_k Tryz.aaR Tryz.aaS B b bs s w h a c
end Go.Proofs
namespace Go.Proofs.YtcildnfcpkpomaaGreatDoor
open Go
variable {L:List Nat} {w w':World} {B b i:Nat} {v:Value} {ps:List cM} {l:aj} {xs:List aj}
theorem apM (s p:aj) (w:World):bz Tryz.prog 108 [str s,str p] w λv w'=>v= .bool (Lib.hasPrefix s p)/\w=w':=
 ⟨rB.mk' Tryz.func108 rfl aeK,Calls.mono (Tryz.strings_HasPrefix ⟨s.toArray⟩ ⟨p.toArray⟩ w) λe w' ⟨a,b⟩=>⟨_,a,sm,b.symm⟩⟩
theorem apN (s p:aj) (w:World):bz Tryz.prog 176 [str s,str p] w λv w'=>v=str (Lib.trimPrefix s p)/\w=w':=
 ⟨rB.mk' Tryz.func176 rfl afQ,Calls.mono (Tryz.strings_TrimPrefix ⟨s.toArray⟩ ⟨p.toArray⟩ w) λe w' ⟨a,b⟩=>⟨_,a,by simp[str],b.symm⟩⟩
theorem apO (w:World) (o:Obj) (a:Addr) (n:Nat) (b:a.block=w.heap.size):ak [] w ((w.alloc o).freeze a n):=by
 unfold World.freeze;split
 .exact ak.alloc [] w o
 .refine⟨rfl,rfl,rfl,?_,λk hk _=>?_⟩
  .show w.heap.size<=Array.size (Array.modify (w.alloc o).heap _ _);rw[Array.size_modify];exact(ak.alloc [] w o).size
  .show(Array.modify (w.alloc o).heap _ _)[k]?=_;rw[Array.getElem?_modify,iN (by rw[b];omega)];exact(ak.alloc [] w o).block k hk sm
theorem apP (w:World) (e:TypeId) (s:ByteArray):ak [] w (Lib.bytesWorld w e s):=
 (ak.drew [] w).trans (apO _ _ _ _ rfl)
theorem apQ (s:aj) {z:Int} (h:numeral s=some z) (w:World):bz Tryz.prog 178 [str s] w λv w'=>v= .tuple #[.int .i64 z,.nilIface]/\ak [] w w':=
 ⟨rB.mk' Tryz.func178 rfl afS,Calls.mono (Tryz.strconv_Atoi ⟨s.toArray⟩ z (by have:=UM h;simp[ByteArray.size];omega) (by simpa using adB h) w) λe w' ⟨a,t,b⟩=>⟨_,a,rfl,by rw[b];exact apP _ _ _⟩⟩
theorem NK (a b c:Int) (w:World):bz Tryz.prog 62 [.int .i64 a,.int .i64 b,.int .i64 c] w λv w'=>v= .bool (decide (b<=a)&&decide (a<=c))/\w=w':=by refine bY [.tmp 6] 15 Tryz.func62 rfl agP rfl rfl ?_;refine W ?_;apply oB 4 10 14 rfl oQ;intro _;exact oQ;intro _;refine W ?_;exact⟨_,rfl,rfl,rfl⟩
theorem apR (c:UInt8) (w:World):bz Tryz.prog 109 [.int .u8 c.toNat] w λv w'=>v= .bool (fm c)/\w=w':=by refine bY [.tmp 2] 33 Tryz.func109 rfl aeL rfl rfl ?_;refine W ?_;apply oB 3 5 8 rfl oQ;intro _;exact oQ;intro a;refine WZ ?_;apply oP 7 9 16 rfl oQ;intro _;refine WZ ?_;apply oB 3 12 15 rfl oQ;intro _;exact oQ;intro a;exact oQ;intro a;refine WZ ?_;apply oP 3 17 20 rfl oQ;intro _;exact oQ;intro a;refine WZ ?_;apply oP 3 21 24 rfl oQ;intro _;exact oQ;intro a;refine WZ ?_;apply oP 3 25 28 rfl oQ;intro _;exact oQ;intro a;refine WZ ?_;apply oP 3 29 32 rfl oQ;intro _;exact oQ;intro a;refine W ?_;exact⟨_,rfl,congrArg Value.bool (T1 c),rfl⟩
theorem apS (s:aj) (j:s.length<9223372036854775807) (w:World):bz Tryz.prog 177 [str s] w λv w'=>v= .bool (s.all jb)/\w=w':=by
 refine bY [.tmp 2] 20 Tryz.func177 rfl afR rfl rfl ?_;refine W ?_;refine ey (λk:Nat=>[(0,str s),(5,.int .i64 (s.length:Int)),(6,.int .i64 (k:Int))]) (λk w'=>w'=w/\k<=s.length/\(s.take k).all jb=true) (λk=>s.length-k) (0) (⟨rfl,rfl,rfl⟩) (⟨rfl,om,sm⟩) λe _ _ g=>?_;obtain⟨rfl,hk,b⟩:=g;refine W ?_;refine zc rfl (λf=>?_) λf=>?_;have a:e<s.length:=by omega
 refine W ?_;refine kR jh rfl rfl rfl rfl (jP a)<|WZ ?_;apply oP 5 13 18 rfl oQ;intro _;refine zm<|zm<|kR jh rfl rfl rfl rfl (jP a) ?_;exact oQ;intro _;refine aV<|zc rfl (λc=>?_) λc=>?_;have d:s.all jb=false:=adE a<|Ur c;refine W ?_;exact⟨_,rfl,by rw[d];rfl,rfl⟩;have i:=Us c;refine W ?_;exact⟨e+1,⟨rfl,rfl,rfl⟩,⟨rfl,om,by rw[Ox a,List.all_append,b];simp only[List.all_cons,i.2.2];rfl⟩,om⟩;have d:s.all jb=true:=by rw[List.take_of_length_le om] at b;exact b
 refine W ?_;exact⟨_,rfl,by rw[d];rfl,rfl⟩
theorem Sm (s:aj) (d:s.length<9223372036854775807) (w:World):bz Tryz.prog 133 [str s] w λv w'=>v= .bool (numeral s).isSome/\w=w':=by
 have c:(eZ s).length<=s.length:=by unfold eZ;split<;>simp
 refine bY [.tmp 2] 22 Tryz.func133 rfl afc rfl rfl ?_;refine W ?_;refine aA (apN _ _ _) ?_;rintro _ _ ⟨rfl,rfl⟩;refine W ?_;rw[adz];apply oP 13 8 21 rfl oQ;intro _;refine W ?_;refine aA (NK _ _ _ _) ?_;rintro _ _ ⟨rfl,rfl⟩;refine WZ ?_;apply oB 3 12 15 rfl oQ;intro _;refine zm<|aA (apS _ om _) ?_;rintro _ _ ⟨rfl,rfl⟩;exact oQ;intro a;refine WZ ?_;apply oB 4 16 20 rfl oQ;intro b;simp at b;refine zm<|kR (i:=0) jh rfl rfl rfl rfl (jP om) ?_;exact oQ;intro a;exact oQ;intro a;refine W ?_;exact⟨_,rfl,show Value.bool _=Value.bool _ from congrArg _<|adF s,rfl⟩
theorem Km (s:aj) {z:Int} (h:numeral s=some z) (w:World):bz Tryz.prog 134 [str s] w λv w'=>v= .int .i64 z/\ak [] w w':=by have a:=ak.refl [] w;refine bY [.tmp 2] 11 Tryz.func134 rfl afd rfl rfl ?_;refine W ?_;refine aA (apQ s h w) ?_;rintro _ _ ⟨rfl,b⟩;have c:=b.size;have a:=a.ext b;refine W ?_;exact⟨_,rfl,rfl,a⟩
theorem apT (s:aj) (f:s.length<9223372036854775807) (w:World):bz Tryz.prog 132 [str s] w λv w'=>v= .bool (qL s)/\ak [] w w':=by
 have b:=ak.refl [] w;refine bY [.tmp 2] 10 Tryz.func132 rfl afb rfl rfl ?_;refine W ?_;refine aA (Sm s f _) ?_;rintro _ _ ⟨rfl,rfl⟩;refine WZ ?_;apply oA 4 5 9 (ak [] w) rfl oQ;intro e;obtain⟨z,c⟩:=Option.isSome_iff_exists.1 e;have d:z=(numeral s).getD 0:=by rw[c];rfl
 refine zm<|aA (Km s c w) ?_;rintro _ g ⟨rfl,a⟩;have i:=a.size;rw[d];refine aA (NK _ _ _ _) ?_;rintro _ _ ⟨rfl,rfl⟩;exact oQ;intro _ g a;have b:=b.ext a;refine W ?_;exact⟨_,rfl,show Value.bool _=Value.bool _ from congrArg _<|adD s,b⟩
theorem aaU (s:aj) (i:s.length<9223372036854775807) (w:World):bz Tryz.prog 97 [str s] w λr w'=>r= .bool (oZ s)/\w=w':=by refine bY [.tmp 2] 35 Tryz.func97 rfl ahm rfl rfl ?_;refine W ?_;refine ey (λk:Nat=>[(0,str s),(6,.int .i64 (s.length:Int)),(7,.int .i64 (k:Int))]) (λk w'=>w'=w/\k<=s.length/\∀j,j<k->DS s j=true) (λk=>s.length-k) (0) (⟨rfl,rfl,rfl⟩) (⟨rfl,om,by intro j g;omega⟩) λd _ _ f=>?_;obtain⟨rfl,hk,c⟩:=f;refine W ?_;refine zc rfl (λe=>?_) λe=>?_;refine W ?_;refine kR jh rfl rfl rfl rfl (jP om)<|W ?_;apply oB 3 15 18 rfl oQ;intro _;exact oQ;intro b;refine WZ ?_;apply oP 11 19 30 rfl oQ;intro _;refine WZ ?_;apply oB 3 22 25 rfl oQ;intro _;exact oQ;intro b;refine WZ ?_;apply oB 3 26 29 rfl oQ;intro _;exact oQ;intro b;exact oQ;intro b;refine j4 rfl rfl rfl<|aV<|zc rfl (λa=>?_) λa=>?_;rw[K7] at a;refine W ?_;exact⟨_,rfl,by rw[Un om a];rfl,rfl⟩;rw[K7] at a;refine W ?_;exact⟨d+1,⟨rfl,rfl,rfl⟩,⟨rfl,om,Up c a⟩,om⟩;refine W ?_;exact⟨_,rfl,by rw[Uo λj g=>c j om];rfl,rfl⟩
theorem FF (t:aq) (v:Value) (L:List Nat) (w:World) (e:bg L w v t):bz Tryz.prog 81 [v] w λr w'=>r= .bool (decide<|t.ag.length=0)/\ak [] w w':=by obtain⟨a,n,c,rfl,_,_⟩:=cY e;have b:=ak.refl [] w;refine bY [.tmp 2] 7 Tryz.func81 rfl ag7 rfl rfl ?_;refine zr<|eJ rfl λ_ d _ _=>?_;have b:=b.ext d;refine W ?_;exact⟨_,rfl,show Value.bool _=Value.bool _ from congrArg _<|decide_eq_decide.2 om,b⟩
theorem vF (t:aq) (u:WF t) (v:Value) (L:List Nat) (w:World) (p:bg L w v t):bz Tryz.prog 45 [v] w λr w'=>r=str (bA t)/\ak [] w w':=by
 have g:=p;obtain⟨a,n,c,rfl,z,e⟩:=cY p;have d:=ak.refl [] w;refine bY [.tmp 2] 10 Tryz.func45 rfl agA rfl rfl ?_;refine zr<|eJ rfl λA s l _=>cN s d e g λd e g=>?_;refine W ?_;refine aA (FF t _ L A g) ?_;rintro _ _ ⟨rfl,m⟩;have B:=m.size;refine cN m d e l λd e l=>?_;refine aV<|zc rfl (λo=>?_) λo=>?_;have j:bA t=[]:=DT (.inr<|List.length_eq_zero_iff.1 o);refine W ?_;exact⟨_,rfl,by rw[j];rfl,d⟩;have f:0<t.ag.length:=by omega
 have y:t.au=[]:=Classical.byContradiction (λh=>by have:=u.leaf h;rw[this] at f;exact absurd f de);have q:=et f;have j:bA t=(nth t.ag 0).au:=Im y q;obtain⟨b,_,_,_,_,rfl,_,_,_⟩:=gX e q;refine WI ?_;refine zi (i:=0) iF bZ rfl rfl (by rw[z];exact f)<|W ?_;exact⟨_,rfl,by rw[j];rfl,d⟩
theorem apU (t:aq) (j:WF t) (h:aj) (k:Int) (v:Value) (L:List Nat) (w:World) (f:bg L w v t):
  bz Tryz.prog 46 [v,str h,.int .i64 k] w λr w'=>r= .bool (decide ((t.ag.length:Int)=k)&&decide (bA t=h))/\ak [] w w':=by
 have e:=f;obtain⟨a,n,c,rfl,l,_⟩:=cY f;have b:=ak.refl [] w;subst l;refine bY [.tmp 6] 18 Tryz.func46 rfl agB rfl rfl ?_;refine zr<|eJ rfl λg i _ _=>bK i b e λb e=>?_;refine W ?_;apply oA 5 12 17 (ak [] g) rfl oQ;intro _;refine W ?_;refine aA (vF t j _ L g e) ?_;rintro _ m ⟨rfl,d⟩;have o:=d.size;exact oQ;intro _ m d;have b:=b.ext d;refine W ?_;exact⟨_,rfl,rfl,b⟩
theorem apV (d:List aq) (y:d.length<1000000000) (g:aq->Bool) (f:FuncId) (e:List Value) (v:Value) (L:List Nat) (w:World) (m:cX L w v d) 
  (C:∀i,i<d.length->∀(u:Value) (w':World),ak [] w w'->bg L w' u (nth d i)->bz Tryz.prog f (u::e) w' λr q=>r= .bool (g<|nth d i)/\ak [] w' q):
  bz Tryz.prog 199 [v,.func (.func f) #[] e.toArray] w λr w'=>r= .int .i64 (DU d g)/\ak [] w w':=by
 obtain⟨a,c,rfl,_⟩:=tl m;have H:(dj d).length=d.length:=iE d;have j:=ak.refl [] w;refine bY [.tmp 4] 19 Tryz.func199 rfl af8 rfl rfl ?_;refine W ?_;refine ey (λk:Nat=>[(0,.slice a (dj d).length c),(1,.func (.func f) #[] e.toArray),(7,.int .i64 ((dj d).length:Int)),(8,.int .i64 (k:Int))]) (λk w'=>ak [] w w'/\k<=d.length/\∀i,i<k->g (nth d i)=false) (λk=>d.length-k) (0) (⟨rfl,rfl,rfl,rfl⟩) (⟨j,om,by intro i t;omega⟩) λl E _ B=>?_;obtain⟨j,hk,n⟩:=B;have m:=m.ext j;refine W ?_;refine zc rfl (λA=>?_) λA=>?_;have D:=et (ps:=d) (i:=l) om;obtain⟨b,_,_,_,_,rfl,_,_,z⟩:=gX m D;refine W ?_;refine Ij rfl rfl rfl (C l om _ E j<|kq z) ?_;rintro _ _ ⟨rfl,s⟩;have F:=s.size;have j:=j.ext s;refine aV<|zc rfl (λo=>?_) λo=>?_;have p:=adG om n o;refine W ?_;exact⟨_,rfl,by rw[p];rfl,j⟩;refine W ?_;exact⟨l+1,⟨rfl,rfl,rfl,rfl⟩,⟨j,om,by intro i t;rcases Nat.lt_or_ge i l with h|h;exact n i h;rw[show i=l by omega];exact o⟩,om⟩;have p:=adH λi t=>n i om;refine W ?_;exact⟨_,rfl,by rw[p];rfl,j⟩
theorem apW (b:List aq) (c:b.length<1000000000) (g:aq->Bool) (f:FuncId) (a:List Value) (v:Value) (L:List Nat) (w:World) (m:cX L w v b) 
  (l:∀i,i<b.length->∀(u:Value) (w':World),ak [] w w'->bg L w' u (nth b i)->bz Tryz.prog f (u::a) w' λr e=>r= .bool (g<|nth b i)/\ak [] w' e):
  bz Tryz.prog 173 [v,.func (.func f) #[] a.toArray] w λr w'=>r= .bool (b.any g)/\ak [] w w':=by
 have d:=ak.refl [] w;refine bY [.tmp 4] 9 Tryz.func173 rfl afN rfl rfl ?_;refine W ?_;refine aA (apV b c g f a _ L w m l) ?_;rintro _ _ ⟨rfl,j⟩;have n:=j.size;have d:=d.ext j;refine W ?_;exact⟨_,rfl,congrArg Value.bool<|adI b g,d⟩
def aaV (m:Nat):Prop:=∀(t:aq),t.size<=m->t.size<=100000->WF t->∀(a:Bool) (v:Value) (L:List Nat) (w:World),bg L w v t->
  bz Tryz.prog 130 [v,.bool a,.bool false] w λr w'=>r= .bool (fY a t)/\ak [] w w'
theorem apX {m:Nat} (u:aaV m) (t:aq) (h:t.size<=m) (s:t.size<=100000) (q:WF t) (b:Bool) (j l:Nat) (v:Value) (L:List Nat) (w:World) (o:bg L w v t) 
  (g:aK w j #[.bool b] 4) (f:aK w l #[.bool false] 4):
  bz Tryz.prog 174 [v,.pointer<|some ⟨j,0,none⟩,.pointer (some ⟨l,0,none⟩)] w λr w'=>r= .bool (!fY b t)/\ak [] w w':=by
 have e:=o;obtain⟨a,n,c,rfl,_,_⟩:=cY o;have d:=ak.refl [] w;refine bY [.tmp 4] 10 Tryz.func174 rfl afO rfl rfl ?_;refine zr<|eJ rfl λy p _ _=>gN p d e g f λd e g f=>?_;refine W ?_;refine aA (u t h s q b _ L y e) ?_;rintro _ _ ⟨rfl,i⟩;have z:=i.size;have d:=d.ext i;refine W ?_;exact⟨_,rfl,rfl,d⟩
theorem apY {a n c:Nat} {g:List aq} (h:cX L w (.slice (some ⟨b,a,none⟩) n c) g) (k:Nat) (p:Prop) (o:p->k<g.length):
  ∃d f e,K2 p w b (a+k*2) [str (nth g k).au,.slice d f e]/\K3 p L w (.slice d f e) (nth g k).ag:=by
 by_cases i:p
 .obtain⟨_,_,d,f,e,m,q,_,l⟩:=gX h (et<|o i);cases m;exact⟨d,f,e,λ_=>q,λ_=>l⟩
 .exact⟨none,0,0,λj=>absurd j i,λj=>absurd j i⟩
theorem aaW (a:List aq) (k i:Nat):nth (a.drop k) i=nth a (i+k):=by simp[nth,List.getD,List.getElem?_drop,Nat.add_comm]
theorem ap0 (a:List aq) (f:aq->Bool):(!a.any λu=>!f u)=a.all f:=by
 induction a with
 |nil=>rfl
 |cons t r b=>simp only[List.any_cons,List.all_cons,Bool.not_or,Bool.not_not,b]
theorem Sn:∀m,aaV m:=by
 intro m;induction m with
 |zero=>intro t h;have:=ow t;omega
 |succ m T=>
  intro t _ _ A e v L w S;have g:=S;obtain⟨a,n,c,rfl,_,f⟩:=cY S;have d:=ak.refl [] w;have nU:=ow t;refine bY [.tmp 6] 53 Tryz.func130 rfl ae9 rfl rfl ?_;refine zr<|eJ rfl λO aI j _=>cN aI d f g λd f g=>?_;refine Od rfl rfl rfl λF aw r _=>gN aw d f g j λd f g j=>?_;refine Od rfl rfl rfl λw3 Z o _=>kJ Z d f g j r λd f g j r=>?_;refine W ?_;refine aA (FF t _ L w3 g) ?_;rintro _ w4 ⟨rfl,P⟩;have gv:=P.size;refine uV P d f g j r o λd f g j r o=>?_;refine aV<|zc rfl (λh1=>?_) λh1=>?_;have y:t.au≠[]:=λh=>by have:=A.pos h;omega
  refine WZ ?_;apply oP 7 12 19 rfl oQ;intro _;refine WZ ?_;apply oB 4 14 18 rfl oQ;intro _;refine WZ ?_;exact oQ;intro Y;exact oQ;intro Y;refine WZ ?_;apply oP 7 20 27 rfl oQ;intro _;refine zl IE rfl (o.at rfl)<|zm<|DC (t:=22) (b:=false) rfl ?_;exact oQ;intro Y;refine W ?_;exact⟨_,rfl,show Value.bool _=Value.bool _ from congrArg _<|by rw[Uv y,Bool.or_false],d⟩;have z:0<t.ag.length:=by omega
  have y:t.au=[]:=Classical.byContradiction (λh=>by have:=A.leaf h;rw[this] at z;exact absurd z de);have U:=et z;have E:bA t=(nth t.ag 0).au:=Im y U;refine W ?_;refine aA (vF t A _ L w4 g) ?_;rintro _ X ⟨rfl,Q⟩;have nT:=Q.size;refine kJ Q d f j r o λd f j r o=>?_;obtain⟨b,_,_,_,_,rfl,_,_,_⟩:=gX f U;refine W ?_;refine zc rfl (λJ=>?_) λJ=>?_;have he:(nth t.ag 0).au=[101]:=E.symm.trans J;have o:aK X F.heap.size #[.bool false] 4:=o;obtain⟨_,_,_,N,H⟩:=apY f 1 ((n:Int)=2) λh=>om;refine j1<|DZ [32,33,34,35,36,37,38,39,40,41,42,43,6] [(6,.bool<|decide ((n:Int)=2)&&fY true (nth t.ag 1))] ?_ ?_;rcases bE (decide ((n:Int)=2)) with gZ|gZ;apply kF dk 13 (rA 32 12++[6]) (rA 32 12++[6]) [[],[0],[1],[2],[3],[4],[4,5],[4,6],[4,7],[4],[4,8,9],[4,10],[11]] [It.v _,It.v _,It.v _,It.v _,It.v<|.bool true,It.v _,It.v _,It.v _,It.v _,It.v _,It.v _,It.v _,It.v _] de rfl;intro wd aC;refine VA ?_;refine vc (λx q s=>?_) ?_;refine WZ ?_;exact pv (by exact congrArg Value.bool gZ);refine VA ?_;refine vk aC (λx q s=>?_) ?_;have p:=gZ;refine zi (i:=1) iF bZ rfl rfl (by have:=of_decide_eq_true p;omega) ?_;exact pv;refine vk aC (λx q s=>?_) ?_;have N:=N.ext s;have p:=gZ;refine zL jg bZ rfl (N<|of_decide_eq_true p) rfl ?_;exact pv;refine VA ?_;refine vk aC (λx q s=>?_) ?_;have H:=H.ext s;have p:=gZ;refine aA (T (nth t.ag 1) (by have:=of_decide_eq_true p;have:=kD (t:=t) (i:=1) om;omega) (by have:=of_decide_eq_true p;have:=kD (t:=t) (i:=1) om;omega) (A.nth (by have:=of_decide_eq_true p;omega)) true _ L q<|kq (H<|of_decide_eq_true p)) ?_;rintro _ w7 ⟨rfl,B⟩;have nk:=B.size;exact pk B;exact VZ;intro x V C;change OW _ _ _ _ [] (ba (aZ _ x _) (zZ 32 [_,_,_,_,_,_,_,_,_,_,_,_]++[(6,_)])) _;refine W ?_;exact kE C;apply kF dk 13 (rA 32 12++[6]) (rA 32 12++[6]) [[],[0],[1],[2],[3],[4],[4,5],[4,6],[4,7],[4],[4,8,9],[4,10],[11]] [It.v _,It.v _,It.v _,It.v _,It.v (.bool false),It.v _,It.v _,It.v _,It.v _,It.v _,It.v _,It.v _,It.v _] de rfl;intro wd aC;refine VA ?_;refine vc (λx q s=>?_) ?_;refine WZ ?_;exact pv (by exact congrArg Value.bool gZ);exact VZ;intro x V C;change OW _ _ _ _ [] (ba (aZ _ x _) (zZ 32 [_,_,_,_,_,_,_,_,_,_,_,_]++[(6,_)])) _;refine W ?_;exact kE C;intro x V C;have d:=d.ext C;refine kP<|⟨_,rfl,show Value.bool _=Value.bool _ from congrArg _ ?_,d⟩;rw[OB y z he]
  congr 1
  exact decide_eq_decide.2 om;have dz:(nth t.ag 0).au≠[101]:=λh=>J<|E.trans h;refine W ?_;refine jo (λ_:Unit=>[(3,.pointer<|some ⟨w.heap.size,0,none⟩),(4,.pointer<|some ⟨O.heap.size,0,none⟩),(5,.pointer<|some ⟨F.heap.size,0,none⟩),(44,.bool (decide (bA t=[116])||decide (bA t=[99])))]) (λ_ w'=>w'=X) ?_ ?_;refine zc rfl (λK=>?_) λK=>?_;refine WZ ?_;exact⟨(),⟨rfl,rfl,rfl,congrArg Value.bool<|BN K⟩,rfl⟩;refine W ?_;exact⟨(),⟨rfl,rfl,rfl,congrArg Value.bool<|BO K⟩,rfl⟩;intro _ q _ hI;obtain rfl:=hI;refine zc rfl (λM=>?_) λM=>?_;have D:=BP M;rw[E] at D;refine W ?_;refine DB (l:=1) iF bZ rfl rfl rfl rfl om f λwV I=>?_;have I:cX L q wV (t.ag.drop 1):=by rw[cX,KZ];exact I
  refine Ov (vs:=[.pointer<|some ⟨O.heap.size,0,none⟩,.pointer (some ⟨F.heap.size,0,none⟩)]) rfl rfl rfl<|aA (apW (t.ag.drop 1) (by rw[List.length_drop];omega) (λu=>!fY e u) 174 [.pointer<|some ⟨O.heap.size,0,none⟩,.pointer (some ⟨F.heap.size,0,none⟩)] _ L q I λi hi u w' k R=>by rw[List.length_drop] at hi;rw[aaW] at R⊢;exact apX T (nth t.ag<|i+1) (by have:=kD (t:=t) (i:=i+1) om;omega) (by have:=kD (t:=t) (i:=i+1) om;omega) (A.nth om) e _ _ _ L _ R (r.ext k)<|o.ext k) ?_;rintro _ w7 ⟨rfl,B⟩;have nk:=B.size;have d:=d.ext B;refine W ?_;exact⟨_,rfl,show Value.bool _=Value.bool _ from congrArg _<|by rw[OC y z D,ap0],d⟩;have D:=BQ M;rw[E] at D;refine W ?_;exact⟨_,rfl,by rw[Uw y z dz D];rfl,d⟩
theorem FH {a b:World} (h:ak [] w a) (k:RowKit.Below w.heap.size a b):ak [] w b:=
 ⟨k.os.trans h.os,k.tape.trans h.tape,k.output.trans h.output,Nat.le_trans h.size k.size,λi c d=>(k.block i c).trans<|h.block i c d⟩
theorem ap1 (x y:Nat) (h:x*y<18446744073709551616) (c:x<18446744073709551616) (d:y<18446744073709551616) (w:World):
  bz Tryz.prog 200 [.int .u64 x,.int .u64 y] w λv w'=>v= .tuple #[.int .u64 0,.int .u64 ((x*y:Nat):Int)]/\w=w':=
 ⟨rB.mk' Tryz.func200 rfl af9,Calls.mono (Tryz.bits_Mul x y c d w) λ_ _ ⟨a,b⟩=>⟨_,a,by rw[Nat.div_eq_of_lt h,Nat.mod_eq_of_lt h];rfl,b.symm⟩⟩
theorem ap2 (B b n:Nat) (w:World) (c:B<=b) (a:aK w b #[.pointer none,.slice none 0 0] 99) (f:B<=w.heap.size) (e:n<=281474976710656):
  bz Tryz.prog 201 [.pointer<|some ⟨b,0,none⟩,.int .i64 n] w λv w'=>v= .tuple #[]/\Lib.IsBuilderF 99 5 B b (Lib.byteCells []) w'/\RowKit.Below B w w':=
 ⟨rB.mk' Tryz.func201 rfl aga,Calls.mono (Tryz.Builder_Grow_fresh B b n w c a f e) λ_ _ ⟨d,hb,hk⟩=>⟨_,d,rfl,.inr<|Lib.BuilderAtF.of hb,hk⟩⟩
theorem aaX (B b:Nat) (l s:aj) (w:World) (h:Lib.IsBuilderF 99 5 B b (Lib.byteCells l) w) (a:l.length+s.length<=140737488355328) (e:B<=w.heap.size):
  bz Tryz.prog 105 [.pointer<|some ⟨b,0,none⟩,str s] w λv w'=>(∃u,v=u)/\Lib.IsBuilderF 99 5 B b (Lib.byteCells<|l++s) w'/\RowKit.Below B w w':=
 ⟨rB.mk' Tryz.func105 rfl Vl,Calls.mono (Tryz.Builder_WriteString_f B b _ ⟨s.toArray⟩ w h (by rw[Lib.byteCells_length];simpa[ByteArray.size] using a) e) λ_ _ ⟨d,hb,hk⟩=>⟨_,d,⟨_,rfl⟩,.inr (by have c:Lib.byteCells (l++s)=Lib.byteCells l++Lib.strCells ⟨s.toArray⟩:=by{simp[Lib.byteCells,Lib.strCells]};rw[c];exact hb),hk⟩⟩
theorem So (B b:Nat) (l:aj) (w:World) (h:Lib.IsBuilderF 99 5 B b (Lib.byteCells l) w):
  bz Tryz.prog 202 [.pointer (some ⟨b,0,none⟩)] w λv w'=>v= .int .i64 (l.length:Int)/\w=w':=
 ⟨rB.mk' Tryz.func202 rfl agb,Calls.mono (Tryz.Builder_Len_f B b _ w h) λ_ _ ⟨a,c⟩=>⟨_,a,by rw[Lib.byteCells_length],c.symm⟩⟩
theorem aaY (B b:Nat) (l:aj) (a:l≠[]) (w:World) (h:Lib.IsBuilderF 99 5 B b (Lib.byteCells l) w):
  bz Tryz.prog 77 [.pointer (some ⟨b,0,none⟩)] w λv w'=>v=str l/\Lib.IsBuilderF 99 5 B b (Lib.byteCells l) w'/\RowKit.Below B w w':=
 ⟨rB.mk' Tryz.func77 rfl Vn,Calls.mono (Tryz.Builder_String_f B b l w h a) λ_ _ ⟨c,hb,hk⟩=>⟨_,c,rfl,hb,hk⟩⟩
theorem ap3 (c:Nat) (M:c<=8192) (w:World):bz Tryz.prog 175 [str [115],.int .i64 (c:Int)] w λv w'=>v=str (List.replicate c 115)/\ak [] w w':=by
 have b:=ak.refl [] w;refine bY [.tmp 4] 125 Tryz.func175 rfl afP rfl rfl ?_;refine W ?_;refine zc rfl (λA=>?_) λA=>?_;have z:c=0:=by omega
 refine W ?_;exact⟨_,rfl,by rw[z];rfl,b⟩;refine W ?_;refine zc rfl (λB=>?_) λB=>?_;have t:c=1:=by omega
 refine W ?_;exact⟨_,rfl,by rw[t];rfl,b⟩;refine W ?_;refine zc rfl (λC=>?_) λC=>?_;exfalso;omega;refine W ?_;refine zW yD Lp rfl rfl rfl (show IntKind.u64.wrap (([115]:aj).length:Int)=((1:Nat):Int) from by decide)<|zm<|zW yD Lp rfl rfl rfl (show IntKind.u64.wrap (c:Int)=((c:Nat):Int) from by rw[wrap_u64 _ om om])<|aA (ap1 1 c om om om _) ?_;rintro _ _ ⟨rfl,rfl⟩;refine zm<|zx (i:=0) rfl rfl<|zx (i:=1) rfl rfl<|zA<|zA<|aV<|j1<|zr<|zm<|HX rfl rfl rfl rfl rfl<|zm ?_;apply DD 3 31 34 [31,32,33,34] (λw'=>w=w') rfl;intro f;replace f:=jx f;refine W ?_;exact mg rfl rfl;intro f;replace f:=jx f;refine W ?_;exact mg rfl rfl;rintro _ _ rfl;refine aV<|zc rfl (λj=>?_) λj=>?_;exfalso;simp at j;omega;refine iA<|zr<|zm<|zW Lp yD rfl rfl rfl (show IntKind.i64.wrap ((1*c:Nat):Int)=(c:Int) from by rw[wrap_i64 _ om om];omega)<|W ?_;refine zc rfl (λl=>?_) λl=>?_;exact absurd l de;refine W ?_;refine kR (i:=0) jh rfl rfl rfl rfl (jP de)<|W ?_;refine zc rfl (λm=>?_) λm=>?_;exact absurd m de;refine W ?_;refine zc rfl (λn=>?_) λn=>?_;exact absurd n de;refine W ?_;refine zc rfl (λo=>?_) λo=>?_;exact absurd o de;refine W ?_;refine zc rfl (λg=>?_) λg=>?_;exact absurd g de;refine W ?_;refine zc rfl (λp=>?_) λp=>?_;exact absurd p de;refine W ?_;refine zc rfl (λF=>?_) λF=>?_;exfalso;omega;refine iA<|zr<|du Pg rfl rfl rfl λI s u _=>?_;have b:=b.ext s;refine aV<|zr<|zm<|aA (ap2 w.heap.size w.heap.size c I (lR _) u om om) ?_;rintro _ J ⟨rfl,d,e⟩;have b:=FH b e;refine aV<|zr<|zm<|aA (aaX w.heap.size w.heap.size [] [115] J d sm (by have:=b.size;omega)) ?_;rintro _ _ ⟨_,d,e⟩;have b:=FH b e;refine W ?_;refine ey (λk:Nat=>[(0,str [115]),(7,.int .i64 (c:Int)),(8,.int .i64 (c:Int)),(9,.pointer<|some ⟨w.heap.size,0,none⟩)]) (λk w'=>ak [] w w'/\Lib.IsBuilderF 99 5 w.heap.size w.heap.size (Lib.byteCells<|List.replicate k 115) w'/\1<=k/\k<=c) (λk=>c-k) (1) (⟨rfl,rfl,rfl,rfl⟩) (⟨b,d,om,om⟩) λa q _ D=>?_;obtain⟨b,d,hk,_⟩:=D;have L:=b.size;refine j1<|zr<|aA (So _ _ _ _ d) ?_;rintro _ _ ⟨rfl,rfl⟩;rw[List.length_replicate];refine W ?_;refine zc rfl (λH=>?_) λH=>?_;have K:a<c:=by omega
 refine W ?_;refine aA (So _ _ _ _ d) ?_;rintro _ _ ⟨rfl,rfl⟩;rw[List.length_replicate];refine W ?_;refine aA (So _ _ _ _ d) ?_;rintro _ _ ⟨rfl,rfl⟩;rw[List.length_replicate];refine zm<|ac7 rfl rfl rfl rfl rfl (show(if(c:Int)<(if(a:Int)<(c:Int)-a then(a:Int) else(c:Int)-a) then(c:Int) else(if(a:Int)<(c:Int)-a then(a:Int) else(c:Int)-a))=((min a (c-a):Nat):Int) from by repeat' split<;>omega)<|zA<|aV<|lh<|aA (aaY _ _ _ (by intro h;have:=congrArg List.length h;simp at this;omega) q d) ?_;rintro _ r ⟨rfl,d,e⟩;have b:=FH b e;refine zm<|DA jh rfl rfl rfl (.inl ⟨rfl,rfl⟩) (.inr ⟨_,rfl⟩) om (by rw[List.length_replicate];omega)<|aA (aaX w.heap.size w.heap.size _ _ r d so (by have:=b.size;omega)) ?_;rintro _ _ ⟨_,d,e⟩;have b:=FH b e;refine W ?_;exact⟨a+min a (c-a),⟨rfl,rfl,rfl,rfl⟩,⟨b,by have y:List.replicate a 115++((List.replicate a (115:UInt8)).drop 0).take (min a (c-a)-0)=List.replicate (a+min a (c-a)) 115:=by{rw[List.drop_zero,Nat.sub_zero,List.take_replicate,List.replicate_append_replicate];congr 1;omega};rw[<-y];exact d,om,om⟩,om⟩;have E:a=c:=by omega
 refine W ?_;refine aA (aaY _ _ _ (by intro h;have:=congrArg List.length h;simp at this;omega) q d) ?_;rintro _ r ⟨rfl,d,e⟩;have b:=FH b e;refine W ?_;exact⟨_,rfl,by rw[<-E];rfl,b⟩
theorem aaZ (h:aj) (n:Nat) (M:n<=8000) (w:World):bz Tryz.prog 131 [str h,.int .i64 (n:Int)] w λr w'=>r=str (eA h n)/\ak [] w w':=by have a:=ak.refl [] w;refine bY [.tmp 4] 33 Tryz.func131 rfl afa rfl rfl ?_;refine W ?_;refine zc rfl (λp=>?_) λp=>?_;have b:=p;refine W ?_;exact⟨_,rfl,show str _=str _ from congrArg _<|by rw[eA,iP b],a⟩;have b:=p;refine W ?_;refine jo (λ_:Unit=>[(1,.int .i64 (n:Int)),(5,str h),(8,.bool (decide (h=[109,111,118])||decide (h=[111,112,101,110])))]) (λ_ w'=>w'=w) ?_ ?_;refine zc rfl (λq=>?_) λq=>?_;refine WZ ?_;exact⟨(),⟨rfl,rfl,congrArg Value.bool<|BN q⟩,rfl⟩;refine W ?_;exact⟨(),⟨rfl,rfl,congrArg Value.bool<|BO q⟩,rfl⟩;intro H J _ i;obtain rfl:=i;refine zc rfl (λs=>?_) λs=>?_;have c:=BP s;refine W ?_;exact⟨_,rfl,show str _=str _ from congrArg _<|by rw[eA,iN b,iP c],a⟩;have c:=BQ s;refine W ?_;refine jo (λ_:Unit=>[(1,.int .i64 (n:Int)),(5,str h),(11,.bool (decide (h=[97,100,100])||decide (h=[115,117,98])||decide (h=[109,117,108])))]) (λ_ w'=>w'=J) ?_ ?_;refine zc rfl (λt=>?_) λt=>?_;refine WZ ?_;exact⟨(),⟨rfl,rfl,congrArg Value.bool<|OD t⟩,rfl⟩;have F:=t;refine W ?_;refine zc rfl (λu=>?_) λu=>?_;refine WZ ?_;exact⟨(),⟨rfl,rfl,congrArg Value.bool<|OE F u⟩,rfl⟩;refine W ?_;exact⟨(),⟨rfl,rfl,congrArg Value.bool<|OF F u⟩,rfl⟩;intro H I _ i;obtain rfl:=i;refine zc rfl (λv=>?_) λv=>?_;have d:=OG v;refine W ?_;exact⟨_,rfl,show str _=str _ from congrArg _<|by rw[eA,iN b,iN c,iP d],a⟩;have d:=OH v;refine W ?_;refine zc rfl (λy=>?_) λy=>?_;have e:=y;refine W ?_;refine Uc rfl rfl rfl rfl (show(if(0:Int)<(n:Int)-2 then(n:Int)-2 else 0)=((n-2:Nat):Int) from by split<;>omega)<|aA (ap3 (n-2) om I) ?_;rintro _ K ⟨rfl,E⟩;have L:=E.size;have a:=a.ext E;refine W ?_;exact⟨_,rfl,show str _=str _ from congrArg _<|by rw[eA,iN b,iN c,iN d,iP e],a⟩;have e:=y;refine W ?_;refine zc rfl (λz=>?_) λz=>?_;have f:=z;refine W ?_;exact⟨_,rfl,show str _=str _ from congrArg _<|by rw[eA,iN b,iN c,iN d,iN e,iP f],a⟩;have f:=z;refine W ?_;refine zc rfl (λA=>?_) λA=>?_;have g:=A;refine W ?_;exact⟨_,rfl,show str _=str _ from congrArg _<|by rw[eA,iN b,iN c,iN d,iN e,iN f,iP g],a⟩;have g:=A;refine W ?_;refine zc rfl (λo=>?_) λo=>?_;have j:=o;refine W ?_;exact⟨_,rfl,show str _=str _ from congrArg _<|by rw[eA,iN b,iN c,iN d,iN e,iN f,iN g,iP j],a⟩;have j:=o;refine W ?_;refine zc rfl (λD=>?_) λD=>?_;have l:=D;refine W ?_;exact⟨_,rfl,show str _=str _ from congrArg _<|by rw[eA,iN b,iN c,iN d,iN e,iN f,iN g,iN j,iP l],a⟩;have l:=D;refine W ?_;refine jo (λ_:Unit=>[(5,str h),(30,.bool (decide (h=[106,117,109,112])||decide (h=[104,97,108,116])))]) (λ_ w'=>w'=I) ?_ ?_;refine zc rfl (λB=>?_) λB=>?_;refine WZ ?_;exact⟨(),⟨rfl,congrArg Value.bool<|BN B⟩,rfl⟩;refine W ?_;exact⟨(),⟨rfl,congrArg Value.bool<|BO B⟩,rfl⟩;intro H K _ i;obtain rfl:=i;refine zc rfl (λC=>?_) λC=>?_;have m:=BP C;refine W ?_;exact⟨_,rfl,show str _=str _ from congrArg _<|by rw[eA,iN b,iN c,iN d,iN e,iN f,iN g,iN j,iN l,iP m],a⟩;have m:=BQ C;refine W ?_;exact⟨_,rfl,show str _=str _ from congrArg _<|by rw[eA,iN b,iN c,iN d,iN e,iN f,iN g,iN j,iN l,iN m],a⟩
theorem aa0 {b:List aq} (h:cX L w v b):∃a c,v= .slice a b.length c:=by obtain⟨a,c,rfl,_⟩:=tl h;exact⟨a,c,by rw[iE]⟩
theorem aa1 (t:aq) (hs:t.size<=12001) (O:WF t) (v:Value) (L:List Nat) (w:World) (hv:bg L w v t):
  bz Tryz.prog 99 [v] w λr w'=>r= .bool (mP t)/\ak [] w w':=by
 have H:=hv;obtain⟨a,n,c,rfl,hn,s⟩:=cY hv;have d:=ak.refl [] w;have hn8:=UR O;subst hn;have hσ:=ad1 (bA t) t.ag.length;refine bY [.tmp 2] 78 Tryz.func99 rfl aho rfl rfl ?_;refine zr<|eJ rfl λ_ f F A=>cN f d s H λd s H=>?_;refine W ?_;apply kF dk 7 (rA 7 6++[3]) (rA 7 6++[3]) [[],[0],[],[2],[3],[1,4],[5]] [It.v _,It.v _,It.v _,It.v _,It.v _,It.v _,It.v (str<|eA (bA t) t.ag.length)] de rfl;intro _ aC;refine VA ?_;refine vk aC (λx w2 aw=>?_) ?_;have H:=H.ext aw;refine aA (vF t O _ L w2 H) ?_;rintro _ w3 ⟨rfl,E⟩;have fD:=E.size;exact pk E;refine VA ?_;refine vk aC (λx w2 aw=>?_) ?_;refine aA (aaZ (bA t) t.ag.length om w2) ?_;rintro _ w3 ⟨rfl,E⟩;have fD:=E.size;exact pk E;exact VZ;intro x nq ir;refine cN ir d s F λd s F=>?_;change OW _ _ _ _ [] (ba (aZ _ x _)<|zZ 7 [_,_,_,_,_,_]++[(3,_)]) _;refine W ?_;apply oP 8 15 23 rfl oQ;intro _;refine WZ ?_;exact oQ;intro xx;refine aV<|zc rfl (λB=>?_) λB=>?_;have hb:eA (bA t) t.ag.length=[]\/t.ag.length≠(eA (bA t) t.ag.length).length+1:=by simp only[oE,dE] at B;rcases B with h|h;exact .inl h;exact .inr om
 refine W ?_;exact⟨_,rfl,by rw[Ld hb];rfl,d⟩;have hb:¬(eA (bA t) t.ag.length=[]\/t.ag.length≠(eA (bA t) t.ag.length).length+1):=by simp only[Bool.or_eq_false_iff,decide_eq_false_iff_not] at B;rintro(h|h);exact B.1 h;exact B.2 om
 have dz:=List.length_pos_iff.2 λh=>hb<|.inl h;have hl:t.ag.length=(eA (bA t) t.ag.length).length+1:=Classical.byContradiction λh=>hb<|.inr h;obtain⟨_,_,_,_,_,rfl,_,_,_⟩:=gX s<|et (ps:=t.ag) (i:=0) om;refine W ?_;refine DB (l:=1) iF bZ rfl rfl rfl rfl om s λwV u=>?_;have u:cX L nq wV (t.ag.drop 1):=by rw[cX,KZ];exact u
 obtain⟨a1,c1,rfl⟩:=aa0 u;have F6:(t.ag.drop 1).length=t.ag.length-1:=List.length_drop;generalize p:eA (bA t) t.ag.length=m at*;refine W ?_;refine ey (λk:Nat=>[(1,.pointer<|some ⟨w.heap.size,0,none⟩),(3,str m),(26,.slice a1 (t.ag.drop 1).length c1),(27,.int .i64 ((t.ag.drop 1).length:Int)),(28,.int .i64 (k:Int))]) (λk w'=>ak [] w w'/\ak [] nq w'/\k<=(t.ag.drop 1).length/\∀i,i<k->iC ((m.getD i 0).toNat:Int) (nth t.ag (i+1))=true) (λk=>(t.ag.drop 1).length-k) (0) (⟨rfl,rfl,rfl,rfl,rfl⟩) (⟨d,ak.refl [] _,om,by intro i hi;omega⟩) λb nz _ C=>?_;obtain⟨d,f,hk,cG⟩:=C;refine bK f u F λu F=>?_;have fH:=d.size;have NL:=f.size;have iU:=F.lt;refine W ?_;refine zc rfl (λh3=>?_) λh3=>?_;have hp:=et (ps:=t.ag.drop 1) (i:=b) om;obtain⟨b1,fh,_,_,_,rfl,iV,eu,g⟩:=gX u hp;rw[aaW] at iV eu g;have M:=O.nth (i:=b+1) om;have mM:=kD (t:=t) (i:=b+1) om;have Em:=rI (nth t.ag<|b+1);refine W ?_;refine du bZ rfl rfl rfl λ_ P J _=>?_;have d:=d.grow;have d:=d.ext P;have f:=f.grow;have f:=f.ext P;have g:=g.grow;have g:=g.ext P;refine zA<|cH bZ rfl rfl rfl J rfl λlI S J _=>?_;have d:=d.aB S sx;have f:=f.aB S sx;have g:=g.aB S sx;refine W ?_;have e:=ak.refl [] lI;refine kR jh rfl rfl rfl rfl (jP om)<|W ?_;refine jo (λ_:Unit=>[(1,.pointer<|some ⟨w.heap.size,0,none⟩),(3,str m),(5,.pointer<|some ⟨nz.heap.size,0,none⟩),(6,.bool false),(26,.slice (some ⟨b1,fh,none⟩) (t.ag.drop 1).length c1),(27,.int .i64 ((t.ag.drop 1).length:Int)),(28,.int .i64 (b:Int)),(35,.int .u8 ((m.getD b 0).toNat:Int)),(36,.bool (decide (((m.getD b 0).toNat:Int)=100)||decide (((m.getD b 0).toNat:Int)=115)))]) (λ_ w'=>w'=lI) ?_ ?_;refine zc rfl (λT=>?_) λT=>?_;refine WZ ?_;exact⟨(),⟨rfl,rfl,rfl,rfl,rfl,rfl,rfl,rfl,congrArg Value.bool<|BN T⟩,rfl⟩;refine W ?_;exact⟨(),⟨rfl,rfl,rfl,rfl,rfl,rfl,rfl,rfl,congrArg Value.bool<|BO T⟩,rfl⟩;intro gu D _ C;obtain rfl:=C;refine jo (λ_:Unit=>[(1,.pointer<|some ⟨w.heap.size,0,none⟩),(3,str m),(6,.bool<|iC ((m.getD b 0).toNat:Int) (nth t.ag<|b+1)),(26,.slice (some ⟨b1,fh,none⟩) (t.ag.drop 1).length c1),(27,.int .i64 ((t.ag.drop 1).length:Int)),(28,.int .i64 (b:Int))]) (λ_ w'=>ak [] D w') ?_ ?_;refine zc rfl (λU=>?_) λU=>?_;have o:=BP U;refine W ?_;refine aA (apT _ om D) ?_;rintro _ q ⟨rfl,j⟩;have N:=j.size;have e:=e.ext j;refine W ?_;exact⟨(),⟨rfl,rfl,by rw[iC,iP o];rfl,rfl,rfl,rfl⟩,e⟩;have o:=BQ U;refine W ?_;refine zc rfl (λV=>?_) λV=>?_;refine W ?_;refine aA (Sm _ om _) ?_;rintro _ _ ⟨rfl,rfl⟩;refine W ?_;exact⟨(),⟨rfl,rfl,by rw[iC,iN o,iP V];rfl,rfl,rfl,rfl⟩,e⟩;have A:=V;refine W ?_;refine zc rfl (λX=>?_) λX=>?_;have y:=X;refine W ?_;refine aA (Sm _ om _) ?_;rintro _ _ ⟨rfl,rfl⟩;refine WZ ?_;apply oA 5 52 57 (ak [] D) rfl oQ;intro h8;obtain⟨z,NN⟩:=Option.isSome_iff_exists.1 h8;have C3:z=(numeral (nth t.ag<|b+1).au).getD 0:=by rw[NN];rfl
 refine W ?_;refine aA (Km _ NN D) ?_;rintro _ q ⟨rfl,j⟩;have N:=j.size;rw[C3];exact oQ;intro xx q j;have e:=e.ext j;refine W ?_;exact⟨(),⟨rfl,rfl,by rw[iC,iN o,iN A,iP y];rfl,rfl,rfl,rfl⟩,e⟩;have y:=X;refine W ?_;refine zc rfl (λY=>?_) λY=>?_;refine W ?_;refine aA (aaU _ om _) ?_;rintro _ _ ⟨rfl,rfl⟩;refine W ?_;exact⟨(),⟨rfl,rfl,by rw[iC,iN o,iN A,iN y,iP Y];rfl,rfl,rfl,rfl⟩,e⟩;have R:=Y;refine W ?_;refine zc rfl (λQ=>?_) λQ=>?_;have K:=Q;refine W ?_;refine aA (apU (nth t.ag<|b+1) M [101] 2 _ _ D (kq g)) ?_;rintro _ q ⟨rfl,j⟩;have N:=j.size;refine cN j g J e λg J e=>?_;refine WZ ?_;apply oA 3 67 70 (ak [] q) rfl oQ;intro _;refine W ?_;refine aA (Sn (nth t.ag (b+1)).size (nth t.ag (b+1)) (lR _) om M false _ _ q (kq g)) ?_;rintro _ nB ⟨rfl,lx⟩;have awV:=lx.size;exact oQ;intro xx nB lx;have e:=e.ext lx;refine W ?_;exact⟨(),⟨rfl,rfl,by rw[iC,iN o,iN A,iN y,iN R,iP K,show decide ((nth t.ag<|b+1).ag.length=2)=decide (((nth t.ag<|b+1).ag.length:Int)=2) from decide_eq_decide.2 om];rfl,rfl,rfl,rfl⟩,e⟩;have K:=Q;refine W ?_;refine zc rfl (λjJ=>?_) λjJ=>?_;have Z:=jJ;refine W ?_;refine aA (Sn (nth t.ag<|b+1).size (nth t.ag<|b+1) (lR _) om M false _ _ D<|kq g) ?_;rintro _ q ⟨rfl,j⟩;have N:=j.size;have e:=e.ext j;refine W ?_;exact⟨(),⟨rfl,rfl,by rw[iC,iN o,iN A,iN y,iN R,iN K,iP Z];rfl,rfl,rfl,rfl⟩,e⟩;have Z:=jJ;refine WZ ?_;exact⟨(),⟨rfl,rfl,by rw[iC,iN o,iN A,iN y,iN R,iN K,iN Z];rfl,rfl,rfl,rfl⟩,e⟩;intro gu q _ C;have d:=d.ext C;have f:=f.ext C;refine W ?_;refine zc rfl (λmT=>?_) λmT=>?_;subst p;have I:iC (((eA (bA t) t.ag.length).getD b 0).toNat:Int) (nth t.ag<|b+1)=false:=by simpa using mT
 refine W ?_;exact⟨_,rfl,by rw[adJ om I];rfl,d⟩;have I:iC ((m.getD b 0).toNat:Int) (nth t.ag<|b+1)=true:=by simpa using mT
 refine W ?_;exact⟨b+1,⟨rfl,rfl,rfl,rfl,rfl⟩,⟨d,f,om,by intro i hi;rcases Nat.lt_or_ge i b with h|h;exact cG i h;rw[show i=b by omega];exact I⟩,om⟩;subst p;have I:=adK hb λi hi=>cG i om;refine W ?_;exact⟨_,rfl,by rw[I];rfl,d⟩
theorem ap5 (t:aq) (g:WF t) (v:Value) (L:List Nat) (w:World) (i:bg L w v t):
  bz Tryz.prog 100 [v] w λr w'=>r= .bool (Ip t)/\ak [] w w':=by
 have d:=i;obtain⟨a,n,c,rfl,_,_⟩:=cY i;have b:=ak.refl [] w;refine bY [.tmp 2] 11 Tryz.func100 rfl aeE rfl rfl ?_;refine zr<|eJ rfl λp m e _=>bK m b d λb d=>?_;refine W ?_;refine aA (vF t g _ L p d) ?_;rintro _ j ⟨rfl,f⟩;have q:=f.size;refine cN f b d e λb d e=>?_;refine WZ ?_;apply oO 4 6 10 (ak [] j) rfl oQ;intro _;refine W ?_;refine aA (vF t g _ L j d) ?_;rintro _ _ ⟨rfl,l⟩;have s:=l.size;exact oQ;intro _ _ o;have b:=b.ext o;refine W ?_;exact⟨_,rfl,rfl,b⟩
def ap6 (L:List Nat) (d:Nat) (s:aj) (v:Value) (w:World):Prop:=
 ∃t a r ok,v= .tuple #[a,str r,.bool ok]/\bg L w a t/\BW d s t r ok
theorem ap7:∀(d:Nat) (s:aj) (L:List Nat) (w:World),d<=60->s.length<=12000->(∀x∈L,x<w.heap.size)->
  bz Tryz.prog 80 [str s,.int .i64 ((60:Int)-(d:Int))] w λv w'=>ap6 L d s v w'/\ak [] w w':=by
 intro d;induction d using Nat.strongRecOn with
 |_ d ih=>
 intro s L w Q hs hL;have b:=ak.refl [] w;refine lj [.cell 4 61,.tmp 5,.tmp 6] 78 Tryz.func80 rfl ag6 rfl rfl rfl ?_;refine zr<|du bZ rfl rfl rfl λK aI c _=>?_;have b:=b.grow;have b:=b.ext aI;refine W ?_;refine aA (apM _ _ _) ?_;rintro _ _ ⟨rfl,rfl⟩;refine j4 rfl rfl rfl<|aV<|zc rfl (λZ=>?_) λZ=>?_;have nR:=Z;refine W ?_;refine ey (λk:Nat=>[(0,str s),(1,.int .i64<|(60:Int)-(d:Int)),(4,.pointer<|some ⟨w.heap.size,0,none⟩),(7,.int .i64 (k:Int))]) (λk w'=>w'=K/\k<=(s.takeWhile fm).length) (λk=>s.length-k) (0) (⟨rfl,rfl,rfl,rfl⟩) (⟨rfl,om⟩) λo w2 _ P=>?_;obtain⟨rfl,GF⟩:=P;have Ek:=T5 fm s o GF;have gD:=Ib fm s;refine WZ ?_;apply oB 5 19 24 rfl oQ;intro _;refine zm<|zm<|kR jh rfl rfl rfl rfl (jP om)<|aA (apR _ _) ?_;rintro _ _ ⟨rfl,rfl⟩;exact oQ;intro xx;refine aV<|zc rfl (λh3=>?_) λh3=>?_;have eI:=Ek.2 (by simpa using h3);refine W ?_;exact⟨o+1,⟨rfl,rfl,rfl,rfl⟩,⟨rfl,om⟩,om⟩;have I0:o=(s.takeWhile fm).length:=Nat.le_antisymm GF (Nat.le_of_not_lt λhh=>by have z:=Ek.1 hh;rw[z.2,Bool.and_true,decide_eq_false_iff_not] at h3;omega);refine WZ ?_;have f:=(DE w.heap.size ([str ((s.drop 0).take<|o-0),.slice none 0 0]) 61);apply qN dk f 12 (rA 27 9++[100009,5,6]) (rA 27 9++[100009,5,6]) [[],[],[0,1],[2],[],[],[4,5],[],[7],[3],[6],[8]] [.v _,.v _,.v _,.v _,.v _,.v _,.v _,.v _,.v _,.p λ_ ww=>aK ww w.heap.size ([str ((s.drop 0).take<|o-0),.slice none 0 0]).toArray 61,.v<|str ((s.drop o).take<|s.length-o),.v (.bool (decide<|(0:Int)<(o:Int)))] de (by exact(bU<|bU (bU<|bU (bU<|bU (bU<|bU (bU<|DF (bU<|bU trivial)))))));intro wd aC;refine da (λ_ _ _=>WZ<|ck f) ?_;refine da (λ_ _ _=>WZ<|ck f) ?_;refine da (λ_ _ _=>DA jh rfl rfl rfl (.inl ⟨rfl,rfl⟩) (.inr ⟨_,rfl⟩) om om<|ck f) ?_;refine da (λ_ _ _=>jv (Vs _ _) rfl rfl<|ck f) ?_;refine da (λ_ _ _=>WZ<|ck f) ?_;refine da (λ_ _ _=>WZ<|ck f) ?_;refine da (λ_ _ _=>DA jh rfl rfl rfl (.inr ⟨_,rfl⟩) (.inl ⟨rfl,rfl⟩) om om<|ck f) ?_;refine da (λ_ _ _=>WZ<|ck f) ?_;refine da (λ_ _ _=>WZ<|ck f) ?_;refine fE ?_ ?_;intro x J w3 e V Q A;have d3:J 3=(.agg #[str ((s.drop 0).take<|o-0),.slice none 0 0]):=Q;replace V:=f.trans aC V;obtain⟨us,rZ,vj⟩:=V.2.2 ⟨_,(by rfl),c⟩;replace A:e=ba (aZ _ x _) [(30,J 3)]:=A;rw[d3] at A;subst A;refine cH bZ rfl rfl rfl vj (by rw[rZ];rfl) λw4 M hb _=>W ?_;exact dn ⟨M,λ_=>hb,λ_=>⟨_,rfl,hb⟩⟩ hb;refine da (λ_ _ _=>WZ<|ck f) ?_;refine da (λ_ _ _=>WZ<|ck f) ?_;exact trivial;intro x nz wG;intro v9 d9;replace d9:aK nz w.heap.size ([str ((s.drop 0).take (o-0)),.slice none 0 0]).toArray 61:=d9;have b:=b.aB wG.1 sx;have c:=d9;change OW _ _ _ _ [] (ba (aZ _ x _)<|zZ 27 [_,_,_,_,_,_,_,_,_]++[(100009,v9),(5,_),(6,_)]) _;refine aV<|kP<|⟨[_,_,_],⟨gA jg bZ rfl c rfl,rfl,rfl⟩,⟨.mk (s.takeWhile fm) [],_,s.dropWhile fm,_,by rw[List.drop_zero,Nat.sub_zero,I0,KX,OY,Ia];rfl,jQ lS,?_⟩,b⟩;unfold BW;rw[ad9 nR];by_cases R:s.takeWhile fm=[];rw[iP R];exact .inr ⟨rfl,by simp[R]⟩;rw[iN R];refine .inl ⟨rfl,dT ?_⟩;have:=List.length_pos_iff.2 R;omega;obtain⟨S,rfl⟩:=ad7 Z;refine W ?_;refine zc rfl (λh4=>?_) λh4=>?_;have Sp:d=0:=by omega
 refine zr<|jv (Pa _) rfl rfl<|cH bZ rfl rfl rfl c rfl λw2 N c dN=>?_;have b:=b.aB N sx;refine W ?_;exact⟨[_,_,_],⟨gA jg bZ rfl c rfl,rfl,rfl⟩,⟨.mk [] [],_,[],_,rfl,jQ lS,.inr ⟨by rw[Sp];simp[eY],rfl⟩⟩,b⟩;have aQ:∃u,d=u+1:=⟨d-1,om⟩;obtain⟨u,rfl⟩:=aQ;refine iA<|zr<|du bZ rfl rfl rfl λw2 N j dN=>?_;have b:=b.grow;have b:=b.ext N;have c:=c.grow;have c:=c.ext N;refine W ?_;have awX:=c.lt;refine ey (λq:List aq×aj×Option Addr×Nat×Option Nat=>[(0,str q.2.1),(1,.int .i64<|(60:Int)-((u+1:Nat):Int)),(4,.pointer<|some ⟨w.heap.size,0,none⟩),(8,.pointer<|some ⟨K.heap.size,0,none⟩)]) (λq w'=>ak [] w w'/\aK w' w.heap.size [str [],.slice none 0 0].toArray 61/\aK w' K.heap.size [str [],.slice q.2.2.1 q.1.length q.2.2.2.1].toArray 61/\Gr w.heap.size (w.heap.size::K.heap.size::L) w' 61 2 (.slice q.2.2.1 q.1.length q.2.2.2.1) q.2.2.2.2 (dj q.1)/\0<q.2.1.length/\q.2.1.length+q.1.length<=12000/\ov (u+1) S=(ov (u+1)<|q.2.1.drop 1).map λp=>(q.1++p.1,p.2)) (λq=>q.2.1.length) (([],40::S,none,0,none)) (⟨rfl,rfl,rfl,rfl⟩) (⟨b,c,j,Gr.nil (by intro x z;simp at z;rcases z with rfl|rfl|z;omega;omega;have:=hL x z;omega) om,sm,by simp at hs⊢;omega,sm⟩) λo w3 _ P=>?_;obtain⟨m,sc,a,_,g⟩:=o;dsimp only at P⊢;obtain⟨b,c,j,n,_,_,uX⟩:=P;have fH:=b.size;have NO:=c.lt;have awZ:=j.lt;refine ux<|zr<|zm<|DA (l:=1) jh rfl rfl rfl (.inr ⟨_,rfl⟩) (.inl ⟨rfl,rfl⟩) om om<|zm<|mq rfl rfl rfl rfl rfl (show IntKind.i64.wrap ((60:Int)-((u+1:Nat):Int)+1)=(60:Int)-(u:Int) by rw[wrap_i64 _ om om];omega) ?_;rw[OY];refine aA (ih u om (sc.drop 1) (g.toList++(w.heap.size::K.heap.size::L)) w3 om so n.all) ?_;rintro _ w4 ⟨kZ,M⟩;have gv:=M.size;refine gN M b c j n λb c j n=>?_;obtain⟨t,_,r,ok,rfl,y,hm⟩:=kZ;obtain⟨_,_,_,rfl,eu,_⟩:=cY y;subst eu;refine W ?_;refine du bZ rfl rfl rfl λ_ E di iq=>?_;have b:=b.grow;have b:=b.ext E;have c:=c.grow;have c:=c.ext E;have j:=j.grow;have j:=j.ext E;have n:=n.alloc E iq;have y:=y.grow;have y:=y.ext E;refine cH bZ rfl rfl rfl di rfl λ_ F di _=>?_;have b:=b.aB F sx;have c:=c.aB F sx;have j:=j.aB F sx;have n:=n.aB F sx;have y:=y.aB F sx;refine W ?_;apply oP 3 50 53 rfl oQ;intro _;exact oQ;intro xx;refine WZ ?_;apply oP 9 54 63 rfl oQ;intro h6;simp at h6;have I:=List.length_pos_iff.2 h6.2;refine zm<|kR (i:=0) jh rfl rfl rfl rfl (jP I)<|WZ ?_;apply oB 4 58 62 rfl oQ;intro _;refine zm<|kR (i:=0) jh rfl rfl rfl rfl (jP I) ?_;exact oQ;intro xx;exact oQ;intro xx;refine aV<|zc rfl (λh8=>?_) λh8=>?_;have hR:eY (u+1) (40::S)=none:=by rw[F7,uX,aec hm h8];rfl
 refine zr<|jv (Pa _) rfl rfl<|cH bZ rfl rfl rfl c rfl λw7 Y c pH=>?_;have b:=b.aB Y sx;refine W ?_;exact⟨[_,_,_],⟨gA jg bZ rfl c rfl,rfl,rfl⟩,⟨.mk [] [],_,[],_,rfl,jQ lS,.inr ⟨hR,rfl⟩⟩,b⟩;obtain⟨p7,I,fC⟩:=aed hm h8;refine W ?_;refine fJ iF bZ rfl rfl λw7 Y X pH=>kJ Y b c j n y λb c j n y=>?_;refine Ik iF bZ rfl rfl rfl rfl rfl rfl n X y.Ow om λD C g2 _ B O=>?_;have cJ:=O.size;have b:=n.since b O;have c:=c.aB O<|n.xm sm;have j:=j.aB O<|n.xm sm;refine zf Ae rfl<|im ID rfl rfl rfl j rfl λ_ U j _=>?_;have b:=b.aB U sx;have c:=c.aB U sx;have B:=B.aB U sx;refine W ?_;refine kR (i:=0) jh rfl rfl rfl rfl (jP p7)<|yu rfl rfl rfl rfl rfl<|aV<|zc rfl (λh9=>?_) λh9=>?_;have T:r.getD 0 0=41:=UInt8.toNat_inj.1 (by have yN:(41:UInt8).toNat=41:=rfl;rw[yN];omega);have hR:eY (u+1) (40::S)=some (.mk [] (m++[t]),r.drop 1):=by rw[F7,uX,fC,iP T];rfl
 refine WZ ?_;have f:=(DE w.heap.size ([str [],.slice D (m++[t]).length C]) 61);apply qN dk f 6 [75,76,77,100003,5,6] [75,76,77,100003,5,6] [[],[],[1],[0],[2],[]] [.v _,.v _,.v _,.p λ_ ww=>aK ww w.heap.size ([str [],.slice D (m++[t]).length C]).toArray 61,.v<|str ((r.drop 1).take<|r.length-1),.v (.bool true)] de (by exact(bU<|bU (bU<|DF (bU<|bU trivial))));intro wd aC;refine jt f aC (λx cW H=>?_) ?_;have j:=j.aB H.1 sx;refine WZ ?_;exact ck f;refine da (λ_ _ _=>WZ<|ck f) ?_;refine da (λ_ _ _=>DA (l:=1) jh rfl rfl rfl (.inr ⟨_,rfl⟩) (.inl ⟨rfl,rfl⟩) om om<|ck f) ?_;refine fE ?_ ?_;intro x J cW e H Q A;have d0:J 0=(.agg #[str [],.slice D (m++[t]).length C]):=Q;replace H:=f.trans aC H;obtain⟨us,rZ,vj⟩:=H.2.2 ⟨_,(by rfl),c⟩;replace A:e=ba (aZ _ x _) [(75,J 0)]:=A;rw[d0] at A;subst A;refine cH bZ rfl rfl rfl vj (by rw[rZ];rfl) λ_ dm hb _=>W ?_;exact dn ⟨dm,λ_=>hb,λ_=>⟨_,rfl,hb⟩⟩ hb;refine da (λ_ _ _=>WZ<|ck f) ?_;refine da (λ_ _ _=>WZ<|ck f) ?_;exact trivial;intro x kl eH;intro v3 d3;replace d3:aK kl w.heap.size ([str [],.slice D (m++[t]).length C]).toArray 61:=d3;have b:=b.aB eH.1 sx;have B:=B.aB eH.1 sx;have c:=d3;change OW _ _ _ _ [] (ba (aZ _ x _)<|zZ 75 [_,_,_]++[(100003,v3),(5,_),(6,_)]) _;refine W ?_;exact⟨[_,_,_],⟨gA jg bZ rfl c rfl,rfl,rfl⟩,⟨.mk [] (m++[t]),_,r.drop 1,_,by rw[OY];rfl,jQ<|B.trees.dQ λx z=>by simp[z],.inl ⟨hR,rfl⟩⟩,b⟩;have T:r.getD 0 0≠41:=λh=>h9 (by rw[h];rfl);refine WZ ?_;exact⟨(m++[t],r,D,C,g2),⟨rfl,rfl,rfl,rfl⟩,⟨b,c,j,B.dQ λx z=>mK _ z,p7,by simp at I⊢;omega,by rw[uX,fC,iN T,map_append]⟩,by simp at I;dsimp only;omega⟩
theorem ap9 {s:aj} (h:12000<s.length):bS s=none:=by unfold bS;rw[iP h]
def aqa (L:List Nat) (s:aj) (v:Value) (w:World):Prop:=∃t b,v= .tuple #[b,.bool (bS s).isSome]/\bg L w b t/\∀a,bS s=some a->t=a
theorem aa3 (s:aj) (L:List Nat) (w:World) (y:∀x∈L,x<w.heap.size):bz Tryz.prog 44 [str s] w λr w'=>aqa L s r w'/\ak [] w w':=by
 have a:=ak.refl [] w;refine lj [.cell 2 61,.tmp 3] 23 Tryz.func44 rfl agz rfl rfl rfl ?_;refine zr<|du bZ rfl rfl rfl λo p b _=>?_;have a:=a.grow;have a:=a.ext p;refine W ?_;refine zc rfl (λv=>?_) λv=>?_;have n:=ap9 (s:=s) om;refine zr<|jv (Pa _) rfl rfl<|cH bZ rfl rfl rfl b rfl λC f b _=>?_;have a:=a.aB f sx;refine W ?_;exact⟨[_,_],⟨gA jg bZ rfl b rfl,rfl⟩,⟨.mk [] [],_,by rw[n];rfl,jQ lS,by rw[n];intro _ h;cases h⟩,a⟩;have d:s.length<=12000:=by omega
 have j:∀x∈w.heap.size::L,x<o.heap.size:=by intro x e;rcases mC.1 e with rfl|e;omega;have:=y x e;omega
 refine iA<|zr<|zm<|aA (ap7 60 s (w.heap.size::L) o om d j) ?_;rintro _ C ⟨u,f⟩;have D:=f.size;refine bK f a b λa b=>?_;obtain⟨t,_,r,ok,rfl,c,z⟩:=u;obtain⟨_,_,_,rfl,q,_⟩:=cY c;subst q;refine W ?_;refine du bZ rfl rfl rfl λ_ g l _=>?_;have a:=a.grow;have a:=a.ext g;have b:=b.grow;have b:=b.ext g;have c:=c.grow;have c:=c.ext g;refine cH bZ rfl rfl rfl l rfl λ_ i l _=>?_;have a:=a.aB i sx;have b:=b.aB i sx;have c:=c.aB i sx;refine W ?_;apply oB 3 19 22 rfl oQ;intro _;exact oQ;intro _;refine cH bZ rfl rfl rfl b rfl λ_ m b _=>?_;have a:=a.aB m sx;have c:=c.aB m sx;refine W ?_;obtain⟨A,B⟩:=aee d z;exact⟨[_,_],⟨gA jg bZ rfl b rfl,rfl⟩,⟨t,_,by rw[<-A];rfl,c.dQ λx e=>by simp[e],B⟩,a⟩
def aqc (L:List Nat) (s:aj) (v:Value) (w:World):Prop:=∃t b,v= .tuple #[b,.bool (uI s)]/\bg L w b t/\∀a,bS s=some a->t=a
theorem aqd (s:aj) (L:List Nat) (w:World) (O:∀x∈L,x<w.heap.size):bz Tryz.prog 98 [str s] w λr w'=>aqc L s r w'/\ak [] w w':=by have i:=ak.refl [] w;refine lj [.cell 2 61,.tmp 3] 17 Tryz.func98 rfl ahn rfl rfl rfl ?_;refine zr<|du bZ rfl rfl rfl λT K l _=>?_;have i:=i.grow;have i:=i.ext K;refine W ?_;refine aA (aa3 s (w.heap.size::L) T (by intro x q;rcases mC.1 q with rfl|q;omega;have:=O x q;omega)) ?_;rintro _ _ ⟨N,E⟩;have X:=E.size;refine bK E i l λi l=>?_;obtain⟨t,_,rfl,j,D⟩:=N;obtain⟨m,_,n,rfl,M,_⟩:=cY j;subst M;have F:=λh=>Ge D h;refine W ?_;refine du bZ rfl rfl rfl λ_ z p _=>?_;have i:=i.grow;have i:=i.ext z;have l:=l.grow;have l:=l.ext z;have j:=j.grow;have j:=j.ext z;refine cH bZ rfl rfl rfl p rfl λ_ A p _=>?_;have i:=i.aB A sx;have l:=l.aB A sx;have j:=j.aB A sx;refine W ?_;have g:=(DE w.heap.size ([str t.au,.slice m t.ag.length n]) 61);apply qN dk g 8 (rA 11 6++[100006,3]) (rA 11 6++[100006,3]) [[],[],[1],[2],[2,3],[2,4],[0],[5]] [.v _,.v _,.v _,.p λv _=>((bS s).isSome)=true->v=(.agg #[str t.au,.slice m t.ag.length n]),.p λv _=>((bS s).isSome)=true->v=(.bool<|fY false t),.v (.bool<|(bS s).isSome&&fY false t),.p λ_ V=>aK V w.heap.size ([str t.au,.slice m t.ag.length n]).toArray 61,.v (.bool<|(bS s).isSome&&fY false t)] de (by exact(bU<|bU (bU<|nK (nK<|bU (DF<|bU trivial)))));intro _ aC;refine jt g aC (λx u d=>?_) ?_;have p:=p.aB d.1 sx;refine WZ ?_;exact ck g;refine da (λ_ _ _=>WZ<|ck g) ?_;refine da (λ_ _ _=>WZ<|ck g) ?_;refine fE ?_ ?_;intro x b u e d o a;have d2:b 2=(.bool<|(bS s).isSome):=o;replace d:=g.trans aC d;have p:=p.aB d.1 sx;rcases bE ((bS s).isSome) with c|c;rw[c] at d2;replace a:e=ba (aZ _ x _) [(13,b 2)]:=a;rw[d2] at a;subst a;refine W ?_;exact dn (g.refl _)<|show((bS s).isSome)=true->_=((.agg #[str t.au,.slice m t.ag.length n]):Value) from λ_=>rfl;rw[c] at d2;replace a:e=ba (aZ _ x _) [(13,b 2)]:=a;rw[d2] at a;subst a;refine W ?_;exact dn (g.refl _) (show((bS s).isSome)=true->_=(_:Value) from λC=>nomatch c.symm.trans C);refine fE ?_ ?_;intro x b u e d o a;have B:(b 2=(.bool<|(bS s).isSome))/\(((bS s).isSome)=true->b 3=(.agg #[str t.au,.slice m t.ag.length n])):=o;obtain⟨d2,d3⟩:=B;replace d:=g.trans aC d;have j:=j.aB d.1 sx;rcases bE ((bS s).isSome) with c|c;rw[c] at d2;replace d3:=d3 c;replace a:e=ba (aZ _ x _) [(13,b 2),(14,b 3)]:=a;rw[d2,d3] at a;subst a;refine aA (Sn t.size t (lR _) (by have:=(F c).2;omega) (F c).1 false _ _ u j) ?_;rintro _ U ⟨rfl,y⟩;have Y:=y.size;refine W ?_;exact dn (g.of y)<|show((bS s).isSome)=true->_=((.bool<|fY false t):Value) from λ_=>rfl;rw[c] at d2;replace a:e=ba (aZ _ x _) [(13,b 2),(14,b 3)]:=a;rw[d2] at a;subst a;refine W ?_;exact dn (g.refl _) (show((bS s).isSome)=true->_=(_:Value) from λC=>nomatch c.symm.trans C);refine fE ?_ ?_;intro x b u e d o a;have B:(b 2=(.bool<|(bS s).isSome))/\(((bS s).isSome)=true->b 4=(.bool<|fY false t)):=o;obtain⟨d2,d4⟩:=B;replace d:=g.trans aC d;rcases bE ((bS s).isSome) with c|c;rw[c] at d2;replace d4:=d4 c;replace a:e=ba (aZ _ x _) [(13,b 2),(15,b 4)]:=a;rw[d2,d4] at a;subst a;refine W ?_;exact dn (g.refl _) (by first|rfl|(rw[c];rfl));rw[c] at d2;replace a:e=ba (aZ _ x _) [(13,b 2),(15,b 4)]:=a;rw[d2] at a;subst a;refine W ?_;exact dn (g.refl _) (by first|rfl|(rw[c];rfl));refine fE ?_ ?_;intro x b u e d o a;have d0:b 0=(.agg #[str t.au,.slice m t.ag.length n]):=o;replace d:=g.trans aC d;obtain⟨_,Q,S⟩:=d.2.2 ⟨_,(by rfl),l⟩;replace a:e=ba (aZ _ x _) [(11,b 0)]:=a;rw[d0] at a;subst a;refine cH bZ rfl rfl rfl S (by rw[Q];rfl) λU y hb _=>W ?_;exact dn ⟨y,λ_=>hb,λ_=>⟨_,rfl,hb⟩⟩ hb;refine da (λ_ _ _=>WZ<|ck g) ?_;exact trivial;intro x P H;intro I d3;intro J d4;intro R d6;replace d3:((bS s).isSome)=true->I=(.agg #[str t.au,.slice m t.ag.length n]):=d3;replace d4:((bS s).isSome)=true->J=(.bool<|fY false t):=d4;replace d6:aK P w.heap.size ([str t.au,.slice m t.ag.length n]).toArray 61:=d6;have i:=i.aB H.1 sx;have j:=j.aB H.1 sx;have l:=d6;change OW _ _ _ _ [] (ba (aZ _ x _)<|zZ 11 [_,_,_,I,J,_]++[(100006,R),(3,_)]) _;refine W ?_;exact⟨[_,_],⟨gA jg bZ rfl l rfl,rfl⟩,⟨t,_,by rw[K8 (f:=fY false) D];rfl,j.dQ λx q=>by simp[q],D⟩,i⟩
def aa4 (L:List Nat) (b:Bk) (v:Value) (w:World):Prop:=∃c a,v= .tuple #[a,.bool (pC b)]/\pe L w a c/\(pC b=true->c=dv b)
theorem Sq {b:Bk} (h:pC b=false):aa4 L b (.tuple #[.agg #[str [],.slice none 0 0,.slice none 0 0],.bool false]) w:=
 ⟨⟨[],[],[]⟩,_,by rw[h],P2 lS lS,by rw[h];intro h;cases h⟩
theorem aqe (k:Bk) (hl:k.aM.length<1000000000) (fK:k.cO.length<1000000000) (fu:k.code.length<1000000000) (v:Value) (Li L:List Nat) (w:World) (hv:rG Li w v k) (hL:∀x∈L,x<w.heap.size):
  bz Tryz.prog 63 [v] w λr w'=>aa4 L k r w'/\ak [] w w':=by
 obtain⟨a1,n1,c1,a2,T,c2,rfl,pd,lQ,cJ,dA⟩:=DO hv;have c:=ak.refl [] w;refine lj [.cell 2 80,.tmp 3] 102 Tryz.func63 rfl agQ rfl rfl rfl ?_;refine zr<|eJ rfl λC aI e _=>?_;have c:=c.ext aI;refine du lk rfl rfl rfl λD V d _=>?_;have c:=c.grow;have c:=c.ext V;have e:=e.grow;have e:=e.ext V;refine W ?_;refine aA (aaU _ om _) ?_;rintro _ _ ⟨rfl,rfl⟩;refine WZ ?_;apply oP 5 17 22 rfl oQ;intro _;refine WZ ?_;exact oQ;intro xx;refine WZ ?_;apply oP 5 23 28 rfl oQ;intro _;refine WZ ?_;exact oQ;intro xx;refine WZ ?_;apply oP 6 29 35 rfl oQ;intro _;refine W ?_;refine aA (NK _ _ _ _) ?_;rintro _ _ ⟨rfl,rfl⟩;exact oQ;intro xx;refine aV<|zc rfl (λh4=>?_) λh4=>?_;have I:=aef pd lQ h4;refine zr<|jv (Pb _) rfl rfl<|cH lk rfl rfl rfl d rfl λw3 N d gO=>?_;have c:=c.aB N sx;refine W ?_;exact⟨[_,_],⟨gA D0 lk rfl d rfl,rfl⟩,Sq I,c⟩;obtain⟨o4,mz⟩:=aeg pd lQ h4;have uh:k.cO.length<=40/\k.code.length<=80:=by simp only[aE,dE] at o4;exact⟨o4.1.2,o4.2.2⟩
 refine W ?_;refine jv (ahw _ _) rfl rfl<|du lk rfl rfl rfl λw3 N f gO=>?_;have c:=c.grow;have c:=c.ext N;have e:=e.grow;have e:=e.ext N;have d:=d.grow;have d:=d.ext N;refine cH lk rfl rfl rfl f rfl λ_ aJ f _=>?_;have c:=c.aB aJ sx;have e:=e.aB aJ sx;have d:=d.aB aJ sx;refine W ?_;refine ey (λq:Nat×Option Addr×Nat×Option Nat=>[(1,.pointer<|some ⟨w.heap.size,0,none⟩),(2,.pointer<|some ⟨C.heap.size,0,none⟩),(4,.pointer<|some ⟨D.heap.size,0,none⟩),(41,.slice a1 n1 c1),(42,.int .i64 (n1:Int)),(43,.int .i64 (q.1:Int))]) (λq w'=>ak [] w w'/\aK w' w.heap.size [str k.aM,.slice a1 n1 c1,.slice a2 T c2].toArray 39/\aK w' C.heap.size [str [],.slice none 0 0,.slice none 0 0].toArray 80/\aK w' D.heap.size [str k.aM,.slice q.2.1 ((k.cO.take q.1).map tr).length q.2.2.1,.slice none 0 0].toArray 80/\Gr C.heap.size (C.heap.size::D.heap.size::L) w' 61 2 (.slice q.2.1 ((k.cO.take q.1).map tr).length q.2.2.1) q.2.2.2 (dj<|(k.cO.take q.1).map tr)/\q.1<=k.cO.length/\∀i,i<q.1->uI (bM k.cO i)=true) (λq=>k.cO.length-q.1) ((0,none,0,none)) (⟨rfl,rfl,rfl,rfl,rfl,rfl⟩) (⟨c,e,d,f,Gr.nil (by intro x s;simp at s;rcases s with rfl|rfl|s;omega;omega;have:=hL x s;omega) om,sm,by intro i Y;simp at Y⟩) λgg w5 _ R=>?_;obtain⟨i,a,cc,g⟩:=gg;dsimp only at R⊢;obtain⟨c,e,d,f,m,hk,J⟩:=R;have fH:=c.size;have YF:=e.lt;have YG:=d.lt;have NO:=f.lt;refine W ?_;refine zc rfl (λh5=>?_) λh5=>?_;have P:=js (xs:=k.cO) (i:=i) om;obtain⟨b,off,rfl,hc⟩:=mr (cJ.ext c) P;refine W ?_;refine aA (aqd (bM k.cO i) (g.toList++(C.heap.size::D.heap.size::L)) w5 m.all) ?_;rintro _ w6 ⟨A3,bR⟩;have lZ:=bR.size;refine kJ bR c e d f m λc e d f m=>?_;obtain⟨t,tv,rfl,n,K⟩:=A3;obtain⟨pa,pn,pc,rfl,eu,aL⟩:=cY n;subst eu;refine W ?_;refine du bZ rfl rfl rfl λw7 z cQ pH=>?_;have c:=c.grow;have c:=c.ext z;have e:=e.grow;have e:=e.ext z;have d:=d.grow;have d:=d.ext z;have f:=f.grow;have f:=f.ext z;have m:=m.alloc z pH;have n:=n.grow;have n:=n.ext z;refine cH bZ rfl rfl rfl cQ rfl λw8 y cQ lG=>?_;have c:=c.aB y sx;have e:=e.aB y sx;have d:=d.aB y sx;have f:=f.aB y sx;have m:=m.aB y sx;have n:=n.aB y sx;refine W ?_;refine zc rfl (λh6=>?_) λh6=>?_;have I:=aeh (b:=k) (i:=i) om (by simpa using h6);refine zr<|jv (Pb _) rfl rfl<|cH lk rfl rfl rfl d rfl λw9 B d dG=>?_;have c:=c.aB B sx;refine W ?_;exact⟨[_,_],⟨gA D0 lk rfl d rfl,rfl⟩,Sq I,c⟩;have S:uI (bM k.cO i)=true:=by simpa using h6
 refine W ?_;refine fJ iF bZ rfl rfl λw9 B Sr dG=>uV B c e d f m n λc e d f m n=>?_;refine Ik iF bZ rfl rfl rfl rfl rfl rfl m Sr n.Ow (by rw[DY _ hk];omega) λa3 Kn g3 u E p=>?_;have aa5:=p.size;have c:=ak.K5 om m.low c p;have e:=e.aB p<|m.K4 om;have d:=d.aB p<|m.xm sm;have f:=f.aB p<|m.xm sm;rw[aej S K,DX tr P] at E⊢;refine zf Vw rfl<|im ID rfl rfl rfl f rfl λfg A f _=>?_;have c:=c.aB A sx;have e:=e.aB A sx;have d:=d.aB A sx;have E:=E.aB A sx;refine W ?_;exact⟨(i+1,a3,Kn,g3),⟨rfl,rfl,rfl,rfl,rfl,rfl⟩,⟨c,e,d,f,E.dQ λx s=>mK _ s,by dsimp only;omega,by intro j Z;rcases Nat.lt_or_ge j i with h|h;exact J j h;rw[show j=i by dsimp only at Z;omega];exact S⟩,by dsimp only;omega⟩;have P1:∀j,j<k.cO.length->uI (bM k.cO j)=true:=λj Z=>J j om;rw[Gd tr om] at f m;have Ru:=m.trees;have o:=ak.refl [C.heap.size,D.heap.size] w5;clear J m;refine W ?_;refine ey (λq:Nat×Option Addr×Nat×Option Nat=>[(1,.pointer<|some ⟨w.heap.size,0,none⟩),(2,.pointer<|some ⟨C.heap.size,0,none⟩),(4,.pointer<|some ⟨D.heap.size,0,none⟩),(63,.slice a2 T c2),(64,.int .i64 (T:Int)),(65,.int .i64 (q.1:Int))]) (λq w'=>ak [] w w'/\ak [C.heap.size,D.heap.size] w5 w'/\aK w' w.heap.size [str k.aM,.slice a1 n1 c1,.slice a2 T c2].toArray 39/\aK w' C.heap.size [str [],.slice none 0 0,.slice none 0 0].toArray 80/\aK w' D.heap.size [str k.aM,.slice a (k.cO.map tr).length cc,.slice q.2.1 ((k.code.take q.1).map tr).length q.2.2.1].toArray 80/\Gr w5.heap.size (C.heap.size::D.heap.size::L) w' 61 2 (.slice q.2.1 ((k.code.take q.1).map tr).length q.2.2.1) q.2.2.2 (dj<|(k.code.take q.1).map tr)/\q.1<=k.code.length/\∀i,i<q.1->tu k.code i=true) (λq=>k.code.length-q.1) ((0,none,0,none)) (⟨rfl,rfl,rfl,rfl,rfl,rfl⟩) (⟨c,o,e,d,f,Gr.nil (by intro x s;simp at s;rcases s with rfl|rfl|s;omega;omega;have:=hL x s;omega) om,sm,by intro i Y;simp at Y⟩) λgg w6 _ R=>?_;obtain⟨j,_,_,g⟩:=gg;dsimp only at R⊢;obtain⟨c,o,e,d,f,m,V,J⟩:=R;have fH:=c.size;have aqf:=o.size;have YF:=e.lt;have YG:=d.lt;have NO:=f.lt;refine W ?_;refine zc rfl (λh7=>?_) λh7=>?_;have P:=js (xs:=k.code) (i:=j) om;obtain⟨b,off,rfl,hc⟩:=mr (dA.ext c) P;refine W ?_;refine aA (aa3 (bM k.code j) (g.toList++(C.heap.size::D.heap.size::L)) w6 m.all) ?_;rintro _ w7 ⟨AS,z⟩;have nk:=z.size;refine uV z c o e d f m λc o e d f m=>?_;obtain⟨t,tv,rfl,n,K⟩:=AS;obtain⟨pa,pn,pc,rfl,eu,aL⟩:=cY n;subst eu;have O:=λh=>Ge K h;refine W ?_;refine du bZ rfl rfl rfl λw8 y X lG=>?_;have c:=c.grow;have c:=c.ext y;have o:=o.grow;have o:=o.ext y;have e:=e.grow;have e:=e.ext y;have d:=d.grow;have d:=d.ext y;have f:=f.grow;have f:=f.ext y;have m:=m.alloc y lG;have n:=n.grow;have n:=n.ext y;refine cH bZ rfl rfl rfl X rfl λw9 B X dG=>?_;have c:=c.aB B sx;have o:=o.aB B sx;have e:=e.aB B sx;have d:=d.aB B sx;have f:=f.aB B sx;have m:=m.aB B sx;have n:=n.aB B sx;refine W ?_;refine DZ [75,76,77,78,79,80,81,82,83,84,85,86,87,88,89,90,91,92] [(92,.bool ((!(bS<|bM k.code j).isSome||!mP t)||(Ip t !=decide ((j:Int)=(T:Int)-1))))] ?_ ?_;rcases bE (!(bS (bM k.code j)).isSome) with gZ|gZ;apply kF dk 18 (rA 75 18) (rA 75 18) [[],[0],[1],[2],[2,3],[2,4],[2,5],[6],[7],[7,8],[7],[7],[7,11],[7,12],[7,13],[7,10,14],[7,9,15],[7,16]] [It.v _,It.v _,It.v (.bool true),It.v _,It.v _,It.v _,It.v _,It.v (.bool true),It.v _,It.v _,It.v _,It.v _,It.v _,It.v _,It.v _,It.v _,It.v _,It.v _] de rfl;intro wd aC;refine VA ?_;refine vc (λx u p=>?_) ?_;refine WZ ?_;exact pv (by exact congrArg Value.bool gZ);refine vk aC (λx u p=>?_) ?_;exact cR pv;refine vk aC (λx u p=>?_) ?_;exact cR pv;refine vc (λx u p=>?_) ?_;exact cR pv;refine vc (λ_ _ _=>WZ pv) ?_;refine vc (λx u p=>?_) ?_;refine WZ ?_;exact pv (by rfl);exact VZ;intro x kl H;change OW _ _ _ _ [] (ba (aZ _ x _) (zZ 75 [_,_,_,_,_,_,_,_,_,_,_,_,_,_,_,_,_,_])) _;refine W ?_;exact kE H;rcases bE (!(bS (bM k.code j)).isSome||!mP t) with j7|j7;apply kF dk 18 (rA 75 18) (rA 75 18) [[],[0],[1],[2],[2,3],[2,4],[2,5],[6],[7],[7,8],[7],[7],[7,11],[7,12],[7,13],[7,10,14],[7,9,15],[7,16]] [It.v _,It.v _,It.v (.bool false),It.v _,It.v _,It.v _,It.v _,It.v (.bool true),It.v _,It.v _,It.v _,It.v _,It.v _,It.v _,It.v _,It.v _,It.v _,It.v _] de rfl;intro wd aC;refine VA ?_;refine vc (λx u p=>?_) ?_;refine WZ ?_;exact pv (by exact congrArg Value.bool gZ);refine VA ?_;refine vk aC (λx u p=>?_) ?_;have n:=n.ext p;have F:=gZ;refine aA (aa1 t (O<|by simpa using F).2 (O<|by simpa using F).1 _ _ u n) ?_;rintro _ fg ⟨rfl,A⟩;have Dh:=A.size;exact pk A;refine VA ?_;refine vc (λx u p=>?_) ?_;refine WZ ?_;exact pv (by first|exact congrArg Value.bool j7|(rw[gZ] at j7;exact congrArg Value.bool j7));exact VZ;intro x kl H;change OW _ _ _ _ [] (ba (aZ _ x _) (zZ 75 [_,_,_,_,_,_,_,_,_,_,_,_,_,_,_,_,_,_])) _;refine W ?_;exact kE H;apply kF dk 18 (rA 75 18) (rA 75 18) [[],[0],[1],[2],[2,3],[2,4],[2,5],[6],[7],[7,8],[7],[7],[7,11],[7,12],[7,13],[7,10,14],[7,9,15],[7,16]] [It.v _,It.v _,It.v (.bool false),It.v _,It.v _,It.v _,It.v _,It.v (.bool false),It.v _,It.v _,It.v _,It.v _,It.v _,It.v _,It.v _,It.v _,It.v _,It.v _] de rfl;intro wd aC;refine VA ?_;refine vc (λx u p=>?_) ?_;refine WZ ?_;exact pv (by exact congrArg Value.bool gZ);refine VA ?_;refine vk aC (λx u p=>?_) ?_;have n:=n.ext p;have F:=gZ;refine aA (aa1 t (O<|by simpa using F).2 (O<|by simpa using F).1 _ _ u n) ?_;rintro _ fg ⟨rfl,A⟩;have Dh:=A.size;exact pk A;refine VA ?_;refine vc (λx u p=>?_) ?_;refine WZ ?_;exact pv (by first|exact congrArg Value.bool j7|(rw[gZ] at j7;exact congrArg Value.bool j7));refine VA ?_;refine vk aC (λx u p=>?_) ?_;have n:=n.ext p;have F:=j7;refine aA (ap5 t (O (by rw[Bool.or_eq_false_iff] at F;simpa using F.1)).1 _ _ u n) ?_;rintro _ fg ⟨rfl,A⟩;have Dh:=A.size;exact pk A;exact VZ;intro x kl H;change OW _ _ _ _ [] (ba (aZ _ x _) (zZ 75 [_,_,_,_,_,_,_,_,_,_,_,_,_,_,_,_,_,_])) _;refine W ?_;exact kE H;intro x kl H;refine Ei H c o e d f m n X λc o e d f m n X=>?_;refine zc rfl (λQ=>?_) λQ=>?_;rw[U5 lQ om K] at Q;have I:=aei (b:=k) (i:=j) om (by simpa using Q);refine zr<|jv (Pb _) rfl rfl<|cH lk rfl rfl rfl d rfl λig eD d aqg=>?_;have c:=c.aB eD sx;refine W ?_;exact⟨[_,_],⟨gA D0 lk rfl d rfl,rfl⟩,Sq I,c⟩;rw[U5 lQ om K] at Q;have S:tu k.code j=true:=by simpa using Q
 refine W ?_;refine fJ iF bZ rfl rfl λig eD J3 aqg=>GD eD c o e d f m n λc o e d f m n=>?_;refine Ik iF bZ rfl rfl rfl rfl rfl rfl m J3 n.Ow (by rw[DY _ V];omega) λa3 Kn g3 _ E M=>?_;have aa5:=M.size;have c:=ak.K5 om m.low c M;have o:=m.since o M;have e:=e.aB M<|m.K4 om;have d:=d.aB M<|m.xm sm;have f:=f.aB M<|m.xm sm;rw[aek S K,DX tr P] at E⊢;refine zf Vx rfl<|im ID rfl rfl rfl f rfl λ_ U f _=>?_;have c:=c.aB U sx;have o:=o.aB U sx;have e:=e.aB U sx;have d:=d.aB U sx;have E:=E.aB U sx;refine W ?_;exact⟨(j+1,a3,Kn,g3),⟨rfl,rfl,rfl,rfl,rfl,rfl⟩,⟨c,o,e,d,f,E.dQ λx s=>mK _ s,by dsimp only;omega,by intro i2 Z;rcases Nat.lt_or_ge i2 j with h|h;exact J i2 h;rw[show i2=j by dsimp only at Z;omega];exact S⟩,by dsimp only;omega⟩;have I:=UG o4 P1 λi Y=>J i om;have hqI:pC k=true:=by unfold pC;rw[I,mz];rfl
 rw[Gd tr om] at f m;refine W ?_;refine cH lk rfl rfl rfl d rfl λw7 z d pH=>?_;have c:=c.aB z sx;have o:=o.aB z sx;have m:=m.aB z sx;refine W ?_;exact⟨[_,_],⟨gA D0 lk rfl d rfl,rfl⟩,⟨dv k,_,by rw[hqI];rfl,P2 (l:=k.aM) ((Ru.aB o sm).dQ λx s=>by simp[s])<|m.trees.dQ λx s=>by simp[s],λ_=>rfl⟩,c⟩
theorem aqi (k:cM) (l:aj) (c:Nat) (v:Value) (L:List Nat) (w:World) (e:pe L w v k) (b:aK w c [str l].toArray 9):
  bz Tryz.prog 71 [v,.pointer (some ⟨c,0,none⟩)] w λr w'=>r= .bool (decide<|k.aM=l)/\ak [] w w':=by
 obtain⟨_,c1,_,c2,rfl,_,_⟩:=W0 e;have a:=ak.refl [] w;refine bY [.tmp 3] 8 Tryz.func71 rfl agY rfl rfl ?_;refine zr<|eJ rfl λ_ d _ _=>bK d a b λa b=>?_;refine W ?_;exact⟨_,rfl,rfl,a⟩
theorem aqj (ps:List cM) (t:ps.length<1000000000) (g:cM->Bool) (f:FuncId) (d:List Value) (v:Value) (L:List Nat) (w:World) (l:jz L w v ps) 
  (A:∀i,i<ps.length->∀(u:Value) (w':World),ak [] w w'->pe L w' u (ek ps i)->bz Tryz.prog f (u::d) w' λr p=>r= .bool (g<|ek ps i)/\ak [] w' p):
  bz Tryz.prog 70 [v,.func (.func f) #[] d.toArray] w λr w'=>r= .int .i64 (Iv ps g)/\ak [] w w':=by
 obtain⟨a,c,rfl⟩:=xO l;have e:=ak.refl [] w;refine bY [.tmp 4] 19 Tryz.func70 rfl agX rfl rfl ?_;refine W ?_;refine ey (λk:Nat=>[(0,.slice a ps.length c),(1,.func (.func f) #[] d.toArray),(7,.int .i64 (ps.length:Int)),(8,.int .i64 (k:Int))]) (λk w'=>ak [] w w'/\k<=ps.length/\∀i,i<k->g (ek ps i)=false) (λk=>ps.length-k) (0) (⟨rfl,rfl,rfl,rfl⟩) (⟨e,om,by intro i s;omega⟩) λj E _ z=>?_;obtain⟨e,hk,m⟩:=z;have l:=l.ext e;refine W ?_;refine zc rfl (λy=>?_) λy=>?_;have B:=xw (ps:=ps) (i:=j) om;obtain⟨b,_,_,c1,_,c2,rfl,_,C,D⟩:=CF l B;refine W ?_;refine Ij rfl rfl rfl (A j om _ E e<|P2 C D) ?_;rintro _ _ ⟨rfl,q⟩;have F:=q.size;have e:=e.ext q;refine aV<|zc rfl (λn=>?_) λn=>?_;have o:=ael om m n;refine W ?_;exact⟨_,rfl,by rw[o];rfl,e⟩;refine W ?_;exact⟨j+1,⟨rfl,rfl,rfl,rfl⟩,⟨e,om,by intro i s;rcases Nat.lt_or_ge i j with h|h;exact m i h;rw[show i=j by omega];exact n⟩,om⟩;have o:=aem λi s=>m i om;refine W ?_;exact⟨_,rfl,by rw[o];rfl,e⟩
theorem NP (d:List cM) (c:d.length<1000000000) (l:aj) (v:Value) (L:List Nat) (w:World) (e:jz L w v d):
  bz Tryz.prog 37 [v,str l] w λr w'=>r= .int .i64 (j6 d l)/\ak [] w w':=by
 have a:=ak.refl [] w;refine bY [.tmp 4] 8 Tryz.func37 rfl agv rfl rfl ?_;refine zr<|Od rfl rfl rfl λn g j _=>bK g a e λa e=>?_;refine W ?_;refine Ov (vs:=[.pointer (some ⟨w.heap.size,0,none⟩)]) rfl rfl rfl<|aA (aqj d c (λb=>decide<|b.aM=l) 71 [.pointer (some ⟨w.heap.size,0,none⟩)] _ L n e λi _ u w' k m=>aqi (ek d i) l _ _ L _ m<|j.ext k) ?_;rintro _ _ ⟨rfl,f⟩;have o:=f.size;have a:=a.ext f;refine W ?_;exact⟨_,rfl,rfl,a⟩
def aqk (L:List Nat) (bs:List Bk) (v:Value) (w:World):Prop:=∃ps pv,v= .tuple #[pv,.bool (jl bs)]/\jz L w pv ps/\(jl bs=true->ps=bs.map dv)
theorem FJ (bs:List Bk) (hb:o3 bs) (v:Value) (Li L:List Nat) (w:World) (X:lE Li w v bs) (hL:∀x∈L,x<w.heap.size):
  bz Tryz.prog 31 [v] w λr w'=>aqk L bs r w'/\ak [] w w':=by
 obtain⟨a,n,c,rfl,_⟩:=Aa X;have d:=ak.refl [] w;have iU:=hb.1;refine bY [.tmp 2,.tmp 3] 52 Tryz.func31 rfl agp rfl rfl ?_;refine W ?_;refine aA (NK _ _ _ _) ?_;rintro _ _ ⟨rfl,rfl⟩;refine j4 rfl rfl rfl<|aV<|zc rfl (λC=>?_) λC=>?_;have s:jl bs=false:=aep (λh=>by rw[dT (p:=(1:Int)<=(n:Int)) om,dT (p:=(n:Int)<=40) om] at C;exact absurd C de);refine W ?_;exact⟨_,rfl,⟨[],_,by rw[s];rfl,W1,by rw[s];intro h;cases h⟩,d⟩;have t:1<=bs.length/\bs.length<=40:=by have:=C;simp only[aE,dE] at this;omega
 refine W ?_;refine ey (λq:Nat×Option Addr×Nat×Option Nat=>[(0,.slice a n c),(4,.slice q.2.1 ((bs.take q.1).map dv).length q.2.2.1),(13,.slice a n c),(14,.int .i64 (n:Int)),(15,.int .i64 (q.1:Int))]) (λq w'=>ak [] w w'/\Gr w.heap.size L w' 80 3 (.slice q.2.1 ((bs.take q.1).map dv).length q.2.2.1) q.2.2.2 (((bs.take q.1).map dv).map cM.enc)/\q.1<=bs.length/\∀i,i<q.1->pC (cA bs i)=true/\l6 bs (cA bs i).aM=i) (λq=>bs.length-q.1) ((0,none,0,none)) (⟨rfl,rfl,rfl,rfl,rfl⟩) (⟨d,Gr.nil hL om,sm,by intro i hi;simp at hi⟩) λgg w1 _ T=>?_;obtain⟨i,_,cc,g⟩:=gg;dsimp only at T⊢;obtain⟨d,e,hk,P⟩:=T;have fH:=d.size;refine W ?_;refine zc rfl (λh2=>?_) λh2=>?_;have R:=qM (bs:=bs) (i:=i) om;obtain⟨b,y,_,rn,_,_,_,_,rfl,H,_,_,cJ,dA⟩:=DP X R;have K:=hb.2 i om;refine WL ?_;refine zL Gg iD rfl (H.ext d) rfl<|du iD rfl rfl rfl λz m O dN=>?_;have d:=d.grow;have d:=d.ext m;have e:=e.alloc m dN;refine cH iD rfl rfl rfl O rfl λw3 M O _=>?_;have d:=d.aB M sx;have e:=e.aB M sx;refine W ?_;refine aA (aqe (cA bs i) K.1 K.2.1 K.2.2 _ _ (g.toList++(w1.heap.size::L)) w3 (rG.ext (z8 cJ dA) d) e.all) ?_;rintro _ _ ⟨kZ,N⟩;have gv:=N.size;refine bK N d e λd e=>?_;obtain⟨_,_,rfl,f,V⟩:=kZ;obtain⟨_,_,_,_,rfl,_,_⟩:=W0 f;refine W ?_;refine du lk rfl rfl rfl λ_ D B iq=>?_;have d:=d.grow;have d:=d.ext D;have e:=e.alloc D iq;have f:=f.grow;have f:=f.ext D;refine cH lk rfl rfl rfl B rfl λZ F B _=>?_;have d:=d.aB F sx;have e:=e.aB F sx;have f:=f.aB F sx;refine W ?_;apply oO 6 26 32 (ak [] Z) rfl oQ;intro h3;have A:pC (cA bs i)=true:=by simpa using h3
 have I:=V A;subst I;refine W ?_;refine aA (NP ((bs.take i).map dv) (by rw[DY _ hk];omega) (cA bs i).aM _ L Z<|e.prog.dQ λx l=>by simp[l]) ?_;rintro _ _ ⟨rfl,cK⟩;have nk:=cK.size;exact oQ;intro _ _ cE;refine gN cE d e f B λd e f B=>?_;refine aV<|zc rfl (λo=>?_) λo=>?_;have s:jl bs=false:=aen (i:=i) om (by simp only[oE,Bool.not_eq_true'] at o;rcases o with h|h;exact .inl h;rw[U6 om] at h;exact .inr (of_decide_eq_true h));refine W ?_;exact⟨_,rfl,⟨[],_,by rw[s];rfl,W1,by rw[s];intro h;cases h⟩,d⟩;have A:pC (cA bs i)=true/\l6 bs (cA bs i).aM=i:=by simp only[Bool.or_eq_false_iff,Bool.not_eq_false'] at o;rw[U6 om] at o;exact⟨o.1,Classical.byContradiction<|of_decide_eq_false o.2⟩
 refine W ?_;refine fJ Ah lk rfl rfl λ_ aD E _=>cN aD d e f λd e f=>?_;refine ajh Ah lk rfl rfl rfl rfl rfl rfl e E (f.dQ (λx l=>by simp at l⊢;rcases l with h|h|h<;>simp[h])) (by rw[DY _ hk];omega) λa3 Kn g3 _ S Q=>?_;have aa5:=Q.size;have d:=e.since d Q;rw[V A.1,DX dv R] at S⊢;refine W ?_;exact⟨(i+1,a3,Kn,g3),⟨rfl,rfl,rfl,rfl,rfl⟩,⟨d,S.dQ λx l=>by simp[l],by dsimp only;omega,by intro J U;rcases Nat.lt_or_ge J i with h|h;exact P J h;rw[show J=i by dsimp only at U;omega];exact A⟩,by dsimp only;omega⟩;have s:=aeo λj U=>P j om;rw[Gd dv om] at e⊢;obtain⟨b,y,_,_,_,_,rfl,H,cz,cL⟩:=CF e.prog<|xw (ps:=bs.map dv) (i:=0) so;have e0:ek (bs.map dv) 0=dv (cA bs 0):=by simp[gE (show 0<bs.length by omega)]
 rw[e0] at H cz cL;refine W ?_;refine DZ [38,39,40,41,42,43,44,45,46,47,48,49,50,51,2,3] [(2,.slice (some ⟨b,y,none⟩) (bs.map dv).length cc),(3,.bool<|decide ((cA bs 0).aM=[109,97,105,110])&&decide (((dv<|cA bs 0).regs.length:Int)=0))] ?_ ?_;rcases bE (decide ((cA bs 0).aM=[109,97,105,110])) with gZ|gZ;apply kF dk 16 (rA 38 14++[2,3]) (rA 38 14++[2,3]) [[],[],[1],[2],[3],[4],[5],[6],[6,7],[6,8],[6,9],[6,10],[6,11],[6,12],[0],[13]] [It.v _,It.v _,It.v _,It.v _,It.v _,It.v _,It.v<|.bool true,It.v _,It.v _,It.v _,It.v _,It.v _,It.v _,It.v _,It.v _,It.v _] de rfl;intro wd aC;refine VA ?_;refine vk aC (λx z m=>?_) ?_;refine zi (i:=0) Ah lk rfl rfl so ?_;exact pv;refine VA ?_;refine vc (λx z m=>?_) ?_;refine zm ?_;exact pv (by exact congrArg Value.bool gZ);refine VA ?_;refine vk aC (λx z m=>?_) ?_;refine zi (i:=0) Ah lk rfl rfl so ?_;exact pv;exact VZ;intro x Y u;change OW _ _ _ _ [] (ba (aZ _ x _) (zZ 38 [_,_,_,_,_,_,_,_,_,_,_,_,_,_]++[(2,_),(3,_)])) _;refine W ?_;exact kE u;apply kF dk 16 (rA 38 14++[2,3]) (rA 38 14++[2,3]) [[],[],[1],[2],[3],[4],[5],[6],[6,7],[6,8],[6,9],[6,10],[6,11],[6,12],[0],[13]] [It.v _,It.v _,It.v _,It.v _,It.v _,It.v _,It.v (.bool false),It.v _,It.v _,It.v _,It.v _,It.v _,It.v _,It.v _,It.v _,It.v _] de rfl;intro wd aC;refine VA ?_;refine vk aC (λx z m=>?_) ?_;refine zi (i:=0) Ah lk rfl rfl so ?_;exact pv;refine VA ?_;refine vc (λx z m=>?_) ?_;refine zm ?_;exact pv (by exact congrArg Value.bool gZ);exact VZ;intro x Y u;change OW _ _ _ _ [] (ba (aZ _ x _) (zZ 38 [_,_,_,_,_,_,_,_,_,_,_,_,_,_]++[(2,_),(3,_)])) _;refine W ?_;exact kE u;intro x Y u;refine bK u d e λd e=>?_;refine kP<|⟨_,rfl,⟨bs.map dv,_,?_,e.prog.dQ λx l=>by simp[l],λ_=>rfl⟩,d⟩;rw[s,dT t.1,dT t.2,show decide (((dv<|cA bs 0).regs.length:Int)=0)=decide ((cA bs 0).cO.length=0) from decide_eq_decide.2 (by have:(dv<|cA bs 0).regs.length=(cA bs 0).cO.length:=List.length_map _;omega)];rfl
theorem aqn (bs:List Bk) (hb:o3 bs) (v:Value) (b:List Nat) (w:World) (e:lE b w v bs):
  bz Tryz.prog 48 [v] w λr w'=>r= .bool (jl bs)/\ak [] w w':=by
 have a:=ak.refl [] w;refine bY [.tmp 2] 11 Tryz.func48 rfl agD rfl rfl ?_;refine W ?_;refine aA (FJ bs hb _ b [] w e sm) ?_;rintro _ _ ⟨d,c⟩;have f:=c.size;have a:=a.ext c;obtain⟨ps,pv,rfl,_,_⟩:=d;refine W ?_;exact⟨_,rfl,rfl,a⟩
def lO (t:aq):Option aj:=if bA t=[108,97,98]\/bA t=[122,101,114,111] then some (nth t.ag 2).au else none
def addN (out:List aj) (t:aq):List aj:=match lO t with
 |some s=>if s∈out then out else out++[s]
 |none=>out
theorem aqo (out:List aj) (t:aq):(addN out t).length<=out.length+1:=by
 unfold addN;split
 .split<;>simp
 .omega
theorem NQ:∀(a:List aq) (out:List aj),(a.foldl addN out).length<=out.length+a.length
 |[],out=>by simp
 |t::a,out=>by have b:=NQ a<|addN out t;have c:=aqo out t;simp only[List.foldl_cons,lC];omega
theorem Ss {b c:Type} (f:c->b->c) (a:c) {l:List b} {k:Nat} {x:b} (h:l[k]?=some x):(l.take<|k+1).foldl f a=f ((l.take k).foldl f a) x:=by rw[List.take_add_one,h,List.foldl_append];rfl
def wW (out:List aj) (b:cM):List aj:=b.code.foldl addN out
def jG (a:List cM):List aj:=a.foldl wW []
def pY (a:List cM):Nat:=(a.map λb=>b.code.length).sum
theorem aa7 {k:Nat} (hk:k<ps.length):pY (ps.take<|k+1)=pY (ps.take k)+(ek ps k).code.length:=by unfold pY;rw[List.take_add_one,xw hk,List.map_append,List.sum_append];simp
theorem NR:∀ps:List cM,(jG ps).length<=pY ps:=by
 have a:∀(ps:List cM) (out:List aj),(ps.foldl wW out).length<=out.length+pY ps:=by
  intro ps;induction ps with
  |nil=>intro out;simp[pY]
  |cons b ps d=>intro out;have c:=d<|wW out b;have e:=NQ b.code out;simp only[List.foldl_cons,pY,List.map_cons,List.sum_cons] at c⊢;unfold wW at c⊢;omega
 intro ps;have:=a ps [];unfold jG;simpa using this
theorem St (a:List cM) (k:Nat):pY (a.take k)<=pY a:=by
 have h:pY a=pY (a.take k)+pY (a.drop k):=by unfold pY;rw[<-List.sum_append,<-List.map_append,List.take_append_drop]
 omega
theorem Su {t:aq} (h:mP t=true) (c:bA t=[108,97,98]\/bA t=[122,101,114,111]):2<t.ag.length:=by obtain⟨a,b,_⟩:=Gm h;rcases c with e|e<;>rw[e] at a b<;>simp[eA] at a b⊢<;>omega
def rv (p:cM):Bk:=⟨p.aM,p.regs.map aq.text,p.code.map aq.text⟩
theorem aqp (t:aq) (m:WF t) (A:(bA t=[108,97,98]\/bA t=[122,101,114,111])->2<t.ag.length) (v:Value) (L:List Nat) (w:World) (p:bg L w v t):
  bz Tryz.prog 64 [v] w λr w'=>r= .tuple #[str<|(lO t).getD [],.bool (lO t).isSome]/\ak [] w w':=by
 have e:=p;obtain⟨a,n,c,rfl,C,d⟩:=cY p;subst C;have b:=ak.refl [] w;refine bY [.tmp 2,.tmp 3] 17 Tryz.func64 rfl agR rfl rfl ?_;refine zr<|eJ rfl λB u f _=>cN u b e d λb e d=>?_;refine W ?_;refine aA (vF t m _ _ B e) ?_;rintro _ q ⟨rfl,l⟩;have D:=l.size;refine gN l b e d f λb e d f=>?_;refine WZ ?_;apply oO 4 7 11 (ak [] q) rfl oQ;intro _;refine W ?_;refine aA (vF t m _ _ q e) ?_;rintro _ _ ⟨rfl,s⟩;have E:=s.size;exact oQ;intro _ _ y;refine cN y b d f λb d f=>?_;refine aV<|zc rfl (λj=>?_) λj=>?_;have g:bA t=[108,97,98]\/bA t=[122,101,114,111]:=by simpa using j
 have o:=A g;have z:=gX d<|et (ps:=t.ag) (i:=2) o;obtain⟨_,_,_,_,_,rfl,_,_,_⟩:=z;refine WI ?_;refine zi (i:=2) iF bZ rfl rfl o<|W ?_;exact⟨_,rfl,by unfold lO;rw[iP g];rfl,b⟩;have g:¬(bA t=[108,97,98]\/bA t=[122,101,114,111]):=by simpa using j
 refine W ?_;exact⟨_,rfl,by unfold lO;rw[iN g];rfl,b⟩
theorem aqq (xs:List aj) (C:xs.length<1000000000) (s:aj) (v:Value) (L:List Nat) (w:World) (o:bw L w v xs):
  bz Tryz.prog 101 [v,str s] w λr w'=>(∃z:Int,r= .int .i64 z/\decide (z≥0)=decide (s∈xs))/\w=w':=by
 obtain⟨a,n,c,rfl,A⟩:=dU o;subst A;refine bY [.tmp 4] 19 Tryz.func101 rfl aeF rfl rfl ?_;refine W ?_;refine ey (λk:Nat=>[(0,.slice a xs.length c),(1,str s),(7,.int .i64 (xs.length:Int)),(8,.int .i64 (k:Int))]) (λk w'=>w'=w/\k<=xs.length/\∀i,i<k->bM xs i≠s) (λk=>xs.length-k) (0) (⟨rfl,rfl,rfl,rfl⟩) (⟨rfl,om,by intro i j;omega⟩) λd _ _ u=>?_;obtain⟨rfl,hk,l⟩:=u;refine W ?_;refine zc rfl (λt=>?_) λt=>?_;have m:=js (xs:=xs) (i:=d) om;have q:=mr o m;obtain⟨b,_,rfl,_⟩:=q;refine W ?_;refine zc rfl (λf=>?_) λf=>?_;have g:s=bM xs d:=by simpa using f
 refine W ?_;exact⟨_,rfl,⟨(d:Int),rfl,by rw[dT (p:=s∈xs) (by rw[g];exact List.mem_of_getElem? m),dT om]⟩,rfl⟩;have g:¬s=bM xs d:=by simpa using f
 refine W ?_;exact⟨d+1,⟨rfl,rfl,rfl,rfl⟩,⟨rfl,om,by intro i j;rcases Nat.lt_or_ge i d with h|h;exact l i h;rw[show i=d by omega];exact λe=>g e.symm⟩,om⟩;have B:¬s∈xs:=λy=>by obtain⟨i,j,e⟩:=List.getElem_of_mem y;exact l i om (by rw[<-e];simp[bM,gE j])
 refine W ?_;exact⟨_,rfl,⟨-1,rfl,by rw[dF B];decide⟩,rfl⟩
theorem aqr (a:List aj) (b:a.length<1000000000) (s:aj) (v:Value) (L:List Nat) (w:World) (c:bw L w v a):
  bz Tryz.prog 65 [v,str s] w λr w'=>r= .bool (decide<|s∈a)/\w=w':=by
 refine bY [.tmp 4] 9 Tryz.func65 rfl agS rfl rfl ?_;refine W ?_;refine aA (aqq a b s _ L _ c) ?_;rintro _ _ ⟨⟨z,rfl,d⟩,rfl⟩;refine W ?_;exact⟨_,rfl,congrArg Value.bool d,rfl⟩
def pZ (a:List cM) (i j:Nat):List aj:=((ek a i).code.take j).foldl addN (jG<|a.take i)
theorem aqs {j:Nat} (b:i<ps.length) (f:j<=(ek ps i).code.length):(pZ ps i j).length<=pY ps:=by have a:=NQ ((ek ps i).code.take j) (jG<|ps.take i);have c:=NR<|ps.take i;have d:=aa7 b;have e:=St ps<|i+1;rw[List.length_take] at a;unfold pZ;omega
theorem aqt (a:i<ps.length):pZ ps i (ek ps i).code.length=jG (ps.take<|i+1):=by unfold pZ;rw[List.take_length];unfold jG;rw[Ss wW [] (xw a)];rfl
theorem aqu {j:Nat} (a:j<(ek ps i).code.length):pZ ps i (j+1)=addN (pZ ps i j) (nth (ek ps i).code j):=by unfold pZ;exact Ss addN _<|et a
def Sv (a:List cM):Prop:=∀b∈a,∀t∈b.code,WF t/\((bA t=[108,97,98]\/bA t=[122,101,114,111])->2<t.ag.length)
theorem aa8 (ps:List cM) (aL:ps.length<=1000) (HN:pY ps<=1000000) (bm:Sv ps) (v:Value) (L:List Nat) (w:World) (Q:jz L w v ps) (hL:∀x∈L,x<w.heap.size):
  bz Tryz.prog 32 [v] w λr w'=>(∃g,Gr w.heap.size L w' 9 1 r g (fX (jG ps)))/\ak [] w w':=by
 obtain⟨a,c,rfl⟩:=xO Q;have d:=ak.refl [] w;refine bY [.tmp 2] 42 Tryz.func32 rfl agq rfl rfl ?_;refine W ?_;refine ey (λq:Nat×Option Addr×Nat×Option Nat=>[(3,.slice q.2.1 (jG<|ps.take q.1).length q.2.2.1),(10,.slice a ps.length c),(11,.int .i64 (ps.length:Int)),(12,.int .i64 (q.1:Int))]) (λq w'=>ak [] w w'/\Gr w.heap.size L w' 9 1 (.slice q.2.1 (jG<|ps.take q.1).length q.2.2.1) q.2.2.2 (fX (jG<|ps.take q.1))/\q.1<=ps.length) (λq=>ps.length-q.1) ((0,none,0,none)) (⟨rfl,rfl,rfl,rfl⟩) (⟨d,Gr.nil hL<|lR _,sm⟩) λA _ _ l=>?_;obtain⟨i,Y,cc,g⟩:=A;dsimp only at l⊢;obtain⟨d,e,hk⟩:=l;have fH:=d.size;refine W ?_;refine zc rfl (λh1=>?_) λh1=>?_;have m:i<ps.length:=by omega
 have P:=xw (ps:=ps) m;have z:=CF Q P;obtain⟨b,B,_,_,r2,T,rfl,hc,_,l8⟩:=z;have X:=List.mem_of_getElem? P;have nL:(ek ps i).code.length<=1000000:=by have h3:=aa7 m;have u:=St ps<|i+1;omega
 refine WI ?_;refine zi Ah lk rfl rfl m<|zL D0 lk rfl (hc.ext d) rfl<|du lk rfl rfl rfl λ_ F I dN=>?_;have d:=d.grow;have d:=d.ext F;have e:=e.alloc F dN;refine cH lk rfl rfl rfl I rfl λ_ D I _=>?_;have d:=d.aB D sx;have e:=e.aB D sx;refine W ?_;refine ey (λq:Nat×Option Addr×Nat×Option Nat=>[(3,.slice q.2.1 (pZ ps i q.1).length q.2.2.1),(10,.slice (some ⟨b,B,none⟩) ps.length c),(11,.int .i64 (ps.length:Int)),(12,.int .i64 (i:Int)),(17,.slice r2 (ek ps i).code.length T),(18,.int .i64 ((ek ps i).code.length:Int)),(19,.int .i64 (q.1:Int))]) (λq w'=>ak [] w w'/\Gr w.heap.size L w' 9 1 (.slice q.2.1 (pZ ps i q.1).length q.2.2.1) q.2.2.2 (fX<|pZ ps i q.1)/\q.1<=(ek ps i).code.length) (λq=>(ek ps i).code.length-q.1) ((0,Y,cc,g)) (⟨rfl,rfl,rfl,rfl,rfl,rfl,rfl⟩) (⟨d,e.dQ λx f=>by simp[f],sm⟩) λA _ _ l=>?_;obtain⟨j,p,t,N⟩:=A;dsimp only at l⊢;obtain⟨d,e,hj⟩:=l;have fH:=d.size;refine W ?_;refine zc rfl (λh2=>?_) λh2=>?_;have o:j<(ek ps i).code.length:=by omega
 have M:=et (ps:=(ek ps i).code) o;have z:=gX l8 M;obtain⟨_,_,_,_,_,rfl,iV,_,fC⟩:=z;have R:=bm _ X _<|List.mem_of_getElem? M;have EL:=aqs m hj;have S:=aqu o;refine WI ?_;refine zi iF bZ rfl rfl o<|zL jg bZ rfl (iV.ext d) rfl<|du bZ rfl rfl rfl λ_ E K iq=>?_;have d:=d.grow;have d:=d.ext E;have e:=e.alloc E iq;refine cH bZ rfl rfl rfl K rfl λw6 H K _=>?_;have d:=d.aB H sx;have e:=e.aB H sx;refine W ?_;refine aA (aqp (nth (ek ps i).code j) R.1 R.2 _ L w6<|(kq fC).ext d) ?_;rintro _ _ ⟨rfl,J⟩;have nk:=J.size;refine bK J d e λd e=>?_;refine W ?_;apply oB 5 29 34 rfl oQ;intro h3;refine zm<|zm<|aA (aqr (pZ ps i j) om _ _ _ _ e.done) ?_;rintro _ _ ⟨rfl,rfl⟩;exact oQ;intro _;refine aV<|zc rfl (λu=>?_) λu=>?_;have C:(lO<|nth (ek ps i).code j).isSome=true/\¬(lO<|nth (ek ps i).code j).getD []∈pZ ps i j:=by simpa using u
 have y:pZ ps i j++[(lO<|nth (ek ps i).code j).getD []]=pZ ps i (j+1):=by rw[S];unfold addN;revert C;cases lO (nth (ek ps i).code j) with|none=>intro h;cases h.1|some s=>intro h;exact(iN h.2).symm
 refine lh<|zm<|zm<|fJ bu bj rfl rfl λ_ cE V _=>bK cE d e λd e=>?_;refine K6 bu bj rfl rfl rfl rfl rfl rfl e V om λZ U g5 _ O aD=>?_;have d:=e.since d aD;rw[y] at O⊢;refine W ?_;exact⟨(j+1,Z,U,g5),⟨rfl,rfl,rfl,rfl,rfl,rfl,rfl⟩,⟨d,O.dQ λx f=>by simp[f],by dsimp only;omega⟩,by dsimp only;omega⟩;have y:pZ ps i (j+1)=pZ ps i j:=by rw[S];unfold addN;have C:¬((lO<|nth (ek ps i).code j).isSome=true/\¬(lO<|nth (ek ps i).code j).getD []∈pZ ps i j):=(by simpa using u);revert C;cases lO (nth (ek ps i).code j) with|none=>intro _;rfl|some s=>intro h;exact iP (Classical.byContradiction λhh=>h ⟨rfl,hh⟩)
 refine W ?_;refine⟨(j+1,p,t,N),⟨congrArg (λn=>Value.slice p n t)<|congrArg List.length y.symm,rfl,rfl,rfl,rfl,rfl,rfl⟩,⟨d,?_,by dsimp only;omega⟩,by dsimp only;omega⟩
 (show Gr _ _ _ _ _ (.slice p (pZ ps i<|j+1).length t) _ (fX (pZ ps i<|j+1)))
 rw[y];exact e.dQ (λx f=>by simp[f]);have o:j=(ek ps i).code.length:=by omega
 subst o;rw[aqt m] at e⊢;refine W ?_;exact⟨(i+1,p,t,N),⟨rfl,rfl,rfl,rfl⟩,⟨d,e.dQ λx f=>by simp[f],by dsimp only;omega⟩,by dsimp only;omega⟩;have tM:ps.take i=ps:=List.take_of_length_le om;rw[tM] at e⊢;refine W ?_;exact⟨_,rfl,⟨_,e⟩,d⟩
theorem aqv (a:List cM) (c:a.length<=1000) (b:pY a<=1000000) (d:Sv a) (v:Value) (L:List Nat) (w:World) (i:jz L w v a) (f:∀x∈L,x<w.heap.size):
  bz Tryz.prog 32 [v] w λr w'=>bw L w' r (jG a)/\ak [] w w':=
 (aa8 a c b d v L w i f).mono λ_ _ ⟨⟨_,g⟩,e⟩=>⟨g.done,e⟩
section
variable {P:Program} (w:World)
end
section
variable {P:Program} {n:Nat} {ops:Array Oper} {K:Env->World->Prop} {rest:List Oper} {e:Env} {w:World}
 {dst:Option Nat} {ty:TypeId} {pos:String} {after:Array Edge} {g:Option (Nat×Bool)} {x y:Operand}
end

def Bd (B b:Nat) (l:aj) (w:World):Prop:=Lib.IsBuilderF 99 5 B b (Lib.byteCells l) w
theorem Bd.ext (h:Bd B b l w) (k:ak [] w w'):Bd B b l w':=by
 have cell:∀{i:Nat} {o:Obj},w.heap[i]?=some o->w'.heap[i]?=some o:=fun{i o} hi=>(k.block i (Array.getElem?_eq_some_iff.1 hi).1 sm).trans hi;have a:∀p,Lib.BuilderAtF 99 5 B b p (Lib.byteCells l) w->Lib.BuilderAtF 99 5 B b p (Lib.byteCells l) w':=by
  rintro p ⟨r,v,hb,d,e⟩;refine⟨r,v,cell hb,⟨d.1,?_⟩,e⟩;rcases d.2 with h|⟨g,cap,c,f,j,m,n,q⟩
  .exact .inl h
  .exact .inr ⟨g,cap,c,f,j,m,cell n,q⟩
 exact h.imp (a _)<|a _
structure qC (B b:Nat) (w w':World):Prop where
 below:RowKit.Below B w w'
 others:Lib.OthersKept 5 (some b) w w'
theorem qC.trans {a:World} (h:qC B b w w') (k:qC B b w' a):qC B b w a:=⟨h.below.trans k.below,h.others.trans k.others⟩
theorem qC.of {b:Nat} (h:ak [] w w') (a:B<=w.heap.size):qC B b w w':=
 ⟨h.below a sm,λk o hk _ _=>(h.block k (Array.getElem?_eq_some_iff.1 hk).1 sm).trans hk⟩
theorem qC.aG {a:World} (k:qC a.heap.size b w w') (h:ak [] a w):ak [] a w':=FH h k.below
theorem aK.others {c:Nat} {a:Array Value} {T:TypeId} (h:aK w c a T) (k:qC B b w w') (e:c≠b) (d:T≠5):aK w' c a T:=
 k.others c _ h (by simpa using e) (by intro _ _ f;cases f;exact d rfl)
theorem aqw (B b:Nat) (l s:aj) (w:World) (h:Bd B b l w) (a:l.length+s.length<=140737488355328) (f:B<=w.heap.size):
  bz Tryz.prog 105 [.pointer<|some ⟨b,0,none⟩,str s] w λ_ w'=>Bd B b (l++s) w'/\qC B b w w':=
 ⟨rB.mk' Tryz.func105 rfl Vl,Calls.mono (Tryz.Builder_WriteString_k B b _ ⟨s.toArray⟩ w h (by rw[Lib.byteCells_length];simpa[ByteArray.size] using a) f) λ_ _ ⟨d,hb,hk,e⟩=>⟨_,d,.inr (by have c:Lib.byteCells (l++s)=Lib.byteCells l++Lib.strCells ⟨s.toArray⟩:=by{simp[Lib.byteCells,Lib.strCells]};rw[c];exact hb),hk,e⟩⟩
theorem Sw (B b:Nat) (l:aj) (c:Nat) (i:c<256) (w:World) (h:Bd B b l w) (a:l.length+1<=140737488355328) (g:B<=w.heap.size):
  bz Tryz.prog 106 [.pointer<|some ⟨b,0,none⟩,.int .u8 (c:Int)] w λ_ w'=>Bd B b (l++[UInt8.ofNat c]) w'/\qC B b w w':=
 ⟨rB.mk' Tryz.func106 rfl aeJ,Calls.mono (Tryz.Builder_WriteByte_k B b _ (c:Int) w h (by rw[Lib.byteCells_length];exact a) g) λ_ _ ⟨e,hb,hk,f⟩=>⟨_,e,.inr (by have d:Lib.byteCells (l++[UInt8.ofNat c])=Lib.byteCells l++[.int .u8 (c:Int)]:=by{simp[Lib.byteCells];omega};rw[d];exact hb),hk,f⟩⟩
theorem aqx (B b:Nat) (l:aj) (w:World) (h:Bd B b l w) (c:B<=w.heap.size):
  bz Tryz.prog 77 [.pointer (some ⟨b,0,none⟩)] w λv w'=>v=str l/\RowKit.Below B w w':=
 ⟨rB.mk' Tryz.func77 rfl Vn,Calls.mono (Tryz.Builder_String_any_f B b l w h c) λ_ _ ⟨a,hb,hk⟩=>⟨_,a,rfl,hk⟩⟩
theorem aqy:∀(m:Nat) (t:aq),t.size<=m->WF t->∀(v:Value) (L:List Nat) (f w:World) (b:Nat) (l:aj),bg L f v t->ak [] f w->b<w.heap.size->Bd f.heap.size b l w->l.length+t.text.length<=1000000000->t.size<=1000000000->
  bz Tryz.prog 76 [v,.pointer (some ⟨b,0,none⟩)] w λr w'=>r= .tuple #[]/\Bd f.heap.size b (l++t.text) w'/\qC f.heap.size b w w':=by
 intro m;induction m with
 |zero=>intro t h s;have:=OR s;omega
 |succ m ih=>
  intro t _ s v L f w b l M d _ q _ _;have Z:=M;obtain⟨a,n,c,rfl,hn,T⟩:=cY M;subst hn;have nU:=ow t;have e:=ak.refl [] w;have z:=d.size;refine bY [] 32 Tryz.func76 rfl ag3 rfl rfl ?_;refine zr<|eJ rfl λw1 S H _=>bK S d e λd e=>?_;refine W ?_;refine aA (FF t _ L w1<|Z.ext d) ?_;rintro _ w2 ⟨rfl,J⟩;have C:=J.size;refine cN J d e H λd e H=>?_;refine aV<|zc rfl (λK=>?_) λK=>?_;have Q:=U9 s K;refine W ?_;refine aA (aqw f.heap.size b l t.au w2 (q.ext e) (by rw[<-Q];omega) (by have:=d.size;omega)) ?_;rintro _ A ⟨p,o⟩;refine W ?_;exact⟨_,rfl,rfl,by rw[Q];exact p,(qC.of e z).trans o⟩;have y:=q.ext e;have o:=qC.of (b:=b) e z;have U:w.heap.size≠b:=by omega
  refine W ?_;refine ey (λk:Nat=>[(1,.pointer<|some ⟨b,0,none⟩),(2,.pointer<|some ⟨w.heap.size,0,none⟩),(13,.slice a t.ag.length c),(14,.int .i64 (t.ag.length:Int)),(15,.int .i64 (k:Int))]) (λk w'=>ak [] f w'/\Bd f.heap.size b (l++pre (t.ag.take k)) w'/\qC f.heap.size b w w'/\k<=t.ag.length/\w.heap.size<=w'.heap.size) (λk=>t.ag.length-k) (0) (⟨rfl,rfl,rfl,rfl,rfl⟩) (⟨d,by simpa[pre] using y,o,om,e.size⟩) λg A _ D=>?_;obtain⟨d,q,o,hk,_⟩:=D;clear e y;refine W ?_;refine zc rfl (λh2=>?_) λh2=>?_;have eh:=et (ps:=t.ag) (i:=g) om;obtain⟨Y,fh,pa,_,pc,rfl,iV,eu,fC⟩:=gX T eh;subst eu;have R:=s.nth (i:=g) om;have mM:=kD (t:=t) (i:=g) om;have V:=Va s hk;have X:=Va s (k:=g+1) om;have E:=U7 (ps:=t.ag) (k:=g) om;have sW:=congrArg List.length E;rw[lA,lC] at sW;refine WZ ?_;have e:=ak.refl [] A;refine WL ?_;refine zL jg bZ rfl (iV.ext d) rfl<|du bZ rfl rfl rfl λw4 F u _=>?_;have d:=d.grow;have d:=d.ext F;have e:=e.grow;have e:=e.ext F;refine zA<|cH bZ rfl rfl rfl u rfl λP I u _=>?_;have d:=d.aB I sx;have e:=e.aB I sx;refine W ?_;refine jo (λ_:Unit=>[(1,.pointer<|some ⟨b,0,none⟩),(2,.pointer<|some ⟨w.heap.size,0,none⟩),(5,.pointer<|some ⟨A.heap.size,0,none⟩),(13,.slice (some ⟨Y,fh,none⟩) t.ag.length c),(14,.int .i64 (t.ag.length:Int)),(15,.int .i64 (g:Int))]) (λ_ w'=>ak [] f w'/\Bd f.heap.size b (l++pre (t.ag.take g)++[if g=0 then 40 else 32]) w'/\qC f.heap.size b w w'/\w.heap.size<=w'.heap.size/\aK w' A.heap.size [str (nth t.ag g).au,.slice pa (nth t.ag g).ag.length pc].toArray 61) ?_ ?_;refine zc rfl (λh3=>?_) λh3=>?_;have B:g=0:=by omega
  refine lh<|zm<|aA (Sw f.heap.size b _ 40 de P (q.ext e) so (by have:=d.size;omega)) ?_;rintro _ w6 ⟨p,j⟩;have C:=j.below.size;refine W ?_;exact⟨(),⟨rfl,rfl,rfl,rfl,rfl,rfl⟩,j.aG d,by rw[iP B];exact p,(o.trans<|qC.of e (by have:=o.below.size;omega)).trans j,by have:=e.size;omega,u.others j om de⟩;have B:¬g=0:=by omega
  refine lh<|zm<|aA (Sw f.heap.size b _ 32 de P (q.ext e) so (by have:=d.size;omega)) ?_;rintro _ w6 ⟨p,j⟩;have C:=j.below.size;refine W ?_;exact⟨(),⟨rfl,rfl,rfl,rfl,rfl,rfl⟩,j.aG d,by rw[iN B];exact p,(o.trans<|qC.of e (by have:=o.below.size;omega)).trans j,by have:=e.size;omega,u.others j om de⟩;intro _ w7 _ D;clear d q o u e;obtain⟨d,q,o,_,u⟩:=D;refine W ?_;refine aA (ih (nth t.ag g) om R _ L f w7 b _ (kq fC) d om q so om) ?_;rintro _ _ ⟨rfl,p,j⟩;have C:=j.below.size;have d:=j.aG d;refine W ?_;exact⟨g+1,⟨rfl,rfl,rfl,rfl,rfl⟩,⟨d,by rw[E];simpa using p,o.trans j,om,om⟩,om⟩;have gd:g=t.ag.length:=by omega
  have O:=U8 s om;have N:=congrArg List.length O;rw[lA] at N;subst gd;refine W ?_;refine aA (Sw f.heap.size b _ 41 de A q (by simp at N⊢;omega) (by have:=d.size;omega)) ?_;rintro _ w4 ⟨p,j⟩;refine W ?_;exact⟨_,rfl,rfl,by rw[<-O,<-List.append_assoc];exact p,o.trans j⟩
theorem aqA (t:aq) (o:WF t) (z:t.size<=100000000) (y:t.text.length<=100000000) (v:Value) (L:List Nat) (w:World) (i:bg L w v t):
  bz Tryz.prog 41 [v] w λr w'=>r=str t.text/\ak [] w w':=by
 have m:=i;obtain⟨a,n,c,rfl,_,_⟩:=cY i;have u:=ak.refl [] w;refine bY [.tmp 2] 7 Tryz.func41 rfl agy rfl rfl ?_;refine zr<|eJ rfl λb e f _=>zA<|aV<|zr<|du Pg rfl rfl rfl λp d l _=>?_;have f:=f.ext d;refine W ?_;refine aA (aqy t.size t (lR _) o _ L b p b.heap.size [] (m.ext e) d om (.inl ⟨lR _,_,l,⟨rfl,.inl ⟨rfl,rfl⟩⟩,by simp[Value.ownBlock]⟩) so om) ?_;rintro _ q ⟨rfl,s,g⟩;refine aV<|zr<|aA (aqx b.heap.size b.heap.size _ q s (by have:=g.below.size;omega)) ?_;rintro _ _ ⟨rfl,j⟩;refine W ?_;exact⟨_,rfl,rfl,e.trans (FH (g.aG d) j)⟩
theorem abb (e:List aq) (h:BX e) (v:Value) (L:List Nat) (w:World) (u:cX L w v e):
  bz Tryz.prog 47 [v] w λr w'=>(∃a n c g,r= .slice a n c/\n=e.length/\cS w' 9 (.slice a n c) g (e.map aq.text)/\(∀b,g=some b->w.heap.size<=b)/\(e=[]->g=none))/\ak [] w w':=by
 obtain⟨a,c,rfl⟩:=aa0 u;have d:=ak.refl [] w;have S:=h.1;refine bY [.tmp 2] 19 Tryz.func47 rfl agC rfl rfl ?_;refine W ?_;refine ey (λq:Nat×Option Addr×Nat×Option Nat=>[(3,.slice q.2.1 ((e.take q.1).map aq.text).length q.2.2.1),(6,.slice a e.length c),(7,.int .i64 (e.length:Int)),(8,.int .i64 (q.1:Int))]) (λq w'=>ak [] w w'/\Gr w.heap.size [] w' 9 1 (.slice q.2.1 ((e.take q.1).map aq.text).length q.2.2.1) q.2.2.2 (fX<|(e.take q.1).map aq.text)/\q.1<=e.length/\(q.1=0->q.2.2.2=none)) (λq=>e.length-q.1) ((0,none,0,none)) (⟨rfl,rfl,rfl,rfl⟩) (⟨d,Gr.nil sm om,sm,λ_=>rfl⟩) λK _ _ t=>?_;obtain⟨i,_,_,g⟩:=K;dsimp only at t⊢;obtain⟨d,f,hk,y⟩:=t;have Q:=d.size;refine W ?_;refine zc rfl (λN=>?_) λN=>?_;have j:=et (ps:=e) (i:=i) om;obtain⟨_,_,_,_,_,rfl,O,_,I⟩:=gX u j;obtain⟨D,E,F⟩:=h.2 (nth e i)<|List.mem_of_getElem? j;refine WL ?_;refine zL jg bZ rfl (O.ext d) rfl<|du bZ rfl rfl rfl λ_ o p H=>?_;have d:=d.grow;have d:=d.ext o;have f:=f.alloc o H;refine cH bZ rfl rfl rfl p rfl λP l p _=>?_;have d:=d.aB l sx;have f:=f.aB l sx;refine W ?_;refine aA (aqA (nth e i) D E F _ L P<|(kq I).ext d) ?_;rintro _ _ ⟨rfl,m⟩;have R:=m.size;refine bK m d f λd f=>?_;refine fJ bu bj rfl rfl λ_ B z _=>bK B d f λd f=>?_;refine K6 bu bj rfl rfl rfl rfl rfl rfl f z (by rw[DY _ hk];omega) λA M J _ s C=>?_;have d:=f.since d C;rw[DX aq.text j] at s⊢;refine W ?_;exact⟨(i+1,A,M,J),⟨rfl,rfl,rfl,rfl⟩,⟨d,s.dQ sm,by dsimp only;omega,by dsimp only;intro h;omega⟩,by dsimp only;omega⟩;rw[Gd aq.text om] at f⊢;refine W ?_;exact⟨_,rfl,⟨_,_,_,g,rfl,List.length_map _,f.tt,f.low,λh=>y (by rw[h] at hk;simp at hk;omega)⟩,d⟩
def vG (B:Nat) (d:List aj) (v:Value) (w:World):Prop:=∃a n c g,v= .slice a n c/\cS w 9 (.slice a n c) g d/\∀b,g=some b->B<=b
theorem vG.ext (h:vG B xs v w) (k:ak [] w w'):vG B xs v w':=let⟨a,n,c,g,e,b,d⟩:=h;⟨a,n,c,g,e,b.ext k,d⟩
theorem vG.rs (h:vG B xs v w) (f:∀x∈L,x<B):bw L w v xs:=by obtain⟨a,n,c,g,rfl,d,e⟩:=h;exact d.rep λb hb i=>by have:=f b i;have:=e b hb;omega
def Kp (B:Nat) (l:aj) (e f:List aj) (v:Value) (w:World):Prop:=∃a c c1 b d c2,v= .agg #[str l,.slice a c c1,.slice b d c2]/\vG B e (.slice a c c1) w/\vG B f (.slice b d c2) w
theorem Kp.ext {a:List aj} (h:Kp B l xs a v w) (k:ak [] w w'):Kp B l xs a v w':=
 let⟨b,g,c1,c,i,c2,e,d,f⟩:=h;⟨b,g,c1,c,i,c2,e,d.ext k,f.ext k⟩
def Kq (B:Nat) (l:aj) (f g:List aj) (v:Value) (w:World):Prop:=∃b a d c1 c e c2,v= .slice (some ⟨b,0,none⟩) 1 1/\aK w b [str l,.slice a d c1,.slice c e c2].toArray 39/\vG B f (.slice a d c1) w/\vG B g (.slice c e c2) w
theorem Kq.ext {a:List aj} (h:Kq B l xs a v w) (k:ak [] w w'):Kq B l xs a v w':=
 let⟨b,c,i,c1,d,j,c2,e,hb,f,g⟩:=h;⟨b,c,i,c1,d,j,c2,e,hb.ext k,f.ext k,g.ext k⟩
theorem abc (ps:List cM) (aL:ps.length<=1000) (mz:∀b∈ps,BX b.regs/\BX b.code) (v:Value) (L Lv:List Nat) (w:World) (Y:jz Lv w v ps) (hL:∀x∈L,x<w.heap.size):
  bz Tryz.prog 51 [v] w λr w'=>(∃g,Gr w.heap.size L w' 39 3 r g ((ps.map rv).map Bk.enc))/\ak [] w w':=by
 obtain⟨a,c,rfl⟩:=xO Y;have d:=ak.refl [] w;refine bY [.tmp 2] 26 Tryz.func51 rfl agG rfl rfl ?_;refine W ?_;refine ey (λq:Nat×Option Addr×Nat×Option Nat=>[(3,.slice q.2.1 ((ps.take q.1).map rv).length q.2.2.1),(6,.slice a ps.length c),(7,.int .i64 (ps.length:Int)),(8,.int .i64 (q.1:Int))]) (λq w'=>ak [] w w'/\Gr w.heap.size L w' 39 3 (.slice q.2.1 ((ps.take q.1).map rv).length q.2.2.1) q.2.2.2 (((ps.take q.1).map rv).map Bk.enc)/\q.1<=ps.length) (λq=>ps.length-q.1) ((0,none,0,none)) (⟨rfl,rfl,rfl,rfl⟩) (⟨d,Gr.nil hL<|lR _,sm⟩) λgg _ S V=>?_;obtain⟨i,_,_,g⟩:=gg;dsimp only at V⊢;obtain⟨d,e,hk⟩:=V;have fH:=d.size;refine W ?_;refine zc rfl (λh1=>?_) λh1=>?_;have X:i<ps.length:=by omega
 have z:=xw (ps:=ps) X;have C:=CF Y z;obtain⟨b,_,_,_,_,_,rfl,hc,jL,l8⟩:=C;have p:=mz _<|List.mem_of_getElem? z;refine WI ?_;refine zi Ah lk rfl rfl X<|zL D0 lk rfl (hc.ext d) rfl<|du lk rfl rfl rfl λ_ P Q dN=>?_;have d:=d.grow;have d:=d.ext P;have e:=e.alloc P dN;refine cH lk rfl rfl rfl Q rfl λw3 O Q _=>?_;have d:=d.aB O sx;have e:=e.aB O sx;refine W ?_;have C:∃B:Nat,B=w3.heap.size:=⟨_,rfl⟩;obtain⟨B,hB⟩:=C;have iW:=ak.refl [] w3;have D:=e.all;rw[<-hB] at D;apply vT dk 11 (rA 12 11) (rA 12 11) [[],[],[1],[],[3],[4],[],[6],[7],[2,5,8],[9]] [It.v _,It.v _,It.v _,It.v _,It.v _,It.p<|fun(v:Value) (l:World)=>vG B ((ek ps i).regs.map aq.text) v l,It.v _,It.v _,It.p<|fun(v:Value) (l:World)=>vG B ((ek ps i).code.map aq.text) v l,It.p<|fun(v:Value) (l:World)=>Kp B (ek ps i).aM ((ek ps i).regs.map aq.text) ((ek ps i).code.map aq.text) v l,It.p (fun(v:Value) (l:World)=>Kq B (ek ps i).aM ((ek ps i).regs.map aq.text) ((ek ps i).code.map aq.text) v l)] de (by exact⟨λv w w' h k=>vG.ext h k,λv w w' h k=>vG.ext h k,λv w w' h k=>Kp.ext h k,λv w w' h k=>Kq.ext h k,trivial⟩);intro _ aC;refine VA ?_;refine vk aC (λx s j=>?_) ?_;have d:=d.ext j;refine aA (abb _ p.1 _ _ s<|jL.ext d) ?_;rintro K w5 ⟨M,f⟩;have nT:=f.size;obtain⟨m,o,n,t,rfl,I,J,A,pH⟩:=M;exact pf f<|⟨m,o,n,t,rfl,J,λb hb=>by have:=A b hb;have:=j.size;omega⟩;refine VA ?_;refine vk aC (λx s j=>?_) ?_;have d:=d.ext j;refine aA (abb _ p.2 _ _ s<|l8.ext d) ?_;rintro K w5 ⟨M,f⟩;have nT:=f.size;obtain⟨m,o,n,t,rfl,I,J,A,pH⟩:=M;exact pf f<|⟨m,o,n,t,rfl,J,λb hb=>by have:=A b hb;have:=j.size;omega⟩;refine vk aC (λx s j=>?_) ?_;intro K d5;intro v8 d8;have E:=d5;have F:=d8;obtain⟨m,o,n,t,e7,u⟩:=d5;obtain⟨N,Z,R,_,e8,y⟩:=d8;subst e7;subst e8;refine jv (Gi _ _ _ _ _ _ _ _) rfl rfl ?_;exact pf (ak.refl _ _)<|⟨_,_,_,_,_,_,rfl,E,F⟩;refine vk aC (λx s j=>?_) ?_;intro v9 d9;obtain⟨m,o,n,N,Z,R,H,u,y⟩:=d9;subst H;refine fJ kG iD rfl rfl λw5 f tV _=>?_;exact pf f<|⟨_,_,_,_,_,_,_,rfl,tV,u.ext f,y.ext f⟩;exact trivial;intro x _ fU;intro K d5;intro v8 d8;intro v9 d9;intro _ d10;refine bK fU d e λd e=>?_;change OW _ _ _ _ _ (ba (aZ _ x _)<|zZ 12 [_,_,_,_,_,_,_,_,_,_,_]) _;obtain⟨_,m,o,n,N,Z,R,H,uh,u,y⟩:=d10;subst H;refine F8 (row:=Bk.enc (rv<|ek ps i)) kG iD rfl rfl rfl rfl rfl rfl e uh rfl rfl ⟨.val _,u.rs D,y.rs D,trivial⟩ (by rw[List.length_map,DY _ hk];omega) λa4 gz g4 _ U gi=>?_;have d:=e.since d gi;have S:((ps.take i).map rv).map Bk.enc++[Bk.enc (rv<|ek ps i)]=((ps.take<|i+1).map rv).map Bk.enc:=by rw[<-DX rv z,List.map_append];rfl
 have T:(((ps.take i).map rv).map Bk.enc).length+1=((ps.take<|i+1).map rv).length:=by rw[<-DX rv z];simp
 rw[S,T] at U;rw[T];refine W ?_;exact⟨(i+1,a4,gz,g4),⟨rfl,rfl,rfl,rfl⟩,⟨d,U.dQ λx hx=>by simp[hx],by dsimp only;omega⟩,by dsimp only;omega⟩;rw[Gd rv om] at e⊢;refine W ?_;exact⟨_,rfl,⟨_,e⟩,d⟩
theorem aqC (a:List cM) (d:a.length<=1000) (j:∀b∈a,BX b.regs/\BX b.code) (v:Value) (L c:List Nat) (w:World) (i:jz c w v a) (f:∀x∈L,x<w.heap.size):
  bz Tryz.prog 51 [v] w λr w'=>lE L w' r (a.map rv)/\ak [] w w':=
 (abc a d j v L c w i f).mono λ_ _ ⟨⟨_,g⟩,e⟩=>⟨g.yC,e⟩
theorem ml (z:Nat) (h:z<4611686018427387904) (y:Int) (e:y=(z:Int)):IntKind.i64.wrap y=(z:Int):=by rw[e];exact wrap_i64 _ om om
theorem oo (k:Nat) (hk:1<=k) (d:k<=1000000) (f q:Nat) (T:q<=1000000000) (w:World) (h:dS w f q):
  bz Tryz.prog 52 [.pointer<|some ⟨f,0,none⟩,.int .i64 (k:Int)] w λr w'=>(∃z:Nat,r= .int .i64 (z:Int)/\z<k)/\dS w' f (q+1)/\ak [f] w w':=by
 obtain⟨a,n,c,p,bs,m,_,C,O⟩:=h;have g:=C [f] sm;have U:n=bs.length:=by obtain⟨_,_,K,_⟩:=tl g;cases K;exact HM bs
 have F:=Nat.div_le_self p n;refine bY [.tmp 4] 99 Tryz.func52 rfl agH rfl rfl ?_;refine WA ?_;refine mq rfl rfl rfl rfl rfl (ml (p+1) om _ om)<|HW rfl rfl rfl<|zf Vy rfl<|im (o:=1) tF rfl rfl rfl m rfl λR t m _=>?_;have g:=cg.aB g t sm;have j:=t;have l:dS R f (q+1):=⟨a,n,c,p+1,bs,m,om,aaL C t sm,O⟩;refine W ?_;apply oP 7 17 24 rfl oQ;intro _;refine WZ ?_;exact oQ;intro _;refine aV<|zc rfl (λs=>?_) λs=>?_;have v:n=0:=(by simp at s;omega);refine W ?_;exact⟨_,rfl,⟨0,rfl,om⟩,l,j⟩;have v:0<n:=(by simp at s;omega);refine WA ?_;refine yw rfl rfl rfl rfl rfl (ml p om _ om)<|W ?_;refine zc rfl (λE=>?_) λE=>?_;have D:p<n:=(by simp at E;omega);have B:=NJ g (i:=p) om;obtain⟨H,M,x1,u,I⟩:=B;cases u;have J:=x1.toNat_lt;refine WI ?_;refine zi D3 IC rfl rfl D<|W ?_;refine zW Ag yD rfl rfl rfl (wrap_i64 _ om om)<|zm<|HZ rfl rfl rfl rfl rfl om<|zA<|aV<|kP ?_;exact⟨_,rfl,⟨x1.toNat%k,rfl,Nat.mod_lt _ om⟩,l,j⟩;have D:=Nat.mod_lt p v;have s:=Nat.mod_lt (p*7+3) v;have B:=NJ g (i:=p%n) om;obtain⟨H,M,x1,u,I⟩:=B;cases u;have J:=x1.toNat_lt;have Q:=NJ g (i:=(p*7+3)%n) om;obtain⟨_,_,x2,L,_⟩:=Q;cases L;have S:=x2.toNat_lt;refine WZ ?_;apply dV dk 46 [47,48,49,50,51,52,53,54,55,56,57,58,59,60,61,62,63,64,65,66,67,68,69,70,71,72,73,74,75,76,77,78,79,80,81,82,83,84,85,86,87,88,89,90,91,6] [[],[0],[1],[2],[],[],[5],[6],[7],[8],[4,9],[3,10],[11],[12],[13],[],[15],[16],[17],[],[19],[20],[],[22],[23],[24],[25],[21,26],[18,27],[28],[29],[30],[14,31],[],[33],[32,34],[],[],[37],[38],[39],[40],[36,41],[42],[35,43],[44]] (it [_,_,_,_,_,_,_,_,_,_,_,_,_,_,_,_,_,_,_,_,_,_,_,_,_,_,_,_,_,_,_,_,_,_,_,_,_,_,_,_,_,_,_,_,_,_]) de rfl;intro _ aC;refine VA ?_;refine vk aC (λx e d=>?_) ?_;refine HZ rfl rfl rfl rfl rfl om ?_;exact pv;refine VA ?_;refine vk aC (λx e d=>?_) ?_;refine zW Ag yD rfl rfl rfl (ml x1.toNat om _ rfl) ?_;exact pv;refine vk aC (λx e d=>?_) ?_;refine KP rfl rfl rfl rfl rfl (ml (x1.toNat*131) om _ om) ?_;exact pv;refine Co ?_;refine vk aC (λx e d=>?_) ?_;refine WZ ?_;exact pv;refine vc (λ_ _ _=>WZ pv) ?_;refine vk aC (λx e d=>?_) ?_;have m:=m.ext d;refine WZ ?_;exact pv;refine vc (λ_ _ _=>WZ pv) ?_;refine VA ?_;refine vk aC (λx e d=>?_) ?_;refine HZ rfl rfl rfl rfl rfl om ?_;exact pv;refine VA ?_;refine vk aC (λx e d=>?_) ?_;refine zW Ag yD rfl rfl rfl (ml x2.toNat om _ rfl) ?_;exact pv;refine vk aC (λx e d=>?_) ?_;refine KP rfl rfl rfl rfl rfl (ml (x2.toNat*1117) om _ om) ?_;exact pv;refine vk aC (λx e d=>?_) ?_;refine mq rfl rfl rfl rfl rfl (ml (x1.toNat*131+x2.toNat*1117) om _ om) ?_;exact pv;refine Co ?_;refine VA ?_;refine vk aC (λx e d=>?_) ?_;refine Ob rfl rfl rfl rfl rfl om (ml (p/n) om _ rfl) ?_;exact pv;refine vk aC (λx e d=>?_) ?_;refine KP rfl rfl rfl rfl rfl (ml (p/n*53) om _ sm) ?_;exact pv;refine vk aC (λx e d=>?_) ?_;refine mq rfl rfl rfl rfl rfl (ml (x1.toNat*131+x2.toNat*1117+p*29+p/n*53) om _ sm) ?_;exact pv;exact VZ;intro x _ P;change OW _ _ _ _ [] (ba (aZ _ x _) (zZ 47 [_,_,_,_,_,_,_,_,_,_,_,_,_,_,_,_,_,_,_,_,_,_,_,_,_,_,_,_,_,_,_,_,_,_,_,_,_,_,_,_,_,_,_,_,_]++[(6,_)])) _;have N:x1.toNat*131+x2.toNat*1117+p*29+p/n*53<4611686018427387904:=om;have A:∃z,z=x1.toNat*131+x2.toNat*1117+p*29+p/n*53:=⟨_,rfl⟩;obtain⟨X,y⟩:=A;rw[<-y] at N⊢;refine bK P l j λl j=>?_;refine W ?_;refine Ob (b:=64) rfl rfl rfl rfl rfl om (ml (X/64) om _ rfl)<|apt rfl rfl rfl rfl om om<|zA<|aV<|zr<|zm<|zm<|HZ rfl rfl rfl rfl rfl om<|zA<|aV<|kP ?_;exact⟨_,rfl,⟨(X^^^X/64)%k,rfl,Nat.mod_lt _ om⟩,l,j⟩
end Go.Proofs.YtcildnfcpkpomaaGreatDoor
