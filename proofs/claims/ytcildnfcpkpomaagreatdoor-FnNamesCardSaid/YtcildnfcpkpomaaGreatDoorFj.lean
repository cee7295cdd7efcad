/- Lemmas for the law FnNames, no statement of their own: no conditions. -/
import Derived.Test.YtcildnfcpkpomaaGreatDoorFi
import Derived.Lib.OthersKept
import Derived.Shelf.Bits.Mul64
import Derived.Shelf.LaysM
import Derived.Shelf.Slices.Turned
import Derived.Shelf.Small.Wraps
import Derived.Shelf.Strconv.Atoi
import Derived.Shelf.Strconv.Itoa0
import Derived.Shelf.Strconv.Itoa1
import Derived.Shelf.Strconv.Itoa2
import Derived.Shelf.Strconv.Itoa3
import Derived.Shelf.Strings.Builder1
import Derived.Shelf.Strings.Builder2
import Derived.Shelf.Strings.Builder2Cap
import Derived.Shelf.Strings.BuilderCap
import Derived.Shelf.Strings.BuilderF
import Derived.Shelf.Strings.BuilderK
import Derived.Shelf.Strings.Prefix
import Derived.Shelf.Strings.Repeat
set_option maxHeartbeats 4000000
set_option linter.unusedVariables false
set_option linter.unusedSimpArgs false
namespace Go.Proofs.YtcildnfcpkpomaaGreatDoor
open Go
variable {L:List Nat} {w:World} {ps:List cW} {i:Nat}
end Go.Proofs.YtcildnfcpkpomaaGreatDoor
namespace Go.Proofs
open Go.Shelf
def Tryz.aoF:Go.Shelf.Ren:=⟨fun|170=>202|n=>n,fun|70=>97|3=>3|0=>0|72=>99|37=>22|5=>5|n=>n,fun|n=>n⟩
theorem Tryz.aoG:Go.Proofs.Lays.n170 Tryz.prog Tryz.aoF:={
 mixed:=by kernel_rfl
 f170:=Tryz.func202.trans (congrArg some<|by kernel_rfl)
 t0:=Tryz.underlying0
 a0:=Tryz.isAgg0
 z0:=Tryz.sizeOf0
 v0:=Tryz.zeroValue0
 t3:=Tryz.underlying3
 a3:=Tryz.isAgg3
 z3:=Tryz.sizeOf3
 v3:=Tryz.zeroValue3
 t37:=Tryz.underlying22
 a37:=Tryz.isAgg22
 z37:=Tryz.sizeOf22
 v37:=Tryz.zeroValue22
 t70:=Tryz.underlying97
 a70:=Tryz.isAgg97
 z70:=Tryz.sizeOf97
 v70:=Tryz.zeroValue97
 t72:=Tryz.underlying99
 a72:=Tryz.isAgg99
 z72:=Tryz.sizeOf99
 v72:=Tryz.zeroValue99}
def Tryz.Z1:Go.Shelf.Ren:=⟨fun|169=>77|n=>n,fun|70=>97|9=>9|0=>0|72=>99|37=>22|127=>125|3=>3|5=>5|n=>n,fun|n=>n⟩
theorem Tryz.aoH:Go.Proofs.Lays.n169 Tryz.prog Tryz.Z1:={
 mixed:=by kernel_rfl
 f169:=Tryz.func77.trans (congrArg some<|by kernel_rfl)
 t0:=Tryz.underlying0
 a0:=Tryz.isAgg0
 z0:=Tryz.sizeOf0
 v0:=Tryz.zeroValue0
 t3:=Tryz.underlying3
 a3:=Tryz.isAgg3
 z3:=Tryz.sizeOf3
 v3:=Tryz.zeroValue3
 t9:=Tryz.underlying9
 a9:=Tryz.isAgg9
 z9:=Tryz.sizeOf9
 v9:=Tryz.zeroValue9
 t37:=Tryz.underlying22
 a37:=Tryz.isAgg22
 z37:=Tryz.sizeOf22
 v37:=Tryz.zeroValue22
 t70:=Tryz.underlying97
 a70:=Tryz.isAgg97
 z70:=Tryz.sizeOf97
 v70:=Tryz.zeroValue97
 t72:=Tryz.underlying99
 a72:=Tryz.isAgg99
 z72:=Tryz.sizeOf99
 v72:=Tryz.zeroValue99
 t127:=Tryz.underlying125
 a127:=Tryz.isAgg125
 z127:=Tryz.sizeOf125
 v127:=Tryz.zeroValue125}
theorem Tryz.aoI:Builder.Extra Tryz.prog Tryz.Z1:={
 sizeBuilder:=by kernel_rfl
 liesBuilder:=by kernel_rfl
 t5:=Tryz.underlying5
 a5:=Tryz.isAgg5
 z5:=Tryz.sizeOf5
 v5:=Tryz.zeroValue5
 infoByte:=by kernel_rfl
 cellsByte:=by kernel_rfl
 sizeByte:=by kernel_rfl
 neB5:=by decide}
def Tryz.Z2:Go.Shelf.Ren:=⟨fun|165=>201|240=>136|241=>216|276=>180|277=>227|n=>n,fun|70=>97|3=>3|0=>0|4=>4|9=>9|20=>20|72=>99|37=>22|164=>188|5=>5|n=>n,fun|n=>n⟩
theorem Tryz.aoJ:Go.Proofs.Lays.n165 Tryz.prog Tryz.Z2:={
 mixed:=by kernel_rfl
 f165:=Tryz.func201.trans (congrArg some<|by kernel_rfl)
 f240:=Tryz.func136.trans (congrArg some<|by kernel_rfl)
 f241:=Tryz.func216.trans (congrArg some<|by kernel_rfl)
 f276:=Tryz.func180.trans (congrArg some<|by kernel_rfl)
 f277:=Tryz.func227.trans (congrArg some<|by kernel_rfl)
 t0:=Tryz.underlying0
 a0:=Tryz.isAgg0
 z0:=Tryz.sizeOf0
 v0:=Tryz.zeroValue0
 t3:=Tryz.underlying3
 a3:=Tryz.isAgg3
 z3:=Tryz.sizeOf3
 v3:=Tryz.zeroValue3
 t4:=Tryz.underlying4
 a4:=Tryz.isAgg4
 z4:=Tryz.sizeOf4
 v4:=Tryz.zeroValue4
 t9:=Tryz.underlying9
 a9:=Tryz.isAgg9
 z9:=Tryz.sizeOf9
 v9:=Tryz.zeroValue9
 t20:=Tryz.underlying20
 a20:=Tryz.isAgg20
 z20:=Tryz.sizeOf20
 v20:=Tryz.zeroValue20
 t37:=Tryz.underlying22
 a37:=Tryz.isAgg22
 z37:=Tryz.sizeOf22
 v37:=Tryz.zeroValue22
 t70:=Tryz.underlying97
 a70:=Tryz.isAgg97
 z70:=Tryz.sizeOf97
 v70:=Tryz.zeroValue97
 t72:=Tryz.underlying99
 a72:=Tryz.isAgg99
 z72:=Tryz.sizeOf99
 v72:=Tryz.zeroValue99
 t164:=Tryz.underlying188
 a164:=Tryz.isAgg188
 z164:=Tryz.sizeOf188
 v164:=Tryz.zeroValue188}
theorem Tryz.aoK:Builder.Extra Tryz.prog Tryz.Z2:={
 sizeBuilder:=by kernel_rfl
 liesBuilder:=by kernel_rfl
 t5:=Tryz.underlying5
 a5:=Tryz.isAgg5
 z5:=Tryz.sizeOf5
 v5:=Tryz.zeroValue5
 infoByte:=by kernel_rfl
 cellsByte:=by kernel_rfl
 sizeByte:=by kernel_rfl
 neB5:=by decide}
open Go.RowKit in
theorem Tryz.Builder_Grow_fresh (B b n:Nat) (w:World) (f:B<=b) (d:w.heap[b]?=some (.cells #[.pointer none,.slice none 0 0] 99 (0,0))) (c:B<=w.heap.size) (g:n<=281474976710656):
  Calls Tryz.prog 201 #[.pointer<|some ⟨b,0,none⟩,.int .i64 n] w λe a=>e= .returned (.tuple #[])/\(Lib.BuilderAt 99 5 B b (.pointer<|some ⟨b,0,none⟩) [] a/\Below B w a):=Any.Builder_Grow_fresh Tryz.aoJ Tryz.aoK B b n w f d c g
def Tryz.avA:Go.Shelf.Ren:=⟨fun|210=>213|206=>138|n=>n,fun|9=>9|4=>4|3=>3|n=>n,fun|n=>n⟩
open Go.RowKit in
theorem Tryz.Builder_Len_f (B b:Nat) (bs:List Value) (w:World) (h:Lib.IsBuilderF 99 5 B b bs w):
  Calls Tryz.prog 202 #[.pointer (some ⟨b,0,none⟩)] w λe a=>e= .returned (.int .i64 bs.length)/\a=w:=Any.Builder_Len_f Tryz.aoG B b bs w h
open Go.RowKit in
theorem Tryz.Builder_String_f (B b:Nat) (l:List UInt8) (w:World) (h:Lib.IsBuilderF 99 5 B b (Lib.byteCells l) w) (c:l≠[]):
  Calls Tryz.prog 77 #[.pointer (some ⟨b,0,none⟩)] w λe a=>e= .returned (.string ⟨l.toArray⟩)/\(Lib.IsBuilderF 99 5 B b (Lib.byteCells l) a/\Below B w a):=Any.Builder_String_f Tryz.aoH Tryz.aoI B b l w h c
def Tryz.aoL:Go.Shelf.Ren:=⟨fun|172=>178|244=>204|245=>205|247=>217|279=>218|280=>219|281=>220|282=>221|287=>228|316=>229|171=>147|205=>230|321=>236|322=>237|243=>183|246=>206|283=>222|284=>223|285=>224|286=>225|129=>232|317=>231|318=>233|319=>234|320=>235|337=>238|338=>239|n=>n,fun|9=>9|3=>3|75=>121|76=>122|4=>4|5=>5|167=>221|37=>22|0=>0|85=>222|2=>2|168=>224|53=>218|175=>234|46=>204|210=>237|127=>125|145=>246|143=>244|21=>21|171=>227|173=>230|212=>240|51=>215|20=>20|213=>241|232=>248|233=>249|80=>63|n=>n,fun|15=>0|16=>1|17=>2|18=>4|19=>5|n=>n⟩
theorem Tryz.aoM:Go.Proofs.Lays.n172 Tryz.prog Tryz.aoL:={
 mixed:=by kernel_rfl
 f129:=Tryz.func232.trans (congrArg some<|by kernel_rfl)
 f171:=Tryz.func147.trans (congrArg some<|by kernel_rfl)
 f172:=Tryz.func178.trans (congrArg some<|by kernel_rfl)
 f205:=Tryz.func230.trans (congrArg some<|by kernel_rfl)
 f243:=Tryz.func183.trans (congrArg some<|by kernel_rfl)
 f244:=Tryz.func204.trans (congrArg some<|by kernel_rfl)
 f245:=Tryz.func205.trans (congrArg some<|by kernel_rfl)
 f246:=Tryz.func206.trans (congrArg some<|by kernel_rfl)
 f247:=Tryz.func217.trans (congrArg some<|by kernel_rfl)
 f279:=Tryz.func218.trans (congrArg some<|by kernel_rfl)
 f280:=Tryz.func219.trans (congrArg some<|by kernel_rfl)
 f281:=Tryz.func220.trans (congrArg some<|by kernel_rfl)
 f282:=Tryz.func221.trans (congrArg some<|by kernel_rfl)
 f283:=Tryz.func222.trans (congrArg some<|by kernel_rfl)
 f284:=Tryz.func223.trans (congrArg some<|by kernel_rfl)
 f285:=Tryz.func224.trans (congrArg some<|by kernel_rfl)
 f286:=Tryz.func225.trans (congrArg some<|by kernel_rfl)
 f287:=Tryz.func228.trans (congrArg some<|by kernel_rfl)
 f316:=Tryz.func229.trans (congrArg some<|by kernel_rfl)
 f317:=Tryz.func231.trans (congrArg some<|by kernel_rfl)
 f318:=Tryz.func233.trans (congrArg some<|by kernel_rfl)
 f319:=Tryz.func234.trans (congrArg some<|by kernel_rfl)
 f320:=Tryz.func235.trans (congrArg some<|by kernel_rfl)
 f321:=Tryz.func236.trans (congrArg some<|by kernel_rfl)
 f322:=Tryz.func237.trans (congrArg some<|by kernel_rfl)
 f337:=Tryz.func238.trans (congrArg some<|by kernel_rfl)
 f338:=Tryz.func239.trans (congrArg some<|by kernel_rfl)
 t0:=Tryz.underlying0
 a0:=Tryz.isAgg0
 z0:=Tryz.sizeOf0
 v0:=Tryz.zeroValue0
 t2:=Tryz.underlying2
 a2:=Tryz.isAgg2
 z2:=Tryz.sizeOf2
 v2:=Tryz.zeroValue2
 t3:=Tryz.underlying3
 a3:=Tryz.isAgg3
 z3:=Tryz.sizeOf3
 v3:=Tryz.zeroValue3
 t4:=Tryz.underlying4
 a4:=Tryz.isAgg4
 z4:=Tryz.sizeOf4
 v4:=Tryz.zeroValue4
 t5:=Tryz.underlying5
 a5:=Tryz.isAgg5
 z5:=Tryz.sizeOf5
 v5:=Tryz.zeroValue5
 t9:=Tryz.underlying9
 a9:=Tryz.isAgg9
 z9:=Tryz.sizeOf9
 v9:=Tryz.zeroValue9
 t20:=Tryz.underlying20
 a20:=Tryz.isAgg20
 z20:=Tryz.sizeOf20
 v20:=Tryz.zeroValue20
 t21:=Tryz.underlying21
 a21:=Tryz.isAgg21
 z21:=Tryz.sizeOf21
 v21:=Tryz.zeroValue21
 t37:=Tryz.underlying22
 a37:=Tryz.isAgg22
 z37:=Tryz.sizeOf22
 v37:=Tryz.zeroValue22
 t46:=Tryz.underlying204
 a46:=Tryz.isAgg204
 z46:=Tryz.sizeOf204
 v46:=Tryz.zeroValue204
 t51:=Tryz.underlying215
 a51:=Tryz.isAgg215
 z51:=Tryz.sizeOf215
 v51:=Tryz.zeroValue215
 t53:=Tryz.underlying218
 a53:=Tryz.isAgg218
 z53:=Tryz.sizeOf218
 v53:=Tryz.zeroValue218
 t75:=Tryz.underlying121
 a75:=Tryz.isAgg121
 z75:=Tryz.sizeOf121
 v75:=Tryz.zeroValue121
 t76:=Tryz.underlying122
 a76:=Tryz.isAgg122
 z76:=Tryz.sizeOf122
 v76:=Tryz.zeroValue122
 t85:=Tryz.underlying222
 a85:=Tryz.isAgg222
 z85:=Tryz.sizeOf222
 v85:=Tryz.zeroValue222
 t127:=Tryz.underlying125
 a127:=Tryz.isAgg125
 z127:=Tryz.sizeOf125
 v127:=Tryz.zeroValue125
 t143:=Tryz.underlying244
 a143:=Tryz.isAgg244
 z143:=Tryz.sizeOf244
 v143:=Tryz.zeroValue244
 t145:=Tryz.underlying246
 a145:=Tryz.isAgg246
 z145:=Tryz.sizeOf246
 v145:=Tryz.zeroValue246
 t167:=Tryz.underlying221
 a167:=Tryz.isAgg221
 z167:=Tryz.sizeOf221
 v167:=Tryz.zeroValue221
 t168:=Tryz.underlying224
 a168:=Tryz.isAgg224
 z168:=Tryz.sizeOf224
 v168:=Tryz.zeroValue224
 t171:=Tryz.underlying227
 a171:=Tryz.isAgg227
 z171:=Tryz.sizeOf227
 v171:=Tryz.zeroValue227
 t173:=Tryz.underlying230
 a173:=Tryz.isAgg230
 z173:=Tryz.sizeOf230
 v173:=Tryz.zeroValue230
 t175:=Tryz.underlying234
 a175:=Tryz.isAgg234
 z175:=Tryz.sizeOf234
 v175:=Tryz.zeroValue234
 t210:=Tryz.underlying237
 a210:=Tryz.isAgg237
 z210:=Tryz.sizeOf237
 v210:=Tryz.zeroValue237
 t212:=Tryz.underlying240
 a212:=Tryz.isAgg240
 z212:=Tryz.sizeOf240
 v212:=Tryz.zeroValue240
 t213:=Tryz.underlying241
 a213:=Tryz.isAgg241
 z213:=Tryz.sizeOf241
 t232:=Tryz.underlying248
 a232:=Tryz.isAgg248
 z232:=Tryz.sizeOf248
 v232:=Tryz.zeroValue248
 t233:=Tryz.underlying249
 a233:=Tryz.isAgg249
 z233:=Tryz.sizeOf249
 v233:=Tryz.zeroValue249
 g15:=by kernel_rfl
 g16:=by kernel_rfl
 g17:=by kernel_rfl
 g18:=by kernel_rfl
 g19:=by kernel_rfl}
open Go.RowKit in
theorem Tryz.strconv_Atoi (s:ByteArray) (n:Int) (a:s.size<=18) (h:Lib.atoi s.data.toList=some n) (w:World):
  Calls Tryz.prog 178 #[.string s] w λe b=>e= .returned (.tuple #[.int .i64 n,.nilIface])/\∃t,b=Lib.bytesWorld w 5 t:=Any.strconv_Atoi Tryz.aoM s n a h w
def Tryz.avB:Go.Shelf.Ren:=⟨fun|246=>206|283=>222|284=>223|285=>224|286=>225|129=>232|317=>231|318=>233|319=>234|320=>235|337=>238|338=>239|n=>n,fun|2=>2|3=>3|9=>9|4=>4|171=>227|0=>0|53=>218|37=>22|5=>5|173=>230|212=>240|51=>215|20=>20|213=>241|46=>204|232=>248|233=>249|n=>n,fun|17=>2|18=>4|19=>5|n=>n⟩
def Tryz.avC:Go.Shelf.Ren:=⟨fun|243=>183|246=>206|283=>222|284=>223|285=>224|286=>225|129=>232|317=>231|318=>233|319=>234|320=>235|337=>238|338=>239|n=>n,fun|3=>3|9=>9|2=>2|4=>4|171=>227|0=>0|53=>218|37=>22|5=>5|173=>230|212=>240|51=>215|20=>20|213=>241|46=>204|232=>248|233=>249|n=>n,fun|17=>2|18=>4|19=>5|n=>n⟩
def Tryz.avD:Go.Shelf.Ren:=⟨fun|171=>147|243=>183|246=>206|283=>222|284=>223|285=>224|286=>225|129=>232|317=>231|318=>233|319=>234|320=>235|337=>238|338=>239|n=>n,fun|3=>3|9=>9|2=>2|4=>4|171=>227|0=>0|53=>218|37=>22|5=>5|173=>230|212=>240|51=>215|20=>20|213=>241|46=>204|232=>248|233=>249|n=>n,fun|17=>2|18=>4|19=>5|n=>n⟩
def Tryz.aoN:Go.Shelf.Ren:=⟨fun|171=>147|243=>183|246=>206|283=>222|284=>223|285=>224|286=>225|129=>232|317=>231|318=>233|319=>234|320=>235|337=>238|338=>239|n=>n,fun|3=>3|9=>9|2=>2|4=>4|171=>227|0=>0|53=>218|37=>22|5=>5|173=>230|212=>240|51=>215|20=>20|213=>241|46=>204|232=>248|233=>249|n=>n,fun|17=>2|18=>4|19=>5|n=>n⟩
theorem Tryz.aoO:Go.Proofs.Lays.n171 Tryz.prog Tryz.aoN:={
 mixed:=by kernel_rfl
 f129:=Tryz.func232.trans (congrArg some<|by kernel_rfl)
 f171:=Tryz.func147.trans (congrArg some<|by kernel_rfl)
 f243:=Tryz.func183.trans (congrArg some<|by kernel_rfl)
 f246:=Tryz.func206.trans (congrArg some<|by kernel_rfl)
 f283:=Tryz.func222.trans (congrArg some<|by kernel_rfl)
 f284:=Tryz.func223.trans (congrArg some<|by kernel_rfl)
 f285:=Tryz.func224.trans (congrArg some<|by kernel_rfl)
 f286:=Tryz.func225.trans (congrArg some<|by kernel_rfl)
 f317:=Tryz.func231.trans (congrArg some<|by kernel_rfl)
 f318:=Tryz.func233.trans (congrArg some<|by kernel_rfl)
 f319:=Tryz.func234.trans (congrArg some<|by kernel_rfl)
 f320:=Tryz.func235.trans (congrArg some<|by kernel_rfl)
 f337:=Tryz.func238.trans (congrArg some<|by kernel_rfl)
 f338:=Tryz.func239.trans (congrArg some<|by kernel_rfl)
 t0:=Tryz.underlying0
 a0:=Tryz.isAgg0
 z0:=Tryz.sizeOf0
 v0:=Tryz.zeroValue0
 t2:=Tryz.underlying2
 a2:=Tryz.isAgg2
 z2:=Tryz.sizeOf2
 v2:=Tryz.zeroValue2
 t3:=Tryz.underlying3
 a3:=Tryz.isAgg3
 z3:=Tryz.sizeOf3
 v3:=Tryz.zeroValue3
 t4:=Tryz.underlying4
 a4:=Tryz.isAgg4
 z4:=Tryz.sizeOf4
 v4:=Tryz.zeroValue4
 t5:=Tryz.underlying5
 a5:=Tryz.isAgg5
 z5:=Tryz.sizeOf5
 v5:=Tryz.zeroValue5
 t9:=Tryz.underlying9
 a9:=Tryz.isAgg9
 z9:=Tryz.sizeOf9
 v9:=Tryz.zeroValue9
 t20:=Tryz.underlying20
 a20:=Tryz.isAgg20
 z20:=Tryz.sizeOf20
 v20:=Tryz.zeroValue20
 t37:=Tryz.underlying22
 a37:=Tryz.isAgg22
 z37:=Tryz.sizeOf22
 v37:=Tryz.zeroValue22
 t46:=Tryz.underlying204
 a46:=Tryz.isAgg204
 z46:=Tryz.sizeOf204
 v46:=Tryz.zeroValue204
 t51:=Tryz.underlying215
 a51:=Tryz.isAgg215
 z51:=Tryz.sizeOf215
 v51:=Tryz.zeroValue215
 t53:=Tryz.underlying218
 a53:=Tryz.isAgg218
 z53:=Tryz.sizeOf218
 v53:=Tryz.zeroValue218
 t171:=Tryz.underlying227
 a171:=Tryz.isAgg227
 z171:=Tryz.sizeOf227
 v171:=Tryz.zeroValue227
 t173:=Tryz.underlying230
 a173:=Tryz.isAgg230
 z173:=Tryz.sizeOf230
 v173:=Tryz.zeroValue230
 t212:=Tryz.underlying240
 a212:=Tryz.isAgg240
 z212:=Tryz.sizeOf240
 v212:=Tryz.zeroValue240
 t213:=Tryz.underlying241
 a213:=Tryz.isAgg241
 z213:=Tryz.sizeOf241
 t232:=Tryz.underlying248
 a232:=Tryz.isAgg248
 z232:=Tryz.sizeOf248
 v232:=Tryz.zeroValue248
 t233:=Tryz.underlying249
 a233:=Tryz.isAgg249
 z233:=Tryz.sizeOf249
 v233:=Tryz.zeroValue249
 g17:=by kernel_rfl
 g18:=by kernel_rfl
 g19:=by kernel_rfl}
open Go.RowKit Go.Sort Go.Lib in
theorem Tryz.strconv_Itoa_small (i:Nat) (a:i<100) (w:World):
  Calls Tryz.prog 147 #[.int .i64 i] w λe b=>e= .returned (.string ⟨(Lib.decDigits i).toArray⟩)/\b=w:=Any.strconv_Itoa_small Tryz.aoO i a w
def Tryz.aoP:Go.Shelf.Ren:=⟨fun|99=>108|206=>138|n=>n,fun|9=>9|4=>4|3=>3|n=>n,fun|n=>n⟩
theorem Tryz.aoQ:Go.Proofs.Lays.n99 Tryz.prog Tryz.aoP:={
 mixed:=by kernel_rfl
 f99:=Tryz.func108.trans (congrArg some<|by kernel_rfl)
 f206:=Tryz.func138.trans (congrArg some<|by kernel_rfl)
 t3:=Tryz.underlying3
 a3:=Tryz.isAgg3
 z3:=Tryz.sizeOf3
 v3:=Tryz.zeroValue3
 t4:=Tryz.underlying4
 a4:=Tryz.isAgg4
 z4:=Tryz.sizeOf4
 v4:=Tryz.zeroValue4
 t9:=Tryz.underlying9
 a9:=Tryz.isAgg9
 z9:=Tryz.sizeOf9
 v9:=Tryz.zeroValue9}
open Go.RowKit Go.Lib in
theorem Tryz.strings_HasPrefix (s p:ByteArray) (w:World):
  Calls Tryz.prog 108 #[.string s,.string p] w λe a=>e= .returned (.bool<|Lib.hasPrefix s.data.toList p.data.toList)/\a=w:=Any.strings_HasPrefix Tryz.aoQ s p w
def Tryz.aoR:Go.Shelf.Ren:=⟨fun|101=>176|208=>203|206=>138|n=>n,fun|9=>9|4=>4|3=>3|n=>n,fun|n=>n⟩
theorem Tryz.aoS:Go.Proofs.Lays.n101 Tryz.prog Tryz.aoR:={
 mixed:=by kernel_rfl
 f101:=Tryz.func176.trans (congrArg some<|by kernel_rfl)
 f206:=Tryz.func138.trans (congrArg some<|by kernel_rfl)
 f208:=Tryz.func203.trans (congrArg some<|by kernel_rfl)
 t3:=Tryz.underlying3
 a3:=Tryz.isAgg3
 z3:=Tryz.sizeOf3
 v3:=Tryz.zeroValue3
 t4:=Tryz.underlying4
 a4:=Tryz.isAgg4
 z4:=Tryz.sizeOf4
 v4:=Tryz.zeroValue4
 t9:=Tryz.underlying9
 a9:=Tryz.isAgg9
 z9:=Tryz.sizeOf9
 v9:=Tryz.zeroValue9}
open Go.RowKit Go.Lib in
theorem Tryz.strings_TrimPrefix (s p:ByteArray) (w:World):
  Calls Tryz.prog 176 #[.string s,.string p] w λe a=>e= .returned (.string ⟨(Lib.trimPrefix s.data.toList p.data.toList).toArray⟩)/\a=w:=Any.strings_TrimPrefix Tryz.aoS s p w
def Tryz.aoT:Go.Shelf.Ren:=⟨fun|212=>200|263=>214|264=>215|n=>n,fun|46=>204|51=>215|146=>216|53=>218|148=>219|n=>n,fun|n=>n⟩
theorem Tryz.aoU:Go.Proofs.Lays.n212 Tryz.prog Tryz.aoT:={
 mixed:=by kernel_rfl
 f212:=Tryz.func200.trans (congrArg some<|by kernel_rfl)
 f263:=Tryz.func214.trans (congrArg some<|by kernel_rfl)
 f264:=Tryz.func215.trans (congrArg some<|by kernel_rfl)
 t46:=Tryz.underlying204
 a46:=Tryz.isAgg204
 z46:=Tryz.sizeOf204
 v46:=Tryz.zeroValue204
 t51:=Tryz.underlying215
 a51:=Tryz.isAgg215
 z51:=Tryz.sizeOf215
 v51:=Tryz.zeroValue215
 t53:=Tryz.underlying218
 a53:=Tryz.isAgg218
 z53:=Tryz.sizeOf218
 v53:=Tryz.zeroValue218
 t146:=Tryz.underlying216
 a146:=Tryz.isAgg216
 z146:=Tryz.sizeOf216
 v146:=Tryz.zeroValue216
 t148:=Tryz.underlying219
 a148:=Tryz.isAgg219
 z148:=Tryz.sizeOf219
 v148:=Tryz.zeroValue219}
open Go.RowKit Go.Lib in
theorem Tryz.bits_Mul (x y:Nat) (a:x<18446744073709551616) (b:y<18446744073709551616) (w:World):
  Calls Tryz.prog 200 #[.int .u64 x,.int .u64 y] w λe c=>e= .returned (.tuple #[.int .u64 ((x*y/18446744073709551616:Nat):Int),.int .u64 ((x*y%18446744073709551616:Nat):Int)])/\c=w:=Any.bits_Mul Tryz.aoU x y a b w
def Tryz.Z3:Go.Shelf.Ren:=⟨fun|166=>105|240=>136|276=>180|n=>n,fun|70=>97|3=>3|0=>0|4=>4|9=>9|20=>20|72=>99|37=>22|164=>188|5=>5|75=>121|80=>63|n=>n,fun|n=>n⟩
theorem Tryz.aoV:Go.Proofs.Lays.n166 Tryz.prog Tryz.Z3:={
 mixed:=by kernel_rfl
 f166:=Tryz.func105.trans (congrArg some<|by kernel_rfl)
 f240:=Tryz.func136.trans (congrArg some<|by kernel_rfl)
 f276:=Tryz.func180.trans (congrArg some<|by kernel_rfl)
 t0:=Tryz.underlying0
 a0:=Tryz.isAgg0
 z0:=Tryz.sizeOf0
 v0:=Tryz.zeroValue0
 t3:=Tryz.underlying3
 a3:=Tryz.isAgg3
 z3:=Tryz.sizeOf3
 v3:=Tryz.zeroValue3
 t4:=Tryz.underlying4
 a4:=Tryz.isAgg4
 z4:=Tryz.sizeOf4
 v4:=Tryz.zeroValue4
 t9:=Tryz.underlying9
 a9:=Tryz.isAgg9
 z9:=Tryz.sizeOf9
 v9:=Tryz.zeroValue9
 t20:=Tryz.underlying20
 a20:=Tryz.isAgg20
 z20:=Tryz.sizeOf20
 v20:=Tryz.zeroValue20
 t37:=Tryz.underlying22
 a37:=Tryz.isAgg22
 z37:=Tryz.sizeOf22
 v37:=Tryz.zeroValue22
 t70:=Tryz.underlying97
 a70:=Tryz.isAgg97
 z70:=Tryz.sizeOf97
 v70:=Tryz.zeroValue97
 t72:=Tryz.underlying99
 a72:=Tryz.isAgg99
 z72:=Tryz.sizeOf99
 v72:=Tryz.zeroValue99
 t164:=Tryz.underlying188
 a164:=Tryz.isAgg188
 z164:=Tryz.sizeOf188
 v164:=Tryz.zeroValue188
 t75:=Tryz.underlying121
 a75:=Tryz.isAgg121
 z75:=Tryz.sizeOf121
 v75:=Tryz.zeroValue121}
theorem Tryz.aoW:Builder.Extra Tryz.prog Tryz.Z3:={
 sizeBuilder:=by kernel_rfl
 liesBuilder:=by kernel_rfl
 t5:=Tryz.underlying5
 a5:=Tryz.isAgg5
 z5:=Tryz.sizeOf5
 v5:=Tryz.zeroValue5
 infoByte:=by kernel_rfl
 cellsByte:=by kernel_rfl
 sizeByte:=by kernel_rfl
 neB5:=by decide}
open Go.RowKit in
theorem Tryz.Builder_WriteString_f (B b:Nat) (bs:List Value) (s:ByteArray) (w:World) (h:Lib.IsBuilderF 99 5 B b bs w) (a:bs.length+s.size<=140737488355328) (d:B<=w.heap.size):
  Calls Tryz.prog 105 #[.pointer<|some ⟨b,0,none⟩,.string s] w λe c=>e= .returned (.tuple #[.int .i64 s.size,.nilIface])/\(Lib.BuilderAtF 99 5 B b (.pointer<|some ⟨b,0,none⟩) (bs++Lib.strCells s) c/\Below B w c):=Any.Builder_WriteString_f Tryz.aoV Tryz.aoW B b bs s w h a d
end Go.Proofs
namespace Go.Proofs.YtcildnfcpkpomaaGreatDoor
open Go
variable {L:List Nat} {w:World} {ps:List cW} {i:Nat}
theorem aoX (s p:aj) (w:World):bB Tryz.prog 108 [str s,str p] w λv a=>v= .bool (Lib.hasPrefix s p)/\w=a:=
 ⟨tP.mk' Tryz.func108 rfl adR,Calls.mono (Tryz.strings_HasPrefix ⟨s.toArray⟩ ⟨p.toArray⟩ w) λe a ⟨b,c⟩=>⟨_,b,sm,c.symm⟩⟩
theorem aoY (s p:aj) (w:World):bB Tryz.prog 176 [str s,str p] w λv a=>v=str (Lib.trimPrefix s p)/\w=a:=
 ⟨tP.mk' Tryz.func176 rfl aeX,Calls.mono (Tryz.strings_TrimPrefix ⟨s.toArray⟩ ⟨p.toArray⟩ w) λe a ⟨b,c⟩=>⟨_,b,by simp[str],c.symm⟩⟩
theorem aoZ (w:World) (o:Obj) (a:Addr) (n:Nat) (b:a.block=w.heap.size):ak [] w ((w.alloc o).freeze a n):=by
 unfold World.freeze;split
 .exact ak.alloc [] w o
 .refine⟨rfl,rfl,rfl,?_,λk hk _=>?_⟩
  .show w.heap.size<=Array.size (Array.modify (w.alloc o).heap _ _);rw[Array.size_modify];exact(ak.alloc [] w o).size
  .show(Array.modify (w.alloc o).heap _ _)[k]?=_;rw[Array.getElem?_modify,iN (by rw[b];omega)];exact(ak.alloc [] w o).block k hk sm
theorem ao0 (w:World) (e:TypeId) (s:ByteArray):ak [] w (Lib.bytesWorld w e s):=
 (ak.drew [] w).trans (aoZ _ _ _ _ rfl)
theorem ao1 (s:aj) {z:Int} (h:numeral s=some z) (w:World):bB Tryz.prog 178 [str s] w λv a=>v= .tuple #[.int .i64 z,.nilIface]/\ak [] w a:=
 ⟨tP.mk' Tryz.func178 rfl aeZ,Calls.mono (Tryz.strconv_Atoi ⟨s.toArray⟩ z (by have:=T6 h;simp[ByteArray.size];omega) (by simpa using acC h) w) λe a ⟨b,t,c⟩=>⟨_,b,rfl,by rw[c];exact ao0 _ _ _⟩⟩
theorem M6 (a b c:Int) (w:World):bB Tryz.prog 62 [.int .i64 a,.int .i64 b,.int .i64 c] w λv d=>v= .bool (decide (b<=a)&&decide (a<=c))/\w=d:=by refine bY [.tmp 6] 15 Tryz.func62 rfl afO rfl rfl ?_;refine W ?_;apply oB 4 10 14 rfl oQ;intro _;exact oQ;intro _;refine W ?_;exact⟨_,rfl,rfl,rfl⟩
theorem ao2 (c:UInt8) (w:World):bB Tryz.prog 109 [.int .u8 c.toNat] w λv b=>v= .bool (fj c)/\w=b:=by refine bY [.tmp 2] 33 Tryz.func109 rfl adS rfl rfl ?_;refine W ?_;apply oB 3 5 8 rfl oQ;intro _;exact oQ;intro a;refine WZ ?_;apply oP 7 9 16 rfl oQ;intro _;refine WZ ?_;apply oB 3 12 15 rfl oQ;intro _;exact oQ;intro a;exact oQ;intro a;refine WZ ?_;apply oP 3 17 20 rfl oQ;intro _;exact oQ;intro a;refine WZ ?_;apply oP 3 21 24 rfl oQ;intro _;exact oQ;intro a;refine WZ ?_;apply oP 3 25 28 rfl oQ;intro _;exact oQ;intro a;refine WZ ?_;apply oP 3 29 32 rfl oQ;intro _;exact oQ;intro a;refine W ?_;exact⟨_,rfl,congrArg Value.bool (S6 c),rfl⟩
theorem ao3 (s:aj) (l:s.length<9223372036854775807) (w:World):bB Tryz.prog 177 [str s] w λv e=>v= .bool (s.all iU)/\w=e:=by
 refine bY [.tmp 2] 20 Tryz.func177 rfl aeY rfl rfl ?_;refine W ?_;refine eJ (λk:Nat=>[(0,str s),(5,.int .i64 (s.length:Int)),(6,.int .i64 (k:Int))]) (λk e=>e=w/\k<=s.length/\(s.take k).all iU=true) (λk=>s.length-k) (0) (⟨rfl,rfl,rfl⟩) (⟨rfl,om,sm⟩) λf _ _ i=>?_;obtain⟨rfl,hk,b⟩:=i;refine W ?_;refine zc rfl (λg=>?_) λg=>?_;have a:f<s.length:=by omega
 refine W ?_;refine kH jb rfl rfl rfl rfl (jH a)<|WZ ?_;apply oP 5 13 18 rfl oQ;intro _;refine zm<|zm<|kH jb rfl rfl rfl rfl (jH a) ?_;exact oQ;intro _;refine aW<|zc rfl (λc=>?_) λc=>?_;have d:s.all iU=false:=acF a<|TH c;refine W ?_;exact⟨_,rfl,by rw[d];rfl,rfl⟩;have j:=TJ c;refine W ?_;exact⟨f+1,⟨rfl,rfl,rfl⟩,⟨rfl,om,by rw[NS a,List.all_append,b];simp only[List.all_cons,j.2.2];rfl⟩,om⟩;have d:s.all iU=true:=by rw[List.take_of_length_le om] at b;exact b
 refine W ?_;exact⟨_,rfl,by rw[d];rfl,rfl⟩
theorem RJ (s:aj) (e:s.length<9223372036854775807) (w:World):bB Tryz.prog 133 [str s] w λv c=>v= .bool (numeral s).isSome/\w=c:=by
 have d:(eX s).length<=s.length:=by unfold eX;split<;>simp
 refine bY [.tmp 2] 22 Tryz.func133 rfl aej rfl rfl ?_;refine W ?_;refine aA (aoY _ _ _) ?_;rintro _ _ ⟨rfl,rfl⟩;refine W ?_;rw[acA];apply oP 13 8 21 rfl oQ;intro _;refine W ?_;refine aA (M6 _ _ _ _) ?_;rintro _ _ ⟨rfl,rfl⟩;refine WZ ?_;apply oB 3 12 15 rfl oQ;intro _;refine zm<|aA (ao3 _ om _) ?_;rintro _ _ ⟨rfl,rfl⟩;exact oQ;intro a;refine WZ ?_;apply oB 4 16 20 rfl oQ;intro b;simp at b;refine zm<|kH (i:=0) jb rfl rfl rfl rfl (jH om) ?_;exact oQ;intro a;exact oQ;intro a;refine W ?_;exact⟨_,rfl,show Value.bool _=Value.bool _ from congrArg _<|acG s,rfl⟩
theorem JL (s:aj) {z:Int} (h:numeral s=some z) (w:World):bB Tryz.prog 134 [str s] w λv c=>v= .int .i64 z/\ak [] w c:=by have a:=ak.refl [] w;refine bY [.tmp 2] 11 Tryz.func134 rfl aek rfl rfl ?_;refine W ?_;refine aA (ao1 s h w) ?_;rintro _ _ ⟨rfl,b⟩;have d:=b.size;have a:=a.ext b;refine W ?_;exact⟨_,rfl,rfl,a⟩
theorem ao4 (s:aj) (f:s.length<9223372036854775807) (w:World):bB Tryz.prog 132 [str s] w λv g=>v= .bool (qw s)/\ak [] w g:=by
 have b:=ak.refl [] w;refine bY [.tmp 2] 10 Tryz.func132 rfl aei rfl rfl ?_;refine W ?_;refine aA (RJ s f _) ?_;rintro _ _ ⟨rfl,rfl⟩;refine WZ ?_;apply oA 4 5 9 (ak [] w) rfl oQ;intro e;obtain⟨z,c⟩:=Option.isSome_iff_exists.1 e;have d:z=(numeral s).getD 0:=by rw[c];rfl
 refine zm<|aA (JL s c w) ?_;rintro _ i ⟨rfl,a⟩;have j:=a.size;rw[d];refine aA (M6 _ _ _ _) ?_;rintro _ _ ⟨rfl,rfl⟩;exact oQ;intro _ i a;have b:=b.ext a;refine W ?_;exact⟨_,rfl,show Value.bool _=Value.bool _ from congrArg _<|acE s,b⟩
theorem Z4 (s:aj) (l:s.length<9223372036854775807) (w:World):bB Tryz.prog 97 [str s] w λr b=>r= .bool (oG s)/\w=b:=by refine bY [.tmp 2] 35 Tryz.func97 rfl agn rfl rfl ?_;refine W ?_;refine eJ (λk:Nat=>[(0,str s),(6,.int .i64 (s.length:Int)),(7,.int .i64 (k:Int))]) (λk b=>b=w/\k<=s.length/\∀j,j<k->Dl s j=true) (λk=>s.length-k) (0) (⟨rfl,rfl,rfl⟩) (⟨rfl,om,by intro j i;omega⟩) λe _ _ g=>?_;obtain⟨rfl,hk,d⟩:=g;refine W ?_;refine zc rfl (λf=>?_) λf=>?_;refine W ?_;refine kH jb rfl rfl rfl rfl (jH om)<|W ?_;apply oB 3 15 18 rfl oQ;intro _;exact oQ;intro c;refine WZ ?_;apply oP 11 19 30 rfl oQ;intro _;refine WZ ?_;apply oB 3 22 25 rfl oQ;intro _;exact oQ;intro c;refine WZ ?_;apply oB 3 26 29 rfl oQ;intro _;exact oQ;intro c;exact oQ;intro c;refine ka rfl rfl rfl<|aW<|zc rfl (λa=>?_) λa=>?_;rw[Kq] at a;refine W ?_;exact⟨_,rfl,by rw[Tv om a];rfl,rfl⟩;rw[Kq] at a;refine W ?_;exact⟨e+1,⟨rfl,rfl,rfl⟩,⟨rfl,om,Tx d a⟩,om⟩;refine W ?_;exact⟨_,rfl,by rw[Tw λj i=>d j om];rfl,rfl⟩
theorem GY (t:aq) (v:Value) (L:List Nat) (w:World) (e:bg L w v t):bB Tryz.prog 81 [v] w λr f=>r= .bool (decide<|t.ag.length=0)/\ak [] w f:=by obtain⟨a,n,c,rfl,_,_⟩:=db e;have b:=ak.refl [] w;refine bY [.tmp 2] 7 Tryz.func81 rfl af7 rfl rfl ?_;refine zr<|eK rfl λ_ d _ _=>?_;have b:=b.ext d;refine W ?_;exact⟨_,rfl,show Value.bool _=Value.bool _ from congrArg _<|decide_eq_decide.2 om,b⟩
theorem uT (t:aq) (u:WF t) (v:Value) (L:List Nat) (w:World) (p:bg L w v t):bB Tryz.prog 45 [v] w λr A=>r=str (bz t)/\ak [] w A:=by
 have g:=p;obtain⟨a,n,c,rfl,z,e⟩:=db p;have d:=ak.refl [] w;refine bY [.tmp 2] 10 Tryz.func45 rfl afD rfl rfl ?_;refine zr<|eK rfl λB s l _=>cS s d e g λd e g=>?_;refine W ?_;refine aA (GY t _ L B g) ?_;rintro _ _ ⟨rfl,m⟩;have C:=m.size;refine cS m d e l λd e l=>?_;refine aW<|zc rfl (λo=>?_) λo=>?_;have j:bz t=[]:=Dm (.inr<|List.length_eq_zero_iff.1 o);refine W ?_;exact⟨_,rfl,by rw[j];rfl,d⟩;have f:0<t.ag.length:=by omega
 have y:t.au=[]:=Classical.byContradiction (λh=>by have:=u.leaf h;rw[this] at f;exact absurd f de);have q:=ew f;have j:bz t=(nth t.ag 0).au:=HG y q;obtain⟨b,_,_,_,_,rfl,_,_,_⟩:=ik e q;refine WI ?_;refine zi (i:=0) iA bX rfl rfl (by rw[z];exact f)<|W ?_;exact⟨_,rfl,by rw[j];rfl,d⟩
theorem ao5 (t:aq) (j:WF t) (h:aj) (k:Int) (v:Value) (L:List Nat) (w:World) (f:bg L w v t):
  bB Tryz.prog 46 [v,str h,.int .i64 k] w λr m=>r= .bool (decide ((t.ag.length:Int)=k)&&decide (bz t=h))/\ak [] w m:=by
 have e:=f;obtain⟨a,n,c,rfl,l,_⟩:=db f;have b:=ak.refl [] w;subst l;refine bY [.tmp 6] 18 Tryz.func46 rfl afE rfl rfl ?_;refine zr<|eK rfl λg i _ _=>bN i b e λb e=>?_;refine W ?_;apply oA 5 12 17 (ak [] g) rfl oQ;intro _;refine W ?_;refine aA (uT t j _ L g e) ?_;rintro _ o ⟨rfl,d⟩;have p:=d.size;exact oQ;intro _ o d;have b:=b.ext d;refine W ?_;exact⟨_,rfl,rfl,b⟩
theorem ao6 (d:List aq) (z:d.length<1000000000) (g:aq->Bool) (f:FuncId) (e:List Value) (v:Value) (L:List Nat) (w:World) (n:cY L w v d) 
  (D:∀i,i<d.length->∀(u:Value) (l:World),ak [] w l->bg L l u (nth d i)->bB Tryz.prog f (u::e) l λr s=>r= .bool (g<|nth d i)/\ak [] l s):
  bB Tryz.prog 199 [v,.func (.func f) #[] e.toArray] w λr l=>r= .int .i64 (Dn d g)/\ak [] w l:=by
 obtain⟨a,c,rfl,_⟩:=sO n;have I:(di d).length=d.length:=iz d;have j:=ak.refl [] w;refine bY [.tmp 4] 19 Tryz.func199 rfl aff rfl rfl ?_;refine W ?_;refine eJ (λk:Nat=>[(0,.slice a (di d).length c),(1,.func (.func f) #[] e.toArray),(7,.int .i64 ((di d).length:Int)),(8,.int .i64 (k:Int))]) (λk l=>ak [] w l/\k<=d.length/\∀i,i<k->g (nth d i)=false) (λk=>d.length-k) (0) (⟨rfl,rfl,rfl,rfl⟩) (⟨j,om,by intro i y;omega⟩) λm F _ C=>?_;obtain⟨j,hk,o⟩:=C;have n:=n.ext j;refine W ?_;refine zc rfl (λB=>?_) λB=>?_;have E:=ew (ps:=d) (i:=m) om;obtain⟨b,_,_,_,_,rfl,_,_,A⟩:=ik n E;refine W ?_;refine HC rfl rfl rfl (D m om _ F j<|kI A) ?_;rintro _ _ ⟨rfl,t⟩;have H:=t.size;have j:=j.ext t;refine aW<|zc rfl (λp=>?_) λp=>?_;have q:=acH om o p;refine W ?_;exact⟨_,rfl,by rw[q];rfl,j⟩;refine W ?_;exact⟨m+1,⟨rfl,rfl,rfl,rfl⟩,⟨j,om,by intro i y;rcases Nat.lt_or_ge i m with h|h;exact o i h;rw[show i=m by omega];exact p⟩,om⟩;have q:=acI λi y=>o i om;refine W ?_;exact⟨_,rfl,by rw[q];rfl,j⟩
theorem ao7 (b:List aq) (d:b.length<1000000000) (g:aq->Bool) (f:FuncId) (a:List Value) (v:Value) (L:List Nat) (w:World) (n:cY L w v b) 
  (m:∀i,i<b.length->∀(u:Value) (c:World),ak [] w c->bg L c u (nth b i)->bB Tryz.prog f (u::a) c λr j=>r= .bool (g<|nth b i)/\ak [] c j):
  bB Tryz.prog 173 [v,.func (.func f) #[] a.toArray] w λr c=>r= .bool (b.any g)/\ak [] w c:=by
 have e:=ak.refl [] w;refine bY [.tmp 4] 9 Tryz.func173 rfl aeU rfl rfl ?_;refine W ?_;refine aA (ao6 b d g f a _ L w n m) ?_;rintro _ _ ⟨rfl,l⟩;have o:=l.size;have e:=e.ext l;refine W ?_;exact⟨_,rfl,congrArg Value.bool<|acJ b g,e⟩
def Z5 (m:Nat):Prop:=∀(t:aq),t.size<=m->t.size<=100000->WF t->∀(a:Bool) (v:Value) (L:List Nat) (w:World),bg L w v t->
  bB Tryz.prog 130 [v,.bool a,.bool false] w λr b=>r= .bool (fR a t)/\ak [] w b
theorem ao8 {m:Nat} (u:Z5 m) (t:aq) (h:t.size<=m) (s:t.size<=100000) (q:WF t) (b:Bool) (j l:Nat) (v:Value) (L:List Nat) (w:World) (o:bg L w v t) 
  (g:aJ w j #[.bool b] 4) (f:aJ w l #[.bool false] 4):
  bB Tryz.prog 174 [v,.pointer<|some ⟨j,0,none⟩,.pointer (some ⟨l,0,none⟩)] w λr y=>r= .bool (!fR b t)/\ak [] w y:=by
 have e:=o;obtain⟨a,n,c,rfl,_,_⟩:=db o;have d:=ak.refl [] w;refine bY [.tmp 4] 10 Tryz.func174 rfl aeV rfl rfl ?_;refine zr<|eK rfl λz p _ _=>gT p d e g f λd e g f=>?_;refine W ?_;refine aA (u t h s q b _ L z e) ?_;rintro _ _ ⟨rfl,i⟩;have A:=i.size;have d:=d.ext i;refine W ?_;exact⟨_,rfl,rfl,d⟩
theorem ao9 {b a n c:Nat} {g:List aq} (h:cY L w (.slice (some ⟨b,a,none⟩) n c) g) (k:Nat) (p:Prop) (o:p->k<g.length):
  ∃d f e,Km p w b (a+k*2) [str (nth g k).au,.slice d f e]/\Kn p L w (.slice d f e) (nth g k).ag:=by
 by_cases i:p
 .obtain⟨_,_,d,f,e,m,q,_,l⟩:=ik h (ew<|o i);cases m;exact⟨d,f,e,λ_=>q,λ_=>l⟩
 .exact⟨none,0,0,λj=>absurd j i,λj=>absurd j i⟩
theorem Z6 (a:List aq) (k i:Nat):nth (a.drop k) i=nth a (i+k):=by simp[nth,List.getD,List.getElem?_drop,Nat.add_comm]
theorem apb (a:List aq) (f:aq->Bool):(!a.any λu=>!f u)=a.all f:=by
 induction a with
 |nil=>rfl
 |cons t r b=>simp only[List.any_cons,List.all_cons,Bool.not_or,Bool.not_not,b]
theorem RK:∀m,Z5 m:=by
 intro m;induction m with
 |zero=>intro t h;have:=oH t;omega
 |succ m T=>
  intro t _ _ B e v L w S;have g:=S;obtain⟨a,n,c,rfl,_,f⟩:=db S;have d:=ak.refl [] w;have og:=oH t;refine bY [.tmp 6] 53 Tryz.func130 rfl aeg rfl rfl ?_;refine zr<|eK rfl λO aI j _=>cS aI d f g λd f g=>?_;refine NA rfl rfl rfl λF az r _=>gT az d f g j λd f g j=>?_;refine NA rfl rfl rfl λw3 aH o _=>kj aH d f g j r λd f g j r=>?_;refine W ?_;refine aA (GY t _ L w3 g) ?_;rintro _ w4 ⟨rfl,P⟩;have gq:=P.size;refine uq P d f g j r o λd f g j r o=>?_;refine aW<|zc rfl (λh1=>?_) λh1=>?_;have y:t.au≠[]:=λh=>by have:=B.pos h;omega
  refine WZ ?_;apply oP 7 12 19 rfl oQ;intro _;refine WZ ?_;apply oB 4 14 18 rfl oQ;intro _;refine WZ ?_;exact oQ;intro Z;exact oQ;intro Z;refine WZ ?_;apply oP 7 20 27 rfl oQ;intro _;refine zl HV rfl (o.at rfl)<|zm<|Fi (t:=22) (b:=false) rfl ?_;exact oQ;intro Z;refine W ?_;exact⟨_,rfl,show Value.bool _=Value.bool _ from congrArg _<|by rw[TO y,Bool.or_false],d⟩;have z:0<t.ag.length:=by omega
  have y:t.au=[]:=Classical.byContradiction (λh=>by have:=B.leaf h;rw[this] at z;exact absurd z de);have U:=ew z;have E:bz t=(nth t.ag 0).au:=HG y U;refine W ?_;refine aA (uT t B _ L w4 g) ?_;rintro _ Y ⟨rfl,Q⟩;have oT:=Q.size;refine kj Q d f j r o λd f j r o=>?_;obtain⟨b,_,_,_,_,rfl,_,_,_⟩:=ik f U;refine W ?_;refine zc rfl (λJ=>?_) λJ=>?_;have he:(nth t.ag 0).au=[101]:=E.symm.trans J;have o:aJ Y F.heap.size #[.bool false] 4:=o;obtain⟨_,_,_,N,H⟩:=ao9 f 1 ((n:Int)=2) λh=>om;refine jS<|Ds [32,33,34,35,36,37,38,39,40,41,42,43,6] [(6,.bool<|decide ((n:Int)=2)&&fR true (nth t.ag 1))] ?_ ?_;rcases bE (decide ((n:Int)=2)) with gP|gP;apply ke dj 13 (rA 32 12++[6]) (rA 32 12++[6]) [[],[0],[1],[2],[3],[4],[4,5],[4,6],[4,7],[4],[4,8,9],[4,10],[11]] [It.v _,It.v _,It.v _,It.v _,It.v<|.bool true,It.v _,It.v _,It.v _,It.v _,It.v _,It.v _,It.v _,It.v _] de rfl;intro wd aC;refine VA ?_;refine vc (λx q s=>?_) ?_;refine WZ ?_;exact pv (by exact congrArg Value.bool gP);refine VA ?_;refine vk aC (λx q s=>?_) ?_;have p:=gP;refine zi (i:=1) iA bX rfl rfl (by have:=of_decide_eq_true p;omega) ?_;exact pv;refine vk aC (λx q s=>?_) ?_;have N:=N.ext s;have p:=gP;refine zL jk bX rfl (N<|of_decide_eq_true p) rfl ?_;exact pv;refine VA ?_;refine vk aC (λx q s=>?_) ?_;have H:=H.ext s;have p:=gP;refine aA (T (nth t.ag 1) (by have:=of_decide_eq_true p;have:=kW (t:=t) (i:=1) om;omega) (by have:=of_decide_eq_true p;have:=kW (t:=t) (i:=1) om;omega) (B.nth (by have:=of_decide_eq_true p;omega)) true _ L q<|kI (H<|of_decide_eq_true p)) ?_;rintro _ w7 ⟨rfl,A⟩;have pA:=A.size;exact pk A;exact VZ;intro x V C;change OW _ _ _ _ [] (ba (aZ _ x _) (zZ 32 [_,_,_,_,_,_,_,_,_,_,_,_]++[(6,_)])) _;refine W ?_;exact kE C;apply ke dj 13 (rA 32 12++[6]) (rA 32 12++[6]) [[],[0],[1],[2],[3],[4],[4,5],[4,6],[4,7],[4],[4,8,9],[4,10],[11]] [It.v _,It.v _,It.v _,It.v _,It.v (.bool false),It.v _,It.v _,It.v _,It.v _,It.v _,It.v _,It.v _,It.v _] de rfl;intro wd aC;refine VA ?_;refine vc (λx q s=>?_) ?_;refine WZ ?_;exact pv (by exact congrArg Value.bool gP);exact VZ;intro x V C;change OW _ _ _ _ [] (ba (aZ _ x _) (zZ 32 [_,_,_,_,_,_,_,_,_,_,_,_]++[(6,_)])) _;refine W ?_;exact kE C;intro x V C;have d:=d.ext C;refine kF<|⟨_,rfl,show Value.bool _=Value.bool _ from congrArg _ ?_,d⟩;rw[NV y z he]
  congr 1
  exact decide_eq_decide.2 om;have dD:(nth t.ag 0).au≠[101]:=λh=>J<|E.trans h;refine W ?_;refine jn (λ_:Unit=>[(3,.pointer<|some ⟨w.heap.size,0,none⟩),(4,.pointer<|some ⟨O.heap.size,0,none⟩),(5,.pointer<|some ⟨F.heap.size,0,none⟩),(44,.bool (decide (bz t=[116])||decide (bz t=[99])))]) (λ_ X=>X=Y) ?_ ?_;refine zc rfl (λK=>?_) λK=>?_;refine WZ ?_;exact⟨(),⟨rfl,rfl,rfl,congrArg Value.bool<|Bj K⟩,rfl⟩;refine W ?_;exact⟨(),⟨rfl,rfl,rfl,congrArg Value.bool<|Bl K⟩,rfl⟩;intro _ q _ hI;obtain rfl:=hI;refine zc rfl (λM=>?_) λM=>?_;have D:=Bm M;rw[E] at D;refine W ?_;refine Fh (l:=1) iA bX rfl rfl rfl rfl om f λyY I=>?_;have I:cY L q yY (t.ag.drop 1):=by rw[cY,Kj];exact I
  refine NQ (vs:=[.pointer<|some ⟨O.heap.size,0,none⟩,.pointer (some ⟨F.heap.size,0,none⟩)]) rfl rfl rfl<|aA (ao7 (t.ag.drop 1) (by rw[List.length_drop];omega) (λu=>!fR e u) 174 [.pointer<|some ⟨O.heap.size,0,none⟩,.pointer (some ⟨F.heap.size,0,none⟩)] _ L q I λi hi u X k R=>by rw[List.length_drop] at hi;rw[Z6] at R⊢;exact ao8 T (nth t.ag<|i+1) (by have:=kW (t:=t) (i:=i+1) om;omega) (by have:=kW (t:=t) (i:=i+1) om;omega) (B.nth om) e _ _ _ L _ R (r.ext k)<|o.ext k) ?_;rintro _ w7 ⟨rfl,A⟩;have pA:=A.size;have d:=d.ext A;refine W ?_;exact⟨_,rfl,show Value.bool _=Value.bool _ from congrArg _<|by rw[NW y z D,apb],d⟩;have D:=Bn M;rw[E] at D;refine W ?_;exact⟨_,rfl,by rw[TP y z dD D];rfl,d⟩
theorem JM {a b:World} (h:ak [] w a) (k:RowKit.Below w.heap.size a b):ak [] w b:=
 ⟨k.os.trans h.os,k.tape.trans h.tape,k.output.trans h.output,Nat.le_trans h.size k.size,λi c d=>(k.block i c).trans<|h.block i c d⟩
theorem apc (x y:Nat) (h:x*y<18446744073709551616) (c:x<18446744073709551616) (d:y<18446744073709551616) (w:World):
  bB Tryz.prog 200 [.int .u64 x,.int .u64 y] w λv e=>v= .tuple #[.int .u64 0,.int .u64 ((x*y:Nat):Int)]/\w=e:=
 ⟨tP.mk' Tryz.func200 rfl afg,Calls.mono (Tryz.bits_Mul x y c d w) λ_ _ ⟨a,b⟩=>⟨_,a,by rw[Nat.div_eq_of_lt h,Nat.mod_eq_of_lt h];rfl,b.symm⟩⟩
theorem apd (B b n:Nat) (w:World) (e:B<=b) (d:aJ w b #[.pointer none,.slice none 0 0] 99) (c:B<=w.heap.size) (g:n<=281474976710656):
  bB Tryz.prog 201 [.pointer<|some ⟨b,0,none⟩,.int .i64 n] w λv a=>v= .tuple #[]/\Lib.IsBuilderF 99 5 B b (Lib.byteCells []) a/\RowKit.Below B w a:=
 ⟨tP.mk' Tryz.func201 rfl afh,Calls.mono (Tryz.Builder_Grow_fresh B b n w e d c g) λ_ _ ⟨f,hb,hk⟩=>⟨_,f,rfl,.inr<|Lib.BuilderAtF.of hb,hk⟩⟩
theorem Z7 (B b:Nat) (l s:aj) (w:World) (h:Lib.IsBuilderF 99 5 B b (Lib.byteCells l) w) (a:l.length+s.length<=140737488355328) (d:B<=w.heap.size):
  bB Tryz.prog 105 [.pointer<|some ⟨b,0,none⟩,str s] w λv c=>(∃u,v=u)/\Lib.IsBuilderF 99 5 B b (Lib.byteCells<|l++s) c/\RowKit.Below B w c:=
 ⟨tP.mk' Tryz.func105 rfl adQ,Calls.mono (Tryz.Builder_WriteString_f B b _ ⟨s.toArray⟩ w h (by rw[Lib.byteCells_length];simpa[ByteArray.size] using a) d) λ_ _ ⟨f,hb,hk⟩=>⟨_,f,⟨_,rfl⟩,.inr (by have e:Lib.byteCells (l++s)=Lib.byteCells l++Lib.strCells ⟨s.toArray⟩:=by{simp[Lib.byteCells,Lib.strCells]};rw[e];exact hb),hk⟩⟩
theorem RM (B b:Nat) (l:aj) (w:World) (h:Lib.IsBuilderF 99 5 B b (Lib.byteCells l) w):
  bB Tryz.prog 202 [.pointer (some ⟨b,0,none⟩)] w λv d=>v= .int .i64 (l.length:Int)/\w=d:=
 ⟨tP.mk' Tryz.func202 rfl afi,Calls.mono (Tryz.Builder_Len_f B b _ w h) λ_ _ ⟨a,c⟩=>⟨_,a,by rw[Lib.byteCells_length],c.symm⟩⟩
theorem Z8 (B b:Nat) (l:aj) (c:l≠[]) (w:World) (h:Lib.IsBuilderF 99 5 B b (Lib.byteCells l) w):
  bB Tryz.prog 77 [.pointer (some ⟨b,0,none⟩)] w λv a=>v=str l/\Lib.IsBuilderF 99 5 B b (Lib.byteCells l) a/\RowKit.Below B w a:=
 ⟨tP.mk' Tryz.func77 rfl af3,Calls.mono (Tryz.Builder_String_f B b l w h c) λ_ _ ⟨d,hb,hk⟩=>⟨_,d,rfl,hb,hk⟩⟩
theorem ape (c:Nat) (N:c<=8192) (w:World):bB Tryz.prog 175 [str [115],.int .i64 (c:Int)] w λv f=>v=str (List.replicate c 115)/\ak [] w f:=by
 have b:=ak.refl [] w;refine bY [.tmp 4] 125 Tryz.func175 rfl aeW rfl rfl ?_;refine W ?_;refine zc rfl (λB=>?_) λB=>?_;have A:c=0:=by omega
 refine W ?_;exact⟨_,rfl,by rw[A];rfl,b⟩;refine W ?_;refine zc rfl (λC=>?_) λC=>?_;have u:c=1:=by omega
 refine W ?_;exact⟨_,rfl,by rw[u];rfl,b⟩;refine W ?_;refine zc rfl (λD=>?_) λD=>?_;exfalso;omega;refine W ?_;refine zq xY KJ rfl rfl rfl (show IntKind.u64.wrap (([115]:aj).length:Int)=((1:Nat):Int) from by decide)<|zm<|zq xY KJ rfl rfl rfl (show IntKind.u64.wrap (c:Int)=((c:Nat):Int) from by rw[wrap_u64 _ om om])<|aA (apc 1 c om om om _) ?_;rintro _ _ ⟨rfl,rfl⟩;refine zm<|zx (i:=0) rfl rfl<|zx (i:=1) rfl rfl<|zA<|zA<|aW<|jS<|zr<|zm<|Hk rfl rfl rfl rfl rfl<|zm ?_;apply C5 3 31 34 [31,32,33,34] (λf=>w=f) rfl;intro g;replace g:=jq g;refine W ?_;exact mg rfl rfl;intro g;replace g:=jq g;refine W ?_;exact mg rfl rfl;rintro _ _ rfl;refine aW<|zc rfl (λl=>?_) λl=>?_;exfalso;simp at l;omega;refine iw<|zr<|zm<|zq KJ xY rfl rfl rfl (show IntKind.i64.wrap ((1*c:Nat):Int)=(c:Int) from by rw[wrap_i64 _ om om];omega)<|W ?_;refine zc rfl (λm=>?_) λm=>?_;exact absurd m de;refine W ?_;refine kH (i:=0) jb rfl rfl rfl rfl (jH de)<|W ?_;refine zc rfl (λn=>?_) λn=>?_;exact absurd n de;refine W ?_;refine zc rfl (λo=>?_) λo=>?_;exact absurd o de;refine W ?_;refine zc rfl (λp=>?_) λp=>?_;exact absurd p de;refine W ?_;refine zc rfl (λj=>?_) λj=>?_;exact absurd j de;refine W ?_;refine zc rfl (λq=>?_) λq=>?_;exact absurd q de;refine W ?_;refine zc rfl (λH=>?_) λH=>?_;exfalso;omega;refine iw<|zr<|dx UP rfl rfl rfl λJ t y _=>?_;have b:=b.ext t;refine aW<|zr<|zm<|aA (apd w.heap.size w.heap.size c J (lR _) y om om) ?_;rintro _ K ⟨rfl,d,e⟩;have b:=JM b e;refine aW<|zr<|zm<|aA (Z7 w.heap.size w.heap.size [] [115] K d sm (by have:=b.size;omega)) ?_;rintro _ _ ⟨_,d,e⟩;have b:=JM b e;refine W ?_;refine eJ (λk:Nat=>[(0,str [115]),(7,.int .i64 (c:Int)),(8,.int .i64 (c:Int)),(9,.pointer<|some ⟨w.heap.size,0,none⟩)]) (λk f=>ak [] w f/\Lib.IsBuilderF 99 5 w.heap.size w.heap.size (Lib.byteCells<|List.replicate k 115) f/\1<=k/\k<=c) (λk=>c-k) (1) (⟨rfl,rfl,rfl,rfl⟩) (⟨b,d,om,om⟩) λa r _ E=>?_;obtain⟨b,d,hk,_⟩:=E;have M:=b.size;refine jS<|zr<|aA (RM _ _ _ _ d) ?_;rintro _ _ ⟨rfl,rfl⟩;rw[List.length_replicate];refine W ?_;refine zc rfl (λI=>?_) λI=>?_;have L:a<c:=by omega
 refine W ?_;refine aA (RM _ _ _ _ d) ?_;rintro _ _ ⟨rfl,rfl⟩;rw[List.length_replicate];refine W ?_;refine aA (RM _ _ _ _ d) ?_;rintro _ _ ⟨rfl,rfl⟩;rw[List.length_replicate];refine zm<|ab7 rfl rfl rfl rfl rfl (show(if(c:Int)<(if(a:Int)<(c:Int)-a then(a:Int) else(c:Int)-a) then(c:Int) else(if(a:Int)<(c:Int)-a then(a:Int) else(c:Int)-a))=((min a (c-a):Nat):Int) from by repeat' split<;>omega)<|zA<|aW<|lx<|aA (Z8 _ _ _ (by intro h;have:=congrArg List.length h;simp at this;omega) r d) ?_;rintro _ s ⟨rfl,d,e⟩;have b:=JM b e;refine zm<|C4 jb rfl rfl rfl (.inl ⟨rfl,rfl⟩) (.inr ⟨_,rfl⟩) om (by rw[List.length_replicate];omega)<|aA (Z7 w.heap.size w.heap.size _ _ s d so (by have:=b.size;omega)) ?_;rintro _ _ ⟨_,d,e⟩;have b:=JM b e;refine W ?_;exact⟨a+min a (c-a),⟨rfl,rfl,rfl,rfl⟩,⟨b,by have z:List.replicate a 115++((List.replicate a (115:UInt8)).drop 0).take (min a (c-a)-0)=List.replicate (a+min a (c-a)) 115:=by{rw[List.drop_zero,Nat.sub_zero,List.take_replicate,List.replicate_append_replicate];congr 1;omega};rw[<-z];exact d,om,om⟩,om⟩;have F:a=c:=by omega
 refine W ?_;refine aA (Z8 _ _ _ (by intro h;have:=congrArg List.length h;simp at this;omega) r d) ?_;rintro _ s ⟨rfl,d,e⟩;have b:=JM b e;refine W ?_;exact⟨_,rfl,by rw[<-F];rfl,b⟩
theorem Z9 (h:aj) (n:Nat) (N:n<=8000) (w:World):bB Tryz.prog 131 [str h,.int .i64 (n:Int)] w λr g=>r=str (er h n)/\ak [] w g:=by have a:=ak.refl [] w;refine bY [.tmp 4] 33 Tryz.func131 rfl aeh rfl rfl ?_;refine W ?_;refine zc rfl (λq=>?_) λq=>?_;have b:=q;refine W ?_;exact⟨_,rfl,show str _=str _ from congrArg _<|by rw[er,iP b],a⟩;have b:=q;refine W ?_;refine jn (λ_:Unit=>[(1,.int .i64 (n:Int)),(5,str h),(8,.bool (decide (h=[109,111,118])||decide (h=[111,112,101,110])))]) (λ_ g=>g=w) ?_ ?_;refine zc rfl (λs=>?_) λs=>?_;refine WZ ?_;exact⟨(),⟨rfl,rfl,congrArg Value.bool<|Bj s⟩,rfl⟩;refine W ?_;exact⟨(),⟨rfl,rfl,congrArg Value.bool<|Bl s⟩,rfl⟩;intro I K _ j;obtain rfl:=j;refine zc rfl (λt=>?_) λt=>?_;have c:=Bm t;refine W ?_;exact⟨_,rfl,show str _=str _ from congrArg _<|by rw[er,iN b,iP c],a⟩;have c:=Bn t;refine W ?_;refine jn (λ_:Unit=>[(1,.int .i64 (n:Int)),(5,str h),(11,.bool (decide (h=[97,100,100])||decide (h=[115,117,98])||decide (h=[109,117,108])))]) (λ_ g=>g=K) ?_ ?_;refine zc rfl (λu=>?_) λu=>?_;refine WZ ?_;exact⟨(),⟨rfl,rfl,congrArg Value.bool<|NX u⟩,rfl⟩;have H:=u;refine W ?_;refine zc rfl (λv=>?_) λv=>?_;refine WZ ?_;exact⟨(),⟨rfl,rfl,congrArg Value.bool<|NY H v⟩,rfl⟩;refine W ?_;exact⟨(),⟨rfl,rfl,congrArg Value.bool<|NZ H v⟩,rfl⟩;intro I J _ j;obtain rfl:=j;refine zc rfl (λy=>?_) λy=>?_;have d:=N0 y;refine W ?_;exact⟨_,rfl,show str _=str _ from congrArg _<|by rw[er,iN b,iN c,iP d],a⟩;have d:=N2 y;refine W ?_;refine zc rfl (λz=>?_) λz=>?_;have e:=z;refine W ?_;refine Th rfl rfl rfl rfl (show(if(0:Int)<(n:Int)-2 then(n:Int)-2 else 0)=((n-2:Nat):Int) from by split<;>omega)<|aA (ape (n-2) om J) ?_;rintro _ L ⟨rfl,F⟩;have M:=F.size;have a:=a.ext F;refine W ?_;exact⟨_,rfl,show str _=str _ from congrArg _<|by rw[er,iN b,iN c,iN d,iP e],a⟩;have e:=z;refine W ?_;refine zc rfl (λA=>?_) λA=>?_;have f:=A;refine W ?_;exact⟨_,rfl,show str _=str _ from congrArg _<|by rw[er,iN b,iN c,iN d,iN e,iP f],a⟩;have f:=A;refine W ?_;refine zc rfl (λB=>?_) λB=>?_;have i:=B;refine W ?_;exact⟨_,rfl,show str _=str _ from congrArg _<|by rw[er,iN b,iN c,iN d,iN e,iN f,iP i],a⟩;have i:=B;refine W ?_;refine zc rfl (λp=>?_) λp=>?_;have l:=p;refine W ?_;exact⟨_,rfl,show str _=str _ from congrArg _<|by rw[er,iN b,iN c,iN d,iN e,iN f,iN i,iP l],a⟩;have l:=p;refine W ?_;refine zc rfl (λE=>?_) λE=>?_;have m:=E;refine W ?_;exact⟨_,rfl,show str _=str _ from congrArg _<|by rw[er,iN b,iN c,iN d,iN e,iN f,iN i,iN l,iP m],a⟩;have m:=E;refine W ?_;refine jn (λ_:Unit=>[(5,str h),(30,.bool (decide (h=[106,117,109,112])||decide (h=[104,97,108,116])))]) (λ_ g=>g=J) ?_ ?_;refine zc rfl (λC=>?_) λC=>?_;refine WZ ?_;exact⟨(),⟨rfl,congrArg Value.bool<|Bj C⟩,rfl⟩;refine W ?_;exact⟨(),⟨rfl,congrArg Value.bool<|Bl C⟩,rfl⟩;intro I L _ j;obtain rfl:=j;refine zc rfl (λD=>?_) λD=>?_;have o:=Bm D;refine W ?_;exact⟨_,rfl,show str _=str _ from congrArg _<|by rw[er,iN b,iN c,iN d,iN e,iN f,iN i,iN l,iN m,iP o],a⟩;have o:=Bn D;refine W ?_;exact⟨_,rfl,show str _=str _ from congrArg _<|by rw[er,iN b,iN c,iN d,iN e,iN f,iN i,iN l,iN m,iN o],a⟩
theorem apf {v:Value} {b:List aq} (h:cY L w v b):∃a c,v= .slice a b.length c:=by obtain⟨a,c,rfl,_⟩:=sO h;exact⟨a,c,by rw[iz]⟩
theorem aaa (t:aq) (hs:t.size<=12001) (Q:WF t) (v:Value) (L:List Nat) (w:World) (hv:bg L w v t):
  bB Tryz.prog 99 [v] w λr q=>r= .bool (mz t)/\ak [] w q:=by
 have I:=hv;obtain⟨a,n,c,rfl,hn,u⟩:=db hv;have d:=ak.refl [] w;have hn8:=Uc Q;subst hn;have hσ:=ac2 (bz t) t.ag.length;refine bY [.tmp 2] 78 Tryz.func99 rfl agp rfl rfl ?_;refine zr<|eK rfl λ_ f H B=>cS f d u I λd u I=>?_;refine W ?_;apply ke dj 7 (rA 7 6++[3]) (rA 7 6++[3]) [[],[0],[],[2],[3],[1,4],[5]] [It.v _,It.v _,It.v _,It.v _,It.v _,It.v _,It.v (str<|er (bz t) t.ag.length)] de rfl;intro _ aC;refine VA ?_;refine vk aC (λx w2 az=>?_) ?_;have I:=I.ext az;refine aA (uT t Q _ L w2 I) ?_;rintro _ w3 ⟨rfl,F⟩;have fy:=F.size;exact pk F;refine VA ?_;refine vk aC (λx w2 az=>?_) ?_;refine aA (Z9 (bz t) t.ag.length om w2) ?_;rintro _ w3 ⟨rfl,F⟩;have fy:=F.size;exact pk F;exact VZ;intro x mS ie;refine cS ie d u H λd u H=>?_;change OW _ _ _ _ [] (ba (aZ _ x _)<|zZ 7 [_,_,_,_,_,_]++[(3,_)]) _;refine W ?_;apply oP 8 15 23 rfl oQ;intro _;refine WZ ?_;exact oQ;intro xx;refine aW<|zc rfl (λC=>?_) λC=>?_;have hb:er (bz t) t.ag.length=[]\/t.ag.length≠(er (bz t) t.ag.length).length+1:=by simp only[oE,dE] at C;rcases C with h|h;exact .inl h;exact .inr om
 refine W ?_;exact⟨_,rfl,by rw[Ku hb];rfl,d⟩;have hb:¬(er (bz t) t.ag.length=[]\/t.ag.length≠(er (bz t) t.ag.length).length+1):=by simp only[Bool.or_eq_false_iff,decide_eq_false_iff_not] at C;rintro(h|h);exact C.1 h;exact C.2 om
 have dD:=List.length_pos_iff.2 λh=>hb<|.inl h;have hl:t.ag.length=(er (bz t) t.ag.length).length+1:=Classical.byContradiction λh=>hb<|.inr h;obtain⟨_,_,_,_,_,rfl,_,_,_⟩:=ik u<|ew (ps:=t.ag) (i:=0) om;refine W ?_;refine Fh (l:=1) iA bX rfl rfl rfl rfl om u λyY y=>?_;have y:cY L mS yY (t.ag.drop 1):=by rw[cY,Kj];exact y
 obtain⟨a1,c1,rfl⟩:=apf y;have Fl:(t.ag.drop 1).length=t.ag.length-1:=List.length_drop;generalize p:er (bz t) t.ag.length=m at*;refine W ?_;refine eJ (λk:Nat=>[(1,.pointer<|some ⟨w.heap.size,0,none⟩),(3,str m),(26,.slice a1 (t.ag.drop 1).length c1),(27,.int .i64 ((t.ag.drop 1).length:Int)),(28,.int .i64 (k:Int))]) (λk q=>ak [] w q/\ak [] mS q/\k<=(t.ag.drop 1).length/\∀i,i<k->iy ((m.getD i 0).toNat:Int) (nth t.ag (i+1))=true) (λk=>(t.ag.drop 1).length-k) (0) (⟨rfl,rfl,rfl,rfl,rfl⟩) (⟨d,ak.refl [] _,om,by intro i hi;omega⟩) λb oo _ D=>?_;obtain⟨d,f,hk,cJ⟩:=D;refine bN f y H λy H=>?_;have fV:=d.size;have M7:=f.size;have iW:=H.lt;refine W ?_;refine zc rfl (λh3=>?_) λh3=>?_;have hp:=ew (ps:=t.ag.drop 1) (i:=b) om;obtain⟨b1,fo,_,_,_,rfl,jm,eD,g⟩:=ik y hp;rw[Z6] at jm eD g;have O:=Q.nth (i:=b+1) om;have nu:=kW (t:=t) (i:=b+1) om;have DP:=r5 (nth t.ag<|b+1);refine W ?_;refine dx bX rfl rfl rfl λ_ S M _=>?_;have d:=d.grow;have d:=d.ext S;have f:=f.grow;have f:=f.ext S;have g:=g.grow;have g:=g.ext S;refine zA<|cI bX rfl rfl rfl M rfl λmU T M _=>?_;have d:=d.aB T sx;have f:=f.aB T sx;have g:=g.aB T sx;refine W ?_;have e:=ak.refl [] mU;refine kH jb rfl rfl rfl rfl (jH om)<|W ?_;refine jn (λ_:Unit=>[(1,.pointer<|some ⟨w.heap.size,0,none⟩),(3,str m),(5,.pointer<|some ⟨oo.heap.size,0,none⟩),(6,.bool false),(26,.slice (some ⟨b1,fo,none⟩) (t.ag.drop 1).length c1),(27,.int .i64 ((t.ag.drop 1).length:Int)),(28,.int .i64 (b:Int)),(35,.int .u8 ((m.getD b 0).toNat:Int)),(36,.bool (decide (((m.getD b 0).toNat:Int)=100)||decide (((m.getD b 0).toNat:Int)=115)))]) (λ_ q=>q=mU) ?_ ?_;refine zc rfl (λV=>?_) λV=>?_;refine WZ ?_;exact⟨(),⟨rfl,rfl,rfl,rfl,rfl,rfl,rfl,rfl,congrArg Value.bool<|Bj V⟩,rfl⟩;refine W ?_;exact⟨(),⟨rfl,rfl,rfl,rfl,rfl,rfl,rfl,rfl,congrArg Value.bool<|Bl V⟩,rfl⟩;intro gu E _ D;obtain rfl:=D;refine jn (λ_:Unit=>[(1,.pointer<|some ⟨w.heap.size,0,none⟩),(3,str m),(6,.bool<|iy ((m.getD b 0).toNat:Int) (nth t.ag<|b+1)),(26,.slice (some ⟨b1,fo,none⟩) (t.ag.drop 1).length c1),(27,.int .i64 ((t.ag.drop 1).length:Int)),(28,.int .i64 (b:Int))]) (λ_ q=>ak [] E q) ?_ ?_;refine zc rfl (λX=>?_) λX=>?_;have o:=Bm X;refine W ?_;refine aA (ao4 _ om E) ?_;rintro _ s ⟨rfl,j⟩;have P:=j.size;have e:=e.ext j;refine W ?_;exact⟨(),⟨rfl,rfl,by rw[iy,iP o];rfl,rfl,rfl,rfl⟩,e⟩;have o:=Bn X;refine W ?_;refine zc rfl (λY=>?_) λY=>?_;refine W ?_;refine aA (RJ _ om _) ?_;rintro _ _ ⟨rfl,rfl⟩;refine W ?_;exact⟨(),⟨rfl,rfl,by rw[iy,iN o,iP Y];rfl,rfl,rfl,rfl⟩,e⟩;have B:=Y;refine W ?_;refine zc rfl (λZ=>?_) λZ=>?_;have A:=Z;refine W ?_;refine aA (RJ _ om _) ?_;rintro _ _ ⟨rfl,rfl⟩;refine WZ ?_;apply oA 5 52 57 (ak [] E) rfl oQ;intro h8;obtain⟨z,K⟩:=Option.isSome_iff_exists.1 h8;have Cs:z=(numeral (nth t.ag<|b+1).au).getD 0:=by rw[K];rfl
 refine W ?_;refine aA (JL _ K E) ?_;rintro _ s ⟨rfl,j⟩;have P:=j.size;rw[Cs];exact oQ;intro xx s j;have e:=e.ext j;refine W ?_;exact⟨(),⟨rfl,rfl,by rw[iy,iN o,iN B,iP A];rfl,rfl,rfl,rfl⟩,e⟩;have A:=Z;refine W ?_;refine zc rfl (λh9=>?_) λh9=>?_;refine W ?_;refine aA (Z4 _ om _) ?_;rintro _ _ ⟨rfl,rfl⟩;refine W ?_;exact⟨(),⟨rfl,rfl,by rw[iy,iN o,iN B,iN A,iP h9];rfl,rfl,rfl,rfl⟩,e⟩;have U:=h9;refine W ?_;refine zc rfl (λR=>?_) λR=>?_;have N:=R;refine W ?_;refine aA (ao5 (nth t.ag<|b+1) O [101] 2 _ _ E (kI g)) ?_;rintro _ s ⟨rfl,j⟩;have P:=j.size;refine cS j g M e λg M e=>?_;refine WZ ?_;apply oA 3 67 70 (ak [] s) rfl oQ;intro _;refine W ?_;refine aA (RK (nth t.ag (b+1)).size (nth t.ag (b+1)) (lR _) om O false _ _ s (kI g)) ?_;rintro _ mW ⟨rfl,la⟩;have avG:=la.size;exact oQ;intro xx mW la;have e:=e.ext la;refine W ?_;exact⟨(),⟨rfl,rfl,by rw[iy,iN o,iN B,iN A,iN U,iP N,show decide ((nth t.ag<|b+1).ag.length=2)=decide (((nth t.ag<|b+1).ag.length:Int)=2) from decide_eq_decide.2 om];rfl,rfl,rfl,rfl⟩,e⟩;have N:=R;refine W ?_;refine zc rfl (λjB=>?_) λjB=>?_;have iF:=jB;refine W ?_;refine aA (RK (nth t.ag<|b+1).size (nth t.ag<|b+1) (lR _) om O false _ _ E<|kI g) ?_;rintro _ s ⟨rfl,j⟩;have P:=j.size;have e:=e.ext j;refine W ?_;exact⟨(),⟨rfl,rfl,by rw[iy,iN o,iN B,iN A,iN U,iN N,iP iF];rfl,rfl,rfl,rfl⟩,e⟩;have iF:=jB;refine WZ ?_;exact⟨(),⟨rfl,rfl,by rw[iy,iN o,iN B,iN A,iN U,iN N,iN iF];rfl,rfl,rfl,rfl⟩,e⟩;intro gu s _ D;have d:=d.ext D;have f:=f.ext D;refine W ?_;refine zc rfl (λmF=>?_) λmF=>?_;subst p;have J:iy (((er (bz t) t.ag.length).getD b 0).toNat:Int) (nth t.ag<|b+1)=false:=by simpa using mF
 refine W ?_;exact⟨_,rfl,by rw[acK om J];rfl,d⟩;have J:iy ((m.getD b 0).toNat:Int) (nth t.ag<|b+1)=true:=by simpa using mF
 refine W ?_;exact⟨b+1,⟨rfl,rfl,rfl,rfl,rfl⟩,⟨d,f,om,by intro i hi;rcases Nat.lt_or_ge i b with h|h;exact cJ i h;rw[show i=b by omega];exact J⟩,om⟩;subst p;have J:=acL hb λi hi=>cJ i om;refine W ?_;exact⟨_,rfl,by rw[J];rfl,d⟩
theorem aph (t:aq) (g:WF t) (v:Value) (L:List Nat) (w:World) (i:bg L w v t):
  bB Tryz.prog 100 [v] w λr p=>r= .bool (HI t)/\ak [] w p:=by
 have d:=i;obtain⟨a,n,c,rfl,_,_⟩:=db i;have b:=ak.refl [] w;refine bY [.tmp 2] 11 Tryz.func100 rfl adL rfl rfl ?_;refine zr<|eK rfl λq m e _=>bN m b d λb d=>?_;refine W ?_;refine aA (uT t g _ L q d) ?_;rintro _ j ⟨rfl,f⟩;have s:=f.size;refine cS f b d e λb d e=>?_;refine WZ ?_;apply oO 4 6 10 (ak [] j) rfl oQ;intro _;refine W ?_;refine aA (uT t g _ L j d) ?_;rintro _ _ ⟨rfl,l⟩;have u:=l.size;exact oQ;intro _ _ o;have b:=b.ext o;refine W ?_;exact⟨_,rfl,rfl,b⟩
def api (L:List Nat) (d:Nat) (s:aj) (v:Value) (w:World):Prop:=
 ∃t a r ok,v= .tuple #[a,str r,.bool ok]/\bg L w a t/\Bt d s t r ok
theorem apj:∀(d:Nat) (s:aj) (L:List Nat) (w:World),d<=60->s.length<=12000->(∀x∈L,x<w.heap.size)->
  bB Tryz.prog 80 [str s,.int .i64 ((60:Int)-(d:Int))] w λv B=>api L d s v B/\ak [] w B:=by
 intro d;induction d using Nat.strongRecOn with
 |_ d ih=>
 intro s L w R hs hL;have b:=ak.refl [] w;refine kV [.cell 4 61,.tmp 5,.tmp 6] 78 Tryz.func80 rfl af6 rfl rfl rfl ?_;refine zr<|dx bX rfl rfl rfl λM aI c _=>?_;have b:=b.grow;have b:=b.ext aI;refine W ?_;refine aA (aoX _ _ _) ?_;rintro _ _ ⟨rfl,rfl⟩;refine ka rfl rfl rfl<|aW<|zc rfl (λh1=>?_) λh1=>?_;have ry:=h1;refine W ?_;refine eJ (λk:Nat=>[(0,str s),(1,.int .i64<|(60:Int)-(d:Int)),(4,.pointer<|some ⟨w.heap.size,0,none⟩),(7,.int .i64 (k:Int))]) (λk B=>B=M/\k<=(s.takeWhile fj).length) (λk=>s.length-k) (0) (⟨rfl,rfl,rfl,rfl⟩) (⟨rfl,om⟩) λo w2 _ Q=>?_;obtain⟨rfl,FV⟩:=Q;have DM:=Ta fj s o FV;have gj:=Hx fj s;refine WZ ?_;apply oB 5 19 24 rfl oQ;intro _;refine zm<|zm<|kH jb rfl rfl rfl rfl (jH om)<|aA (ao2 _ _) ?_;rintro _ _ ⟨rfl,rfl⟩;exact oQ;intro xx;refine aW<|zc rfl (λh3=>?_) λh3=>?_;have eF:=DM.2 (by simpa using h3);refine W ?_;exact⟨o+1,⟨rfl,rfl,rfl,rfl⟩,⟨rfl,om⟩,om⟩;have Ik:o=(s.takeWhile fj).length:=Nat.le_antisymm FV (Nat.le_of_not_lt λhh=>by have z:=DM.1 hh;rw[z.2,Bool.and_true,decide_eq_false_iff_not] at h3;omega);refine WZ ?_;have f:=(C6 w.heap.size ([str ((s.drop 0).take<|o-0),.slice none 0 0]) 61);apply qx dj f 12 (rA 27 9++[100009,5,6]) (rA 27 9++[100009,5,6]) [[],[],[0,1],[2],[],[],[4,5],[],[7],[3],[6],[8]] [.v _,.v _,.v _,.v _,.v _,.v _,.v _,.v _,.v _,.p λ_ ww=>aJ ww w.heap.size ([str ((s.drop 0).take<|o-0),.slice none 0 0]).toArray 61,.v<|str ((s.drop o).take<|s.length-o),.v (.bool (decide<|(0:Int)<(o:Int)))] de (by exact(bU<|bU (bU<|bU (bU<|bU (bU<|bU (bU<|C7 (bU<|bU trivial)))))));intro wd aC;refine cZ (λ_ _ _=>WZ<|ck f) ?_;refine cZ (λ_ _ _=>WZ<|ck f) ?_;refine cZ (λ_ _ _=>C4 jb rfl rfl rfl (.inl ⟨rfl,rfl⟩) (.inr ⟨_,rfl⟩) om om<|ck f) ?_;refine cZ (λ_ _ _=>jG (UF _ _) rfl rfl<|ck f) ?_;refine cZ (λ_ _ _=>WZ<|ck f) ?_;refine cZ (λ_ _ _=>WZ<|ck f) ?_;refine cZ (λ_ _ _=>C4 jb rfl rfl rfl (.inr ⟨_,rfl⟩) (.inl ⟨rfl,rfl⟩) om om<|ck f) ?_;refine cZ (λ_ _ _=>WZ<|ck f) ?_;refine cZ (λ_ _ _=>WZ<|ck f) ?_;refine fz ?_ ?_;intro x K w3 e X R A;have d3:K 3=(.agg #[str ((s.drop 0).take<|o-0),.slice none 0 0]):=R;replace X:=f.trans aC X;obtain⟨us,rH,uF⟩:=X.2.2 ⟨_,(by rfl),c⟩;replace A:e=ba (aZ _ x _) [(30,K 3)]:=A;rw[d3] at A;subst A;refine cI bX rfl rfl rfl uF (by rw[rH];rfl) λw4 N hb _=>W ?_;exact dn ⟨N,λ_=>hb,λ_=>⟨_,rfl,hb⟩⟩ hb;refine cZ (λ_ _ _=>WZ<|ck f) ?_;refine cZ (λ_ _ _=>WZ<|ck f) ?_;exact trivial;intro x oo yN;intro v9 d9;replace d9:aJ oo w.heap.size ([str ((s.drop 0).take (o-0)),.slice none 0 0]).toArray 61:=d9;have b:=b.aB yN.1 sx;have c:=d9;change OW _ _ _ _ [] (ba (aZ _ x _)<|zZ 27 [_,_,_,_,_,_,_,_,_]++[(100009,v9),(5,_),(6,_)]) _;refine aW<|kF<|⟨[_,_,_],⟨ga jk bX rfl c rfl,rfl,rfl⟩,⟨.mk (s.takeWhile fj) [],_,s.dropWhile fj,_,by rw[List.drop_zero,Nat.sub_zero,Ik,Kh,Oi,Hw];rfl,jI lB,?_⟩,b⟩;unfold Bt;rw[ada ry];by_cases S:s.takeWhile fj=[];rw[iP S];exact .inr ⟨rfl,by simp[S]⟩;rw[iN S];refine .inl ⟨rfl,dT ?_⟩;have:=List.length_pos_iff.2 S;omega;obtain⟨T,rfl⟩:=ac8 h1;refine W ?_;refine zc rfl (λh4=>?_) λh4=>?_;have RO:d=0:=by omega
 refine zr<|jG (Ox _) rfl rfl<|cI bX rfl rfl rfl c rfl λw2 O c dW=>?_;have b:=b.aB O sx;refine W ?_;exact⟨[_,_,_],⟨ga jk bX rfl c rfl,rfl,rfl⟩,⟨.mk [] [],_,[],_,rfl,jI lB,.inr ⟨by rw[RO];simp[eW],rfl⟩⟩,b⟩;have aQ:∃u,d=u+1:=⟨d-1,om⟩;obtain⟨u,rfl⟩:=aQ;refine iw<|zr<|dx bX rfl rfl rfl λw2 O j dW=>?_;have b:=b.grow;have b:=b.ext O;have c:=c.grow;have c:=c.ext O;refine W ?_;have avI:=c.lt;refine eJ (λq:List aq×aj×Option Addr×Nat×Option Nat=>[(0,str q.2.1),(1,.int .i64<|(60:Int)-((u+1:Nat):Int)),(4,.pointer<|some ⟨w.heap.size,0,none⟩),(8,.pointer<|some ⟨M.heap.size,0,none⟩)]) (λq B=>ak [] w B/\aJ B w.heap.size [str [],.slice none 0 0].toArray 61/\aJ B M.heap.size [str [],.slice q.2.2.1 q.1.length q.2.2.2.1].toArray 61/\Gr w.heap.size (w.heap.size::M.heap.size::L) B 61 2 (.slice q.2.2.1 q.1.length q.2.2.2.1) q.2.2.2.2 (di q.1)/\0<q.2.1.length/\q.2.1.length+q.1.length<=12000/\nW (u+1) T=(nW (u+1)<|q.2.1.drop 1).map λp=>(q.1++p.1,p.2)) (λq=>q.2.1.length) (([],40::T,none,0,none)) (⟨rfl,rfl,rfl,rfl⟩) (⟨b,c,j,Gr.nil (by intro x z;simp at z;rcases z with rfl|rfl|z;omega;omega;have:=hL x z;omega) om,sm,by simp at hs⊢;omega,sm⟩) λo w3 _ Q=>?_;obtain⟨m,sc,a,_,g⟩:=o;dsimp only at Q⊢;obtain⟨b,c,j,n,_,_,uw⟩:=Q;have fV:=b.size;have M9:=c.lt;have avK:=j.lt;refine tO<|zr<|zm<|C4 (l:=1) jb rfl rfl rfl (.inr ⟨_,rfl⟩) (.inl ⟨rfl,rfl⟩) om om<|zm<|l6 rfl rfl rfl rfl rfl (show IntKind.i64.wrap ((60:Int)-((u+1:Nat):Int)+1)=(60:Int)-(u:Int) by rw[wrap_i64 _ om om];omega) ?_;rw[Oi];refine aA (ih u om (sc.drop 1) (g.toList++(w.heap.size::M.heap.size::L)) w3 om so n.all) ?_;rintro _ w4 ⟨ln,N⟩;have gq:=N.size;refine gT N b c j n λb c j n=>?_;obtain⟨t,_,r,ok,rfl,y,hm⟩:=ln;obtain⟨_,_,_,rfl,eD,_⟩:=db y;subst eD;refine W ?_;refine dx bX rfl rfl rfl λ_ F dh iF=>?_;have b:=b.grow;have b:=b.ext F;have c:=c.grow;have c:=c.ext F;have j:=j.grow;have j:=j.ext F;have n:=n.alloc F iF;have y:=y.grow;have y:=y.ext F;refine cI bX rfl rfl rfl dh rfl λ_ H dh _=>?_;have b:=b.aB H sx;have c:=c.aB H sx;have j:=j.aB H sx;have n:=n.aB H sx;have y:=y.aB H sx;refine W ?_;apply oP 3 50 53 rfl oQ;intro _;exact oQ;intro xx;refine WZ ?_;apply oP 9 54 63 rfl oQ;intro h6;simp at h6;have J:=List.length_pos_iff.2 h6.2;refine zm<|kH (i:=0) jb rfl rfl rfl rfl (jH J)<|WZ ?_;apply oB 4 58 62 rfl oQ;intro _;refine zm<|kH (i:=0) jb rfl rfl rfl rfl (jH J) ?_;exact oQ;intro xx;exact oQ;intro xx;refine aW<|zc rfl (λh8=>?_) λh8=>?_;have hR:eW (u+1) (40::T)=none:=by rw[Fm,uw,adf hm h8];rfl
 refine zr<|jG (Ox _) rfl rfl<|cI bX rfl rfl rfl c rfl λw7 Z c qH=>?_;have b:=b.aB Z sx;refine W ?_;exact⟨[_,_,_],⟨ga jk bX rfl c rfl,rfl,rfl⟩,⟨.mk [] [],_,[],_,rfl,jI lB,.inr ⟨hR,rfl⟩⟩,b⟩;obtain⟨pP,J,fL⟩:=adg hm h8;refine W ?_;refine fX iA bX rfl rfl λw7 Z Y qH=>kj Z b c j n y λb c j n y=>?_;refine HE iA bX rfl rfl rfl rfl rfl rfl n Y y.NR om λE D g2 _ C P=>?_;have cK:=P.size;have b:=n.since b P;have c:=c.aB P<|n.xT sm;have j:=j.aB P<|n.xT sm;refine zf zE rfl<|gZ HU rfl rfl rfl j rfl λ_ V j _=>?_;have b:=b.aB V sx;have c:=c.aB V sx;have C:=C.aB V sx;refine W ?_;refine kH (i:=0) jb rfl rfl rfl rfl (jH pP)<|xN rfl rfl rfl rfl rfl<|aW<|zc rfl (λh9=>?_) λh9=>?_;have U:r.getD 0 0=41:=UInt8.toNat_inj.1 (by have yi:(41:UInt8).toNat=41:=rfl;rw[yi];omega);have hR:eW (u+1) (40::T)=some (.mk [] (m++[t]),r.drop 1):=by rw[Fm,uw,fL,iP U];rfl
 refine WZ ?_;have f:=(C6 w.heap.size ([str [],.slice E (m++[t]).length D]) 61);apply qx dj f 6 [75,76,77,100003,5,6] [75,76,77,100003,5,6] [[],[],[1],[0],[2],[]] [.v _,.v _,.v _,.p λ_ ww=>aJ ww w.heap.size ([str [],.slice E (m++[t]).length D]).toArray 61,.v<|str ((r.drop 1).take<|r.length-1),.v (.bool true)] de (by exact(bU<|bU (bU<|C7 (bU<|bU trivial))));intro wd aC;refine jj f aC (λx cU I=>?_) ?_;have j:=j.aB I.1 sx;refine WZ ?_;exact ck f;refine cZ (λ_ _ _=>WZ<|ck f) ?_;refine cZ (λ_ _ _=>C4 (l:=1) jb rfl rfl rfl (.inr ⟨_,rfl⟩) (.inl ⟨rfl,rfl⟩) om om<|ck f) ?_;refine fz ?_ ?_;intro x K cU e I R A;have d0:K 0=(.agg #[str [],.slice E (m++[t]).length D]):=R;replace I:=f.trans aC I;obtain⟨us,rH,uF⟩:=I.2.2 ⟨_,(by rfl),c⟩;replace A:e=ba (aZ _ x _) [(75,K 0)]:=A;rw[d0] at A;subst A;refine cI bX rfl rfl rfl uF (by rw[rH];rfl) λ_ du hb _=>W ?_;exact dn ⟨du,λ_=>hb,λ_=>⟨_,rfl,hb⟩⟩ hb;refine cZ (λ_ _ _=>WZ<|ck f) ?_;refine cZ (λ_ _ _=>WZ<|ck f) ?_;exact trivial;intro x j7 eE;intro v3 d3;replace d3:aJ j7 w.heap.size ([str [],.slice E (m++[t]).length D]).toArray 61:=d3;have b:=b.aB eE.1 sx;have C:=C.aB eE.1 sx;have c:=d3;change OW _ _ _ _ [] (ba (aZ _ x _)<|zZ 75 [_,_,_]++[(100003,v3),(5,_),(6,_)]) _;refine W ?_;exact⟨[_,_,_],⟨ga jk bX rfl c rfl,rfl,rfl⟩,⟨.mk [] (m++[t]),_,r.drop 1,_,by rw[Oi];rfl,jI<|C.trees.dR λx z=>by simp[z],.inl ⟨hR,rfl⟩⟩,b⟩;have U:r.getD 0 0≠41:=λh=>h9 (by rw[h];rfl);refine WZ ?_;exact⟨(m++[t],r,E,D,g2),⟨rfl,rfl,rfl,rfl⟩,⟨b,c,j,C.dR λx z=>mK _ z,pP,by simp at J⊢;omega,by rw[uw,fL,iN U,map_append]⟩,by simp at J;dsimp only;omega⟩
theorem apl {s:aj} (h:12000<s.length):bS s=none:=by unfold bS;rw[iP h]
def apm (L:List Nat) (s:aj) (v:Value) (w:World):Prop:=∃t b,v= .tuple #[b,.bool (bS s).isSome]/\bg L w b t/\∀a,bS s=some a->t=a
theorem aad (s:aj) (L:List Nat) (w:World) (z:∀x∈L,x<w.heap.size):bB Tryz.prog 44 [str s] w λr o=>apm L s r o/\ak [] w o:=by
 have a:=ak.refl [] w;refine kV [.cell 2 61,.tmp 3] 23 Tryz.func44 rfl afC rfl rfl rfl ?_;refine zr<|dx bX rfl rfl rfl λp q b _=>?_;have a:=a.grow;have a:=a.ext q;refine W ?_;refine zc rfl (λy=>?_) λy=>?_;have n:=apl (s:=s) om;refine zr<|jG (Ox _) rfl rfl<|cI bX rfl rfl rfl b rfl λD f b _=>?_;have a:=a.aB f sx;refine W ?_;exact⟨[_,_],⟨ga jk bX rfl b rfl,rfl⟩,⟨.mk [] [],_,by rw[n];rfl,jI lB,by rw[n];intro _ h;cases h⟩,a⟩;have d:s.length<=12000:=by omega
 have j:∀x∈w.heap.size::L,x<p.heap.size:=by intro x e;rcases mC.1 e with rfl|e;omega;have:=z x e;omega
 refine iw<|zr<|zm<|aA (apj 60 s (w.heap.size::L) p om d j) ?_;rintro _ D ⟨v,f⟩;have E:=f.size;refine bN f a b λa b=>?_;obtain⟨t,_,r,ok,rfl,c,A⟩:=v;obtain⟨_,_,_,rfl,u,_⟩:=db c;subst u;refine W ?_;refine dx bX rfl rfl rfl λ_ g l _=>?_;have a:=a.grow;have a:=a.ext g;have b:=b.grow;have b:=b.ext g;have c:=c.grow;have c:=c.ext g;refine cI bX rfl rfl rfl l rfl λ_ i l _=>?_;have a:=a.aB i sx;have b:=b.aB i sx;have c:=c.aB i sx;refine W ?_;apply oB 3 19 22 rfl oQ;intro _;exact oQ;intro _;refine cI bX rfl rfl rfl b rfl λ_ m b _=>?_;have a:=a.aB m sx;have c:=c.aB m sx;refine W ?_;obtain⟨B,C⟩:=adh d A;exact⟨[_,_],⟨ga jk bX rfl b rfl,rfl⟩,⟨t,_,by rw[<-B];rfl,c.dR λx e=>by simp[e],C⟩,a⟩
def apo (L:List Nat) (s:aj) (v:Value) (w:World):Prop:=∃t b,v= .tuple #[b,.bool (tY s)]/\bg L w b t/\∀a,bS s=some a->t=a
theorem apq (s:aj) (L:List Nat) (w:World) (P:∀x∈L,x<w.heap.size):bB Tryz.prog 98 [str s] w λr K=>apo L s r K/\ak [] w K:=by have i:=ak.refl [] w;refine kV [.cell 2 61,.tmp 3] 17 Tryz.func98 rfl ago rfl rfl rfl ?_;refine zr<|dx bX rfl rfl rfl λU M l _=>?_;have i:=i.grow;have i:=i.ext M;refine W ?_;refine aA (aad s (w.heap.size::L) U (by intro x q;rcases mC.1 q with rfl|q;omega;have:=P x q;omega)) ?_;rintro _ _ ⟨O,E⟩;have Y:=E.size;refine bN E i l λi l=>?_;obtain⟨t,_,rfl,j,D⟩:=O;obtain⟨m,_,n,rfl,N,_⟩:=db j;subst N;have F:=λh=>Ft D h;refine W ?_;refine dx bX rfl rfl rfl λ_ z p _=>?_;have i:=i.grow;have i:=i.ext z;have l:=l.grow;have l:=l.ext z;have j:=j.grow;have j:=j.ext z;refine cI bX rfl rfl rfl p rfl λ_ A p _=>?_;have i:=i.aB A sx;have l:=l.aB A sx;have j:=j.aB A sx;refine W ?_;have g:=(C6 w.heap.size ([str t.au,.slice m t.ag.length n]) 61);apply qx dj g 8 (rA 11 6++[100006,3]) (rA 11 6++[100006,3]) [[],[],[1],[2],[2,3],[2,4],[0],[5]] [.v _,.v _,.v _,.p λv _=>((bS s).isSome)=true->v=(.agg #[str t.au,.slice m t.ag.length n]),.p λv _=>((bS s).isSome)=true->v=(.bool<|fR false t),.v (.bool<|(bS s).isSome&&fR false t),.p λ_ X=>aJ X w.heap.size ([str t.au,.slice m t.ag.length n]).toArray 61,.v (.bool<|(bS s).isSome&&fR false t)] de (by exact(bU<|bU (bU<|nk (nk<|bU (C7<|bU trivial)))));intro _ aC;refine jj g aC (λx u d=>?_) ?_;have p:=p.aB d.1 sx;refine WZ ?_;exact ck g;refine cZ (λ_ _ _=>WZ<|ck g) ?_;refine cZ (λ_ _ _=>WZ<|ck g) ?_;refine fz ?_ ?_;intro x b u e d o a;have d2:b 2=(.bool<|(bS s).isSome):=o;replace d:=g.trans aC d;have p:=p.aB d.1 sx;rcases bE ((bS s).isSome) with c|c;rw[c] at d2;replace a:e=ba (aZ _ x _) [(13,b 2)]:=a;rw[d2] at a;subst a;refine W ?_;exact dn (g.refl _)<|show((bS s).isSome)=true->_=((.agg #[str t.au,.slice m t.ag.length n]):Value) from λ_=>rfl;rw[c] at d2;replace a:e=ba (aZ _ x _) [(13,b 2)]:=a;rw[d2] at a;subst a;refine W ?_;exact dn (g.refl _) (show((bS s).isSome)=true->_=(_:Value) from λC=>nomatch c.symm.trans C);refine fz ?_ ?_;intro x b u e d o a;have B:(b 2=(.bool<|(bS s).isSome))/\(((bS s).isSome)=true->b 3=(.agg #[str t.au,.slice m t.ag.length n])):=o;obtain⟨d2,d3⟩:=B;replace d:=g.trans aC d;have j:=j.aB d.1 sx;rcases bE ((bS s).isSome) with c|c;rw[c] at d2;replace d3:=d3 c;replace a:e=ba (aZ _ x _) [(13,b 2),(14,b 3)]:=a;rw[d2,d3] at a;subst a;refine aA (RK t.size t (lR _) (by have:=(F c).2;omega) (F c).1 false _ _ u j) ?_;rintro _ V ⟨rfl,y⟩;have Z:=y.size;refine W ?_;exact dn (g.of y)<|show((bS s).isSome)=true->_=((.bool<|fR false t):Value) from λ_=>rfl;rw[c] at d2;replace a:e=ba (aZ _ x _) [(13,b 2),(14,b 3)]:=a;rw[d2] at a;subst a;refine W ?_;exact dn (g.refl _) (show((bS s).isSome)=true->_=(_:Value) from λC=>nomatch c.symm.trans C);refine fz ?_ ?_;intro x b u e d o a;have B:(b 2=(.bool<|(bS s).isSome))/\(((bS s).isSome)=true->b 4=(.bool<|fR false t)):=o;obtain⟨d2,d4⟩:=B;replace d:=g.trans aC d;rcases bE ((bS s).isSome) with c|c;rw[c] at d2;replace d4:=d4 c;replace a:e=ba (aZ _ x _) [(13,b 2),(15,b 4)]:=a;rw[d2,d4] at a;subst a;refine W ?_;exact dn (g.refl _) (by first|rfl|(rw[c];rfl));rw[c] at d2;replace a:e=ba (aZ _ x _) [(13,b 2),(15,b 4)]:=a;rw[d2] at a;subst a;refine W ?_;exact dn (g.refl _) (by first|rfl|(rw[c];rfl));refine fz ?_ ?_;intro x b u e d o a;have d0:b 0=(.agg #[str t.au,.slice m t.ag.length n]):=o;replace d:=g.trans aC d;obtain⟨_,R,S⟩:=d.2.2 ⟨_,(by rfl),l⟩;replace a:e=ba (aZ _ x _) [(11,b 0)]:=a;rw[d0] at a;subst a;refine cI bX rfl rfl rfl S (by rw[R];rfl) λV y hb _=>W ?_;exact dn ⟨y,λ_=>hb,λ_=>⟨_,rfl,hb⟩⟩ hb;refine cZ (λ_ _ _=>WZ<|ck g) ?_;exact trivial;intro x Q H;intro I d3;intro J d4;intro T d6;replace d3:((bS s).isSome)=true->I=(.agg #[str t.au,.slice m t.ag.length n]):=d3;replace d4:((bS s).isSome)=true->J=(.bool<|fR false t):=d4;replace d6:aJ Q w.heap.size ([str t.au,.slice m t.ag.length n]).toArray 61:=d6;have i:=i.aB H.1 sx;have j:=j.aB H.1 sx;have l:=d6;change OW _ _ _ _ [] (ba (aZ _ x _)<|zZ 11 [_,_,_,I,J,_]++[(100006,T),(3,_)]) _;refine W ?_;exact⟨[_,_],⟨ga jk bX rfl l rfl,rfl⟩,⟨t,_,by rw[Kr (f:=fR false) D];rfl,j.dR λx q=>by simp[q],D⟩,i⟩
def aae (L:List Nat) (b:Bk) (v:Value) (w:World):Prop:=∃c a,v= .tuple #[a,.bool (pe b)]/\oU L w a c/\(pe b=true->c=dM b)
theorem RP {b:Bk} (h:pe b=false):aae L b (.tuple #[.agg #[str [],.slice none 0 0,.slice none 0 0],.bool false]) w:=
 ⟨⟨[],[],[]⟩,_,by rw[h],Pr lB lB,by rw[h];intro h;cases h⟩
theorem apr (k:Bk) (hl:k.aO.length<1000000000) (fD:k.cM.length<1000000000) (fm:k.code.length<1000000000) (v:Value) (Li L:List Nat) (w:World) (hv:ri Li w v k) (hL:∀x∈L,x<w.heap.size):
  bB Tryz.prog 63 [v] w λr y=>aae L k r y/\ak [] w y:=by
 obtain⟨a1,n1,c1,a2,U,c2,rfl,oS,lz,cK,dJ⟩:=Dg hv;have c:=ak.refl [] w;refine kV [.cell 2 80,.tmp 3] 102 Tryz.func63 rfl afP rfl rfl rfl ?_;refine zr<|eK rfl λD aI e _=>?_;have c:=c.ext aI;refine dx mB rfl rfl rfl λE X d _=>?_;have c:=c.grow;have c:=c.ext X;have e:=e.grow;have e:=e.ext X;refine W ?_;refine aA (Z4 _ om _) ?_;rintro _ _ ⟨rfl,rfl⟩;refine WZ ?_;apply oP 5 17 22 rfl oQ;intro _;refine WZ ?_;exact oQ;intro xx;refine WZ ?_;apply oP 5 23 28 rfl oQ;intro _;refine WZ ?_;exact oQ;intro xx;refine WZ ?_;apply oP 6 29 35 rfl oQ;intro _;refine W ?_;refine aA (M6 _ _ _ _) ?_;rintro _ _ ⟨rfl,rfl⟩;exact oQ;intro xx;refine aW<|zc rfl (λh4=>?_) λh4=>?_;have J:=adi oS lz h4;refine zr<|jG (Oy _) rfl rfl<|cI mB rfl rfl rfl d rfl λw3 O d gU=>?_;have c:=c.aB O sx;refine W ?_;exact⟨[_,_],⟨ga Fx mB rfl d rfl,rfl⟩,RP J,c⟩;obtain⟨oI,p4⟩:=adj oS lz h4;have vY:k.cM.length<=40/\k.code.length<=80:=by simp only[aE,dE] at oI;exact⟨oI.1.2,oI.2.2⟩
 refine W ?_;refine jG (agx _ _) rfl rfl<|dx mB rfl rfl rfl λw3 O f gU=>?_;have c:=c.grow;have c:=c.ext O;have e:=e.grow;have e:=e.ext O;have d:=d.grow;have d:=d.ext O;refine cI mB rfl rfl rfl f rfl λ_ aK f _=>?_;have c:=c.aB aK sx;have e:=e.aB aK sx;have d:=d.aB aK sx;refine W ?_;refine eJ (λq:Nat×Option Addr×Nat×Option Nat=>[(1,.pointer<|some ⟨w.heap.size,0,none⟩),(2,.pointer<|some ⟨D.heap.size,0,none⟩),(4,.pointer<|some ⟨E.heap.size,0,none⟩),(41,.slice a1 n1 c1),(42,.int .i64 (n1:Int)),(43,.int .i64 (q.1:Int))]) (λq y=>ak [] w y/\aJ y w.heap.size [str k.aO,.slice a1 n1 c1,.slice a2 U c2].toArray 39/\aJ y D.heap.size [str [],.slice none 0 0,.slice none 0 0].toArray 80/\aJ y E.heap.size [str k.aO,.slice q.2.1 ((k.cM.take q.1).map tr).length q.2.2.1,.slice none 0 0].toArray 80/\Gr D.heap.size (D.heap.size::E.heap.size::L) y 61 2 (.slice q.2.1 ((k.cM.take q.1).map tr).length q.2.2.1) q.2.2.2 (di<|(k.cM.take q.1).map tr)/\q.1<=k.cM.length/\∀i,i<q.1->tY (bP k.cM i)=true) (λq=>k.cM.length-q.1) ((0,none,0,none)) (⟨rfl,rfl,rfl,rfl,rfl,rfl⟩) (⟨c,e,d,f,Gr.nil (by intro x s;simp at s;rcases s with rfl|rfl|s;omega;omega;have:=hL x s;omega) om,sm,by intro i Z;simp at Z⟩) λgg w5 _ S=>?_;obtain⟨i,a,cc,g⟩:=gg;dsimp only at S⊢;obtain⟨c,e,d,f,m,hk,K⟩:=S;have fV:=c.size;have XR:=e.lt;have XS:=d.lt;have M9:=f.lt;refine W ?_;refine zc rfl (λh5=>?_) λh5=>?_;have Q:=jx (xs:=k.cM) (i:=i) om;obtain⟨b,off,rfl,hc⟩:=nv (cK.ext c) Q;refine W ?_;refine aA (apq (bP k.cM i) (g.toList++(D.heap.size::E.heap.size::L)) w5 m.all) ?_;rintro _ w6 ⟨AA,bQ⟩;have lK:=bQ.size;refine kj bQ c e d f m λc e d f m=>?_;obtain⟨t,tv,rfl,n,M⟩:=AA;obtain⟨pa,pn,pc,rfl,eD,aN⟩:=db n;subst eD;refine W ?_;refine dx bX rfl rfl rfl λw7 A cO qH=>?_;have c:=c.grow;have c:=c.ext A;have e:=e.grow;have e:=e.ext A;have d:=d.grow;have d:=d.ext A;have f:=f.grow;have f:=f.ext A;have m:=m.alloc A qH;have n:=n.grow;have n:=n.ext A;refine cI bX rfl rfl rfl cO rfl λw8 z cO ll=>?_;have c:=c.aB z sx;have e:=e.aB z sx;have d:=d.aB z sx;have f:=f.aB z sx;have m:=m.aB z sx;have n:=n.aB z sx;refine W ?_;refine zc rfl (λh6=>?_) λh6=>?_;have J:=adk (b:=k) (i:=i) om (by simpa using h6);refine zr<|jG (Oy _) rfl rfl<|cI mB rfl rfl rfl d rfl λw9 C d dB=>?_;have c:=c.aB C sx;refine W ?_;exact⟨[_,_],⟨ga Fx mB rfl d rfl,rfl⟩,RP J,c⟩;have T:tY (bP k.cM i)=true:=by simpa using h6
 refine W ?_;refine fX iA bX rfl rfl λw9 C RQ dB=>uq C c e d f m n λc e d f m n=>?_;refine HE iA bX rfl rfl rfl rfl rfl rfl m RQ n.NR (by rw[HL _ hk];omega) λa3 JN g3 u F p=>?_;have aaf:=p.size;have c:=ak.Kp om m.low c p;have e:=e.aB p<|m.Ko om;have d:=d.aB p<|m.xT sm;have f:=f.aB p<|m.xT sm;rw[adm T M,KC tr Q] at F⊢;refine zf UJ rfl<|gZ HU rfl rfl rfl f rfl λfi B f _=>?_;have c:=c.aB B sx;have e:=e.aB B sx;have d:=d.aB B sx;have F:=F.aB B sx;refine W ?_;exact⟨(i+1,a3,JN,g3),⟨rfl,rfl,rfl,rfl,rfl,rfl⟩,⟨c,e,d,f,F.dR λx s=>mK _ s,by dsimp only;omega,by intro j hj;rcases Nat.lt_or_ge j i with h|h;exact K j h;rw[show j=i by dsimp only at hj;omega];exact T⟩,by dsimp only;omega⟩;have Pq:∀j,j<k.cM.length->tY (bP k.cM j)=true:=λj hj=>K j om;rw[KD tr om] at f m;have QV:=m.trees;have o:=ak.refl [D.heap.size,E.heap.size] w5;clear K m;refine W ?_;refine eJ (λq:Nat×Option Addr×Nat×Option Nat=>[(1,.pointer<|some ⟨w.heap.size,0,none⟩),(2,.pointer<|some ⟨D.heap.size,0,none⟩),(4,.pointer<|some ⟨E.heap.size,0,none⟩),(63,.slice a2 U c2),(64,.int .i64 (U:Int)),(65,.int .i64 (q.1:Int))]) (λq y=>ak [] w y/\ak [D.heap.size,E.heap.size] w5 y/\aJ y w.heap.size [str k.aO,.slice a1 n1 c1,.slice a2 U c2].toArray 39/\aJ y D.heap.size [str [],.slice none 0 0,.slice none 0 0].toArray 80/\aJ y E.heap.size [str k.aO,.slice a (k.cM.map tr).length cc,.slice q.2.1 ((k.code.take q.1).map tr).length q.2.2.1].toArray 80/\Gr w5.heap.size (D.heap.size::E.heap.size::L) y 61 2 (.slice q.2.1 ((k.code.take q.1).map tr).length q.2.2.1) q.2.2.2 (di<|(k.code.take q.1).map tr)/\q.1<=k.code.length/\∀i,i<q.1->sR k.code i=true) (λq=>k.code.length-q.1) ((0,none,0,none)) (⟨rfl,rfl,rfl,rfl,rfl,rfl⟩) (⟨c,o,e,d,f,Gr.nil (by intro x s;simp at s;rcases s with rfl|rfl|s;omega;omega;have:=hL x s;omega) om,sm,by intro i Z;simp at Z⟩) λgg w6 _ S=>?_;obtain⟨j,_,_,g⟩:=gg;dsimp only at S⊢;obtain⟨c,o,e,d,f,m,X,K⟩:=S;have fV:=c.size;have aps:=o.size;have XR:=e.lt;have XS:=d.lt;have M9:=f.lt;refine W ?_;refine zc rfl (λh7=>?_) λh7=>?_;have Q:=jx (xs:=k.code) (i:=j) om;obtain⟨b,off,rfl,hc⟩:=nv (dJ.ext c) Q;refine W ?_;refine aA (aad (bP k.code j) (g.toList++(D.heap.size::E.heap.size::L)) w6 m.all) ?_;rintro _ w7 ⟨Ao,A⟩;have pA:=A.size;refine uq A c o e d f m λc o e d f m=>?_;obtain⟨t,tv,rfl,n,M⟩:=Ao;obtain⟨pa,pn,pc,rfl,eD,aN⟩:=db n;subst eD;have P:=λh=>Ft M h;refine W ?_;refine dx bX rfl rfl rfl λw8 z Y ll=>?_;have c:=c.grow;have c:=c.ext z;have o:=o.grow;have o:=o.ext z;have e:=e.grow;have e:=e.ext z;have d:=d.grow;have d:=d.ext z;have f:=f.grow;have f:=f.ext z;have m:=m.alloc z ll;have n:=n.grow;have n:=n.ext z;refine cI bX rfl rfl rfl Y rfl λw9 C Y dB=>?_;have c:=c.aB C sx;have o:=o.aB C sx;have e:=e.aB C sx;have d:=d.aB C sx;have f:=f.aB C sx;have m:=m.aB C sx;have n:=n.aB C sx;refine W ?_;refine Ds [75,76,77,78,79,80,81,82,83,84,85,86,87,88,89,90,91,92] [(92,.bool ((!(bS<|bP k.code j).isSome||!mz t)||(HI t !=decide ((j:Int)=(U:Int)-1))))] ?_ ?_;rcases bE (!(bS (bP k.code j)).isSome) with gP|gP;apply ke dj 18 (rA 75 18) (rA 75 18) [[],[0],[1],[2],[2,3],[2,4],[2,5],[6],[7],[7,8],[7],[7],[7,11],[7,12],[7,13],[7,10,14],[7,9,15],[7,16]] [It.v _,It.v _,It.v (.bool true),It.v _,It.v _,It.v _,It.v _,It.v (.bool true),It.v _,It.v _,It.v _,It.v _,It.v _,It.v _,It.v _,It.v _,It.v _,It.v _] de rfl;intro wd aC;refine VA ?_;refine vc (λx u p=>?_) ?_;refine WZ ?_;exact pv (by exact congrArg Value.bool gP);refine vk aC (λx u p=>?_) ?_;exact cP pv;refine vk aC (λx u p=>?_) ?_;exact cP pv;refine vc (λx u p=>?_) ?_;exact cP pv;refine vc (λ_ _ _=>WZ pv) ?_;refine vc (λx u p=>?_) ?_;refine WZ ?_;exact pv (by rfl);exact VZ;intro x j7 I;change OW _ _ _ _ [] (ba (aZ _ x _) (zZ 75 [_,_,_,_,_,_,_,_,_,_,_,_,_,_,_,_,_,_])) _;refine W ?_;exact kE I;rcases bE (!(bS (bP k.code j)).isSome||!mz t) with jV|jV;apply ke dj 18 (rA 75 18) (rA 75 18) [[],[0],[1],[2],[2,3],[2,4],[2,5],[6],[7],[7,8],[7],[7],[7,11],[7,12],[7,13],[7,10,14],[7,9,15],[7,16]] [It.v _,It.v _,It.v (.bool false),It.v _,It.v _,It.v _,It.v _,It.v (.bool true),It.v _,It.v _,It.v _,It.v _,It.v _,It.v _,It.v _,It.v _,It.v _,It.v _] de rfl;intro wd aC;refine VA ?_;refine vc (λx u p=>?_) ?_;refine WZ ?_;exact pv (by exact congrArg Value.bool gP);refine VA ?_;refine vk aC (λx u p=>?_) ?_;have n:=n.ext p;have H:=gP;refine aA (aaa t (P<|by simpa using H).2 (P<|by simpa using H).1 _ _ u n) ?_;rintro _ fi ⟨rfl,B⟩;have CG:=B.size;exact pk B;refine VA ?_;refine vc (λx u p=>?_) ?_;refine WZ ?_;exact pv (by first|exact congrArg Value.bool jV|(rw[gP] at jV;exact congrArg Value.bool jV));exact VZ;intro x j7 I;change OW _ _ _ _ [] (ba (aZ _ x _) (zZ 75 [_,_,_,_,_,_,_,_,_,_,_,_,_,_,_,_,_,_])) _;refine W ?_;exact kE I;apply ke dj 18 (rA 75 18) (rA 75 18) [[],[0],[1],[2],[2,3],[2,4],[2,5],[6],[7],[7,8],[7],[7],[7,11],[7,12],[7,13],[7,10,14],[7,9,15],[7,16]] [It.v _,It.v _,It.v (.bool false),It.v _,It.v _,It.v _,It.v _,It.v (.bool false),It.v _,It.v _,It.v _,It.v _,It.v _,It.v _,It.v _,It.v _,It.v _,It.v _] de rfl;intro wd aC;refine VA ?_;refine vc (λx u p=>?_) ?_;refine WZ ?_;exact pv (by exact congrArg Value.bool gP);refine VA ?_;refine vk aC (λx u p=>?_) ?_;have n:=n.ext p;have H:=gP;refine aA (aaa t (P<|by simpa using H).2 (P<|by simpa using H).1 _ _ u n) ?_;rintro _ fi ⟨rfl,B⟩;have CG:=B.size;exact pk B;refine VA ?_;refine vc (λx u p=>?_) ?_;refine WZ ?_;exact pv (by first|exact congrArg Value.bool jV|(rw[gP] at jV;exact congrArg Value.bool jV));refine VA ?_;refine vk aC (λx u p=>?_) ?_;have n:=n.ext p;have H:=jV;refine aA (aph t (P (by rw[Bool.or_eq_false_iff] at H;simpa using H.1)).1 _ _ u n) ?_;rintro _ fi ⟨rfl,B⟩;have CG:=B.size;exact pk B;exact VZ;intro x j7 I;change OW _ _ _ _ [] (ba (aZ _ x _) (zZ 75 [_,_,_,_,_,_,_,_,_,_,_,_,_,_,_,_,_,_])) _;refine W ?_;exact kE I;intro x j7 I;refine DK I c o e d f m n Y λc o e d f m n Y=>?_;refine zc rfl (λR=>?_) λR=>?_;rw[Uo lz om M] at R;have J:=adl (b:=k) (i:=j) om (by simpa using R);refine zr<|jG (Oy _) rfl rfl<|cI mB rfl rfl rfl d rfl λgW eu d apt=>?_;have c:=c.aB eu sx;refine W ?_;exact⟨[_,_],⟨ga Fx mB rfl d rfl,rfl⟩,RP J,c⟩;rw[Uo lz om M] at R;have T:sR k.code j=true:=by simpa using R
 refine W ?_;refine fX iA bX rfl rfl λgW eu Jt apt=>FU eu c o e d f m n λc o e d f m n=>?_;refine HE iA bX rfl rfl rfl rfl rfl rfl m Jt n.NR (by rw[HL _ X];omega) λa3 JN g3 _ F N=>?_;have aaf:=N.size;have c:=ak.Kp om m.low c N;have o:=m.since o N;have e:=e.aB N<|m.Ko om;have d:=d.aB N<|m.xT sm;have f:=f.aB N<|m.xT sm;rw[adn T M,KC tr Q] at F⊢;refine zf UK rfl<|gZ HU rfl rfl rfl f rfl λ_ V f _=>?_;have c:=c.aB V sx;have o:=o.aB V sx;have e:=e.aB V sx;have d:=d.aB V sx;have F:=F.aB V sx;refine W ?_;exact⟨(j+1,a3,JN,g3),⟨rfl,rfl,rfl,rfl,rfl,rfl⟩,⟨c,o,e,d,f,F.dR λx s=>mK _ s,by dsimp only;omega,by intro i2 hj;rcases Nat.lt_or_ge i2 j with h|h;exact K i2 h;rw[show i2=j by dsimp only at hj;omega];exact T⟩,by dsimp only;omega⟩;have J:=T1 oI Pq λi Z=>K i om;have hqI:pe k=true:=by unfold pe;rw[J,p4];rfl
 rw[KD tr om] at f m;refine W ?_;refine cI mB rfl rfl rfl d rfl λw7 A d qH=>?_;have c:=c.aB A sx;have o:=o.aB A sx;have m:=m.aB A sx;refine W ?_;exact⟨[_,_],⟨ga Fx mB rfl d rfl,rfl⟩,⟨dM k,_,by rw[hqI];rfl,Pr (l:=k.aO) ((QV.aB o sm).dR λx s=>by simp[s])<|m.trees.dR λx s=>by simp[s],λ_=>rfl⟩,c⟩
theorem apv (k:cW) (l:aj) (c:Nat) (v:Value) (L:List Nat) (w:World) (e:oU L w v k) (b:aJ w c [str l].toArray 9):
  bB Tryz.prog 71 [v,.pointer (some ⟨c,0,none⟩)] w λr f=>r= .bool (decide<|k.aO=l)/\ak [] w f:=by
 obtain⟨_,c1,_,c2,rfl,_,_⟩:=V9 e;have a:=ak.refl [] w;refine bY [.tmp 3] 8 Tryz.func71 rfl afY rfl rfl ?_;refine zr<|eK rfl λ_ d _ _=>bN d a b λa b=>?_;refine W ?_;exact⟨_,rfl,rfl,a⟩
theorem apw (ps:List cW) (y:ps.length<1000000000) (g:cW->Bool) (f:FuncId) (d:List Value) (v:Value) (L:List Nat) (w:World) (m:j1 L w v ps) 
  (B:∀i,i<ps.length->∀(u:Value) (j:World),ak [] w j->oU L j u (eS ps i)->bB Tryz.prog f (u::d) j λr q=>r= .bool (g<|eS ps i)/\ak [] j q):
  bB Tryz.prog 70 [v,.func (.func f) #[] d.toArray] w λr j=>r= .int .i64 (HM ps g)/\ak [] w j:=by
 obtain⟨a,c,rfl⟩:=B9 m;have e:=ak.refl [] w;refine bY [.tmp 4] 19 Tryz.func70 rfl afX rfl rfl ?_;refine W ?_;refine eJ (λk:Nat=>[(0,.slice a ps.length c),(1,.func (.func f) #[] d.toArray),(7,.int .i64 (ps.length:Int)),(8,.int .i64 (k:Int))]) (λk j=>ak [] w j/\k<=ps.length/\∀i,i<k->g (eS ps i)=false) (λk=>ps.length-k) (0) (⟨rfl,rfl,rfl,rfl⟩) (⟨e,om,by intro i t;omega⟩) λl F _ A=>?_;obtain⟨e,hk,n⟩:=A;have m:=m.ext e;refine W ?_;refine zc rfl (λz=>?_) λz=>?_;have C:=zC (ps:=ps) (i:=l) om;obtain⟨b,_,_,c1,_,c2,rfl,_,D,E⟩:=FW m C;refine W ?_;refine HC rfl rfl rfl (B l om _ F e<|Pr D E) ?_;rintro _ _ ⟨rfl,s⟩;have H:=s.size;have e:=e.ext s;refine aW<|zc rfl (λo=>?_) λo=>?_;have p:=ado om n o;refine W ?_;exact⟨_,rfl,by rw[p];rfl,e⟩;refine W ?_;exact⟨l+1,⟨rfl,rfl,rfl,rfl⟩,⟨e,om,by intro i t;rcases Nat.lt_or_ge i l with h|h;exact n i h;rw[show i=l by omega];exact o⟩,om⟩;have p:=adp λi t=>n i om;refine W ?_;exact⟨_,rfl,by rw[p];rfl,e⟩
theorem Na (d:List cW) (c:d.length<1000000000) (l:aj) (v:Value) (L:List Nat) (w:World) (e:j1 L w v d):
  bB Tryz.prog 37 [v,str l] w λr g=>r= .int .i64 (lP d l)/\ak [] w g:=by
 have a:=ak.refl [] w;refine bY [.tmp 4] 8 Tryz.func37 rfl afz rfl rfl ?_;refine zr<|NA rfl rfl rfl λo j m _=>bN j a e λa e=>?_;refine W ?_;refine NQ (vs:=[.pointer (some ⟨w.heap.size,0,none⟩)]) rfl rfl rfl<|aA (apw d c (λb=>decide<|b.aO=l) 71 [.pointer (some ⟨w.heap.size,0,none⟩)] _ L o e λi _ u g k n=>apv (eS d i) l _ _ L _ n<|m.ext k) ?_;rintro _ _ ⟨rfl,f⟩;have p:=f.size;have a:=a.ext f;refine W ?_;exact⟨_,rfl,rfl,a⟩
def apx (L:List Nat) (bs:List Bk) (v:Value) (w:World):Prop:=∃ps pv,v= .tuple #[pv,.bool (l7 bs)]/\j1 L w pv ps/\(l7 bs=true->ps=bs.map dM)
theorem Nb (bs:List Bk) (hb:xV bs) (v:Value) (Li L:List Nat) (w:World) (X:pd Li w v bs) (hL:∀x∈L,x<w.heap.size):
  bB Tryz.prog 31 [v] w λr z=>apx L bs r z/\ak [] w z:=by
 obtain⟨a,n,c,rfl,_⟩:=Fo X;have d:=ak.refl [] w;have iW:=hb.1;refine bY [.tmp 2,.tmp 3] 52 Tryz.func31 rfl aft rfl rfl ?_;refine W ?_;refine aA (M6 _ _ _ _) ?_;rintro _ _ ⟨rfl,rfl⟩;refine ka rfl rfl rfl<|aW<|zc rfl (λD=>?_) λD=>?_;have s:l7 bs=false:=adt (λh=>by rw[dT (p:=(1:Int)<=(n:Int)) om,dT (p:=(n:Int)<=40) om] at D;exact absurd D de);refine W ?_;exact⟨_,rfl,⟨[],_,by rw[s];rfl,Wa,by rw[s];intro h;cases h⟩,d⟩;have t:1<=bs.length/\bs.length<=40:=by have:=D;simp only[aE,dE] at this;omega
 refine W ?_;refine eJ (λq:Nat×Option Addr×Nat×Option Nat=>[(0,.slice a n c),(4,.slice q.2.1 ((bs.take q.1).map dM).length q.2.2.1),(13,.slice a n c),(14,.int .i64 (n:Int)),(15,.int .i64 (q.1:Int))]) (λq z=>ak [] w z/\Gr w.heap.size L z 80 3 (.slice q.2.1 ((bs.take q.1).map dM).length q.2.2.1) q.2.2.2 (((bs.take q.1).map dM).map cW.enc)/\q.1<=bs.length/\∀i,i<q.1->pe (cA bs i)=true/\mx bs (cA bs i).aO=i) (λq=>bs.length-q.1) ((0,none,0,none)) (⟨rfl,rfl,rfl,rfl,rfl⟩) (⟨d,Gr.nil hL om,sm,by intro i hi;simp at hi⟩) λgg w1 _ T=>?_;obtain⟨i,_,cc,g⟩:=gg;dsimp only at T⊢;obtain⟨d,e,hk,Q⟩:=T;have fV:=d.size;refine W ?_;refine zc rfl (λh2=>?_) λh2=>?_;have S:=r6 (bs:=bs) (i:=i) om;obtain⟨b,y,_,rn,_,_,_,_,rfl,I,_,_,cK,dJ⟩:=Di X S;have M:=hb.2 i om;refine WL ?_;refine zL Fw ja rfl (I.ext d) rfl<|dx ja rfl rfl rfl λA m P dW=>?_;have d:=d.grow;have d:=d.ext m;have e:=e.alloc m dW;refine cI ja rfl rfl rfl P rfl λw3 N P _=>?_;have d:=d.aB N sx;have e:=e.aB N sx;refine W ?_;refine aA (apr (cA bs i) M.1 M.2.1 M.2.2 _ _ (g.toList++(w1.heap.size::L)) w3 (ri.ext (Dh cK dJ) d) e.all) ?_;rintro _ _ ⟨ln,O⟩;have gq:=O.size;refine bN O d e λd e=>?_;obtain⟨_,_,rfl,f,V⟩:=ln;obtain⟨_,_,_,_,rfl,_,_⟩:=V9 f;refine W ?_;refine dx mB rfl rfl rfl λ_ E C iF=>?_;have d:=d.grow;have d:=d.ext E;have e:=e.alloc E iF;have f:=f.grow;have f:=f.ext E;refine cI mB rfl rfl rfl C rfl λw6 H C _=>?_;have d:=d.aB H sx;have e:=e.aB H sx;have f:=f.aB H sx;refine W ?_;apply oO 6 26 32 (ak [] w6) rfl oQ;intro h3;have B:pe (cA bs i)=true:=by simpa using h3
 have J:=V B;subst J;refine W ?_;refine aA (Na ((bs.take i).map dM) (by rw[HL _ hk];omega) (cA bs i).aO _ L w6<|e.prog.dR λx l=>by simp[l]) ?_;rintro _ _ ⟨rfl,cG⟩;have pA:=cG.size;exact oQ;intro _ _ cB;refine gT cB d e f C λd e f C=>?_;refine aW<|zc rfl (λo=>?_) λo=>?_;have s:l7 bs=false:=adr (i:=i) om (by simp only[oE,Bool.not_eq_true'] at o;rcases o with h|h;exact .inl h;rw[Up om] at h;exact .inr (of_decide_eq_true h));refine W ?_;exact⟨_,rfl,⟨[],_,by rw[s];rfl,Wa,by rw[s];intro h;cases h⟩,d⟩;have B:pe (cA bs i)=true/\mx bs (cA bs i).aO=i:=by simp only[Bool.or_eq_false_iff,Bool.not_eq_false'] at o;rw[Up om] at o;exact⟨o.1,Classical.byContradiction<|of_decide_eq_false o.2⟩
 refine W ?_;refine fX Dv mB rfl rfl λ_ aD F _=>cS aD d e f λd e f=>?_;refine aij Dv mB rfl rfl rfl rfl rfl rfl e F (f.dR (λx l=>by simp at l⊢;rcases l with h|h|h<;>simp[h])) (by rw[HL _ hk];omega) λa3 JN g3 _ Y R=>?_;have aaf:=R.size;have d:=e.since d R;rw[V B.1,KC dM S] at Y⊢;refine W ?_;exact⟨(i+1,a3,JN,g3),⟨rfl,rfl,rfl,rfl,rfl⟩,⟨d,Y.dR λx l=>by simp[l],by dsimp only;omega,by intro K U;rcases Nat.lt_or_ge K i with h|h;exact Q K h;rw[show K=i by dsimp only at U;omega];exact B⟩,by dsimp only;omega⟩;have s:=ads λj U=>Q j om;rw[KD dM om] at e⊢;obtain⟨b,y,_,_,_,_,rfl,I,cz,cH⟩:=FW e.prog<|zC (ps:=bs.map dM) (i:=0) so;have e0:eS (bs.map dM) 0=dM (cA bs 0):=by simp[gE (show 0<bs.length by omega)]
 rw[e0] at I cz cH;refine W ?_;refine Ds [38,39,40,41,42,43,44,45,46,47,48,49,50,51,2,3] [(2,.slice (some ⟨b,y,none⟩) (bs.map dM).length cc),(3,.bool<|decide ((cA bs 0).aO=[109,97,105,110])&&decide (((dM<|cA bs 0).regs.length:Int)=0))] ?_ ?_;rcases bE (decide ((cA bs 0).aO=[109,97,105,110])) with gP|gP;apply ke dj 16 (rA 38 14++[2,3]) (rA 38 14++[2,3]) [[],[],[1],[2],[3],[4],[5],[6],[6,7],[6,8],[6,9],[6,10],[6,11],[6,12],[0],[13]] [It.v _,It.v _,It.v _,It.v _,It.v _,It.v _,It.v<|.bool true,It.v _,It.v _,It.v _,It.v _,It.v _,It.v _,It.v _,It.v _,It.v _] de rfl;intro wd aC;refine VA ?_;refine vk aC (λx A m=>?_) ?_;refine zi (i:=0) Dv mB rfl rfl so ?_;exact pv;refine VA ?_;refine vc (λx A m=>?_) ?_;refine zm ?_;exact pv (by exact congrArg Value.bool gP);refine VA ?_;refine vk aC (λx A m=>?_) ?_;refine zi (i:=0) Dv mB rfl rfl so ?_;exact pv;exact VZ;intro x Z u;change OW _ _ _ _ [] (ba (aZ _ x _) (zZ 38 [_,_,_,_,_,_,_,_,_,_,_,_,_,_]++[(2,_),(3,_)])) _;refine W ?_;exact kE u;apply ke dj 16 (rA 38 14++[2,3]) (rA 38 14++[2,3]) [[],[],[1],[2],[3],[4],[5],[6],[6,7],[6,8],[6,9],[6,10],[6,11],[6,12],[0],[13]] [It.v _,It.v _,It.v _,It.v _,It.v _,It.v _,It.v (.bool false),It.v _,It.v _,It.v _,It.v _,It.v _,It.v _,It.v _,It.v _,It.v _] de rfl;intro wd aC;refine VA ?_;refine vk aC (λx A m=>?_) ?_;refine zi (i:=0) Dv mB rfl rfl so ?_;exact pv;refine VA ?_;refine vc (λx A m=>?_) ?_;refine zm ?_;exact pv (by exact congrArg Value.bool gP);exact VZ;intro x Z u;change OW _ _ _ _ [] (ba (aZ _ x _) (zZ 38 [_,_,_,_,_,_,_,_,_,_,_,_,_,_]++[(2,_),(3,_)])) _;refine W ?_;exact kE u;intro x Z u;refine bN u d e λd e=>?_;refine kF<|⟨_,rfl,⟨bs.map dM,_,?_,e.prog.dR λx l=>by simp[l],λ_=>rfl⟩,d⟩;rw[s,dT t.1,dT t.2,show decide (((dM<|cA bs 0).regs.length:Int)=0)=decide ((cA bs 0).cM.length=0) from decide_eq_decide.2 (by have:(dM<|cA bs 0).regs.length=(cA bs 0).cM.length:=List.length_map _;omega)];rfl
def nR (t:aq):Option aj:=if bz t=[108,97,98]\/bz t=[122,101,114,111] then some (nth t.ag 2).au else none
def addN (out:List aj) (t:aq):List aj:=match nR t with
 |some s=>if s∈out then out else out++[s]
 |none=>out
theorem apA (out:List aj) (t:aq):(addN out t).length<=out.length+1:=by
 unfold addN;split
 .split<;>simp
 .omega
theorem Nd:∀(a:List aq) (out:List aj),(a.foldl addN out).length<=out.length+a.length
 |[],out=>by simp
 |t::a,out=>by have b:=Nd a<|addN out t;have c:=apA out t;simp only[List.foldl_cons,lC];omega
theorem RR {b c:Type} (f:c->b->c) (a:c) {l:List b} {k:Nat} {x:b} (h:l[k]?=some x):(l.take<|k+1).foldl f a=f ((l.take k).foldl f a) x:=by rw[List.take_add_one,h,List.foldl_append];rfl
def wk (out:List aj) (b:cW):List aj:=b.code.foldl addN out
def iQ (a:List cW):List aj:=a.foldl wk []
def pJ (a:List cW):Nat:=(a.map λb=>b.code.length).sum
theorem aah {k:Nat} (hk:k<ps.length):pJ (ps.take<|k+1)=pJ (ps.take k)+(eS ps k).code.length:=by unfold pJ;rw[List.take_add_one,zC hk,List.map_append,List.sum_append];simp
theorem Nf:∀ps:List cW,(iQ ps).length<=pJ ps:=by
 have a:∀(ps:List cW) (out:List aj),(ps.foldl wk out).length<=out.length+pJ ps:=by
  intro ps;induction ps with
  |nil=>intro out;simp[pJ]
  |cons b ps d=>intro out;have c:=d<|wk out b;have e:=Nd b.code out;simp only[List.foldl_cons,pJ,List.map_cons,List.sum_cons] at c⊢;unfold wk at c⊢;omega
 intro ps;have:=a ps [];unfold iQ;simpa using this
theorem RS (a:List cW) (k:Nat):pJ (a.take k)<=pJ a:=by
 have h:pJ a=pJ (a.take k)+pJ (a.drop k):=by unfold pJ;rw[<-List.sum_append,<-List.map_append,List.take_append_drop]
 omega
theorem aai {t:aq} (h:mz t=true) (c:bz t=[108,97,98]\/bz t=[122,101,114,111]):2<t.ag.length:=by obtain⟨a,b,_⟩:=FD h;rcases c with e|e<;>rw[e] at a b<;>simp[er] at a b⊢<;>omega
theorem apB (t:aq) (m:WF t) (A:(bz t=[108,97,98]\/bz t=[122,101,114,111])->2<t.ag.length) (v:Value) (L:List Nat) (w:World) (p:bg L w v t):
  bB Tryz.prog 64 [v] w λr B=>r= .tuple #[str<|(nR t).getD [],.bool (nR t).isSome]/\ak [] w B:=by
 have e:=p;obtain⟨a,n,c,rfl,D,d⟩:=db p;subst D;have b:=ak.refl [] w;refine bY [.tmp 2,.tmp 3] 17 Tryz.func64 rfl afQ rfl rfl ?_;refine zr<|eK rfl λC u f _=>cS u b e d λb e d=>?_;refine W ?_;refine aA (uT t m _ _ C e) ?_;rintro _ q ⟨rfl,l⟩;have E:=l.size;refine gT l b e d f λb e d f=>?_;refine WZ ?_;apply oO 4 7 11 (ak [] q) rfl oQ;intro _;refine W ?_;refine aA (uT t m _ _ q e) ?_;rintro _ _ ⟨rfl,s⟩;have F:=s.size;exact oQ;intro _ _ y;refine cS y b d f λb d f=>?_;refine aW<|zc rfl (λj=>?_) λj=>?_;have g:bz t=[108,97,98]\/bz t=[122,101,114,111]:=by simpa using j
 have o:=A g;have z:=ik d<|ew (ps:=t.ag) (i:=2) o;obtain⟨_,_,_,_,_,rfl,_,_,_⟩:=z;refine WI ?_;refine zi (i:=2) iA bX rfl rfl o<|W ?_;exact⟨_,rfl,by unfold nR;rw[iP g];rfl,b⟩;have g:¬(bz t=[108,97,98]\/bz t=[122,101,114,111]):=by simpa using j
 refine W ?_;exact⟨_,rfl,by unfold nR;rw[iN g];rfl,b⟩
theorem apC (xs:List aj) (D:xs.length<1000000000) (s:aj) (v:Value) (L:List Nat) (w:World) (q:bu L w v xs):
  bB Tryz.prog 101 [v,str s] w λr l=>(∃z:Int,r= .int .i64 z/\decide (z≥0)=decide (s∈xs))/\w=l:=by
 obtain⟨a,n,c,rfl,B⟩:=dX q;subst B;refine bY [.tmp 4] 19 Tryz.func101 rfl adM rfl rfl ?_;refine W ?_;refine eJ (λk:Nat=>[(0,.slice a xs.length c),(1,str s),(7,.int .i64 (xs.length:Int)),(8,.int .i64 (k:Int))]) (λk l=>l=w/\k<=xs.length/\∀i,i<k->bP xs i≠s) (λk=>xs.length-k) (0) (⟨rfl,rfl,rfl,rfl⟩) (⟨rfl,om,by intro i j;omega⟩) λd _ _ y=>?_;obtain⟨rfl,hk,m⟩:=y;refine W ?_;refine zc rfl (λu=>?_) λu=>?_;have o:=jx (xs:=xs) (i:=d) om;have t:=nv q o;obtain⟨b,_,rfl,_⟩:=t;refine W ?_;refine zc rfl (λf=>?_) λf=>?_;have g:s=bP xs d:=by simpa using f
 refine W ?_;exact⟨_,rfl,⟨(d:Int),rfl,by rw[dT (p:=s∈xs) (by rw[g];exact List.mem_of_getElem? o),dT om]⟩,rfl⟩;have g:¬s=bP xs d:=by simpa using f
 refine W ?_;exact⟨d+1,⟨rfl,rfl,rfl,rfl⟩,⟨rfl,om,by intro i j;rcases Nat.lt_or_ge i d with h|h;exact m i h;rw[show i=d by omega];exact λe=>g e.symm⟩,om⟩;have C:¬s∈xs:=λA=>by obtain⟨i,j,e⟩:=List.getElem_of_mem A;exact m i om (by rw[<-e];simp[bP,gE j])
 refine W ?_;exact⟨_,rfl,⟨-1,rfl,by rw[dF C];decide⟩,rfl⟩
theorem apD (a:List aj) (b:a.length<1000000000) (s:aj) (v:Value) (L:List Nat) (w:World) (c:bu L w v a):
  bB Tryz.prog 65 [v,str s] w λr e=>r= .bool (decide<|s∈a)/\w=e:=by
 refine bY [.tmp 4] 9 Tryz.func65 rfl afR rfl rfl ?_;refine W ?_;refine aA (apC a b s _ L _ c) ?_;rintro _ _ ⟨⟨z,rfl,d⟩,rfl⟩;refine W ?_;exact⟨_,rfl,congrArg Value.bool d,rfl⟩
def pK (a:List cW) (i j:Nat):List aj:=((eS a i).code.take j).foldl addN (iQ<|a.take i)
theorem apE {j:Nat} (b:i<ps.length) (f:j<=(eS ps i).code.length):(pK ps i j).length<=pJ ps:=by have a:=Nd ((eS ps i).code.take j) (iQ<|ps.take i);have c:=Nf<|ps.take i;have d:=aah b;have e:=RS ps<|i+1;rw[List.length_take] at a;unfold pK;omega
theorem apF (a:i<ps.length):pK ps i (eS ps i).code.length=iQ (ps.take<|i+1):=by unfold pK;rw[List.take_length];unfold iQ;rw[RR wk [] (zC a)];rfl
theorem apG {j:Nat} (a:j<(eS ps i).code.length):pK ps i (j+1)=addN (pK ps i j) (nth (eS ps i).code j):=by unfold pK;exact RR addN _<|ew a
def RT (a:List cW):Prop:=∀b∈a,∀t∈b.code,WF t/\((bz t=[108,97,98]\/bz t=[122,101,114,111])->2<t.ag.length)
theorem aaj (ps:List cW) (aN:ps.length<=1000) (Ha:pJ ps<=1000000) (bj:RT ps) (v:Value) (L:List Nat) (w:World) (Q:j1 L w v ps) (hL:∀x∈L,x<w.heap.size):
  bB Tryz.prog 32 [v] w λr f=>(∃g,Gr w.heap.size L f 9 1 r g (fQ (iQ ps)))/\ak [] w f:=by
 obtain⟨a,c,rfl⟩:=B9 Q;have d:=ak.refl [] w;refine bY [.tmp 2] 42 Tryz.func32 rfl afu rfl rfl ?_;refine W ?_;refine eJ (λq:Nat×Option Addr×Nat×Option Nat=>[(3,.slice q.2.1 (iQ<|ps.take q.1).length q.2.2.1),(10,.slice a ps.length c),(11,.int .i64 (ps.length:Int)),(12,.int .i64 (q.1:Int))]) (λq f=>ak [] w f/\Gr w.heap.size L f 9 1 (.slice q.2.1 (iQ<|ps.take q.1).length q.2.2.1) q.2.2.2 (fQ (iQ<|ps.take q.1))/\q.1<=ps.length) (λq=>ps.length-q.1) ((0,none,0,none)) (⟨rfl,rfl,rfl,rfl⟩) (⟨d,Gr.nil hL<|lR _,sm⟩) λB _ _ m=>?_;obtain⟨i,Z,cc,g⟩:=B;dsimp only at m⊢;obtain⟨d,e,hk⟩:=m;have fV:=d.size;refine W ?_;refine zc rfl (λh1=>?_) λh1=>?_;have o:i<ps.length:=by omega
 have P:=zC (ps:=ps) o;have A:=FW Q P;obtain⟨b,C,_,_,r2,V,rfl,hc,_,mO⟩:=A;have Y:=List.mem_of_getElem? P;have nq:(eS ps i).code.length<=1000000:=by have h3:=aah o;have y:=RS ps<|i+1;omega
 refine WI ?_;refine zi Dv mB rfl rfl o<|zL Fx mB rfl (hc.ext d) rfl<|dx mB rfl rfl rfl λ_ H M dW=>?_;have d:=d.grow;have d:=d.ext H;have e:=e.alloc H dW;refine cI mB rfl rfl rfl M rfl λ_ E M _=>?_;have d:=d.aB E sx;have e:=e.aB E sx;refine W ?_;refine eJ (λq:Nat×Option Addr×Nat×Option Nat=>[(3,.slice q.2.1 (pK ps i q.1).length q.2.2.1),(10,.slice (some ⟨b,C,none⟩) ps.length c),(11,.int .i64 (ps.length:Int)),(12,.int .i64 (i:Int)),(17,.slice r2 (eS ps i).code.length V),(18,.int .i64 ((eS ps i).code.length:Int)),(19,.int .i64 (q.1:Int))]) (λq f=>ak [] w f/\Gr w.heap.size L f 9 1 (.slice q.2.1 (pK ps i q.1).length q.2.2.1) q.2.2.2 (fQ<|pK ps i q.1)/\q.1<=(eS ps i).code.length) (λq=>(eS ps i).code.length-q.1) ((0,Z,cc,g)) (⟨rfl,rfl,rfl,rfl,rfl,rfl,rfl⟩) (⟨d,e.dR λx l=>by simp[l],sm⟩) λB _ _ m=>?_;obtain⟨j,t,u,O⟩:=B;dsimp only at m⊢;obtain⟨d,e,hj⟩:=m;have fV:=d.size;refine W ?_;refine zc rfl (λh2=>?_) λh2=>?_;have p:j<(eS ps i).code.length:=by omega
 have N:=ew (ps:=(eS ps i).code) p;have A:=ik mO N;obtain⟨_,_,_,_,_,rfl,jm,_,fL⟩:=A;have S:=bj _ Y _<|List.mem_of_getElem? N;have Ec:=apE o hj;have T:=apG p;refine WI ?_;refine zi iA bX rfl rfl p<|zL jk bX rfl (jm.ext d) rfl<|dx bX rfl rfl rfl λ_ F K iF=>?_;have d:=d.grow;have d:=d.ext F;have e:=e.alloc F iF;refine cI bX rfl rfl rfl K rfl λw6 I K _=>?_;have d:=d.aB I sx;have e:=e.aB I sx;refine W ?_;refine aA (apB (nth (eS ps i).code j) S.1 S.2 _ L w6<|(kI fL).ext d) ?_;rintro _ _ ⟨rfl,J⟩;have pA:=J.size;refine bN J d e λd e=>?_;refine W ?_;apply oB 5 29 34 rfl oQ;intro h3;refine zm<|zm<|aA (apD (pK ps i j) om _ _ _ _ e.done) ?_;rintro _ _ ⟨rfl,rfl⟩;exact oQ;intro _;refine aW<|zc rfl (λy=>?_) λy=>?_;have D:(nR<|nth (eS ps i).code j).isSome=true/\¬(nR<|nth (eS ps i).code j).getD []∈pK ps i j:=by simpa using y
 have z:pK ps i j++[(nR<|nth (eS ps i).code j).getD []]=pK ps i (j+1):=by rw[T];unfold addN;revert D;cases nR (nth (eS ps i).code j) with|none=>intro h;cases h.1|some s=>intro h;exact(iN h.2).symm
 refine lx<|zm<|zm<|fX bw bo rfl rfl λ_ cB U _=>bN cB d e λd e=>?_;refine Tm bw bo rfl rfl rfl rfl rfl rfl e U om λa5 X g5 _ R aD=>?_;have d:=e.since d aD;rw[z] at R⊢;refine W ?_;exact⟨(j+1,a5,X,g5),⟨rfl,rfl,rfl,rfl,rfl,rfl,rfl⟩,⟨d,R.dR λx l=>by simp[l],by dsimp only;omega⟩,by dsimp only;omega⟩;have z:pK ps i (j+1)=pK ps i j:=by rw[T];unfold addN;have D:¬((nR<|nth (eS ps i).code j).isSome=true/\¬(nR<|nth (eS ps i).code j).getD []∈pK ps i j):=(by simpa using y);revert D;cases nR (nth (eS ps i).code j) with|none=>intro _;rfl|some s=>intro h;exact iP (Classical.byContradiction λhh=>h ⟨rfl,hh⟩)
 refine W ?_;refine⟨(j+1,t,u,O),⟨congrArg (λn=>Value.slice t n u)<|congrArg List.length z.symm,rfl,rfl,rfl,rfl,rfl,rfl⟩,⟨d,?_,by dsimp only;omega⟩,by dsimp only;omega⟩
 (show Gr _ _ _ _ _ (.slice t (pK ps i<|j+1).length u) _ (fQ (pK ps i<|j+1)))
 rw[z];exact e.dR (λx l=>by simp[l]);have p:j=(eS ps i).code.length:=by omega
 subst p;rw[apF o] at e⊢;refine W ?_;exact⟨(i+1,t,u,O),⟨rfl,rfl,rfl,rfl⟩,⟨d,e.dR λx l=>by simp[l],by dsimp only;omega⟩,by dsimp only;omega⟩;have zV:ps.take i=ps:=List.take_of_length_le om;rw[zV] at e⊢;refine W ?_;exact⟨_,rfl,⟨_,e⟩,d⟩
theorem apH (a:List cW) (d:a.length<=1000) (c:pJ a<=1000000) (e:RT a) (v:Value) (L:List Nat) (w:World) (j:j1 L w v a) (g:∀x∈L,x<w.heap.size):
  bB Tryz.prog 32 [v] w λr b=>bu L b r (iQ a)/\ak [] w b:=
 (aaj a d c e v L w j g).mono λ_ _ ⟨⟨_,i⟩,f⟩=>⟨i.done,f⟩
section
variable {P:Program} (w:World)
end
section
variable {P:Program} {n:Nat} {ops:Array Oper} {K:Env->World->Prop} {rest:List Oper} {e:Env} {w:World}
 {dst:Option Nat} {ty:TypeId} {pos:String} {after:Array Edge} {g:Option (Nat×Bool)} {x y:Operand}
end




theorem lZ (z:Nat) (h:z<4611686018427387904) (y:Int) (e:y=(z:Int)):IntKind.i64.wrap y=(z:Int):=by rw[e];exact wrap_i64 _ om om
theorem nS (k:Nat) (hk:1<=k) (d:k<=1000000) (f q:Nat) (U:q<=1000000000) (w:World) (h:dQ w f q):
  bB Tryz.prog 52 [.pointer<|some ⟨f,0,none⟩,.int .i64 (k:Int)] w λr H=>(∃z:Nat,r= .int .i64 (z:Int)/\z<k)/\dQ H f (q+1)/\ak [f] w H:=by
 obtain⟨a,n,c,p,bs,m,_,C,P⟩:=h;have g:=C [f] sm;have V:n=bs.length:=by obtain⟨_,_,L,_⟩:=sO g;cases L;exact GX bs
 have F:=Nat.div_le_self p n;refine bY [.tmp 4] 99 Tryz.func52 rfl afG rfl rfl ?_;refine WA ?_;refine l6 rfl rfl rfl rfl rfl (lZ (p+1) om _ om)<|Hj rfl rfl rfl<|zf UM rfl<|gZ (o:=1) sX rfl rfl rfl m rfl λS t m _=>?_;have g:=cg.aB g t sm;have j:=t;have l:dQ S f (q+1):=⟨a,n,c,p+1,bs,m,om,Z0 C t sm,P⟩;refine W ?_;apply oP 7 17 24 rfl oQ;intro _;refine WZ ?_;exact oQ;intro _;refine aW<|zc rfl (λs=>?_) λs=>?_;have v:n=0:=(by simp at s;omega);refine W ?_;exact⟨_,rfl,⟨0,rfl,om⟩,l,j⟩;have v:0<n:=(by simp at s;omega);refine WA ?_;refine xO rfl rfl rfl rfl rfl (lZ p om _ om)<|W ?_;refine zc rfl (λE=>?_) λE=>?_;have D:p<n:=(by simp at E;omega);have B:=M4 g (i:=p) om;obtain⟨I,N,x1,u,J⟩:=B;cases u;have K:=x1.toNat_lt;refine WI ?_;refine zi Du HT rfl rfl D<|W ?_;refine zq zG xY rfl rfl rfl (wrap_i64 _ om om)<|zm<|Hm rfl rfl rfl rfl rfl om<|zA<|aW<|kF ?_;exact⟨_,rfl,⟨x1.toNat%k,rfl,Nat.mod_lt _ om⟩,l,j⟩;have D:=Nat.mod_lt p v;have s:=Nat.mod_lt (p*7+3) v;have B:=M4 g (i:=p%n) om;obtain⟨I,N,x1,u,J⟩:=B;cases u;have K:=x1.toNat_lt;have R:=M4 g (i:=(p*7+3)%n) om;obtain⟨_,_,x2,M,_⟩:=R;cases M;have T:=x2.toNat_lt;refine WZ ?_;apply dV dj 46 [47,48,49,50,51,52,53,54,55,56,57,58,59,60,61,62,63,64,65,66,67,68,69,70,71,72,73,74,75,76,77,78,79,80,81,82,83,84,85,86,87,88,89,90,91,6] [[],[0],[1],[2],[],[],[5],[6],[7],[8],[4,9],[3,10],[11],[12],[13],[],[15],[16],[17],[],[19],[20],[],[22],[23],[24],[25],[21,26],[18,27],[28],[29],[30],[14,31],[],[33],[32,34],[],[],[37],[38],[39],[40],[36,41],[42],[35,43],[44]] (it [_,_,_,_,_,_,_,_,_,_,_,_,_,_,_,_,_,_,_,_,_,_,_,_,_,_,_,_,_,_,_,_,_,_,_,_,_,_,_,_,_,_,_,_,_,_]) de rfl;intro _ aC;refine VA ?_;refine vk aC (λx e d=>?_) ?_;refine Hm rfl rfl rfl rfl rfl om ?_;exact pv;refine VA ?_;refine vk aC (λx e d=>?_) ?_;refine zq zG xY rfl rfl rfl (lZ x1.toNat om _ rfl) ?_;exact pv;refine vk aC (λx e d=>?_) ?_;refine Kb rfl rfl rfl rfl rfl (lZ (x1.toNat*131) om _ om) ?_;exact pv;refine BT ?_;refine vk aC (λx e d=>?_) ?_;refine WZ ?_;exact pv;refine vc (λ_ _ _=>WZ pv) ?_;refine vk aC (λx e d=>?_) ?_;have m:=m.ext d;refine WZ ?_;exact pv;refine vc (λ_ _ _=>WZ pv) ?_;refine VA ?_;refine vk aC (λx e d=>?_) ?_;refine Hm rfl rfl rfl rfl rfl om ?_;exact pv;refine VA ?_;refine vk aC (λx e d=>?_) ?_;refine zq zG xY rfl rfl rfl (lZ x2.toNat om _ rfl) ?_;exact pv;refine vk aC (λx e d=>?_) ?_;refine Kb rfl rfl rfl rfl rfl (lZ (x2.toNat*1117) om _ om) ?_;exact pv;refine vk aC (λx e d=>?_) ?_;refine l6 rfl rfl rfl rfl rfl (lZ (x1.toNat*131+x2.toNat*1117) om _ om) ?_;exact pv;refine BT ?_;refine VA ?_;refine vk aC (λx e d=>?_) ?_;refine Ny rfl rfl rfl rfl rfl om (lZ (p/n) om _ rfl) ?_;exact pv;refine vk aC (λx e d=>?_) ?_;refine Kb rfl rfl rfl rfl rfl (lZ (p/n*53) om _ sm) ?_;exact pv;refine vk aC (λx e d=>?_) ?_;refine l6 rfl rfl rfl rfl rfl (lZ (x1.toNat*131+x2.toNat*1117+p*29+p/n*53) om _ sm) ?_;exact pv;exact VZ;intro x _ Q;change OW _ _ _ _ [] (ba (aZ _ x _) (zZ 47 [_,_,_,_,_,_,_,_,_,_,_,_,_,_,_,_,_,_,_,_,_,_,_,_,_,_,_,_,_,_,_,_,_,_,_,_,_,_,_,_,_,_,_,_,_]++[(6,_)])) _;have O:x1.toNat*131+x2.toNat*1117+p*29+p/n*53<4611686018427387904:=om;have A:∃z,z=x1.toNat*131+x2.toNat*1117+p*29+p/n*53:=⟨_,rfl⟩;obtain⟨X,y⟩:=A;rw[<-y] at O⊢;refine bN Q l j λl j=>?_;refine W ?_;refine Ny (b:=64) rfl rfl rfl rfl rfl om (lZ (X/64) om _ rfl)<|aoC rfl rfl rfl rfl om om<|zA<|aW<|zr<|zm<|zm<|Hm rfl rfl rfl rfl rfl om<|zA<|aW<|kF ?_;exact⟨_,rfl,⟨(X^^^X/64)%k,rfl,Nat.mod_lt _ om⟩,l,j⟩
theorem apK (bs:List UInt8) (hb:bs.length<=1000000000) (v:Value) (w:World) (d:cg [] w v (.sl 1<|sK bs)):
  bB Tryz.prog 30 [v] w λr o=>(∃f,r= .pointer (some ⟨f,0,none⟩)/\w.heap.size<=f/\dQ o f 0)/\ak [] w o:=by
 obtain⟨a,c,rfl,_⟩:=sO d;rw[GX];rw[GX] at d;have b:=ak.refl [] w;refine bY [.tmp 2] 11 Tryz.func30 rfl afs rfl rfl ?_;refine W ?_;refine jn (λq:Option Addr×Nat×Nat=>[(0,.slice q.1 q.2.1 q.2.2)]) (λq p=>ak [] w p/\(∃g,cg [] p (.slice q.1 q.2.1 q.2.2) (.sl 1 (sK g)))/\q.2.1<=1000000000) ?_ ?_;refine zc rfl (λz=>?_) λz=>?_;have H:2000<bs.length:=om;have B:=M4 d (i:=0) om;obtain⟨_,_,x1,m,_⟩:=B;cases m;refine lx<|zm<|RI (h:=2000) Du HT rfl rfl rfl rfl om d<|zA<|aW ?_;exact⟨(_,2000,_),rfl,b,⟨bs.take 2000,by have:=RH d (h:=2000) om;rw[show(sK bs).take 2000=sK (bs.take 2000) from by simp[sK,List.map_take]] at this;exact this⟩,by show 2000<=_;omega⟩;refine WZ ?_;exact⟨(_,_,_),rfl,b,⟨bs,d⟩,hb⟩;intro y _ m n;obtain⟨t,E,c2⟩:=y;dsimp only at n⊢;obtain⟨b,⟨j,s⟩,u⟩:=n;have e:=s;have D:=b.size;refine zr<|zm<|jG (agy _ _ _ _) rfl rfl<|eK rfl λ_ l F _=>?_;have b:=b.ext l;refine W ?_;exact⟨_,rfl,⟨_,rfl,D,⟨t,E,c2,0,j,F,lR _,λL A=>(cg.fresh e (L':=L) λx C=>.inr<|A x C).ext l,u⟩⟩,b⟩
theorem nT (d:List aj) (u:0<d.length) (y:d.length<=1000000) (b q:Nat) (t:q<=1000000000) (v:Value) (w:World) (h:dQ w b q) (g:bu [b] w v d):
  bB Tryz.prog 54 [.pointer<|some ⟨b,0,none⟩,v] w λr i=>(∃x∈d,r=str x)/\dQ i b (q+1)/\ak [b] w i:=by
 obtain⟨a,n,c,rfl,s⟩:=dX g;subst s;refine bY [.tmp 4] 12 Tryz.func54 rfl afI rfl rfl ?_;refine W ?_;refine aA (nS d.length om om b q t w h) ?_;rintro _ _ ⟨⟨z,l,e⟩,o,f⟩;subst l;have m:=cg.aB g f sm;have p:=o7 m e;obtain⟨_,_,j,_⟩:=p;cases j;refine zi bw bo rfl rfl e<|W ?_;exact⟨_,rfl,⟨_,List.mem_of_getElem?<|jx e,rfl⟩,o,f⟩
theorem JO (a q:Nat) (g:q<=1000000000) (w:World) (h:dQ w a q):
  bB Tryz.prog 85 [.pointer (some ⟨a,0,none⟩)] w λr e=>(∃z,z<6/\r=str (aS z))/\dQ e a (q+1)/\ak [a] w e:=by
 refine bY [.tmp 2] 6 Tryz.func85 rfl agb rfl rfl ?_;refine W ?_;refine aA (nS 6 de de a q g w h) ?_;rintro _ j ⟨⟨z,f,i⟩,c,b⟩;subst f;refine aA (jg (z+1) z om om j) ?_;rintro _ _ ⟨rfl,d⟩;have l:=d.size;refine bN d c b λc b=>?_;refine W ?_;exact⟨_,rfl,⟨z,i,rfl⟩,c,b⟩
theorem apM {x:aj} (h:x∈([[62],[42]]:List aj)):∃f,x=kJ f:=by
 simp only[mC,List.not_mem_nil,or_false] at h;rcases h with rfl|rfl
 .exact⟨true,rfl⟩
 .exact⟨false,rfl⟩
theorem RV (d:Nat):d<=10->∀(c q:Nat),q+3*2^d<=1000000000->∀(w:World),dQ w c q->
  bB Tryz.prog 93 [.pointer<|some ⟨c,0,none⟩,.int .i64 (d:Int)] w λr o=>(∃T:Ty,r=str T.text/\T.n+1<=2^(d+1))/\dQ o c (q+(3*2^d-2))/\ak [c] w o:=by
 induction d using Nat.strongRecOn with
 |_ d m=>
  intro D c q _ w h;have R:1<=2^d:=Nat.one_le_two_pow;have S:2^(d+1)=2*2^d:=by rw[Nat.pow_succ];omega
  have U:2^d<=1024:=Nat.pow_le_pow_right (n:=2) de D;refine bY [.tmp 4] 29 Tryz.func93 rfl agk rfl rfl ?_;refine W ?_;refine vg (t:=7) rfl (λe=>?_) λe=>?_;replace e:=jq e;have p:d=0:=(by simp at e;omega);refine W ?_;refine zc rfl (λj=>?_) λj=>?_;refine W ?_;exact⟨_,rfl,⟨.i,by rw[Ty.OM];rfl,by show 1+1<=_;omega⟩,h.more om,ak.refl _ _⟩;simp at j;replace e:=jq e;have p:1<=d:=(by simp at e;omega);have Y:2^d=2*2^(d-1):=(by rw[<-Nat.pow_succ'];congr 1;omega);have F:2^(d-1+1)=2^d:=(by congr 1;omega);have H:1<=2^(d-1):=Nat.one_le_two_pow;refine zm<|aA (nS 2 de de c q om w h) ?_;rintro _ _ ⟨⟨z,v,_⟩,a,b⟩;subst v;refine W ?_;refine zc rfl (λC=>?_) λC=>?_;refine W ?_;exact⟨_,rfl,⟨.i,by rw[Ty.OM];rfl,by show 1+1<=_;omega⟩,a.more om,b⟩;have V:=a.lt;refine iw<|zr<|zm<|lS bw bo rfl rfl rfl rfl λL u J _=>bN u a b λa b=>?_;refine aA (nT [[62],[42]] de de c (q+1) om _ L a (aJ.ej [[62],[42]] J λI=>by simp at I;omega)) ?_;rintro _ M ⟨⟨_,E,l⟩,a,y⟩;have i:=apM E;obtain⟨f,i⟩:=i;rw[i] at l;subst l;have b:=b.trans y;have X:=OO f;refine WA ?_;refine xO rfl rfl rfl rfl rfl (lZ (d-1) om _ om)<|aA (m (d-1) om om c (q+1+1) om M a) ?_;rintro _ N ⟨⟨A,K,_⟩,a,O⟩;subst K;have b:=b.trans O;have P:=A.len;refine WA ?_;refine xO rfl rfl rfl rfl rfl (lZ (d-1) om _ om)<|aA (m (d-1) om om c _ om N a) ?_;rintro _ _ ⟨⟨B,s,_⟩,a,g⟩;subst s;have b:=b.trans g;have Q:=B.len;refine W ?_;exact⟨_,rfl,⟨.op f A B,by show str (((((([40]++kJ f)++[32])++A.text)++[32])++B.text)++[41])=str _;rw[Ty.KP];simp,by show 1+A.n+B.n+1<=_;omega⟩,a.more om,b⟩
def CP:Ty->aj
 | .i=>[48]
 | .op false a b=>[40,112,97,105,114,32]++CP a++[32]++CP b++[41]
 | .op true a b=>[40,102,117,110,32,102,32,120,32]++a.text++[32]++b.text++[32]++CP b++[41]
theorem CQ:∀T:Ty,T.n<=60->(CP T).length<=500*T.n
 | .i,_=>by simp[CP,Ty.n]
 | .op false a b,h=>by simp only[Ty.n] at h⊢;have:=CQ a om;have:=CQ b om;simp only[CP,lA,lC,List.length_nil];omega
 | .op true a b,h=>by simp only[Ty.n] at h⊢;have:=CQ b om;have:=a.len;have:=b.len;simp only[CP,lA,lC,List.length_nil];omega
theorem aal (T:Ty):T.n<=60->∀(v:Value) (L:List Nat) (w:World),bg L w v T.av->bB Tryz.prog 196 [v] w λr w'=>r=str (CP T)/\ak [] w w':=by
 induction T with
 |i=>intro N v L w E;obtain⟨Y,nr,Z,rfl,F,p⟩:=db E;have j:=ak.refl [] w;refine bY [.tmp 2] 47 Tryz.func196 rfl Ot rfl rfl ?_;refine zr<|eK rfl λw1 s X dk=>?_;have j:=j.ext s;refine W ?_;refine zc rfl (λq=>?_) λq=>?_;refine W ?_;exact⟨_,rfl,rfl,j⟩;exact absurd q de
 |op f a b S A=>
  intro N v L w E;cases f with
  |false=>obtain⟨Y,nr,Z,rfl,F,p⟩:=db E;subst F;have fm:1+a.n+b.n<=60:=N;have Ih:=CQ a om;have E4:=CQ b om;have z6:=a.len;have O:=b.len;have P:=a.size;have Q:=b.size;have QO:(Ty.op false a b).av.ag.length=3:=rfl;obtain⟨b0,sr,U,V,I,o,_⟩:=fK p (i:=0) om;cases I;have o:gd L w _ _ [str<|kJ false,.slice U 0 V]:=o;obtain⟨b1,fo,B,C,J,m,g⟩:=fK p (i:=1) om;cases J;have m:gd L w _ _ [str a.av.au,.slice B a.av.ag.length C]:=m;have g:bg L w (.agg #[str a.av.au,.slice B a.av.ag.length C]) a.av:=g;obtain⟨b2,lU,y,z,K,n,e⟩:=fK p (i:=2) om;cases K;have n:gd L w _ _ [str b.av.au,.slice y b.av.ag.length z]:=n;have e:bg L w (.agg #[str b.av.au,.slice y b.av.ag.length z]) b.av:=e;have j:=ak.refl [] w;refine bY [.tmp 2] 47 Tryz.func196 rfl Ot rfl rfl<|zr<|eK rfl λw1 s X dk=>uq s j o m n g e λj o m n g e=>?_;refine W ?_;refine zc rfl (λq=>?_) λq=>?_;exact absurd rfl q;refine WI ?_;refine zi (i:=0) cQ aM rfl rfl ((show 0<3 from om))<|W ?_;refine zc rfl (λt=>?_) λt=>?_;refine WZ ?_;apply dV dj 15 [12,13,14,15,16,17,18,19,20,21,22,23,24,25,2] [[],[0],[1],[2],[3],[4],[5],[],[7],[8],[9],[10],[6,11],[12],[13]] (it [_,_,_,_,_,_,_,_,_,_,_,_,_,_,_]) de rfl;intro wd aC;refine VA ?_;refine vk aC (λx d c=>?_) ?_;refine zi (i:=1) cQ aM rfl rfl ((show 1<3 from om)) ?_;exact pv;refine VA ?_;refine vk aC (λx d c=>?_) ?_;have g:=g.ext c;refine aA (S om _ _ d g) ?_;rintro _ H ⟨rfl,l⟩;have D:=l.size;exact pk l;refine VA ?_;refine vk aC (λx d c=>?_) ?_;refine zi (i:=2) cQ aM rfl rfl ((show 2<3 from om)) ?_;exact pv;refine VA ?_;refine vk aC (λx d c=>?_) ?_;have e:=e.ext c;refine aA (A om _ _ d e) ?_;rintro _ H ⟨rfl,l⟩;have D:=l.size;exact pk l;exact VZ;intro x mS R;have j:=j.ext R;change OW _ _ _ _ [] (ba (aZ _ x _)<|zZ 12 [_,_,_,_,_,_,_,_,_,_,_,_,_,_]++[(2,_)]) _;refine W ?_;exact⟨_,rfl,rfl,j⟩;exact absurd rfl t
  |true=>obtain⟨Y,nr,Z,rfl,F,p⟩:=db E;subst F;have fm:1+a.n+b.n<=60:=N;have Ih:=CQ a om;have E4:=CQ b om;have z6:=a.len;have O:=b.len;have P:=a.size;have Q:=b.size;have QO:(Ty.op true a b).av.ag.length=3:=rfl;obtain⟨b0,sr,U,V,I,o,_⟩:=fK p (i:=0) om;cases I;have o:gd L w _ _ [str<|kJ true,.slice U 0 V]:=o;obtain⟨b1,fo,B,C,J,m,g⟩:=fK p (i:=1) om;cases J;have m:gd L w _ _ [str a.av.au,.slice B a.av.ag.length C]:=m;have g:bg L w (.agg #[str a.av.au,.slice B a.av.ag.length C]) a.av:=g;obtain⟨b2,lU,y,z,K,n,e⟩:=fK p (i:=2) om;cases K;have n:gd L w _ _ [str b.av.au,.slice y b.av.ag.length z]:=n;have e:bg L w (.agg #[str b.av.au,.slice y b.av.ag.length z]) b.av:=e;have j:=ak.refl [] w;refine bY [.tmp 2] 47 Tryz.func196 rfl Ot rfl rfl<|zr<|eK rfl λw1 s X dk=>uq s j o m n g e λj o m n g e=>?_;refine W ?_;refine zc rfl (λq=>?_) λq=>?_;exact absurd rfl q;refine WI ?_;refine zi (i:=0) cQ aM rfl rfl ((show 0<3 from om))<|W ?_;refine zc rfl (λt=>?_) λt=>?_;exact absurd t de;refine WZ ?_;apply dV dj 22 [26,27,28,29,30,31,32,33,34,35,36,37,38,39,40,41,42,43,44,45,46,2] [[],[0],[1],[2],[3],[4],[5],[],[7],[8],[9],[10],[6,11],[12],[],[14],[15],[16],[17],[13,18],[19],[20]] (it [_,_,_,_,_,_,_,_,_,_,_,_,_,_,_,_,_,_,_,_,_,_]) de rfl;intro wd aC;refine VA ?_;refine vk aC (λx d c=>?_) ?_;refine zi (i:=1) cQ aM rfl rfl ((show 1<3 from om)) ?_;exact pv;refine VA ?_;refine vk aC (λx d c=>?_) ?_;have g:=g.ext c;refine aA (vG a.av.size a.av (lR _) a.fE.wf om (show a.text.length<=100000000 from om) _ _ d g) ?_;rintro _ H ⟨rfl,l⟩;have D:=l.size;exact pk l;refine vk aC (λx d c=>?_) ?_;refine iS rfl rfl (by have u:a.av.text.length=a.text.length:=rfl;simp;omega) ?_;exact pv;refine vk aC (λx d c=>?_) ?_;refine iS rfl rfl (by have u:a.av.text.length=a.text.length:=rfl;simp;omega) ?_;exact pv;refine VA ?_;refine vk aC (λx d c=>?_) ?_;refine zi (i:=2) cQ aM rfl rfl ((show 2<3 from om)) ?_;exact pv;refine VA ?_;refine vk aC (λx d c=>?_) ?_;have e:=e.ext c;refine aA (vG b.av.size b.av (lR _) b.fE.wf om (show b.text.length<=100000000 from om) _ _ d e) ?_;rintro _ H ⟨rfl,l⟩;have D:=l.size;exact pk l;refine vk aC (λx d c=>?_) ?_;refine iS rfl rfl (by have u:a.av.text.length=a.text.length:=rfl;have M:b.av.text.length=b.text.length:=rfl;simp;omega) ?_;exact pv;refine vk aC (λx d c=>?_) ?_;refine iS rfl rfl (by have u:a.av.text.length=a.text.length:=rfl;have M:b.av.text.length=b.text.length:=rfl;simp;omega) ?_;exact pv;refine VA ?_;refine vk aC (λx d c=>?_) ?_;refine zi (i:=2) cQ aM rfl rfl ((show 2<3 from om)) ?_;exact pv;refine VA ?_;refine vk aC (λx d c=>?_) ?_;have e:=e.ext c;refine aA (A om _ _ d e) ?_;rintro _ H ⟨rfl,l⟩;have D:=l.size;exact pk l;refine vk aC (λx d c=>?_) ?_;refine iS rfl rfl (by have u:a.av.text.length=a.text.length:=rfl;have M:b.av.text.length=b.text.length:=rfl;simp;omega) ?_;exact pv;refine vk aC (λx d c=>?_) ?_;refine iS rfl rfl (by have u:a.av.text.length=a.text.length:=rfl;have M:b.av.text.length=b.text.length:=rfl;simp;omega) ?_;exact pv;exact VZ;intro x mS R;have j:=j.ext R;change OW _ _ _ _ [] (ba (aZ _ x _)<|zZ 26 [_,_,_,_,_,_,_,_,_,_,_,_,_,_,_,_,_,_,_,_,_]++[(2,_)]) _;refine W ?_;exact⟨_,rfl,rfl,j⟩
def RW:List aj:=[[40,43,32,120,56,32,40,99,97,108,108,32,102,56,32,40,45,32,120,56,32,49,41,41,41],[40,99,97,108,108,32,102,56,32,40,45,32,120,56,32,49,41,41],[40,42,32,120,56,32,40,99,97,108,108,32,102,56,32,40,45,32,120,56,32,49,41,41,41],[40,45,32,48,32,40,99,97,108,108,32,102,56,32,40,45,32,120,56,32,49,41,41,41]]
theorem apP (c q:Nat) (I:q<=900000000) (w:World) (h:dQ w c q):
  bB Tryz.prog 128 [.pointer (some ⟨c,0,none⟩)] w λr i=>(∃x,r=str x/\x.length<=200)/\dQ i c (q+3)/\ak [c] w i:=by
 have a:=h;have b:=ak.refl [c] w;have v:=h.lt;refine bY [.tmp 2] 20 Tryz.func128 rfl aed rfl rfl ?_;refine W ?_;refine z7 bw bo rfl rfl rfl rfl rfl rfl λA m f _=>bN m a b λa b=>?_;refine aA (nT RW de de c q om _ A a<|aJ.ej RW f (λd=>by simp at d;omega) de) ?_;rintro _ _ ⟨⟨x1,p,t⟩,a,o⟩;subst t;have b:=b.trans o;have H:=(show∀x∈RW,x.length<=30 from by decide) _ p;have v:=a.lt;clear f;refine W ?_;refine qL bw bo rfl rfl rfl rfl rfl λB l g _=>bN l a b λa b=>?_;refine aA (nT [[48],[49],[53]] de de c (q+1) om _ B a (aJ.ej [[48],[49],[53]] g λd=>by simp at d;omega)) ?_;rintro _ C ⟨⟨x2,s,j⟩,a,u⟩;subst j;have b:=b.trans u;have J:=(show∀x∈([[48],[49],[53]]:List aj),x.length<=30 from by decide) _ s;clear g;refine W ?_;refine aA (nS 7 de de c (q+2) om C a) ?_;rintro _ D ⟨⟨z,E,_⟩,a,y⟩;subst E;have b:=b.trans y;have F:=ux (n:=z) om;refine aA (jg (z+1) z om om D) ?_;rintro _ _ ⟨rfl,e⟩;have K:=e.size;refine bN e a b λa b=>?_;refine W ?_;exact⟨_,rfl,⟨_,rfl,by simp;omega⟩,a,b⟩
theorem aao (s:aj) (w:World):bB Tryz.prog 169 [str s] w λr O=>(∃x ok,r= .tuple #[str x,.bool ok]/\x.length<=8000)/\ak [] w O:=by have a:=ak.refl [] w;refine bY [.tmp 2,.tmp 3] 26 Tryz.func169 rfl aeR rfl rfl ?_;refine W ?_;refine aA (zS s [] w sm) ?_;rintro _ _ ⟨D,l⟩;have V:=l.size;have a:=a.ext l;have F:=D;obtain⟨t,_,j,c,I⟩:=F;subst j;have B:=db c;obtain⟨L,_,M,j,C,_⟩:=B;subst j;subst C;have Y:=a.size;refine W ?_;refine dx aM rfl rfl rfl λ_ z d _=>?_;have i:=z;refine cI (vs:=[str t.au,.slice L t.ag.length M]) aM rfl rfl rfl d rfl λP y d _=>?_;have i:=i.since y λx K=>.inr (by simp at K;omega);refine bN i c a λc a=>?_;refine W ?_;refine vg (t:=13) rfl (λe=>?_) λe=>?_;replace e:=jq e;refine zs<|zs<|zs<|zp rfl<|zm<|Fi (t:=18) (b:=true) rfl<|zs<|zs<|zs<|zs<|zp rfl<|aW<|zc rfl (λu=>?_) λu=>?_;refine W ?_;exact⟨_,rfl,⟨[],false,rfl,sm⟩,a⟩;simp at u;replace e:=jq e;have A:(bS s).isSome=true:=(by simpa using e);have q:=Ft I A;refine W ?_;refine aA (Ck t om q.1 _ _ P c) ?_;rintro _ Q ⟨rfl,m⟩;have X:=m.size;refine cS m a d c λa d c=>?_;refine W ?_;refine vg (t:=18) rfl (λf=>?_) λf=>?_;replace f:=jq f;refine W ?_;refine zc rfl (λv=>?_) λv=>?_;refine W ?_;exact⟨_,rfl,⟨[],false,rfl,sm⟩,a⟩;simp at v;replace f:=jq f;have E:kK t=true:=(by simpa using f);have J:=(Bx q.1).1 E;obtain⟨T,g,_⟩:=J;have N:=c;rw[g] at N;refine W ?_;refine aA (aal T om _ _ Q<|c.eq g) ?_;rintro _ R ⟨rfl,n⟩;have oT:=n.size;refine cS n a d c λa d c=>?_;have U:=CQ T om;refine aA (P2 _ R) ?_;rintro _ S ⟨rfl,o⟩;have Z:=o.size;refine cS o a d c λa d c=>?_;refine W ?_;refine zc rfl (λH=>?_) λH=>?_;refine W ?_;exact⟨_,rfl,⟨[],false,rfl,sm⟩,a⟩;refine W ?_;refine aA (aal T om _ _ S<|c.eq g) ?_;rintro _ _ ⟨rfl,p⟩;have pA:=p.size;have a:=a.ext p;refine W ?_;exact⟨_,rfl,⟨_,true,rfl,om⟩,a⟩
theorem apQ:tR Tryz.prog 117=true:=by kernel_rfl
theorem Ng (u y:List aj) (n m:aj) (fZ:u.length<100000) (iB:y.length<100000) (Q R:Value) (L:List Nat) (w:World) (hL:∀x∈L,x<w.heap.size) (i:bu L w Q u) (j:bu L w R y):
  bB Tryz.prog 127 [.agg #[Q,R],str n,str m] w λr o=>(∃O P,r= .agg #[O,P]/\bu L o O (u++[n])/\bu L o P (y++[m]))/\ak [] w o:=by
 obtain⟨_,_,c1,rfl,_⟩:=dX i;obtain⟨_,_,c2,rfl,_⟩:=dX j;have d:=ak.refl [] w;refine kV [.cell 6 117] 18 Tryz.func127 rfl aec rfl rfl rfl ?_;refine zr<|eK rfl λb T M _=>cS T d i j λd i j=>?_;refine dx Dt rfl rfl rfl λw2 E A _=>?_;have d:=d.ext E;have i:=(bu.fresh i (L':=b.heap.size::L) (λx a=>by rcases mC.1 a with l|l;(·right;omega);(·exact .inl l))).ext E;have j:=(bu.fresh j (L':=b.heap.size::L) (λx a=>by rcases mC.1 a with l|l;(·right;omega);(·exact .inl l))).ext E;have D:∀x∈b.heap.size::L,x<w2.heap.size:=(λx a=>by rcases mC.1 a with l|l;(·omega);(·have:=hL x l;omega));have M:=M.ext E;have ek:=d.size;refine W ?_;apply xX dj 11 (rA 7 11) (rA 7 11) [[],[0],[],[2],[1,3],[],[5],[],[7],[6,8],[4,9]] [It.v _,It.v _,It.v _,It.p<|fun(v:Value) (f:World)=>bu (b.heap.size::L) f v [n],It.p (fun(v:Value) (f:World)=>bu (b.heap.size::L) f v<|u++[n]),It.v _,It.v _,It.v _,It.p<|fun(v:Value) (f:World)=>bu (b.heap.size::L) f v [m],It.p (fun(v:Value) (f:World)=>bu (b.heap.size::L) f v<|y++[m]),It.p (fun(v:Value) (f:World)=>∃p s d1 q t d2,v= .agg #[.slice p s d1,.slice q t d2]/\bu (b.heap.size::L) f (.slice p s d1) (u++[n])/\bu (b.heap.size::L) f (.slice q t d2) (y++[m]))] de (by exact⟨λv w o h k=>cg.ext h k,λv w o h k=>cg.ext h k,λv w o h k=>cg.ext h k,λv w o h k=>cg.ext h k,λv w o ⟨p,s,d1,q,t,d2,e,B,C⟩ k=>⟨p,s,d1,q,t,d2,e,cg.ext B k,cg.ext C k⟩,trivial⟩);intro _ aC;refine VA ?_;refine vk aC (λx z c=>?_) ?_;refine fX bw bo rfl rfl λK g pY ic=>?_;exact pf g<|(aJ.ej [n] pY λa=>by have:=D _ a;have:=c.size;omega);refine vk aC (λx z c=>?_) ?_;have i:=i.ext c;intro v3 d3;refine aA (vL u [n] so _ _ (b.heap.size::L) z i d3 λx a=>by have:=D x a;have:=c.size;omega) ?_;rintro J K ⟨I,g⟩;have Z:=g.size;have F:=I;exact pf g F;refine VA ?_;refine vk aC (λx z c=>?_) ?_;refine fX bw bo rfl rfl λK g S ic=>?_;exact pf g<|(aJ.ej [m] S λa=>by have:=D _ a;have:=c.size;omega);refine vk aC (λx z c=>?_) ?_;have j:=j.ext c;intro v8 d8;refine aA (vL y [m] so _ _ (b.heap.size::L) z j d8 λx a=>by have:=D x a;have:=c.size;omega) ?_;rintro J K ⟨I,g⟩;have Z:=g.size;have F:=I;exact pf g F;refine vk aC (λx z c=>?_) ?_;intro J d4;intro v9 d9;have U:=dX d4;obtain⟨p,s,d1,X,_⟩:=U;subst X;have V:=dX d9;obtain⟨q,t,d2,Y,_⟩:=V;subst Y;refine jG (Ov _ _ _ _ _ _ _) rfl rfl ?_;exact pf (ak.refl _ _)<|⟨_,_,_,_,_,_,rfl,d4,d9⟩;exact trivial;intro x _ yN;intro v3 d3;intro J d4;intro v8 d8;intro v9 d9;intro _ d10;refine bN yN d A λd A=>?_;change OW _ _ _ _ _ (ba (aZ _ x _)<|zZ 7 [_,_,_,_,_,_,_,_,_,_,_]) _;obtain⟨p,s,d1,q,t,d2,gw,B,C⟩:=d10;subst gw;refine cI (vs:=[.slice p s d1,.slice q t d2]) Dt rfl rfl rfl A rfl λN H A _=>?_;have d:=d.since H λx a=>.inr (by simp at a;omega);have B:bu L N _ (u++[n]):=(cg.aB B H sm).fresh λx a=>.inl (by simp[a]);have C:bu L N _ (y++[m]):=(cg.aB C H sm).fresh λx a=>.inl (by simp[a]);refine W ?_;exact⟨[_],ga apQ Dt rfl A rfl,⟨_,_,rfl,B,C⟩,d⟩
end Go.Proofs.YtcildnfcpkpomaaGreatDoor
