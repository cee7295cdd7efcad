/- Lemmas for the law FnLink, no statement of their own: no conditions. -/
import Derived.Test.YtcildnfcpkpomaaGreatDoorHi
import Derived.Lib.OthersKept
import Derived.Shelf.Bits.Mul64
import Derived.Shelf.LaysM
import Derived.Shelf.Slices.Turned
import Derived.Shelf.Small.Wraps
import Derived.Shelf.Strconv.Atoi
import Derived.Shelf.Strconv.Itoa0
import Derived.Shelf.Strconv.Itoa1
import Derived.Shelf.Strconv.Itoa2
import Derived.Shelf.Strconv.Itoa3
import Derived.Shelf.Strings.Builder1
import Derived.Shelf.Strings.Builder2
import Derived.Shelf.Strings.Builder2Cap
import Derived.Shelf.Strings.BuilderCap
import Derived.Shelf.Strings.BuilderF
import Derived.Shelf.Strings.BuilderK
import Derived.Shelf.Strings.Prefix
import Derived.Shelf.Strings.Repeat
set_option maxHeartbeats 4000000
set_option linter.unusedVariables false
set_option linter.unusedSimpArgs false
namespace Go.Proofs.YtcildnfcpkpomaaGreatDoor
open Go
variable {z:Int} {L:List Nat} {w w' w0:World} {B E b bytes g i k off t:Nat} {u v:Value} {ps:List cw} {xs:List Value}
end Go.Proofs.YtcildnfcpkpomaaGreatDoor
namespace Go.Proofs
open Go.Shelf
def Tryz.aqi:Go.Shelf.Ren:=⟨fun|170=>202|n=>n,fun|70=>97|3=>3|0=>0|72=>99|37=>22|5=>5|n=>n,fun|n=>n⟩
theorem Tryz.aqj:Go.Proofs.Lays.n170 Tryz.prog Tryz.aqi:={
 mixed:=by kernel_rfl
 f170:=Tryz.func202.trans (congrArg some<|by kernel_rfl)
 t0:=Tryz.underlying0
 a0:=Tryz.isAgg0
 z0:=Tryz.sizeOf0
 v0:=Tryz.zeroValue0
 t3:=Tryz.underlying3
 a3:=Tryz.isAgg3
 z3:=Tryz.sizeOf3
 v3:=Tryz.zeroValue3
 t37:=Tryz.underlying22
 a37:=Tryz.isAgg22
 z37:=Tryz.sizeOf22
 v37:=Tryz.zeroValue22
 t70:=Tryz.underlying97
 a70:=Tryz.isAgg97
 z70:=Tryz.sizeOf97
 v70:=Tryz.zeroValue97
 t72:=Tryz.underlying99
 a72:=Tryz.isAgg99
 z72:=Tryz.sizeOf99
 v72:=Tryz.zeroValue99}
def Tryz.aa8:Go.Shelf.Ren:=⟨fun|169=>77|n=>n,fun|70=>97|9=>9|0=>0|72=>99|37=>22|127=>125|3=>3|5=>5|n=>n,fun|n=>n⟩
theorem Tryz.aa9:Go.Proofs.Lays.n169 Tryz.prog Tryz.aa8:={
 mixed:=by kernel_rfl
 f169:=Tryz.func77.trans (congrArg some<|by kernel_rfl)
 t0:=Tryz.underlying0
 a0:=Tryz.isAgg0
 z0:=Tryz.sizeOf0
 v0:=Tryz.zeroValue0
 t3:=Tryz.underlying3
 a3:=Tryz.isAgg3
 z3:=Tryz.sizeOf3
 v3:=Tryz.zeroValue3
 t9:=Tryz.underlying9
 a9:=Tryz.isAgg9
 z9:=Tryz.sizeOf9
 v9:=Tryz.zeroValue9
 t37:=Tryz.underlying22
 a37:=Tryz.isAgg22
 z37:=Tryz.sizeOf22
 v37:=Tryz.zeroValue22
 t70:=Tryz.underlying97
 a70:=Tryz.isAgg97
 z70:=Tryz.sizeOf97
 v70:=Tryz.zeroValue97
 t72:=Tryz.underlying99
 a72:=Tryz.isAgg99
 z72:=Tryz.sizeOf99
 v72:=Tryz.zeroValue99
 t127:=Tryz.underlying125
 a127:=Tryz.isAgg125
 z127:=Tryz.sizeOf125
 v127:=Tryz.zeroValue125}
theorem Tryz.aba:Builder.Extra Tryz.prog Tryz.aa8:={
 sizeBuilder:=by kernel_rfl
 liesBuilder:=by kernel_rfl
 t5:=Tryz.underlying5
 a5:=Tryz.isAgg5
 z5:=Tryz.sizeOf5
 v5:=Tryz.zeroValue5
 infoByte:=by kernel_rfl
 cellsByte:=by kernel_rfl
 sizeByte:=by kernel_rfl
 neB5:=by decide}
def Tryz.abb:Go.Shelf.Ren:=⟨fun|165=>201|240=>136|241=>216|276=>180|277=>227|n=>n,fun|70=>97|3=>3|0=>0|4=>4|9=>9|20=>20|72=>99|37=>22|164=>188|5=>5|n=>n,fun|n=>n⟩
theorem Tryz.aqk:Go.Proofs.Lays.n165 Tryz.prog Tryz.abb:={
 mixed:=by kernel_rfl
 f165:=Tryz.func201.trans (congrArg some<|by kernel_rfl)
 f240:=Tryz.func136.trans (congrArg some<|by kernel_rfl)
 f241:=Tryz.func216.trans (congrArg some<|by kernel_rfl)
 f276:=Tryz.func180.trans (congrArg some<|by kernel_rfl)
 f277:=Tryz.func227.trans (congrArg some<|by kernel_rfl)
 t0:=Tryz.underlying0
 a0:=Tryz.isAgg0
 z0:=Tryz.sizeOf0
 v0:=Tryz.zeroValue0
 t3:=Tryz.underlying3
 a3:=Tryz.isAgg3
 z3:=Tryz.sizeOf3
 v3:=Tryz.zeroValue3
 t4:=Tryz.underlying4
 a4:=Tryz.isAgg4
 z4:=Tryz.sizeOf4
 v4:=Tryz.zeroValue4
 t9:=Tryz.underlying9
 a9:=Tryz.isAgg9
 z9:=Tryz.sizeOf9
 v9:=Tryz.zeroValue9
 t20:=Tryz.underlying20
 a20:=Tryz.isAgg20
 z20:=Tryz.sizeOf20
 v20:=Tryz.zeroValue20
 t37:=Tryz.underlying22
 a37:=Tryz.isAgg22
 z37:=Tryz.sizeOf22
 v37:=Tryz.zeroValue22
 t70:=Tryz.underlying97
 a70:=Tryz.isAgg97
 z70:=Tryz.sizeOf97
 v70:=Tryz.zeroValue97
 t72:=Tryz.underlying99
 a72:=Tryz.isAgg99
 z72:=Tryz.sizeOf99
 v72:=Tryz.zeroValue99
 t164:=Tryz.underlying188
 a164:=Tryz.isAgg188
 z164:=Tryz.sizeOf188
 v164:=Tryz.zeroValue188}
theorem Tryz.aql:Builder.Extra Tryz.prog Tryz.abb:={
 sizeBuilder:=by kernel_rfl
 liesBuilder:=by kernel_rfl
 t5:=Tryz.underlying5
 a5:=Tryz.isAgg5
 z5:=Tryz.sizeOf5
 v5:=Tryz.zeroValue5
 infoByte:=by kernel_rfl
 cellsByte:=by kernel_rfl
 sizeByte:=by kernel_rfl
 neB5:=by decide}
open Go.RowKit in
theorem Tryz.Builder_Grow_fresh (B b n:Nat) (w:World) (c:B<=b) (a:w.heap[b]?=some (.cells #[.pointer none,.slice none 0 0] 99 (0,0))) (f:B<=w.heap.size) (d:n<=281474976710656):
  Calls Tryz.prog 201 #[.pointer<|some ⟨b,0,none⟩,.int .i64 n] w λe w'=>e= .returned (.tuple #[])/\(Lib.BuilderAt 99 5 B b (.pointer<|some ⟨b,0,none⟩) [] w'/\Below B w w'):=Any.Builder_Grow_fresh Tryz.aqk Tryz.aql B b n w c a f d
def Tryz.axx:Go.Shelf.Ren:=⟨fun|210=>213|206=>138|n=>n,fun|9=>9|4=>4|3=>3|n=>n,fun|n=>n⟩
open Go.RowKit in
theorem Tryz.Builder_Len_f (B b:Nat) (bs:List Value) (w:World) (h:Lib.IsBuilderF 99 5 B b bs w):
  Calls Tryz.prog 202 #[.pointer (some ⟨b,0,none⟩)] w λe w'=>e= .returned (.int .i64 bs.length)/\w'=w:=Any.Builder_Len_f Tryz.aqj B b bs w h
open Go.RowKit in
theorem Tryz.Builder_String_f (B b:Nat) (l:List UInt8) (w:World) (h:Lib.IsBuilderF 99 5 B b (Lib.byteCells l) w) (a:l≠[]):
  Calls Tryz.prog 77 #[.pointer (some ⟨b,0,none⟩)] w λe w'=>e= .returned (.string ⟨l.toArray⟩)/\(Lib.IsBuilderF 99 5 B b (Lib.byteCells l) w'/\Below B w w'):=Any.Builder_String_f Tryz.aa9 Tryz.aba B b l w h a
open Go.RowKit in
theorem Tryz.Builder_String_any_f (B b:Nat) (l:List UInt8) (w:World) (h:Lib.IsBuilderF 99 5 B b (Lib.byteCells l) w) (a:B<=w.heap.size):
  Calls Tryz.prog 77 #[.pointer (some ⟨b,0,none⟩)] w λe w'=>e= .returned (.string ⟨l.toArray⟩)/\(Lib.IsBuilderF 99 5 B b (Lib.byteCells l) w'/\Below B w w'):=Any.Builder_String_any_f Tryz.aa9 Tryz.aba B b l w h a
def Tryz.aqm:Go.Shelf.Ren:=⟨fun|172=>178|244=>204|245=>205|247=>217|279=>218|280=>219|281=>220|282=>221|287=>228|316=>229|171=>147|205=>230|321=>236|322=>237|243=>183|246=>206|283=>222|284=>223|285=>224|286=>225|129=>232|317=>231|318=>233|319=>234|320=>235|337=>238|338=>239|n=>n,fun|9=>9|3=>3|75=>121|76=>122|4=>4|5=>5|167=>221|37=>22|0=>0|85=>222|2=>2|168=>224|53=>218|175=>234|46=>204|210=>237|127=>125|145=>246|143=>244|21=>21|171=>227|173=>230|212=>240|51=>215|20=>20|213=>241|232=>248|233=>249|80=>63|n=>n,fun|15=>0|16=>1|17=>2|18=>4|19=>5|n=>n⟩
theorem Tryz.aqn:Go.Proofs.Lays.n172 Tryz.prog Tryz.aqm:={
 mixed:=by kernel_rfl
 f129:=Tryz.func232.trans (congrArg some<|by kernel_rfl)
 f171:=Tryz.func147.trans (congrArg some<|by kernel_rfl)
 f172:=Tryz.func178.trans (congrArg some<|by kernel_rfl)
 f205:=Tryz.func230.trans (congrArg some<|by kernel_rfl)
 f243:=Tryz.func183.trans (congrArg some<|by kernel_rfl)
 f244:=Tryz.func204.trans (congrArg some<|by kernel_rfl)
 f245:=Tryz.func205.trans (congrArg some<|by kernel_rfl)
 f246:=Tryz.func206.trans (congrArg some<|by kernel_rfl)
 f247:=Tryz.func217.trans (congrArg some<|by kernel_rfl)
 f279:=Tryz.func218.trans (congrArg some<|by kernel_rfl)
 f280:=Tryz.func219.trans (congrArg some<|by kernel_rfl)
 f281:=Tryz.func220.trans (congrArg some<|by kernel_rfl)
 f282:=Tryz.func221.trans (congrArg some<|by kernel_rfl)
 f283:=Tryz.func222.trans (congrArg some<|by kernel_rfl)
 f284:=Tryz.func223.trans (congrArg some<|by kernel_rfl)
 f285:=Tryz.func224.trans (congrArg some<|by kernel_rfl)
 f286:=Tryz.func225.trans (congrArg some<|by kernel_rfl)
 f287:=Tryz.func228.trans (congrArg some<|by kernel_rfl)
 f316:=Tryz.func229.trans (congrArg some<|by kernel_rfl)
 f317:=Tryz.func231.trans (congrArg some<|by kernel_rfl)
 f318:=Tryz.func233.trans (congrArg some<|by kernel_rfl)
 f319:=Tryz.func234.trans (congrArg some<|by kernel_rfl)
 f320:=Tryz.func235.trans (congrArg some<|by kernel_rfl)
 f321:=Tryz.func236.trans (congrArg some<|by kernel_rfl)
 f322:=Tryz.func237.trans (congrArg some<|by kernel_rfl)
 f337:=Tryz.func238.trans (congrArg some<|by kernel_rfl)
 f338:=Tryz.func239.trans (congrArg some<|by kernel_rfl)
 t0:=Tryz.underlying0
 a0:=Tryz.isAgg0
 z0:=Tryz.sizeOf0
 v0:=Tryz.zeroValue0
 t2:=Tryz.underlying2
 a2:=Tryz.isAgg2
 z2:=Tryz.sizeOf2
 v2:=Tryz.zeroValue2
 t3:=Tryz.underlying3
 a3:=Tryz.isAgg3
 z3:=Tryz.sizeOf3
 v3:=Tryz.zeroValue3
 t4:=Tryz.underlying4
 a4:=Tryz.isAgg4
 z4:=Tryz.sizeOf4
 v4:=Tryz.zeroValue4
 t5:=Tryz.underlying5
 a5:=Tryz.isAgg5
 z5:=Tryz.sizeOf5
 v5:=Tryz.zeroValue5
 t9:=Tryz.underlying9
 a9:=Tryz.isAgg9
 z9:=Tryz.sizeOf9
 v9:=Tryz.zeroValue9
 t20:=Tryz.underlying20
 a20:=Tryz.isAgg20
 z20:=Tryz.sizeOf20
 v20:=Tryz.zeroValue20
 t21:=Tryz.underlying21
 a21:=Tryz.isAgg21
 z21:=Tryz.sizeOf21
 v21:=Tryz.zeroValue21
 t37:=Tryz.underlying22
 a37:=Tryz.isAgg22
 z37:=Tryz.sizeOf22
 v37:=Tryz.zeroValue22
 t46:=Tryz.underlying204
 a46:=Tryz.isAgg204
 z46:=Tryz.sizeOf204
 v46:=Tryz.zeroValue204
 t51:=Tryz.underlying215
 a51:=Tryz.isAgg215
 z51:=Tryz.sizeOf215
 v51:=Tryz.zeroValue215
 t53:=Tryz.underlying218
 a53:=Tryz.isAgg218
 z53:=Tryz.sizeOf218
 v53:=Tryz.zeroValue218
 t75:=Tryz.underlying121
 a75:=Tryz.isAgg121
 z75:=Tryz.sizeOf121
 v75:=Tryz.zeroValue121
 t76:=Tryz.underlying122
 a76:=Tryz.isAgg122
 z76:=Tryz.sizeOf122
 v76:=Tryz.zeroValue122
 t85:=Tryz.underlying222
 a85:=Tryz.isAgg222
 z85:=Tryz.sizeOf222
 v85:=Tryz.zeroValue222
 t127:=Tryz.underlying125
 a127:=Tryz.isAgg125
 z127:=Tryz.sizeOf125
 v127:=Tryz.zeroValue125
 t143:=Tryz.underlying244
 a143:=Tryz.isAgg244
 z143:=Tryz.sizeOf244
 v143:=Tryz.zeroValue244
 t145:=Tryz.underlying246
 a145:=Tryz.isAgg246
 z145:=Tryz.sizeOf246
 v145:=Tryz.zeroValue246
 t167:=Tryz.underlying221
 a167:=Tryz.isAgg221
 z167:=Tryz.sizeOf221
 v167:=Tryz.zeroValue221
 t168:=Tryz.underlying224
 a168:=Tryz.isAgg224
 z168:=Tryz.sizeOf224
 v168:=Tryz.zeroValue224
 t171:=Tryz.underlying227
 a171:=Tryz.isAgg227
 z171:=Tryz.sizeOf227
 v171:=Tryz.zeroValue227
 t173:=Tryz.underlying230
 a173:=Tryz.isAgg230
 z173:=Tryz.sizeOf230
 v173:=Tryz.zeroValue230
 t175:=Tryz.underlying234
 a175:=Tryz.isAgg234
 z175:=Tryz.sizeOf234
 v175:=Tryz.zeroValue234
 t210:=Tryz.underlying237
 a210:=Tryz.isAgg237
 z210:=Tryz.sizeOf237
 v210:=Tryz.zeroValue237
 t212:=Tryz.underlying240
 a212:=Tryz.isAgg240
 z212:=Tryz.sizeOf240
 v212:=Tryz.zeroValue240
 t213:=Tryz.underlying241
 a213:=Tryz.isAgg241
 z213:=Tryz.sizeOf241
 t232:=Tryz.underlying248
 a232:=Tryz.isAgg248
 z232:=Tryz.sizeOf248
 v232:=Tryz.zeroValue248
 t233:=Tryz.underlying249
 a233:=Tryz.isAgg249
 z233:=Tryz.sizeOf249
 v233:=Tryz.zeroValue249
 g15:=by kernel_rfl
 g16:=by kernel_rfl
 g17:=by kernel_rfl
 g18:=by kernel_rfl
 g19:=by kernel_rfl}
open Go.RowKit in
theorem Tryz.strconv_Atoi (s:ByteArray) (n:Int) (a:s.size<=18) (h:Lib.atoi s.data.toList=some n) (w:World):
  Calls Tryz.prog 178 #[.string s] w λe w'=>e= .returned (.tuple #[.int .i64 n,.nilIface])/\∃t,w'=Lib.bytesWorld w 5 t:=Any.strconv_Atoi Tryz.aqn s n a h w
def Tryz.axy:Go.Shelf.Ren:=⟨fun|246=>206|283=>222|284=>223|285=>224|286=>225|129=>232|317=>231|318=>233|319=>234|320=>235|337=>238|338=>239|n=>n,fun|2=>2|3=>3|9=>9|4=>4|171=>227|0=>0|53=>218|37=>22|5=>5|173=>230|212=>240|51=>215|20=>20|213=>241|46=>204|232=>248|233=>249|n=>n,fun|17=>2|18=>4|19=>5|n=>n⟩
def Tryz.axz:Go.Shelf.Ren:=⟨fun|243=>183|246=>206|283=>222|284=>223|285=>224|286=>225|129=>232|317=>231|318=>233|319=>234|320=>235|337=>238|338=>239|n=>n,fun|3=>3|9=>9|2=>2|4=>4|171=>227|0=>0|53=>218|37=>22|5=>5|173=>230|212=>240|51=>215|20=>20|213=>241|46=>204|232=>248|233=>249|n=>n,fun|17=>2|18=>4|19=>5|n=>n⟩
def Tryz.axA:Go.Shelf.Ren:=⟨fun|171=>147|243=>183|246=>206|283=>222|284=>223|285=>224|286=>225|129=>232|317=>231|318=>233|319=>234|320=>235|337=>238|338=>239|n=>n,fun|3=>3|9=>9|2=>2|4=>4|171=>227|0=>0|53=>218|37=>22|5=>5|173=>230|212=>240|51=>215|20=>20|213=>241|46=>204|232=>248|233=>249|n=>n,fun|17=>2|18=>4|19=>5|n=>n⟩
def Tryz.aqo:Go.Shelf.Ren:=⟨fun|171=>147|243=>183|246=>206|283=>222|284=>223|285=>224|286=>225|129=>232|317=>231|318=>233|319=>234|320=>235|337=>238|338=>239|n=>n,fun|3=>3|9=>9|2=>2|4=>4|171=>227|0=>0|53=>218|37=>22|5=>5|173=>230|212=>240|51=>215|20=>20|213=>241|46=>204|232=>248|233=>249|n=>n,fun|17=>2|18=>4|19=>5|n=>n⟩
theorem Tryz.aqp:Go.Proofs.Lays.n171 Tryz.prog Tryz.aqo:={
 mixed:=by kernel_rfl
 f129:=Tryz.func232.trans (congrArg some<|by kernel_rfl)
 f171:=Tryz.func147.trans (congrArg some<|by kernel_rfl)
 f243:=Tryz.func183.trans (congrArg some<|by kernel_rfl)
 f246:=Tryz.func206.trans (congrArg some<|by kernel_rfl)
 f283:=Tryz.func222.trans (congrArg some<|by kernel_rfl)
 f284:=Tryz.func223.trans (congrArg some<|by kernel_rfl)
 f285:=Tryz.func224.trans (congrArg some<|by kernel_rfl)
 f286:=Tryz.func225.trans (congrArg some<|by kernel_rfl)
 f317:=Tryz.func231.trans (congrArg some<|by kernel_rfl)
 f318:=Tryz.func233.trans (congrArg some<|by kernel_rfl)
 f319:=Tryz.func234.trans (congrArg some<|by kernel_rfl)
 f320:=Tryz.func235.trans (congrArg some<|by kernel_rfl)
 f337:=Tryz.func238.trans (congrArg some<|by kernel_rfl)
 f338:=Tryz.func239.trans (congrArg some<|by kernel_rfl)
 t0:=Tryz.underlying0
 a0:=Tryz.isAgg0
 z0:=Tryz.sizeOf0
 v0:=Tryz.zeroValue0
 t2:=Tryz.underlying2
 a2:=Tryz.isAgg2
 z2:=Tryz.sizeOf2
 v2:=Tryz.zeroValue2
 t3:=Tryz.underlying3
 a3:=Tryz.isAgg3
 z3:=Tryz.sizeOf3
 v3:=Tryz.zeroValue3
 t4:=Tryz.underlying4
 a4:=Tryz.isAgg4
 z4:=Tryz.sizeOf4
 v4:=Tryz.zeroValue4
 t5:=Tryz.underlying5
 a5:=Tryz.isAgg5
 z5:=Tryz.sizeOf5
 v5:=Tryz.zeroValue5
 t9:=Tryz.underlying9
 a9:=Tryz.isAgg9
 z9:=Tryz.sizeOf9
 v9:=Tryz.zeroValue9
 t20:=Tryz.underlying20
 a20:=Tryz.isAgg20
 z20:=Tryz.sizeOf20
 v20:=Tryz.zeroValue20
 t37:=Tryz.underlying22
 a37:=Tryz.isAgg22
 z37:=Tryz.sizeOf22
 v37:=Tryz.zeroValue22
 t46:=Tryz.underlying204
 a46:=Tryz.isAgg204
 z46:=Tryz.sizeOf204
 v46:=Tryz.zeroValue204
 t51:=Tryz.underlying215
 a51:=Tryz.isAgg215
 z51:=Tryz.sizeOf215
 v51:=Tryz.zeroValue215
 t53:=Tryz.underlying218
 a53:=Tryz.isAgg218
 z53:=Tryz.sizeOf218
 v53:=Tryz.zeroValue218
 t171:=Tryz.underlying227
 a171:=Tryz.isAgg227
 z171:=Tryz.sizeOf227
 v171:=Tryz.zeroValue227
 t173:=Tryz.underlying230
 a173:=Tryz.isAgg230
 z173:=Tryz.sizeOf230
 v173:=Tryz.zeroValue230
 t212:=Tryz.underlying240
 a212:=Tryz.isAgg240
 z212:=Tryz.sizeOf240
 v212:=Tryz.zeroValue240
 t213:=Tryz.underlying241
 a213:=Tryz.isAgg241
 z213:=Tryz.sizeOf241
 t232:=Tryz.underlying248
 a232:=Tryz.isAgg248
 z232:=Tryz.sizeOf248
 v232:=Tryz.zeroValue248
 t233:=Tryz.underlying249
 a233:=Tryz.isAgg249
 z233:=Tryz.sizeOf249
 v233:=Tryz.zeroValue249
 g17:=by kernel_rfl
 g18:=by kernel_rfl
 g19:=by kernel_rfl}
open Go.RowKit Go.Sort Go.Lib in
theorem Tryz.strconv_Itoa_small (i:Nat) (a:i<100) (w:World):
  Calls Tryz.prog 147 #[.int .i64 i] w λe w'=>e= .returned (.string ⟨(Lib.decDigits i).toArray⟩)/\w'=w:=Any.strconv_Itoa_small Tryz.aqp i a w
def Tryz.aqq:Go.Shelf.Ren:=⟨fun|99=>108|206=>138|n=>n,fun|9=>9|4=>4|3=>3|n=>n,fun|n=>n⟩
theorem Tryz.aqr:Go.Proofs.Lays.n99 Tryz.prog Tryz.aqq:={
 mixed:=by kernel_rfl
 f99:=Tryz.func108.trans (congrArg some<|by kernel_rfl)
 f206:=Tryz.func138.trans (congrArg some<|by kernel_rfl)
 t3:=Tryz.underlying3
 a3:=Tryz.isAgg3
 z3:=Tryz.sizeOf3
 v3:=Tryz.zeroValue3
 t4:=Tryz.underlying4
 a4:=Tryz.isAgg4
 z4:=Tryz.sizeOf4
 v4:=Tryz.zeroValue4
 t9:=Tryz.underlying9
 a9:=Tryz.isAgg9
 z9:=Tryz.sizeOf9
 v9:=Tryz.zeroValue9}
open Go.RowKit Go.Lib in
theorem Tryz.strings_HasPrefix (s p:ByteArray) (w:World):
  Calls Tryz.prog 108 #[.string s,.string p] w λe w'=>e= .returned (.bool<|Lib.hasPrefix s.data.toList p.data.toList)/\w'=w:=Any.strings_HasPrefix Tryz.aqr s p w
def Tryz.aqs:Go.Shelf.Ren:=⟨fun|101=>176|208=>203|206=>138|n=>n,fun|9=>9|4=>4|3=>3|n=>n,fun|n=>n⟩
theorem Tryz.aqt:Go.Proofs.Lays.n101 Tryz.prog Tryz.aqs:={
 mixed:=by kernel_rfl
 f101:=Tryz.func176.trans (congrArg some<|by kernel_rfl)
 f206:=Tryz.func138.trans (congrArg some<|by kernel_rfl)
 f208:=Tryz.func203.trans (congrArg some<|by kernel_rfl)
 t3:=Tryz.underlying3
 a3:=Tryz.isAgg3
 z3:=Tryz.sizeOf3
 v3:=Tryz.zeroValue3
 t4:=Tryz.underlying4
 a4:=Tryz.isAgg4
 z4:=Tryz.sizeOf4
 v4:=Tryz.zeroValue4
 t9:=Tryz.underlying9
 a9:=Tryz.isAgg9
 z9:=Tryz.sizeOf9
 v9:=Tryz.zeroValue9}
open Go.RowKit Go.Lib in
theorem Tryz.strings_TrimPrefix (s p:ByteArray) (w:World):
  Calls Tryz.prog 176 #[.string s,.string p] w λe w'=>e= .returned (.string ⟨(Lib.trimPrefix s.data.toList p.data.toList).toArray⟩)/\w'=w:=Any.strings_TrimPrefix Tryz.aqt s p w
def Tryz.aqu:Go.Shelf.Ren:=⟨fun|212=>200|263=>214|264=>215|n=>n,fun|46=>204|51=>215|146=>216|53=>218|148=>219|n=>n,fun|n=>n⟩
theorem Tryz.aqv:Go.Proofs.Lays.n212 Tryz.prog Tryz.aqu:={
 mixed:=by kernel_rfl
 f212:=Tryz.func200.trans (congrArg some<|by kernel_rfl)
 f263:=Tryz.func214.trans (congrArg some<|by kernel_rfl)
 f264:=Tryz.func215.trans (congrArg some<|by kernel_rfl)
 t46:=Tryz.underlying204
 a46:=Tryz.isAgg204
 z46:=Tryz.sizeOf204
 v46:=Tryz.zeroValue204
 t51:=Tryz.underlying215
 a51:=Tryz.isAgg215
 z51:=Tryz.sizeOf215
 v51:=Tryz.zeroValue215
 t53:=Tryz.underlying218
 a53:=Tryz.isAgg218
 z53:=Tryz.sizeOf218
 v53:=Tryz.zeroValue218
 t146:=Tryz.underlying216
 a146:=Tryz.isAgg216
 z146:=Tryz.sizeOf216
 v146:=Tryz.zeroValue216
 t148:=Tryz.underlying219
 a148:=Tryz.isAgg219
 z148:=Tryz.sizeOf219
 v148:=Tryz.zeroValue219}
open Go.RowKit Go.Lib in
theorem Tryz.bits_Mul (x y:Nat) (a:x<18446744073709551616) (b:y<18446744073709551616) (w:World):
  Calls Tryz.prog 200 #[.int .u64 x,.int .u64 y] w λe w'=>e= .returned (.tuple #[.int .u64 ((x*y/18446744073709551616:Nat):Int),.int .u64 ((x*y%18446744073709551616:Nat):Int)])/\w'=w:=Any.bits_Mul Tryz.aqv x y a b w
def Tryz.abc:Go.Shelf.Ren:=⟨fun|166=>105|240=>136|276=>180|n=>n,fun|70=>97|3=>3|0=>0|4=>4|9=>9|20=>20|72=>99|37=>22|164=>188|5=>5|75=>121|80=>63|n=>n,fun|n=>n⟩
theorem Tryz.abd:Go.Proofs.Lays.n166 Tryz.prog Tryz.abc:={
 mixed:=by kernel_rfl
 f166:=Tryz.func105.trans (congrArg some<|by kernel_rfl)
 f240:=Tryz.func136.trans (congrArg some<|by kernel_rfl)
 f276:=Tryz.func180.trans (congrArg some<|by kernel_rfl)
 t0:=Tryz.underlying0
 a0:=Tryz.isAgg0
 z0:=Tryz.sizeOf0
 v0:=Tryz.zeroValue0
 t3:=Tryz.underlying3
 a3:=Tryz.isAgg3
 z3:=Tryz.sizeOf3
 v3:=Tryz.zeroValue3
 t4:=Tryz.underlying4
 a4:=Tryz.isAgg4
 z4:=Tryz.sizeOf4
 v4:=Tryz.zeroValue4
 t9:=Tryz.underlying9
 a9:=Tryz.isAgg9
 z9:=Tryz.sizeOf9
 v9:=Tryz.zeroValue9
 t20:=Tryz.underlying20
 a20:=Tryz.isAgg20
 z20:=Tryz.sizeOf20
 v20:=Tryz.zeroValue20
 t37:=Tryz.underlying22
 a37:=Tryz.isAgg22
 z37:=Tryz.sizeOf22
 v37:=Tryz.zeroValue22
 t70:=Tryz.underlying97
 a70:=Tryz.isAgg97
 z70:=Tryz.sizeOf97
 v70:=Tryz.zeroValue97
 t72:=Tryz.underlying99
 a72:=Tryz.isAgg99
 z72:=Tryz.sizeOf99
 v72:=Tryz.zeroValue99
 t164:=Tryz.underlying188
 a164:=Tryz.isAgg188
 z164:=Tryz.sizeOf188
 v164:=Tryz.zeroValue188
 t75:=Tryz.underlying121
 a75:=Tryz.isAgg121
 z75:=Tryz.sizeOf121
 v75:=Tryz.zeroValue121}
theorem Tryz.abe:Builder.Extra Tryz.prog Tryz.abc:={
 sizeBuilder:=by kernel_rfl
 liesBuilder:=by kernel_rfl
 t5:=Tryz.underlying5
 a5:=Tryz.isAgg5
 z5:=Tryz.sizeOf5
 v5:=Tryz.zeroValue5
 infoByte:=by kernel_rfl
 cellsByte:=by kernel_rfl
 sizeByte:=by kernel_rfl
 neB5:=by decide}
open Go.RowKit in
theorem Tryz.Builder_WriteString_f (B b:Nat) (bs:List Value) (s:ByteArray) (w:World) (h:Lib.IsBuilderF 99 5 B b bs w) (a:bs.length+s.size<=140737488355328) (c:B<=w.heap.size):
  Calls Tryz.prog 105 #[.pointer<|some ⟨b,0,none⟩,.string s] w λe w'=>e= .returned (.tuple #[.int .i64 s.size,.nilIface])/\(Lib.BuilderAtF 99 5 B b (.pointer<|some ⟨b,0,none⟩) (bs++Lib.strCells s) w'/\Below B w w'):=Any.Builder_WriteString_f Tryz.abd Tryz.abe B b bs s w h a c
def Tryz.abf:Go.Shelf.Ren:=⟨fun|167=>106|240=>136|276=>180|n=>n,fun|70=>97|3=>3|0=>0|4=>4|9=>9|20=>20|72=>99|37=>22|164=>188|5=>5|75=>121|80=>63|n=>n,fun|n=>n⟩
theorem Tryz.aqw:Go.Proofs.Lays.n167 Tryz.prog Tryz.abf:={
 mixed:=by kernel_rfl
 f167:=Tryz.func106.trans (congrArg some<|by kernel_rfl)
 f240:=Tryz.func136.trans (congrArg some<|by kernel_rfl)
 f276:=Tryz.func180.trans (congrArg some<|by kernel_rfl)
 t0:=Tryz.underlying0
 a0:=Tryz.isAgg0
 z0:=Tryz.sizeOf0
 v0:=Tryz.zeroValue0
 t4:=Tryz.underlying4
 a4:=Tryz.isAgg4
 z4:=Tryz.sizeOf4
 v4:=Tryz.zeroValue4
 t5:=Tryz.underlying5
 a5:=Tryz.isAgg5
 z5:=Tryz.sizeOf5
 v5:=Tryz.zeroValue5
 t9:=Tryz.underlying9
 a9:=Tryz.isAgg9
 z9:=Tryz.sizeOf9
 v9:=Tryz.zeroValue9
 t20:=Tryz.underlying20
 a20:=Tryz.isAgg20
 z20:=Tryz.sizeOf20
 v20:=Tryz.zeroValue20
 t37:=Tryz.underlying22
 a37:=Tryz.isAgg22
 z37:=Tryz.sizeOf22
 v37:=Tryz.zeroValue22
 t70:=Tryz.underlying97
 a70:=Tryz.isAgg97
 z70:=Tryz.sizeOf97
 v70:=Tryz.zeroValue97
 t72:=Tryz.underlying99
 a72:=Tryz.isAgg99
 z72:=Tryz.sizeOf99
 v72:=Tryz.zeroValue99
 t75:=Tryz.underlying121
 a75:=Tryz.isAgg121
 z75:=Tryz.sizeOf121
 v75:=Tryz.zeroValue121
 t164:=Tryz.underlying188
 a164:=Tryz.isAgg188
 z164:=Tryz.sizeOf188
 v164:=Tryz.zeroValue188}
theorem Tryz.aqx:Builder.Extra Tryz.prog Tryz.abf:={
 sizeBuilder:=by kernel_rfl
 liesBuilder:=by kernel_rfl
 t5:=Tryz.underlying5
 a5:=Tryz.isAgg5
 z5:=Tryz.sizeOf5
 v5:=Tryz.zeroValue5
 infoByte:=by kernel_rfl
 cellsByte:=by kernel_rfl
 sizeByte:=by kernel_rfl
 neB5:=by decide}
open Go.RowKit in
theorem Tryz.Builder_WriteByte_k (B b:Nat) (bs:List Value) (c:Int) (w:World) (h:Lib.IsBuilderF 99 5 B b bs w) (a:bs.length+1<=140737488355328) (d:B<=w.heap.size):
  Calls Tryz.prog 106 #[.pointer<|some ⟨b,0,none⟩,.int .u8 c] w λe w'=>e= .returned .nilIface/\(Lib.BuilderAtF 99 5 B b (.pointer<|some ⟨b,0,none⟩) (bs++[.int .u8 c]) w'/\Below B w w'/\Lib.OthersKept 5 (some b) w w'):=Any.Builder_WriteByte_k Tryz.aqw Tryz.aqx B b bs c w h a d
open Go.RowKit in
theorem Tryz.Builder_WriteString_k (B b:Nat) (bs:List Value) (s:ByteArray) (w:World) (h:Lib.IsBuilderF 99 5 B b bs w) (a:bs.length+s.size<=140737488355328) (c:B<=w.heap.size):
  Calls Tryz.prog 105 #[.pointer<|some ⟨b,0,none⟩,.string s] w λe w'=>e= .returned (.tuple #[.int .i64 s.size,.nilIface])/\(Lib.BuilderAtF 99 5 B b (.pointer<|some ⟨b,0,none⟩) (bs++Lib.strCells s) w'/\Below B w w'/\Lib.OthersKept 5 (some b) w w'):=Any.Builder_WriteString_k Tryz.abd Tryz.abe B b bs s w h a c
end Go.Proofs
namespace Go.Proofs.YtcildnfcpkpomaaGreatDoor
open Go
variable {z:Int} {L:List Nat} {w w' w0:World} {B E b bytes g i k off t:Nat} {u v:Value} {ps:List cw} {xs:List Value}
theorem aqy (s p:ak) (w:World):bu Tryz.prog 108 [str s,str p] w λv w'=>v= .bool (Lib.hasPrefix s p)/\w=w':=
 ⟨rQ.mk' Tryz.func108 rfl afu,Calls.mono (Tryz.strings_HasPrefix ⟨s.toArray⟩ ⟨p.toArray⟩ w) λe w' ⟨a,b⟩=>⟨_,a,sm,b.symm⟩⟩
theorem aqz (s p:ak) (w:World):bu Tryz.prog 176 [str s,str p] w λv w'=>v=str (Lib.trimPrefix s p)/\w=w':=
 ⟨rQ.mk' Tryz.func176 rfl agy,Calls.mono (Tryz.strings_TrimPrefix ⟨s.toArray⟩ ⟨p.toArray⟩ w) λe w' ⟨a,b⟩=>⟨_,a,by simp[str],b.symm⟩⟩
theorem aqA (w:World) (o:Obj) (a:Addr) (n:Nat) (b:a.block=w.heap.size):aj [] w ((w.alloc o).freeze a n):=by
 unfold World.freeze;split
 .exact aj.alloc [] w o
 .refine⟨rfl,rfl,rfl,?_,λk hk _=>?_⟩
  .show w.heap.size<=Array.size (Array.modify (w.alloc o).heap _ _);rw[Array.size_modify];exact(aj.alloc [] w o).size
  .show(Array.modify (w.alloc o).heap _ _)[k]?=_;rw[Array.getElem?_modify,iN (by rw[b];omega)];exact(aj.alloc [] w o).block k hk sm
theorem aqB (w:World) (e:TypeId) (s:ByteArray):aj [] w (Lib.bytesWorld w e s):=
 (aj.drew [] w).trans (aqA _ _ _ _ rfl)
theorem aqC (s:ak) (h:numeral s=some z) (w:World):bu Tryz.prog 178 [str s] w λv w'=>v= .tuple #[.int .i64 z,.nilIface]/\aj [] w w':=
 ⟨rQ.mk' Tryz.func178 rfl agA,Calls.mono (Tryz.strconv_Atoi ⟨s.toArray⟩ z (by have:=Vi h;simp[ByteArray.size];omega) (by simpa using aek h) w) λe w' ⟨a,t,b⟩=>⟨_,a,rfl,by rw[b];exact aqB _ _ _⟩⟩
theorem Kz (a b c:Int) (w:World):bu Tryz.prog 62 [.int .i64 a,.int .i64 b,.int .i64 c] w λv w'=>v= .bool (decide (b<=a)&&decide (a<=c))/\w=w':=by refine cg [.tmp 6] 15 Tryz.func62 rfl ahB rfl rfl ?_;refine W ?_;apply oB 4 10 14 rfl oQ;intro _;exact oQ;intro _;refine W ?_;exact⟨_,rfl,rfl,rfl⟩
theorem aqD (c:UInt8) (w:World):bu Tryz.prog 109 [.int .u8 c.toNat] w λv w'=>v= .bool (fA c)/\w=w':=by refine cg [.tmp 2] 33 Tryz.func109 rfl afv rfl rfl ?_;refine W ?_;apply oB 3 5 8 rfl oQ;intro _;exact oQ;intro a;refine WZ ?_;apply oP 7 9 16 rfl oQ;intro _;refine WZ ?_;apply oB 3 12 15 rfl oQ;intro _;exact oQ;intro a;exact oQ;intro a;refine WZ ?_;apply oP 3 17 20 rfl oQ;intro _;exact oQ;intro a;refine WZ ?_;apply oP 3 21 24 rfl oQ;intro _;exact oQ;intro a;refine WZ ?_;apply oP 3 25 28 rfl oQ;intro _;exact oQ;intro a;refine WZ ?_;apply oP 3 29 32 rfl oQ;intro _;exact oQ;intro a;refine W ?_;exact⟨_,rfl,congrArg Value.bool (Uu c),rfl⟩
theorem aqE (s:ak) (j:s.length<9223372036854775807) (w:World):bu Tryz.prog 177 [str s] w λv w'=>v= .bool (s.all ja)/\w=w':=by
 refine cg [.tmp 2] 20 Tryz.func177 rfl agz rfl rfl ?_;refine W ?_;refine et (λk:Nat=>[(0,str s),(5,.int .i64 (s.length:Int)),(6,.int .i64 (k:Int))]) (λk w'=>w'=w/\k<=s.length/\(s.take k).all ja=true) (λk=>s.length-k) (0) (⟨rfl,rfl,rfl⟩) (⟨rfl,om,sm⟩) λe _ _ g=>?_;obtain⟨rfl,hk,b⟩:=g;refine W ?_;refine zc rfl (λf=>?_) λf=>?_;have a:e<s.length:=by omega
 refine W ?_;refine kY ji rfl rfl rfl rfl (jU a)<|WZ ?_;apply oP 5 13 18 rfl oQ;intro _;refine zm<|zm<|kY ji rfl rfl rfl rfl (jU a) ?_;exact oQ;intro _;refine aV<|zc rfl (λc=>?_) λc=>?_;have d:s.all ja=false:=aen a<|UY c;refine W ?_;exact⟨_,rfl,by rw[d];rfl,rfl⟩;have i:=UZ c;refine W ?_;exact⟨e+1,⟨rfl,rfl,rfl⟩,⟨rfl,om,by rw[OV a,List.all_append,b];simp only[List.all_cons,i.2.2];rfl⟩,om⟩;have d:s.all ja=true:=by rw[List.take_of_length_le om] at b;exact b
 refine W ?_;exact⟨_,rfl,by rw[d];rfl,rfl⟩
theorem SM (s:ak) (d:s.length<9223372036854775807) (w:World):bu Tryz.prog 133 [str s] w λv w'=>v= .bool (numeral s).isSome/\w=w':=by
 have c:(fg s).length<=s.length:=by unfold fg;split<;>simp
 refine cg [.tmp 2] 22 Tryz.func133 rfl afU rfl rfl ?_;refine W ?_;refine aA (aqz _ _ _) ?_;rintro _ _ ⟨rfl,rfl⟩;refine W ?_;rw[aei];apply oP 13 8 21 rfl oQ;intro _;refine W ?_;refine aA (Kz _ _ _ _) ?_;rintro _ _ ⟨rfl,rfl⟩;refine WZ ?_;apply oB 3 12 15 rfl oQ;intro _;refine zm<|aA (aqE _ om _) ?_;rintro _ _ ⟨rfl,rfl⟩;exact oQ;intro a;refine WZ ?_;apply oB 4 16 20 rfl oQ;intro b;simp at b;refine zm<|kY (i:=0) ji rfl rfl rfl rfl (jU om) ?_;exact oQ;intro a;exact oQ;intro a;refine W ?_;exact⟨_,rfl,show Value.bool _=Value.bool _ from congrArg _<|aeo s,rfl⟩
theorem KB (s:ak) (h:numeral s=some z) (w:World):bu Tryz.prog 134 [str s] w λv w'=>v= .int .i64 z/\aj [] w w':=by have a:=aj.refl [] w;refine cg [.tmp 2] 11 Tryz.func134 rfl afV rfl rfl ?_;refine W ?_;refine aA (aqC s h w) ?_;rintro _ _ ⟨rfl,b⟩;have c:=b.size;have a:=a.ext b;refine W ?_;exact⟨_,rfl,rfl,a⟩
theorem aqF (s:ak) (f:s.length<9223372036854775807) (w:World):bu Tryz.prog 132 [str s] w λv w'=>v= .bool (rj s)/\aj [] w w':=by
 have b:=aj.refl [] w;refine cg [.tmp 2] 10 Tryz.func132 rfl afT rfl rfl ?_;refine W ?_;refine aA (SM s f _) ?_;rintro _ _ ⟨rfl,rfl⟩;refine WZ ?_;apply oA 4 5 9 (aj [] w) rfl oQ;intro e;obtain⟨z,c⟩:=Option.isSome_iff_exists.1 e;have d:z=(numeral s).getD 0:=by rw[c];rfl
 refine zm<|aA (KB s c w) ?_;rintro _ g ⟨rfl,a⟩;have i:=a.size;rw[d];refine aA (Kz _ _ _ _) ?_;rintro _ _ ⟨rfl,rfl⟩;exact oQ;intro _ g a;have b:=b.ext a;refine W ?_;exact⟨_,rfl,show Value.bool _=Value.bool _ from congrArg _<|aem s,b⟩
theorem abg (s:ak) (i:s.length<9223372036854775807) (w:World):bu Tryz.prog 97 [str s] w λr w'=>r= .bool (ph s)/\w=w':=by refine cg [.tmp 2] 35 Tryz.func97 rfl ah5 rfl rfl ?_;refine W ?_;refine et (λk:Nat=>[(0,str s),(6,.int .i64 (s.length:Int)),(7,.int .i64 (k:Int))]) (λk w'=>w'=w/\k<=s.length/\∀j,j<k->Ec s j=true) (λk=>s.length-k) (0) (⟨rfl,rfl,rfl⟩) (⟨rfl,om,by intro j g;omega⟩) λd _ _ f=>?_;obtain⟨rfl,hk,c⟩:=f;refine W ?_;refine zc rfl (λe=>?_) λe=>?_;refine W ?_;refine kY ji rfl rfl rfl rfl (jU om)<|W ?_;apply oB 3 15 18 rfl oQ;intro _;exact oQ;intro b;refine WZ ?_;apply oP 11 19 30 rfl oQ;intro _;refine WZ ?_;apply oB 3 22 25 rfl oQ;intro _;exact oQ;intro b;refine WZ ?_;apply oB 3 26 29 rfl oQ;intro _;exact oQ;intro b;exact oQ;intro b;refine kz rfl rfl rfl<|aV<|zc rfl (λa=>?_) λa=>?_;rw[Ls] at a;refine W ?_;exact⟨_,rfl,by rw[UT om a];rfl,rfl⟩;rw[Ls] at a;refine W ?_;exact⟨d+1,⟨rfl,rfl,rfl⟩,⟨rfl,om,UW c a⟩,om⟩;refine W ?_;exact⟨_,rfl,by rw[UU λj g=>c j om];rfl,rfl⟩
theorem F3 (t:aq) (v:Value) (L:List Nat) (w:World) (e:bg L w v t):bu Tryz.prog 81 [v] w λr w'=>r= .bool (decide<|t.ag.length=0)/\aj [] w w':=by obtain⟨a,n,c,rfl,_,_⟩:=db e;have b:=aj.refl [] w;refine cg [.tmp 2] 7 Tryz.func81 rfl ahR rfl rfl ?_;refine zr<|eJ rfl λ_ d _ _=>?_;have b:=b.ext d;refine W ?_;exact⟨_,rfl,show Value.bool _=Value.bool _ from congrArg _<|decide_eq_decide.2 om,b⟩
theorem vY (t:aq) (u:WF t) (v:Value) (L:List Nat) (w:World) (p:bg L w v t):bu Tryz.prog 45 [v] w λr w'=>r=str (bC t)/\aj [] w w':=by
 have g:=p;obtain⟨a,n,c,rfl,z,e⟩:=db p;have d:=aj.refl [] w;refine cg [.tmp 2] 10 Tryz.func45 rfl ahj rfl rfl ?_;refine zr<|eJ rfl λA s l _=>cV s d e g λd e g=>?_;refine W ?_;refine aA (F3 t _ L A g) ?_;rintro _ _ ⟨rfl,m⟩;have B:=m.size;refine cV m d e l λd e l=>?_;refine aV<|zc rfl (λo=>?_) λo=>?_;have j:bC t=[]:=Ed (.inr<|List.length_eq_zero_iff.1 o);refine W ?_;exact⟨_,rfl,by rw[j];rfl,d⟩;have f:0<t.ag.length:=by omega
 have y:t.au=[]:=Classical.byContradiction (λh=>by have:=u.leaf h;rw[this] at f;exact absurd f de);have q:=eK f;have j:bC t=(nth t.ag 0).au:=II y q;obtain⟨b,off,_,_,_,rfl,_,_,_⟩:=iB e q;refine WI ?_;refine zi (i:=0) iH bZ rfl rfl (by rw[z];exact f)<|W ?_;exact⟨_,rfl,by rw[j];rfl,d⟩
theorem aqG (t:aq) (j:WF t) (h:ak) (k:Int) (v:Value) (L:List Nat) (w:World) (f:bg L w v t):
  bu Tryz.prog 46 [v,str h,.int .i64 k] w λr w'=>r= .bool (decide ((t.ag.length:Int)=k)&&decide (bC t=h))/\aj [] w w':=by
 have e:=f;obtain⟨a,n,c,rfl,l,_⟩:=db f;have b:=aj.refl [] w;subst l;refine cg [.tmp 6] 18 Tryz.func46 rfl ahk rfl rfl ?_;refine zr<|eJ rfl λg i _ _=>bJ i b e λb e=>?_;refine W ?_;apply oA 5 12 17 (aj [] g) rfl oQ;intro _;refine W ?_;refine aA (vY t j _ L g e) ?_;rintro _ m ⟨rfl,d⟩;have o:=d.size;exact oQ;intro _ m d;have b:=b.ext d;refine W ?_;exact⟨_,rfl,rfl,b⟩
theorem aqH (d:List aq) (y:d.length<1000000000) (g:aq->Bool) (f:FuncId) (e:List Value) (v:Value) (L:List Nat) (w:World) (m:da L w v d) 
  (C:∀i,i<d.length->∀(u:Value) (w':World),aj [] w w'->bg L w' u (nth d i)->bu Tryz.prog f (u::e) w' λr q=>r= .bool (g<|nth d i)/\aj [] w' q):
  bu Tryz.prog 199 [v,.func (.func f) #[] e.toArray] w λr w'=>r= .int .i64 (Ee d g)/\aj [] w w':=by
 obtain⟨a,c,rfl,_⟩:=tL m;have H:(du d).length=d.length:=iG d;have j:=aj.refl [] w;refine cg [.tmp 4] 19 Tryz.func199 rfl agQ rfl rfl ?_;refine W ?_;refine et (λk:Nat=>[(0,.slice a (du d).length c),(1,.func (.func f) #[] e.toArray),(7,.int .i64 ((du d).length:Int)),(8,.int .i64 (k:Int))]) (λk w'=>aj [] w w'/\k<=d.length/\∀i,i<k->g (nth d i)=false) (λk=>d.length-k) (0) (⟨rfl,rfl,rfl,rfl⟩) (⟨j,om,by intro i t;omega⟩) λl E _ B=>?_;obtain⟨j,hk,n⟩:=B;have m:=m.ext j;refine W ?_;refine zc rfl (λA=>?_) λA=>?_;have D:=eK (ps:=d) (i:=l) om;obtain⟨b,off,_,_,_,rfl,_,_,z⟩:=iB m D;refine W ?_;refine IE rfl rfl rfl (C l om _ E j<|kA z) ?_;rintro _ _ ⟨rfl,s⟩;have F:=s.size;have j:=j.ext s;refine aV<|zc rfl (λo=>?_) λo=>?_;have p:=aep om n o;refine W ?_;exact⟨_,rfl,by rw[p];rfl,j⟩;refine W ?_;exact⟨l+1,⟨rfl,rfl,rfl,rfl⟩,⟨j,om,by intro i t;rcases Nat.lt_or_ge i l with h|h;exact n i h;rw[show i=l by omega];exact o⟩,om⟩;have p:=aeq λi t=>n i om;refine W ?_;exact⟨_,rfl,by rw[p];rfl,j⟩
theorem aqJ (b:List aq) (c:b.length<1000000000) (g:aq->Bool) (f:FuncId) (a:List Value) (v:Value) (L:List Nat) (w:World) (m:da L w v b) 
  (l:∀i,i<b.length->∀(u:Value) (w':World),aj [] w w'->bg L w' u (nth b i)->bu Tryz.prog f (u::a) w' λr e=>r= .bool (g<|nth b i)/\aj [] w' e):
  bu Tryz.prog 173 [v,.func (.func f) #[] a.toArray] w λr w'=>r= .bool (b.any g)/\aj [] w w':=by
 have d:=aj.refl [] w;refine cg [.tmp 4] 9 Tryz.func173 rfl agv rfl rfl ?_;refine W ?_;refine aA (aqH b c g f a _ L w m l) ?_;rintro _ _ ⟨rfl,j⟩;have n:=j.size;have d:=d.ext j;refine W ?_;exact⟨_,rfl,congrArg Value.bool<|aer b g,d⟩
def abh (m:Nat):Prop:=∀(t:aq),t.size<=m->t.size<=100000->WF t->∀(a:Bool) (v:Value) (L:List Nat) (w:World),bg L w v t->
  bu Tryz.prog 130 [v,.bool a,.bool false] w λr w'=>r= .bool (ga a t)/\aj [] w w'
theorem aqK {m:Nat} (u:abh m) (t:aq) (h:t.size<=m) (s:t.size<=100000) (q:WF t) (b:Bool) (j l:Nat) (v:Value) (L:List Nat) (w:World) (o:bg L w v t) 
  (g:aK w j #[.bool b] 4) (f:aK w l #[.bool false] 4):
  bu Tryz.prog 174 [v,.pointer<|some ⟨j,0,none⟩,.pointer (some ⟨l,0,none⟩)] w λr w'=>r= .bool (!ga b t)/\aj [] w w':=by
 have e:=o;obtain⟨a,n,c,rfl,_,_⟩:=db o;have d:=aj.refl [] w;refine cg [.tmp 4] 10 Tryz.func174 rfl agw rfl rfl ?_;refine zr<|eJ rfl λy p _ _=>gK p d e g f λd e g f=>?_;refine W ?_;refine aA (u t h s q b _ L y e) ?_;rintro _ _ ⟨rfl,i⟩;have z:=i.size;have d:=d.ext i;refine W ?_;exact⟨_,rfl,rfl,d⟩
theorem aqL {n c:Nat} {f:List aq} (h:da L w (.slice (some ⟨b,off,none⟩) n c) f) (k:Nat) (p:Prop) (m:p->k<f.length):
  ∃a e d,Lo p w b (off+k*2) [str (nth f k).au,.slice a e d]/\Lp p L w (.slice a e d) (nth f k).ag:=by
 by_cases g:p
 .obtain⟨_,_,a,e,d,l,o,_,j⟩:=iB h (eK<|m g);cases l;exact⟨a,e,d,λ_=>o,λ_=>j⟩
 .exact⟨none,0,0,λi=>absurd i g,λi=>absurd i g⟩
theorem abj (a:List aq) (k i:Nat):nth (a.drop k) i=nth a (i+k):=by simp[nth,List.getD,List.getElem?_drop,Nat.add_comm]
theorem aqN (a:List aq) (f:aq->Bool):(!a.any λu=>!f u)=a.all f:=by
 induction a with
 |nil=>rfl
 |cons t r b=>simp only[List.any_cons,List.all_cons,Bool.not_or,Bool.not_not,b]
theorem SN:∀m,abh m:=by
 intro m;induction m with
 |zero=>intro t h;have:=oF t;omega
 |succ m T=>
  intro t _ _ B e v L w S;have g:=S;obtain⟨a,n,c,rfl,_,f⟩:=db S;have d:=aj.refl [] w;have od:=oF t;refine cg [.tmp 6] 53 Tryz.func130 rfl afR rfl rfl ?_;refine zr<|eJ rfl λO aI j _=>cV aI d f g λd f g=>?_;refine OC rfl rfl rfl λF aw r _=>gK aw d f g j λd f g j=>?_;refine OC rfl rfl rfl λw3 Z o _=>kq Z d f g j r λd f g j r=>?_;refine W ?_;refine aA (F3 t _ L w3 g) ?_;rintro _ w4 ⟨rfl,P⟩;have fy:=P.size;refine vB P d f g j r o λd f g j r o=>?_;refine aV<|zc rfl (λh1=>?_) λh1=>?_;have y:t.au≠[]:=λh=>by have:=B.pos h;omega
  refine WZ ?_;apply oP 7 12 19 rfl oQ;intro _;refine WZ ?_;apply oB 4 14 18 rfl oQ;intro _;refine WZ ?_;exact oQ;intro Y;exact oQ;intro Y;refine WZ ?_;apply oP 7 20 27 rfl oQ;intro _;refine zl Em rfl (o.at rfl)<|zm<|DY (t:=22) (b:=false) rfl ?_;exact oQ;intro Y;refine W ?_;exact⟨_,rfl,show Value.bool _=Value.bool _ from congrArg _<|by rw[U2 y,Bool.or_false],d⟩;have z:0<t.ag.length:=by omega
  have y:t.au=[]:=Classical.byContradiction (λh=>by have:=B.leaf h;rw[this] at z;exact absurd z de);have U:=eK z;have E:bC t=(nth t.ag 0).au:=II y U;refine W ?_;refine aA (vY t B _ L w4 g) ?_;rintro _ X ⟨rfl,Q⟩;have kF:=Q.size;refine kq Q d f j r o λd f j r o=>?_;obtain⟨b,off,_,_,_,rfl,_,_,_⟩:=iB f U;refine W ?_;refine zc rfl (λJ=>?_) λJ=>?_;have he:(nth t.ag 0).au=[101]:=E.symm.trans J;have o:aK X F.heap.size #[.bool false] 4:=o;obtain⟨_,_,_,N,H⟩:=aqL f 1 ((n:Int)=2) λh=>om;refine ka<|Ek [32,33,34,35,36,37,38,39,40,41,42,43,6] [(6,.bool<|decide ((n:Int)=2)&&ga true (nth t.ag 1))] ?_ ?_;rcases bE (decide ((n:Int)=2)) with ig|ig;apply j1 dh 13 (rA 32 12++[6]) (rA 32 12++[6]) [[],[0],[1],[2],[3],[4],[4,5],[4,6],[4,7],[4],[4,8,9],[4,10],[11]] [It.v _,It.v _,It.v _,It.v _,It.v<|.bool true,It.v _,It.v _,It.v _,It.v _,It.v _,It.v _,It.v _,It.v _] de rfl;intro wd aC;refine VA ?_;refine vc (λx q s=>?_) ?_;refine WZ ?_;exact pv (by exact congrArg Value.bool ig);refine VA ?_;refine vk aC (λx q s=>?_) ?_;have p:=ig;refine zi (i:=1) iH bZ rfl rfl (by have:=of_decide_eq_true p;omega) ?_;exact pv;refine vk aC (λx q s=>?_) ?_;have N:=N.ext s;have p:=ig;refine zL jh bZ rfl (N<|of_decide_eq_true p) rfl ?_;exact pv;refine VA ?_;refine vk aC (λx q s=>?_) ?_;have H:=H.ext s;have p:=ig;refine aA (T (nth t.ag 1) (by have:=of_decide_eq_true p;have:=kZ (t:=t) (i:=1) om;omega) (by have:=of_decide_eq_true p;have:=kZ (t:=t) (i:=1) om;omega) (B.nth (by have:=of_decide_eq_true p;omega)) true _ L q<|kA (H<|of_decide_eq_true p)) ?_;rintro _ w7 ⟨rfl,A⟩;have lU:=A.size;exact pk A;exact VZ;intro x V C;change OW _ _ _ _ [] (ba (aZ _ x _) (zZ 32 [_,_,_,_,_,_,_,_,_,_,_,_]++[(6,_)])) _;refine W ?_;exact kE C;apply j1 dh 13 (rA 32 12++[6]) (rA 32 12++[6]) [[],[0],[1],[2],[3],[4],[4,5],[4,6],[4,7],[4],[4,8,9],[4,10],[11]] [It.v _,It.v _,It.v _,It.v _,It.v (.bool false),It.v _,It.v _,It.v _,It.v _,It.v _,It.v _,It.v _,It.v _] de rfl;intro wd aC;refine VA ?_;refine vc (λx q s=>?_) ?_;refine WZ ?_;exact pv (by exact congrArg Value.bool ig);exact VZ;intro x V C;change OW _ _ _ _ [] (ba (aZ _ x _) (zZ 32 [_,_,_,_,_,_,_,_,_,_,_,_]++[(6,_)])) _;refine W ?_;exact kE C;intro x V C;have d:=d.ext C;refine kW<|⟨_,rfl,show Value.bool _=Value.bool _ from congrArg _ ?_,d⟩;rw[OZ y z he]
  congr 1
  exact decide_eq_decide.2 om;have dH:(nth t.ag 0).au≠[101]:=λh=>J<|E.trans h;refine W ?_;refine jl (λ_:Unit=>[(3,.pointer<|some ⟨w.heap.size,0,none⟩),(4,.pointer<|some ⟨O.heap.size,0,none⟩),(5,.pointer<|some ⟨F.heap.size,0,none⟩),(44,.bool (decide (bC t=[116])||decide (bC t=[99])))]) (λ_ w'=>w'=X) ?_ ?_;refine zc rfl (λK=>?_) λK=>?_;refine WZ ?_;exact⟨(),⟨rfl,rfl,rfl,congrArg Value.bool<|B6 K⟩,rfl⟩;refine W ?_;exact⟨(),⟨rfl,rfl,rfl,congrArg Value.bool<|B7 K⟩,rfl⟩;intro _ q _ hI;obtain rfl:=hI;refine zc rfl (λM=>?_) λM=>?_;have D:=B8 M;rw[E] at D;refine W ?_;refine DX (l:=1) iH bZ rfl rfl rfl rfl om f λxC I=>?_;have I:da L q xC (t.ag.drop 1):=by rw[da,Ll];exact I
  refine OS (vs:=[.pointer<|some ⟨O.heap.size,0,none⟩,.pointer (some ⟨F.heap.size,0,none⟩)]) rfl rfl rfl<|aA (aqJ (t.ag.drop 1) (by rw[List.length_drop];omega) (λu=>!ga e u) 174 [.pointer<|some ⟨O.heap.size,0,none⟩,.pointer (some ⟨F.heap.size,0,none⟩)] _ L q I λi hi u w' k R=>by rw[List.length_drop] at hi;rw[abj] at R⊢;exact aqK T (nth t.ag<|i+1) (by have:=kZ (t:=t) (i:=i+1) om;omega) (by have:=kZ (t:=t) (i:=i+1) om;omega) (B.nth om) e _ _ _ L _ R (r.ext k)<|o.ext k) ?_;rintro _ w7 ⟨rfl,A⟩;have lU:=A.size;have d:=d.ext A;refine W ?_;exact⟨_,rfl,show Value.bool _=Value.bool _ from congrArg _<|by rw[O0 y z D,aqN],d⟩;have D:=B9 M;rw[E] at D;refine W ?_;exact⟨_,rfl,by rw[U3 y z dH D];rfl,d⟩
theorem F4 {a b:World} (h:aj [] w a) (k:RowKit.Below w.heap.size a b):aj [] w b:=
 ⟨k.os.trans h.os,k.tape.trans h.tape,k.output.trans h.output,Nat.le_trans h.size k.size,λi c d=>(k.block i c).trans<|h.block i c d⟩
theorem aqO (x y:Nat) (h:x*y<18446744073709551616) (c:x<18446744073709551616) (d:y<18446744073709551616) (w:World):
  bu Tryz.prog 200 [.int .u64 x,.int .u64 y] w λv w'=>v= .tuple #[.int .u64 0,.int .u64 ((x*y:Nat):Int)]/\w=w':=
 ⟨rQ.mk' Tryz.func200 rfl agS,Calls.mono (Tryz.bits_Mul x y c d w) λ_ _ ⟨a,b⟩=>⟨_,a,by rw[Nat.div_eq_of_lt h,Nat.mod_eq_of_lt h];rfl,b.symm⟩⟩
theorem aqP (B b n:Nat) (w:World) (c:B<=b) (a:aK w b #[.pointer none,.slice none 0 0] 99) (f:B<=w.heap.size) (e:n<=281474976710656):
  bu Tryz.prog 201 [.pointer<|some ⟨b,0,none⟩,.int .i64 n] w λv w'=>v= .tuple #[]/\Lib.IsBuilderF 99 5 B b (Lib.byteCells []) w'/\RowKit.Below B w w':=
 ⟨rQ.mk' Tryz.func201 rfl agT,Calls.mono (Tryz.Builder_Grow_fresh B b n w c a f e) λ_ _ ⟨d,hb,hk⟩=>⟨_,d,rfl,.inr<|Lib.BuilderAtF.of hb,hk⟩⟩
theorem abk (B b:Nat) (l s:ak) (w:World) (h:Lib.IsBuilderF 99 5 B b (Lib.byteCells l) w) (a:l.length+s.length<=140737488355328) (e:B<=w.heap.size):
  bu Tryz.prog 105 [.pointer<|some ⟨b,0,none⟩,str s] w λv w'=>(∃u,v=u)/\Lib.IsBuilderF 99 5 B b (Lib.byteCells<|l++s) w'/\RowKit.Below B w w':=
 ⟨rQ.mk' Tryz.func105 rfl VP,Calls.mono (Tryz.Builder_WriteString_f B b _ ⟨s.toArray⟩ w h (by rw[Lib.byteCells_length];simpa[ByteArray.size] using a) e) λ_ _ ⟨d,hb,hk⟩=>⟨_,d,⟨_,rfl⟩,.inr (by have c:Lib.byteCells (l++s)=Lib.byteCells l++Lib.strCells ⟨s.toArray⟩:=by{simp[Lib.byteCells,Lib.strCells]};rw[c];exact hb),hk⟩⟩
theorem SP (B b:Nat) (l:ak) (w:World) (h:Lib.IsBuilderF 99 5 B b (Lib.byteCells l) w):
  bu Tryz.prog 202 [.pointer (some ⟨b,0,none⟩)] w λv w'=>v= .int .i64 (l.length:Int)/\w=w':=
 ⟨rQ.mk' Tryz.func202 rfl agU,Calls.mono (Tryz.Builder_Len_f B b _ w h) λ_ _ ⟨a,c⟩=>⟨_,a,by rw[Lib.byteCells_length],c.symm⟩⟩
theorem abl (B b:Nat) (l:ak) (a:l≠[]) (w:World) (h:Lib.IsBuilderF 99 5 B b (Lib.byteCells l) w):
  bu Tryz.prog 77 [.pointer (some ⟨b,0,none⟩)] w λv w'=>v=str l/\Lib.IsBuilderF 99 5 B b (Lib.byteCells l) w'/\RowKit.Below B w w':=
 ⟨rQ.mk' Tryz.func77 rfl VR,Calls.mono (Tryz.Builder_String_f B b l w h a) λ_ _ ⟨c,hb,hk⟩=>⟨_,c,rfl,hb,hk⟩⟩
theorem aqQ (c:Nat) (M:c<=8192) (w:World):bu Tryz.prog 175 [str [115],.int .i64 (c:Int)] w λv w'=>v=str (List.replicate c 115)/\aj [] w w':=by
 have b:=aj.refl [] w;refine cg [.tmp 4] 125 Tryz.func175 rfl agx rfl rfl ?_;refine W ?_;refine zc rfl (λA=>?_) λA=>?_;have z:c=0:=by omega
 refine W ?_;exact⟨_,rfl,by rw[z];rfl,b⟩;refine W ?_;refine zc rfl (λB=>?_) λB=>?_;have t:c=1:=by omega
 refine W ?_;exact⟨_,rfl,by rw[t];rfl,b⟩;refine W ?_;refine zc rfl (λC=>?_) λC=>?_;exfalso;omega;refine W ?_;refine Am yW LM rfl rfl rfl (show IntKind.u64.wrap (([115]:ak).length:Int)=((1:Nat):Int) from by decide)<|zm<|Am yW LM rfl rfl rfl (show IntKind.u64.wrap (c:Int)=((c:Nat):Int) from by rw[wrap_u64 _ om om])<|aA (aqO 1 c om om om _) ?_;rintro _ _ ⟨rfl,rfl⟩;refine zm<|zx (i:=0) rfl rfl<|zx (i:=1) rfl rfl<|zA<|zA<|aV<|ka<|zr<|zm<|Ik rfl rfl rfl rfl rfl<|zm ?_;apply DZ 3 31 34 [31,32,33,34] (λw'=>w=w') rfl;intro f;replace f:=jK f;refine W ?_;exact mg rfl rfl;intro f;replace f:=jK f;refine W ?_;exact mg rfl rfl;rintro _ _ rfl;refine aV<|zc rfl (λj=>?_) λj=>?_;exfalso;simp at j;omega;refine iF<|zr<|zm<|Am LM yW rfl rfl rfl (show IntKind.i64.wrap ((1*c:Nat):Int)=(c:Int) from by rw[wrap_i64 _ om om];omega)<|W ?_;refine zc rfl (λl=>?_) λl=>?_;exact absurd l de;refine W ?_;refine kY (i:=0) ji rfl rfl rfl rfl (jU de)<|W ?_;refine zc rfl (λm=>?_) λm=>?_;exact absurd m de;refine W ?_;refine zc rfl (λn=>?_) λn=>?_;exact absurd n de;refine W ?_;refine zc rfl (λo=>?_) λo=>?_;exact absurd o de;refine W ?_;refine zc rfl (λg=>?_) λg=>?_;exact absurd g de;refine W ?_;refine zc rfl (λp=>?_) λp=>?_;exact absurd p de;refine W ?_;refine zc rfl (λF=>?_) λF=>?_;exfalso;omega;refine iF<|zr<|dy PF rfl rfl rfl λI s u _=>?_;have b:=b.ext s;refine aV<|zr<|zm<|aA (aqP w.heap.size w.heap.size c I (lR _) u om om) ?_;rintro _ J ⟨rfl,d,e⟩;have b:=F4 b e;refine aV<|zr<|zm<|aA (abk w.heap.size w.heap.size [] [115] J d sm (by have:=b.size;omega)) ?_;rintro _ _ ⟨_,d,e⟩;have b:=F4 b e;refine W ?_;refine et (λk:Nat=>[(0,str [115]),(7,.int .i64 (c:Int)),(8,.int .i64 (c:Int)),(9,.pointer<|some ⟨w.heap.size,0,none⟩)]) (λk w'=>aj [] w w'/\Lib.IsBuilderF 99 5 w.heap.size w.heap.size (Lib.byteCells<|List.replicate k 115) w'/\1<=k/\k<=c) (λk=>c-k) (1) (⟨rfl,rfl,rfl,rfl⟩) (⟨b,d,om,om⟩) λa q _ D=>?_;obtain⟨b,d,hk,_⟩:=D;have L:=b.size;refine ka<|zr<|aA (SP _ _ _ _ d) ?_;rintro _ _ ⟨rfl,rfl⟩;rw[List.length_replicate];refine W ?_;refine zc rfl (λH=>?_) λH=>?_;have K:a<c:=by omega
 refine W ?_;refine aA (SP _ _ _ _ d) ?_;rintro _ _ ⟨rfl,rfl⟩;rw[List.length_replicate];refine W ?_;refine aA (SP _ _ _ _ d) ?_;rintro _ _ ⟨rfl,rfl⟩;rw[List.length_replicate];refine zm<|adT rfl rfl rfl rfl rfl (show(if(c:Int)<(if(a:Int)<(c:Int)-a then(a:Int) else(c:Int)-a) then(c:Int) else(if(a:Int)<(c:Int)-a then(a:Int) else(c:Int)-a))=((min a (c-a):Nat):Int) from by repeat' split<;>omega)<|zA<|aV<|lv<|aA (abl _ _ _ (by intro h;have:=congrArg List.length h;simp at this;omega) q d) ?_;rintro _ r ⟨rfl,d,e⟩;have b:=F4 b e;refine zm<|DW ji rfl rfl rfl (.inl ⟨rfl,rfl⟩) (.inr ⟨_,rfl⟩) om (by rw[List.length_replicate];omega)<|aA (abk w.heap.size w.heap.size _ _ r d so (by have:=b.size;omega)) ?_;rintro _ _ ⟨_,d,e⟩;have b:=F4 b e;refine W ?_;exact⟨a+min a (c-a),⟨rfl,rfl,rfl,rfl⟩,⟨b,by have y:List.replicate a 115++((List.replicate a (115:UInt8)).drop 0).take (min a (c-a)-0)=List.replicate (a+min a (c-a)) 115:=by{rw[List.drop_zero,Nat.sub_zero,List.take_replicate,List.replicate_append_replicate];congr 1;omega};rw[<-y];exact d,om,om⟩,om⟩;have E:a=c:=by omega
 refine W ?_;refine aA (abl _ _ _ (by intro h;have:=congrArg List.length h;simp at this;omega) q d) ?_;rintro _ r ⟨rfl,d,e⟩;have b:=F4 b e;refine W ?_;exact⟨_,rfl,by rw[<-E];rfl,b⟩
theorem abm (h:ak) (n:Nat) (M:n<=8000) (w:World):bu Tryz.prog 131 [str h,.int .i64 (n:Int)] w λr w'=>r=str (eA h n)/\aj [] w w':=by have a:=aj.refl [] w;refine cg [.tmp 4] 33 Tryz.func131 rfl afS rfl rfl ?_;refine W ?_;refine zc rfl (λp=>?_) λp=>?_;have b:=p;refine W ?_;exact⟨_,rfl,show str _=str _ from congrArg _<|by rw[eA,iP b],a⟩;have b:=p;refine W ?_;refine jl (λ_:Unit=>[(1,.int .i64 (n:Int)),(5,str h),(8,.bool (decide (h=[109,111,118])||decide (h=[111,112,101,110])))]) (λ_ w'=>w'=w) ?_ ?_;refine zc rfl (λq=>?_) λq=>?_;refine WZ ?_;exact⟨(),⟨rfl,rfl,congrArg Value.bool<|B6 q⟩,rfl⟩;refine W ?_;exact⟨(),⟨rfl,rfl,congrArg Value.bool<|B7 q⟩,rfl⟩;intro H J _ i;obtain rfl:=i;refine zc rfl (λs=>?_) λs=>?_;have c:=B8 s;refine W ?_;exact⟨_,rfl,show str _=str _ from congrArg _<|by rw[eA,iN b,iP c],a⟩;have c:=B9 s;refine W ?_;refine jl (λ_:Unit=>[(1,.int .i64 (n:Int)),(5,str h),(11,.bool (decide (h=[97,100,100])||decide (h=[115,117,98])||decide (h=[109,117,108])))]) (λ_ w'=>w'=J) ?_ ?_;refine zc rfl (λt=>?_) λt=>?_;refine WZ ?_;exact⟨(),⟨rfl,rfl,congrArg Value.bool<|O2 t⟩,rfl⟩;have F:=t;refine W ?_;refine zc rfl (λu=>?_) λu=>?_;refine WZ ?_;exact⟨(),⟨rfl,rfl,congrArg Value.bool<|O3 F u⟩,rfl⟩;refine W ?_;exact⟨(),⟨rfl,rfl,congrArg Value.bool<|O4 F u⟩,rfl⟩;intro H I _ i;obtain rfl:=i;refine zc rfl (λv=>?_) λv=>?_;have d:=O5 v;refine W ?_;exact⟨_,rfl,show str _=str _ from congrArg _<|by rw[eA,iN b,iN c,iP d],a⟩;have d:=O6 v;refine W ?_;refine zc rfl (λy=>?_) λy=>?_;have e:=y;refine W ?_;refine UF rfl rfl rfl rfl (show(if(0:Int)<(n:Int)-2 then(n:Int)-2 else 0)=((n-2:Nat):Int) from by split<;>omega)<|aA (aqQ (n-2) om I) ?_;rintro _ K ⟨rfl,E⟩;have L:=E.size;have a:=a.ext E;refine W ?_;exact⟨_,rfl,show str _=str _ from congrArg _<|by rw[eA,iN b,iN c,iN d,iP e],a⟩;have e:=y;refine W ?_;refine zc rfl (λz=>?_) λz=>?_;have f:=z;refine W ?_;exact⟨_,rfl,show str _=str _ from congrArg _<|by rw[eA,iN b,iN c,iN d,iN e,iP f],a⟩;have f:=z;refine W ?_;refine zc rfl (λA=>?_) λA=>?_;have g:=A;refine W ?_;exact⟨_,rfl,show str _=str _ from congrArg _<|by rw[eA,iN b,iN c,iN d,iN e,iN f,iP g],a⟩;have g:=A;refine W ?_;refine zc rfl (λo=>?_) λo=>?_;have j:=o;refine W ?_;exact⟨_,rfl,show str _=str _ from congrArg _<|by rw[eA,iN b,iN c,iN d,iN e,iN f,iN g,iP j],a⟩;have j:=o;refine W ?_;refine zc rfl (λD=>?_) λD=>?_;have l:=D;refine W ?_;exact⟨_,rfl,show str _=str _ from congrArg _<|by rw[eA,iN b,iN c,iN d,iN e,iN f,iN g,iN j,iP l],a⟩;have l:=D;refine W ?_;refine jl (λ_:Unit=>[(5,str h),(30,.bool (decide (h=[106,117,109,112])||decide (h=[104,97,108,116])))]) (λ_ w'=>w'=I) ?_ ?_;refine zc rfl (λB=>?_) λB=>?_;refine WZ ?_;exact⟨(),⟨rfl,congrArg Value.bool<|B6 B⟩,rfl⟩;refine W ?_;exact⟨(),⟨rfl,congrArg Value.bool<|B7 B⟩,rfl⟩;intro H K _ i;obtain rfl:=i;refine zc rfl (λC=>?_) λC=>?_;have m:=B8 C;refine W ?_;exact⟨_,rfl,show str _=str _ from congrArg _<|by rw[eA,iN b,iN c,iN d,iN e,iN f,iN g,iN j,iN l,iP m],a⟩;have m:=B9 C;refine W ?_;exact⟨_,rfl,show str _=str _ from congrArg _<|by rw[eA,iN b,iN c,iN d,iN e,iN f,iN g,iN j,iN l,iN m],a⟩
theorem abn {b:List aq} (h:da L w v b):∃a c,v= .slice a b.length c:=by obtain⟨a,c,rfl,_⟩:=tL h;exact⟨a,c,by rw[iG]⟩
theorem abo (t:aq) (hs:t.size<=12001) (O:WF t) (v:Value) (L:List Nat) (w:World) (hv:bg L w v t):
  bu Tryz.prog 99 [v] w λr w'=>r= .bool (nk t)/\aj [] w w':=by
 have H:=hv;obtain⟨a,n,c,rfl,hn,s⟩:=db hv;have d:=aj.refl [] w;have hn8:=Vn O;subst hn;have hσ:=aeK (bC t) t.ag.length;refine cg [.tmp 2] 78 Tryz.func99 rfl ah7 rfl rfl ?_;refine zr<|eJ rfl λ_ f F A=>cV f d s H λd s H=>?_;refine W ?_;apply j1 dh 7 (rA 7 6++[3]) (rA 7 6++[3]) [[],[0],[],[2],[3],[1,4],[5]] [It.v _,It.v _,It.v _,It.v _,It.v _,It.v _,It.v (str<|eA (bC t) t.ag.length)] de rfl;intro _ aC;refine VA ?_;refine vk aC (λx w2 aw=>?_) ?_;have H:=H.ext aw;refine aA (vY t O _ L w2 H) ?_;rintro _ w3 ⟨rfl,E⟩;have eP:=E.size;exact pk E;refine VA ?_;refine vk aC (λx w2 aw=>?_) ?_;refine aA (abm (bC t) t.ag.length om w2) ?_;rintro _ w3 ⟨rfl,E⟩;have eP:=E.size;exact pk E;exact VZ;intro x mL gW;refine cV gW d s F λd s F=>?_;change OW _ _ _ _ [] (ba (aZ _ x _)<|zZ 7 [_,_,_,_,_,_]++[(3,_)]) _;refine W ?_;apply oP 8 15 23 rfl oQ;intro _;refine WZ ?_;exact oQ;intro xx;refine aV<|zc rfl (λB=>?_) λB=>?_;have hb:eA (bC t) t.ag.length=[]\/t.ag.length≠(eA (bC t) t.ag.length).length+1:=by simp only[oE,dE] at B;rcases B with h|h;exact .inl h;exact .inr om
 refine W ?_;exact⟨_,rfl,by rw[Ly hb];rfl,d⟩;have hb:¬(eA (bC t) t.ag.length=[]\/t.ag.length≠(eA (bC t) t.ag.length).length+1):=by simp only[Bool.or_eq_false_iff,decide_eq_false_iff_not] at B;rintro(h|h);exact B.1 h;exact B.2 om
 have dH:=List.length_pos_iff.2 λh=>hb<|.inl h;have hl:t.ag.length=(eA (bC t) t.ag.length).length+1:=Classical.byContradiction λh=>hb<|.inr h;obtain⟨_,_,_,_,_,rfl,_,_,_⟩:=iB s<|eK (ps:=t.ag) (i:=0) om;refine W ?_;refine DX (l:=1) iH bZ rfl rfl rfl rfl om s λxC u=>?_;have u:da L mL xC (t.ag.drop 1):=by rw[da,Ll];exact u
 obtain⟨a1,c1,rfl⟩:=abn u;have Gn:(t.ag.drop 1).length=t.ag.length-1:=List.length_drop;generalize p:eA (bC t) t.ag.length=m at*;refine W ?_;refine et (λk:Nat=>[(1,.pointer<|some ⟨w.heap.size,0,none⟩),(3,str m),(26,.slice a1 (t.ag.drop 1).length c1),(27,.int .i64 ((t.ag.drop 1).length:Int)),(28,.int .i64 (k:Int))]) (λk w'=>aj [] w w'/\aj [] mL w'/\k<=(t.ag.drop 1).length/\∀i,i<k->iD ((m.getD i 0).toNat:Int) (nth t.ag (i+1))=true) (λk=>(t.ag.drop 1).length-k) (0) (⟨rfl,rfl,rfl,rfl,rfl⟩) (⟨d,aj.refl [] _,om,by intro i hi;omega⟩) λb nM _ C=>?_;obtain⟨d,f,hk,cR⟩:=C;refine bJ f u F λu F=>?_;have fi:=d.size;have KC:=f.size;have jo:=F.lt;refine W ?_;refine zc rfl (λh3=>?_) λh3=>?_;have hp:=eK (ps:=t.ag.drop 1) (i:=b) om;obtain⟨b1,fm,_,_,_,rfl,iV,eD,g⟩:=iB u hp;rw[abj] at iV eD g;have M:=O.nth (i:=b+1) om;have nh:=kZ (t:=t) (i:=b+1) om;have C3:=sQ (nth t.ag<|b+1);refine W ?_;refine dy bZ rfl rfl rfl λ_ P J _=>?_;have d:=d.grow;have d:=d.ext P;have f:=f.grow;have f:=f.ext P;have g:=g.grow;have g:=g.ext P;refine zA<|cN bZ rfl rfl rfl J rfl λlX R J _=>?_;have d:=d.aB R sx;have f:=f.aB R sx;have g:=g.aB R sx;refine W ?_;have e:=aj.refl [] lX;refine kY ji rfl rfl rfl rfl (jU om)<|W ?_;refine jl (λ_:Unit=>[(1,.pointer<|some ⟨w.heap.size,0,none⟩),(3,str m),(5,.pointer<|some ⟨nM.heap.size,0,none⟩),(6,.bool false),(26,.slice (some ⟨b1,fm,none⟩) (t.ag.drop 1).length c1),(27,.int .i64 ((t.ag.drop 1).length:Int)),(28,.int .i64 (b:Int)),(35,.int .u8 ((m.getD b 0).toNat:Int)),(36,.bool (decide (((m.getD b 0).toNat:Int)=100)||decide (((m.getD b 0).toNat:Int)=115)))]) (λ_ w'=>w'=lX) ?_ ?_;refine zc rfl (λT=>?_) λT=>?_;refine WZ ?_;exact⟨(),⟨rfl,rfl,rfl,rfl,rfl,rfl,rfl,rfl,congrArg Value.bool<|B6 T⟩,rfl⟩;refine W ?_;exact⟨(),⟨rfl,rfl,rfl,rfl,rfl,rfl,rfl,rfl,congrArg Value.bool<|B7 T⟩,rfl⟩;intro gu D _ C;obtain rfl:=C;refine jl (λ_:Unit=>[(1,.pointer<|some ⟨w.heap.size,0,none⟩),(3,str m),(6,.bool<|iD ((m.getD b 0).toNat:Int) (nth t.ag<|b+1)),(26,.slice (some ⟨b1,fm,none⟩) (t.ag.drop 1).length c1),(27,.int .i64 ((t.ag.drop 1).length:Int)),(28,.int .i64 (b:Int))]) (λ_ w'=>aj [] D w') ?_ ?_;refine zc rfl (λU=>?_) λU=>?_;have o:=B8 U;refine W ?_;refine aA (aqF _ om D) ?_;rintro _ q ⟨rfl,j⟩;have N:=j.size;have e:=e.ext j;refine W ?_;exact⟨(),⟨rfl,rfl,by rw[iD,iP o];rfl,rfl,rfl,rfl⟩,e⟩;have o:=B9 U;refine W ?_;refine zc rfl (λV=>?_) λV=>?_;refine W ?_;refine aA (SM _ om _) ?_;rintro _ _ ⟨rfl,rfl⟩;refine W ?_;exact⟨(),⟨rfl,rfl,by rw[iD,iN o,iP V];rfl,rfl,rfl,rfl⟩,e⟩;have A:=V;refine W ?_;refine zc rfl (λX=>?_) λX=>?_;have y:=X;refine W ?_;refine aA (SM _ om _) ?_;rintro _ _ ⟨rfl,rfl⟩;refine WZ ?_;apply oA 5 52 57 (aj [] D) rfl oQ;intro h8;obtain⟨z,DL⟩:=Option.isSome_iff_exists.1 h8;have Dr:z=(numeral (nth t.ag<|b+1).au).getD 0:=by rw[DL];rfl
 refine W ?_;refine aA (KB _ DL D) ?_;rintro _ q ⟨rfl,j⟩;have N:=j.size;rw[Dr];exact oQ;intro xx q j;have e:=e.ext j;refine W ?_;exact⟨(),⟨rfl,rfl,by rw[iD,iN o,iN A,iP y];rfl,rfl,rfl,rfl⟩,e⟩;have y:=X;refine W ?_;refine zc rfl (λY=>?_) λY=>?_;refine W ?_;refine aA (abg _ om _) ?_;rintro _ _ ⟨rfl,rfl⟩;refine W ?_;exact⟨(),⟨rfl,rfl,by rw[iD,iN o,iN A,iN y,iP Y];rfl,rfl,rfl,rfl⟩,e⟩;have Q:=Y;refine W ?_;refine zc rfl (λS=>?_) λS=>?_;have K:=S;refine W ?_;refine aA (aqG (nth t.ag<|b+1) M [101] 2 _ _ D (kA g)) ?_;rintro _ q ⟨rfl,j⟩;have N:=j.size;refine cV j g J e λg J e=>?_;refine WZ ?_;apply oA 3 67 70 (aj [] q) rfl oQ;intro _;refine W ?_;refine aA (SN (nth t.ag (b+1)).size (nth t.ag (b+1)) (lR _) om M false _ _ q (kA g)) ?_;rintro _ nO ⟨rfl,lI⟩;have axB:=lI.size;exact oQ;intro xx nO lI;have e:=e.ext lI;refine W ?_;exact⟨(),⟨rfl,rfl,by rw[iD,iN o,iN A,iN y,iN Q,iP K,show decide ((nth t.ag<|b+1).ag.length=2)=decide (((nth t.ag<|b+1).ag.length:Int)=2) from decide_eq_decide.2 om];rfl,rfl,rfl,rfl⟩,e⟩;have K:=S;refine W ?_;refine zc rfl (λjI=>?_) λjI=>?_;have Z:=jI;refine W ?_;refine aA (SN (nth t.ag<|b+1).size (nth t.ag<|b+1) (lR _) om M false _ _ D<|kA g) ?_;rintro _ q ⟨rfl,j⟩;have N:=j.size;have e:=e.ext j;refine W ?_;exact⟨(),⟨rfl,rfl,by rw[iD,iN o,iN A,iN y,iN Q,iN K,iP Z];rfl,rfl,rfl,rfl⟩,e⟩;have Z:=jI;refine WZ ?_;exact⟨(),⟨rfl,rfl,by rw[iD,iN o,iN A,iN y,iN Q,iN K,iN Z];rfl,rfl,rfl,rfl⟩,e⟩;intro gu q _ C;have d:=d.ext C;have f:=f.ext C;refine W ?_;refine zc rfl (λnv=>?_) λnv=>?_;subst p;have I:iD (((eA (bC t) t.ag.length).getD b 0).toNat:Int) (nth t.ag<|b+1)=false:=by simpa using nv
 refine W ?_;exact⟨_,rfl,by rw[aes om I];rfl,d⟩;have I:iD ((m.getD b 0).toNat:Int) (nth t.ag<|b+1)=true:=by simpa using nv
 refine W ?_;exact⟨b+1,⟨rfl,rfl,rfl,rfl,rfl⟩,⟨d,f,om,by intro i hi;rcases Nat.lt_or_ge i b with h|h;exact cR i h;rw[show i=b by omega];exact I⟩,om⟩;subst p;have I:=aet hb λi hi=>cR i om;refine W ?_;exact⟨_,rfl,by rw[I];rfl,d⟩
theorem aqS (t:aq) (g:WF t) (v:Value) (L:List Nat) (w:World) (i:bg L w v t):
  bu Tryz.prog 100 [v] w λr w'=>r= .bool (IK t)/\aj [] w w':=by
 have d:=i;obtain⟨a,n,c,rfl,_,_⟩:=db i;have b:=aj.refl [] w;refine cg [.tmp 2] 11 Tryz.func100 rfl afo rfl rfl ?_;refine zr<|eJ rfl λp m e _=>bJ m b d λb d=>?_;refine W ?_;refine aA (vY t g _ L p d) ?_;rintro _ j ⟨rfl,f⟩;have q:=f.size;refine cV f b d e λb d e=>?_;refine WZ ?_;apply oO 4 6 10 (aj [] j) rfl oQ;intro _;refine W ?_;refine aA (vY t g _ L j d) ?_;rintro _ _ ⟨rfl,l⟩;have s:=l.size;exact oQ;intro _ _ o;have b:=b.ext o;refine W ?_;exact⟨_,rfl,rfl,b⟩
def aqT (L:List Nat) (d:Nat) (s:ak) (v:Value) (w:World):Prop:=
 ∃t a r ok,v= .tuple #[a,str r,.bool ok]/\bg L w a t/\Cf d s t r ok
theorem aqU:∀(d:Nat) (s:ak) (L:List Nat) (w:World),d<=60->s.length<=12000->(∀x∈L,x<w.heap.size)->
  bu Tryz.prog 80 [str s,.int .i64 ((60:Int)-(d:Int))] w λv w'=>aqT L d s v w'/\aj [] w w':=by
 intro d;induction d using Nat.strongRecOn with
 |_ d ih=>
 intro s L w Q hs hL;have b:=aj.refl [] w;refine ly [.cell 4 61,.tmp 5,.tmp 6] 78 Tryz.func80 rfl ahQ rfl rfl rfl ?_;refine zr<|dy bZ rfl rfl rfl λK aI c _=>?_;have b:=b.grow;have b:=b.ext aI;refine W ?_;refine aA (aqy _ _ _) ?_;rintro _ _ ⟨rfl,rfl⟩;refine kz rfl rfl rfl<|aV<|zc rfl (λZ=>?_) λZ=>?_;have mc:=Z;refine W ?_;refine et (λk:Nat=>[(0,str s),(1,.int .i64<|(60:Int)-(d:Int)),(4,.pointer<|some ⟨w.heap.size,0,none⟩),(7,.int .i64 (k:Int))]) (λk w'=>w'=K/\k<=(s.takeWhile fA).length) (λk=>s.length-k) (0) (⟨rfl,rfl,rfl,rfl⟩) (⟨rfl,om⟩) λo w2 _ P=>?_;obtain⟨rfl,GQ⟩:=P;have EG:=Uy fA s o GQ;have gF:=Iz fA s;refine WZ ?_;apply oB 5 19 24 rfl oQ;intro _;refine zm<|zm<|kY ji rfl rfl rfl rfl (jU om)<|aA (aqD _ _) ?_;rintro _ _ ⟨rfl,rfl⟩;exact oQ;intro xx;refine aV<|zc rfl (λh3=>?_) λh3=>?_;have eI:=EG.2 (by simpa using h3);refine W ?_;exact⟨o+1,⟨rfl,rfl,rfl,rfl⟩,⟨rfl,om⟩,om⟩;have Jg:o=(s.takeWhile fA).length:=Nat.le_antisymm GQ (Nat.le_of_not_lt λhh=>by have z:=EG.1 hh;rw[z.2,Bool.and_true,decide_eq_false_iff_not] at h3;omega);refine WZ ?_;have f:=(D0 w.heap.size ([str ((s.drop 0).take<|o-0),.slice none 0 0]) 61);apply rk dh f 12 (rA 27 9++[100009,5,6]) (rA 27 9++[100009,5,6]) [[],[],[0,1],[2],[],[],[4,5],[],[7],[3],[6],[8]] [.v _,.v _,.v _,.v _,.v _,.v _,.v _,.v _,.v _,.p λ_ ww=>aK ww w.heap.size ([str ((s.drop 0).take<|o-0),.slice none 0 0]).toArray 61,.v<|str ((s.drop o).take<|s.length-o),.v (.bool (decide<|(0:Int)<(o:Int)))] de (by exact(bS<|bS (bS<|bS (bS<|bS (bS<|bS (bS<|D1 (bS<|bS trivial)))))));intro wd aC;refine dd (λ_ _ _=>WZ<|cA f) ?_;refine dd (λ_ _ _=>WZ<|cA f) ?_;refine dd (λ_ _ _=>DW ji rfl rfl rfl (.inl ⟨rfl,rfl⟩) (.inr ⟨_,rfl⟩) om om<|cA f) ?_;refine dd (λ_ _ _=>jF (VW _ _) rfl rfl<|cA f) ?_;refine dd (λ_ _ _=>WZ<|cA f) ?_;refine dd (λ_ _ _=>WZ<|cA f) ?_;refine dd (λ_ _ _=>DW ji rfl rfl rfl (.inr ⟨_,rfl⟩) (.inl ⟨rfl,rfl⟩) om om<|cA f) ?_;refine dd (λ_ _ _=>WZ<|cA f) ?_;refine dd (λ_ _ _=>WZ<|cA f) ?_;refine fJ ?_ ?_;intro x J w3 e V Q A;have d3:J 3=(.agg #[str ((s.drop 0).take<|o-0),.slice none 0 0]):=Q;replace V:=f.trans aC V;obtain⟨us,sq,vJ⟩:=V.2.2 ⟨_,(by rfl),c⟩;replace A:e=ba (aZ _ x _) [(30,J 3)]:=A;rw[d3] at A;subst A;refine cN bZ rfl rfl rfl vJ (by rw[sq];rfl) λw4 M hb _=>W ?_;exact dn ⟨M,λ_=>hb,λ_=>⟨_,rfl,hb⟩⟩ hb;refine dd (λ_ _ _=>WZ<|cA f) ?_;refine dd (λ_ _ _=>WZ<|cA f) ?_;exact trivial;intro x nM xj;intro v9 d9;replace d9:aK nM w.heap.size ([str ((s.drop 0).take (o-0)),.slice none 0 0]).toArray 61:=d9;have b:=b.aB xj.1 sx;have c:=d9;change OW _ _ _ _ [] (ba (aZ _ x _)<|zZ 27 [_,_,_,_,_,_,_,_,_]++[(100009,v9),(5,_),(6,_)]) _;refine aV<|kW<|⟨[_,_,_],⟨gB jh bZ rfl c rfl,rfl,rfl⟩,⟨.mk (s.takeWhile fA) [],_,s.dropWhile fA,_,by rw[List.drop_zero,Nat.sub_zero,Jg,Lj,Pn,Iy];rfl,jV l6,?_⟩,b⟩;unfold Cf;rw[aeT mc];by_cases R:s.takeWhile fA=[];rw[iP R];exact .inr ⟨rfl,by simp[R]⟩;rw[iN R];refine .inl ⟨rfl,dT ?_⟩;have:=List.length_pos_iff.2 R;omega;obtain⟨S,rfl⟩:=aeR Z;refine W ?_;refine zc rfl (λh4=>?_) λh4=>?_;have SQ:d=0:=by omega
 refine zr<|jF (Pz _) rfl rfl<|cN bZ rfl rfl rfl c rfl λw2 N c dN=>?_;have b:=b.aB N sx;refine W ?_;exact⟨[_,_,_],⟨gB jh bZ rfl c rfl,rfl,rfl⟩,⟨.mk [] [],_,[],_,rfl,jV l6,.inr ⟨by rw[SQ];simp[eZ],rfl⟩⟩,b⟩;have aL:∃u,d=u+1:=⟨d-1,om⟩;obtain⟨u,rfl⟩:=aL;refine iF<|zr<|dy bZ rfl rfl rfl λw2 N j dN=>?_;have b:=b.grow;have b:=b.ext N;have c:=c.grow;have c:=c.ext N;refine W ?_;have axD:=c.lt;refine et (λq:List aq×ak×Option Addr×Nat×Option Nat=>[(0,str q.2.1),(1,.int .i64<|(60:Int)-((u+1:Nat):Int)),(4,.pointer<|some ⟨w.heap.size,0,none⟩),(8,.pointer<|some ⟨K.heap.size,0,none⟩)]) (λq w'=>aj [] w w'/\aK w' w.heap.size [str [],.slice none 0 0].toArray 61/\aK w' K.heap.size [str [],.slice q.2.2.1 q.1.length q.2.2.2.1].toArray 61/\Gr w.heap.size (w.heap.size::K.heap.size::L) w' 61 2 (.slice q.2.2.1 q.1.length q.2.2.2.1) q.2.2.2.2 (du q.1)/\0<q.2.1.length/\q.2.1.length+q.1.length<=12000/\oD (u+1) S=(oD (u+1)<|q.2.1.drop 1).map λp=>(q.1++p.1,p.2)) (λq=>q.2.1.length) (([],40::S,none,0,none)) (⟨rfl,rfl,rfl,rfl⟩) (⟨b,c,j,Gr.nil (by intro x z;simp at z;rcases z with rfl|rfl|z;omega;omega;have:=hL x z;omega) om,sm,by simp at hs⊢;omega,sm⟩) λo w3 _ P=>?_;obtain⟨m,sc,a,_,g⟩:=o;dsimp only at P⊢;obtain⟨b,c,j,n,_,_,vC⟩:=P;have fi:=b.size;have N7:=c.lt;have axF:=j.lt;refine uO<|zr<|zm<|DW (l:=1) ji rfl rfl rfl (.inr ⟨_,rfl⟩) (.inl ⟨rfl,rfl⟩) om om<|zm<|lx rfl rfl rfl rfl rfl (show IntKind.i64.wrap ((60:Int)-((u+1:Nat):Int)+1)=(60:Int)-(u:Int) by rw[wrap_i64 _ om om];omega) ?_;rw[Pn];refine aA (ih u om (sc.drop 1) (g.toList++(w.heap.size::K.heap.size::L)) w3 om so n.all) ?_;rintro _ w4 ⟨kG,M⟩;have fy:=M.size;refine gK M b c j n λb c j n=>?_;obtain⟨t,_,r,ok,rfl,y,hm⟩:=kG;obtain⟨_,_,_,rfl,eD,_⟩:=db y;subst eD;refine W ?_;refine dy bZ rfl rfl rfl λ_ E dm iv=>?_;have b:=b.grow;have b:=b.ext E;have c:=c.grow;have c:=c.ext E;have j:=j.grow;have j:=j.ext E;have n:=n.alloc E iv;have y:=y.grow;have y:=y.ext E;refine cN bZ rfl rfl rfl dm rfl λ_ F dm _=>?_;have b:=b.aB F sx;have c:=c.aB F sx;have j:=j.aB F sx;have n:=n.aB F sx;have y:=y.aB F sx;refine W ?_;apply oP 3 50 53 rfl oQ;intro _;exact oQ;intro xx;refine WZ ?_;apply oP 9 54 63 rfl oQ;intro h6;simp at h6;have I:=List.length_pos_iff.2 h6.2;refine zm<|kY (i:=0) ji rfl rfl rfl rfl (jU I)<|WZ ?_;apply oB 4 58 62 rfl oQ;intro _;refine zm<|kY (i:=0) ji rfl rfl rfl rfl (jU I) ?_;exact oQ;intro xx;exact oQ;intro xx;refine aV<|zc rfl (λh8=>?_) λh8=>?_;have hR:eZ (u+1) (40::S)=none:=by rw[Gp,vC,aeW hm h8];rfl
 refine zr<|jF (Pz _) rfl rfl<|cN bZ rfl rfl rfl c rfl λw7 Y c pV=>?_;have b:=b.aB Y sx;refine W ?_;exact⟨[_,_,_],⟨gB jh bZ rfl c rfl,rfl,rfl⟩,⟨.mk [] [],_,[],_,rfl,jV l6,.inr ⟨hR,rfl⟩⟩,b⟩;obtain⟨qt,I,fH⟩:=aeX hm h8;refine W ?_;refine fM iH bZ rfl rfl λw7 Y X pV=>kq Y b c j n y λb c j n y=>?_;refine IG iH bZ rfl rfl rfl rfl rfl rfl n X y.OU om λD C g2 _ B O=>?_;have cz:=O.size;have b:=n.since b O;have c:=c.aB O<|n.As sm;have j:=j.aB O<|n.As sm;refine zf Az rfl<|ia IW rfl rfl rfl j rfl λ_ U j _=>?_;have b:=b.aB U sx;have c:=c.aB U sx;have B:=B.aB U sx;refine W ?_;refine kY (i:=0) ji rfl rfl rfl rfl (jU qt)<|yP rfl rfl rfl rfl rfl<|aV<|zc rfl (λh9=>?_) λh9=>?_;have T:r.getD 0 0=41:=UInt8.toNat_inj.1 (by have zu:(41:UInt8).toNat=41:=rfl;rw[zu];omega);have hR:eZ (u+1) (40::S)=some (.mk [] (m++[t]),r.drop 1):=by rw[Gp,vC,fH,iP T];rfl
 refine WZ ?_;have f:=(D0 w.heap.size ([str [],.slice D (m++[t]).length C]) 61);apply rk dh f 6 [75,76,77,100003,5,6] [75,76,77,100003,5,6] [[],[],[1],[0],[2],[]] [.v _,.v _,.v _,.p λ_ ww=>aK ww w.heap.size ([str [],.slice D (m++[t]).length C]).toArray 61,.v<|str ((r.drop 1).take<|r.length-1),.v (.bool true)] de (by exact(bS<|bS (bS<|D1 (bS<|bS trivial))));intro wd aC;refine ju f aC (λx bW H=>?_) ?_;have j:=j.aB H.1 sx;refine WZ ?_;exact cA f;refine dd (λ_ _ _=>WZ<|cA f) ?_;refine dd (λ_ _ _=>DW (l:=1) ji rfl rfl rfl (.inr ⟨_,rfl⟩) (.inl ⟨rfl,rfl⟩) om om<|cA f) ?_;refine fJ ?_ ?_;intro x J bW e H Q A;have d0:J 0=(.agg #[str [],.slice D (m++[t]).length C]):=Q;replace H:=f.trans aC H;obtain⟨us,sq,vJ⟩:=H.2.2 ⟨_,(by rfl),c⟩;replace A:e=ba (aZ _ x _) [(75,J 0)]:=A;rw[d0] at A;subst A;refine cN bZ rfl rfl rfl vJ (by rw[sq];rfl) λ_ cP hb _=>W ?_;exact dn ⟨cP,λ_=>hb,λ_=>⟨_,rfl,hb⟩⟩ hb;refine dd (λ_ _ _=>WZ<|cA f) ?_;refine dd (λ_ _ _=>WZ<|cA f) ?_;exact trivial;intro x jO ew;intro v3 d3;replace d3:aK jO w.heap.size ([str [],.slice D (m++[t]).length C]).toArray 61:=d3;have b:=b.aB ew.1 sx;have B:=B.aB ew.1 sx;have c:=d3;change OW _ _ _ _ [] (ba (aZ _ x _)<|zZ 75 [_,_,_]++[(100003,v3),(5,_),(6,_)]) _;refine W ?_;exact⟨[_,_,_],⟨gB jh bZ rfl c rfl,rfl,rfl⟩,⟨.mk [] (m++[t]),_,r.drop 1,_,by rw[Pn];rfl,jV<|B.trees.dY λx z=>by simp[z],.inl ⟨hR,rfl⟩⟩,b⟩;have T:r.getD 0 0≠41:=λh=>h9 (by rw[h];rfl);refine WZ ?_;exact⟨(m++[t],r,D,C,g2),⟨rfl,rfl,rfl,rfl⟩,⟨b,c,j,B.dY λx z=>mK _ z,qt,by simp at I⊢;omega,by rw[vC,fH,iN T,map_append]⟩,by simp at I;dsimp only;omega⟩
theorem aqW {s:ak} (h:12000<s.length):bT s=none:=by unfold bT;rw[iP h]
def aqX (L:List Nat) (s:ak) (v:Value) (w:World):Prop:=∃t b,v= .tuple #[b,.bool (bT s).isSome]/\bg L w b t/\∀a,bT s=some a->t=a
theorem abq (s:ak) (L:List Nat) (w:World) (y:∀x∈L,x<w.heap.size):bu Tryz.prog 44 [str s] w λr w'=>aqX L s r w'/\aj [] w w':=by
 have a:=aj.refl [] w;refine ly [.cell 2 61,.tmp 3] 23 Tryz.func44 rfl ahi rfl rfl rfl ?_;refine zr<|dy bZ rfl rfl rfl λo p b _=>?_;have a:=a.grow;have a:=a.ext p;refine W ?_;refine zc rfl (λv=>?_) λv=>?_;have n:=aqW (s:=s) om;refine zr<|jF (Pz _) rfl rfl<|cN bZ rfl rfl rfl b rfl λC f b _=>?_;have a:=a.aB f sx;refine W ?_;exact⟨[_,_],⟨gB jh bZ rfl b rfl,rfl⟩,⟨.mk [] [],_,by rw[n];rfl,jV l6,by rw[n];intro _ h;cases h⟩,a⟩;have d:s.length<=12000:=by omega
 have j:∀x∈w.heap.size::L,x<o.heap.size:=by intro x e;rcases mC.1 e with rfl|e;omega;have:=y x e;omega
 refine iF<|zr<|zm<|aA (aqU 60 s (w.heap.size::L) o om d j) ?_;rintro _ C ⟨u,f⟩;have D:=f.size;refine bJ f a b λa b=>?_;obtain⟨t,_,r,ok,rfl,c,z⟩:=u;obtain⟨_,_,_,rfl,q,_⟩:=db c;subst q;refine W ?_;refine dy bZ rfl rfl rfl λ_ g l _=>?_;have a:=a.grow;have a:=a.ext g;have b:=b.grow;have b:=b.ext g;have c:=c.grow;have c:=c.ext g;refine cN bZ rfl rfl rfl l rfl λ_ i l _=>?_;have a:=a.aB i sx;have b:=b.aB i sx;have c:=c.aB i sx;refine W ?_;apply oB 3 19 22 rfl oQ;intro _;exact oQ;intro _;refine cN bZ rfl rfl rfl b rfl λ_ m b _=>?_;have a:=a.aB m sx;have c:=c.aB m sx;refine W ?_;obtain⟨A,B⟩:=aeY d z;exact⟨[_,_],⟨gB jh bZ rfl b rfl,rfl⟩,⟨t,_,by rw[<-A];rfl,c.dY λx e=>by simp[e],B⟩,a⟩
def aqZ (L:List Nat) (s:ak) (v:Value) (w:World):Prop:=∃t b,v= .tuple #[b,.bool (uY s)]/\bg L w b t/\∀a,bT s=some a->t=a
theorem aq0 (s:ak) (L:List Nat) (w:World) (O:∀x∈L,x<w.heap.size):bu Tryz.prog 98 [str s] w λr w'=>aqZ L s r w'/\aj [] w w':=by have i:=aj.refl [] w;refine ly [.cell 2 61,.tmp 3] 17 Tryz.func98 rfl ah6 rfl rfl rfl ?_;refine zr<|dy bZ rfl rfl rfl λT K l _=>?_;have i:=i.grow;have i:=i.ext K;refine W ?_;refine aA (abq s (w.heap.size::L) T (by intro x q;rcases mC.1 q with rfl|q;omega;have:=O x q;omega)) ?_;rintro _ _ ⟨N,E⟩;have X:=E.size;refine bJ E i l λi l=>?_;obtain⟨t,_,rfl,j,D⟩:=N;obtain⟨m,_,n,rfl,M,_⟩:=db j;subst M;have F:=λh=>Gv D h;refine W ?_;refine dy bZ rfl rfl rfl λ_ z p _=>?_;have i:=i.grow;have i:=i.ext z;have l:=l.grow;have l:=l.ext z;have j:=j.grow;have j:=j.ext z;refine cN bZ rfl rfl rfl p rfl λ_ A p _=>?_;have i:=i.aB A sx;have l:=l.aB A sx;have j:=j.aB A sx;refine W ?_;have g:=(D0 w.heap.size ([str t.au,.slice m t.ag.length n]) 61);apply rk dh g 8 (rA 11 6++[100006,3]) (rA 11 6++[100006,3]) [[],[],[1],[2],[2,3],[2,4],[0],[5]] [.v _,.v _,.v _,.p λv _=>((bT s).isSome)=true->v=(.agg #[str t.au,.slice m t.ag.length n]),.p λv _=>((bT s).isSome)=true->v=(.bool<|ga false t),.v (.bool<|(bT s).isSome&&ga false t),.p λ_ V=>aK V w.heap.size ([str t.au,.slice m t.ag.length n]).toArray 61,.v (.bool<|(bT s).isSome&&ga false t)] de (by exact(bS<|bS (bS<|nX (nX<|bS (D1<|bS trivial)))));intro _ aC;refine ju g aC (λx u d=>?_) ?_;have p:=p.aB d.1 sx;refine WZ ?_;exact cA g;refine dd (λ_ _ _=>WZ<|cA g) ?_;refine dd (λ_ _ _=>WZ<|cA g) ?_;refine fJ ?_ ?_;intro x b u e d o a;have d2:b 2=(.bool<|(bT s).isSome):=o;replace d:=g.trans aC d;have p:=p.aB d.1 sx;rcases bE ((bT s).isSome) with c|c;rw[c] at d2;replace a:e=ba (aZ _ x _) [(13,b 2)]:=a;rw[d2] at a;subst a;refine W ?_;exact dn (g.refl _)<|show((bT s).isSome)=true->_=((.agg #[str t.au,.slice m t.ag.length n]):Value) from λ_=>rfl;rw[c] at d2;replace a:e=ba (aZ _ x _) [(13,b 2)]:=a;rw[d2] at a;subst a;refine W ?_;exact dn (g.refl _) (show((bT s).isSome)=true->_=(_:Value) from λC=>nomatch c.symm.trans C);refine fJ ?_ ?_;intro x b u e d o a;have B:(b 2=(.bool<|(bT s).isSome))/\(((bT s).isSome)=true->b 3=(.agg #[str t.au,.slice m t.ag.length n])):=o;obtain⟨d2,d3⟩:=B;replace d:=g.trans aC d;have j:=j.aB d.1 sx;rcases bE ((bT s).isSome) with c|c;rw[c] at d2;replace d3:=d3 c;replace a:e=ba (aZ _ x _) [(13,b 2),(14,b 3)]:=a;rw[d2,d3] at a;subst a;refine aA (SN t.size t (lR _) (by have:=(F c).2;omega) (F c).1 false _ _ u j) ?_;rintro _ U ⟨rfl,y⟩;have Y:=y.size;refine W ?_;exact dn (g.of y)<|show((bT s).isSome)=true->_=((.bool<|ga false t):Value) from λ_=>rfl;rw[c] at d2;replace a:e=ba (aZ _ x _) [(13,b 2),(14,b 3)]:=a;rw[d2] at a;subst a;refine W ?_;exact dn (g.refl _) (show((bT s).isSome)=true->_=(_:Value) from λC=>nomatch c.symm.trans C);refine fJ ?_ ?_;intro x b u e d o a;have B:(b 2=(.bool<|(bT s).isSome))/\(((bT s).isSome)=true->b 4=(.bool<|ga false t)):=o;obtain⟨d2,d4⟩:=B;replace d:=g.trans aC d;rcases bE ((bT s).isSome) with c|c;rw[c] at d2;replace d4:=d4 c;replace a:e=ba (aZ _ x _) [(13,b 2),(15,b 4)]:=a;rw[d2,d4] at a;subst a;refine W ?_;exact dn (g.refl _) (by first|rfl|(rw[c];rfl));rw[c] at d2;replace a:e=ba (aZ _ x _) [(13,b 2),(15,b 4)]:=a;rw[d2] at a;subst a;refine W ?_;exact dn (g.refl _) (by first|rfl|(rw[c];rfl));refine fJ ?_ ?_;intro x b u e d o a;have d0:b 0=(.agg #[str t.au,.slice m t.ag.length n]):=o;replace d:=g.trans aC d;obtain⟨_,Q,S⟩:=d.2.2 ⟨_,(by rfl),l⟩;replace a:e=ba (aZ _ x _) [(11,b 0)]:=a;rw[d0] at a;subst a;refine cN bZ rfl rfl rfl S (by rw[Q];rfl) λU y hb _=>W ?_;exact dn ⟨y,λ_=>hb,λ_=>⟨_,rfl,hb⟩⟩ hb;refine dd (λ_ _ _=>WZ<|cA g) ?_;exact trivial;intro x P H;intro I d3;intro J d4;intro R d6;replace d3:((bT s).isSome)=true->I=(.agg #[str t.au,.slice m t.ag.length n]):=d3;replace d4:((bT s).isSome)=true->J=(.bool<|ga false t):=d4;replace d6:aK P w.heap.size ([str t.au,.slice m t.ag.length n]).toArray 61:=d6;have i:=i.aB H.1 sx;have j:=j.aB H.1 sx;have l:=d6;change OW _ _ _ _ [] (ba (aZ _ x _)<|zZ 11 [_,_,_,I,J,_]++[(100006,R),(3,_)]) _;refine W ?_;exact⟨[_,_],⟨gB jh bZ rfl l rfl,rfl⟩,⟨t,_,by rw[Lt (f:=ga false) D];rfl,j.dY λx q=>by simp[q],D⟩,i⟩
def abr (L:List Nat) (b:Bk) (v:Value) (w:World):Prop:=∃c a,v= .tuple #[a,.bool (pM b)]/\px L w a c/\(pM b=true->c=dz b)
theorem SR {b:Bk} (h:pM b=false):abr L b (.tuple #[.agg #[str [],.slice none 0 0,.slice none 0 0],.bool false]) w:=
 ⟨⟨[],[],[]⟩,_,by rw[h],Qs l6 l6,by rw[h];intro h;cases h⟩
theorem aq1 (k:Bk) (hl:k.aM.length<1000000000) (fB:k.cQ.length<1000000000) (fj:k.code.length<1000000000) (v:Value) (Li L:List Nat) (w:World) (hv:pL Li w v k) (hL:∀x∈L,x<w.heap.size):
  bu Tryz.prog 63 [v] w λr w'=>abr L k r w'/\aj [] w w':=by
 obtain⟨a1,n1,c1,a2,T,c2,rfl,oL,lO,cz,di⟩:=yU hv;have c:=aj.refl [] w;refine ly [.cell 2 80,.tmp 3] 102 Tryz.func63 rfl ahC rfl rfl rfl ?_;refine zr<|eJ rfl λC aI e _=>?_;have c:=c.ext aI;refine dy j3 rfl rfl rfl λD V d _=>?_;have c:=c.grow;have c:=c.ext V;have e:=e.grow;have e:=e.ext V;refine W ?_;refine aA (abg _ om _) ?_;rintro _ _ ⟨rfl,rfl⟩;refine WZ ?_;apply oP 5 17 22 rfl oQ;intro _;refine WZ ?_;exact oQ;intro xx;refine WZ ?_;apply oP 5 23 28 rfl oQ;intro _;refine WZ ?_;exact oQ;intro xx;refine WZ ?_;apply oP 6 29 35 rfl oQ;intro _;refine W ?_;refine aA (Kz _ _ _ _) ?_;rintro _ _ ⟨rfl,rfl⟩;exact oQ;intro xx;refine aV<|zc rfl (λh4=>?_) λh4=>?_;have I:=aeZ oL lO h4;refine zr<|jF (PA _) rfl rfl<|cN j3 rfl rfl rfl d rfl λw3 N d gQ=>?_;have c:=c.aB N sx;refine W ?_;exact⟨[_,_],⟨gB Ch j3 rfl d rfl,rfl⟩,SR I,c⟩;obtain⟨r6,nI⟩:=ae0 oL lO h4;have uF:k.cQ.length<=40/\k.code.length<=80:=by simp only[aE,dE] at r6;exact⟨r6.1.2,r6.2.2⟩
 refine W ?_;refine jF (aif _ _) rfl rfl<|dy j3 rfl rfl rfl λw3 N f gQ=>?_;have c:=c.grow;have c:=c.ext N;have e:=e.grow;have e:=e.ext N;have d:=d.grow;have d:=d.ext N;refine cN j3 rfl rfl rfl f rfl λ_ aJ f _=>?_;have c:=c.aB aJ sx;have e:=e.aB aJ sx;have d:=d.aB aJ sx;refine W ?_;refine et (λq:Nat×Option Addr×Nat×Option Nat=>[(1,.pointer<|some ⟨w.heap.size,0,none⟩),(2,.pointer<|some ⟨C.heap.size,0,none⟩),(4,.pointer<|some ⟨D.heap.size,0,none⟩),(41,.slice a1 n1 c1),(42,.int .i64 (n1:Int)),(43,.int .i64 (q.1:Int))]) (λq w'=>aj [] w w'/\aK w' w.heap.size [str k.aM,.slice a1 n1 c1,.slice a2 T c2].toArray 39/\aK w' C.heap.size [str [],.slice none 0 0,.slice none 0 0].toArray 80/\aK w' D.heap.size [str k.aM,.slice q.2.1 ((k.cQ.take q.1).map tr).length q.2.2.1,.slice none 0 0].toArray 80/\Gr C.heap.size (C.heap.size::D.heap.size::L) w' 61 2 (.slice q.2.1 ((k.cQ.take q.1).map tr).length q.2.2.1) q.2.2.2 (du<|(k.cQ.take q.1).map tr)/\q.1<=k.cQ.length/\∀i,i<q.1->uY (bV k.cQ i)=true) (λq=>k.cQ.length-q.1) ((0,none,0,none)) (⟨rfl,rfl,rfl,rfl,rfl,rfl⟩) (⟨c,e,d,f,Gr.nil (by intro x s;simp at s;rcases s with rfl|rfl|s;omega;omega;have:=hL x s;omega) om,sm,by intro i Y;simp at Y⟩) λgg w5 _ R=>?_;obtain⟨i,a,cc,g⟩:=gg;dsimp only at R⊢;obtain⟨c,e,d,f,m,hk,J⟩:=R;have fi:=c.size;have Y2:=e.lt;have Y3:=d.lt;have N7:=f.lt;refine W ?_;refine zc rfl (λh5=>?_) λh5=>?_;have P:=jW (xs:=k.cQ) (i:=i) om;obtain⟨b,off,rfl,hc⟩:=pg (cz.ext c) P;refine W ?_;refine aA (aq0 (bV k.cQ i) (g.toList++(C.heap.size::D.heap.size::L)) w5 m.all) ?_;rintro _ w6 ⟨xk,bR⟩;have jM:=bR.size;refine kq bR c e d f m λc e d f m=>?_;obtain⟨t,tv,rfl,n,K⟩:=xk;obtain⟨pa,pn,pc,rfl,eD,aO⟩:=db n;subst eD;refine W ?_;refine dy bZ rfl rfl rfl λw7 z cS pV=>?_;have c:=c.grow;have c:=c.ext z;have e:=e.grow;have e:=e.ext z;have d:=d.grow;have d:=d.ext z;have f:=f.grow;have f:=f.ext z;have m:=m.alloc z pV;have n:=n.grow;have n:=n.ext z;refine cN bZ rfl rfl rfl cS rfl λw8 y cS ld=>?_;have c:=c.aB y sx;have e:=e.aB y sx;have d:=d.aB y sx;have f:=f.aB y sx;have m:=m.aB y sx;have n:=n.aB y sx;refine W ?_;refine zc rfl (λh6=>?_) λh6=>?_;have I:=ae1 (b:=k) (i:=i) om (by simpa using h6);refine zr<|jF (PA _) rfl rfl<|cN j3 rfl rfl rfl d rfl λw9 B d dC=>?_;have c:=c.aB B sx;refine W ?_;exact⟨[_,_],⟨gB Ch j3 rfl d rfl,rfl⟩,SR I,c⟩;have S:uY (bV k.cQ i)=true:=by simpa using h6
 refine W ?_;refine fM iH bZ rfl rfl λw9 B SS dC=>vB B c e d f m n λc e d f m n=>?_;refine IG iH bZ rfl rfl rfl rfl rfl rfl m SS n.OU (by rw[Ej _ hk];omega) λa3 KD g3 u E p=>?_;have abt:=p.size;have c:=aj.IF om m.low c p;have e:=e.aB p<|m.Lq om;have d:=d.aB p<|m.As sm;have f:=f.aB p<|m.As sm;rw[ae3 S K,Ei tr P] at E⊢;refine zf V2 rfl<|ia IW rfl rfl rfl f rfl λeM A f _=>?_;have c:=c.aB A sx;have e:=e.aB A sx;have d:=d.aB A sx;have E:=E.aB A sx;refine W ?_;exact⟨(i+1,a3,KD,g3),⟨rfl,rfl,rfl,rfl,rfl,rfl⟩,⟨c,e,d,f,E.dY λx s=>mK _ s,by dsimp only;omega,by intro j Z;rcases Nat.lt_or_ge j i with h|h;exact J j h;rw[show j=i by dsimp only at Z;omega];exact S⟩,by dsimp only;omega⟩;have Qr:∀j,j<k.cQ.length->uY (bV k.cQ j)=true:=λj Z=>J j om;rw[Gu tr om] at f m;have RV:=m.trees;have o:=aj.refl [C.heap.size,D.heap.size] w5;clear J m;refine W ?_;refine et (λq:Nat×Option Addr×Nat×Option Nat=>[(1,.pointer<|some ⟨w.heap.size,0,none⟩),(2,.pointer<|some ⟨C.heap.size,0,none⟩),(4,.pointer<|some ⟨D.heap.size,0,none⟩),(63,.slice a2 T c2),(64,.int .i64 (T:Int)),(65,.int .i64 (q.1:Int))]) (λq w'=>aj [] w w'/\aj [C.heap.size,D.heap.size] w5 w'/\aK w' w.heap.size [str k.aM,.slice a1 n1 c1,.slice a2 T c2].toArray 39/\aK w' C.heap.size [str [],.slice none 0 0,.slice none 0 0].toArray 80/\aK w' D.heap.size [str k.aM,.slice a (k.cQ.map tr).length cc,.slice q.2.1 ((k.code.take q.1).map tr).length q.2.2.1].toArray 80/\Gr w5.heap.size (C.heap.size::D.heap.size::L) w' 61 2 (.slice q.2.1 ((k.code.take q.1).map tr).length q.2.2.1) q.2.2.2 (du<|(k.code.take q.1).map tr)/\q.1<=k.code.length/\∀i,i<q.1->tP k.code i=true) (λq=>k.code.length-q.1) ((0,none,0,none)) (⟨rfl,rfl,rfl,rfl,rfl,rfl⟩) (⟨c,o,e,d,f,Gr.nil (by intro x s;simp at s;rcases s with rfl|rfl|s;omega;omega;have:=hL x s;omega) om,sm,by intro i Y;simp at Y⟩) λgg w6 _ R=>?_;obtain⟨j,_,_,g⟩:=gg;dsimp only at R⊢;obtain⟨c,o,e,d,f,m,V,J⟩:=R;have fi:=c.size;have aq2:=o.size;have Y2:=e.lt;have Y3:=d.lt;have N7:=f.lt;refine W ?_;refine zc rfl (λh7=>?_) λh7=>?_;have P:=jW (xs:=k.code) (i:=j) om;obtain⟨b,off,rfl,hc⟩:=pg (di.ext c) P;refine W ?_;refine aA (abq (bV k.code j) (g.toList++(C.heap.size::D.heap.size::L)) w6 m.all) ?_;rintro _ w7 ⟨vN,z⟩;have lU:=z.size;refine vB z c o e d f m λc o e d f m=>?_;obtain⟨t,tv,rfl,n,K⟩:=vN;obtain⟨pa,pn,pc,rfl,eD,aO⟩:=db n;subst eD;have O:=λh=>Gv K h;refine W ?_;refine dy bZ rfl rfl rfl λw8 y X ld=>?_;have c:=c.grow;have c:=c.ext y;have o:=o.grow;have o:=o.ext y;have e:=e.grow;have e:=e.ext y;have d:=d.grow;have d:=d.ext y;have f:=f.grow;have f:=f.ext y;have m:=m.alloc y ld;have n:=n.grow;have n:=n.ext y;refine cN bZ rfl rfl rfl X rfl λw9 B X dC=>?_;have c:=c.aB B sx;have o:=o.aB B sx;have e:=e.aB B sx;have d:=d.aB B sx;have f:=f.aB B sx;have m:=m.aB B sx;have n:=n.aB B sx;refine W ?_;refine Ek [75,76,77,78,79,80,81,82,83,84,85,86,87,88,89,90,91,92] [(92,.bool ((!(bT<|bV k.code j).isSome||!nk t)||(IK t !=decide ((j:Int)=(T:Int)-1))))] ?_ ?_;rcases bE (!(bT (bV k.code j)).isSome) with ig|ig;apply j1 dh 18 (rA 75 18) (rA 75 18) [[],[0],[1],[2],[2,3],[2,4],[2,5],[6],[7],[7,8],[7],[7],[7,11],[7,12],[7,13],[7,10,14],[7,9,15],[7,16]] [It.v _,It.v _,It.v (.bool true),It.v _,It.v _,It.v _,It.v _,It.v (.bool true),It.v _,It.v _,It.v _,It.v _,It.v _,It.v _,It.v _,It.v _,It.v _,It.v _] de rfl;intro wd aC;refine VA ?_;refine vc (λx u p=>?_) ?_;refine WZ ?_;exact pv (by exact congrArg Value.bool ig);refine vk aC (λx u p=>?_) ?_;exact cT pv;refine vk aC (λx u p=>?_) ?_;exact cT pv;refine vc (λx u p=>?_) ?_;exact cT pv;refine vc (λ_ _ _=>WZ pv) ?_;refine vc (λx u p=>?_) ?_;refine WZ ?_;exact pv (by rfl);exact VZ;intro x jO H;change OW _ _ _ _ [] (ba (aZ _ x _) (zZ 75 [_,_,_,_,_,_,_,_,_,_,_,_,_,_,_,_,_,_])) _;refine W ?_;exact kE H;rcases bE (!(bT (bV k.code j)).isSome||!nk t) with kj|kj;apply j1 dh 18 (rA 75 18) (rA 75 18) [[],[0],[1],[2],[2,3],[2,4],[2,5],[6],[7],[7,8],[7],[7],[7,11],[7,12],[7,13],[7,10,14],[7,9,15],[7,16]] [It.v _,It.v _,It.v (.bool false),It.v _,It.v _,It.v _,It.v _,It.v (.bool true),It.v _,It.v _,It.v _,It.v _,It.v _,It.v _,It.v _,It.v _,It.v _,It.v _] de rfl;intro wd aC;refine VA ?_;refine vc (λx u p=>?_) ?_;refine WZ ?_;exact pv (by exact congrArg Value.bool ig);refine VA ?_;refine vk aC (λx u p=>?_) ?_;have n:=n.ext p;have F:=ig;refine aA (abo t (O<|by simpa using F).2 (O<|by simpa using F).1 _ _ u n) ?_;rintro _ eM ⟨rfl,A⟩;have sL:=A.size;exact pk A;refine VA ?_;refine vc (λx u p=>?_) ?_;refine WZ ?_;exact pv (by first|exact congrArg Value.bool kj|(rw[ig] at kj;exact congrArg Value.bool kj));exact VZ;intro x jO H;change OW _ _ _ _ [] (ba (aZ _ x _) (zZ 75 [_,_,_,_,_,_,_,_,_,_,_,_,_,_,_,_,_,_])) _;refine W ?_;exact kE H;apply j1 dh 18 (rA 75 18) (rA 75 18) [[],[0],[1],[2],[2,3],[2,4],[2,5],[6],[7],[7,8],[7],[7],[7,11],[7,12],[7,13],[7,10,14],[7,9,15],[7,16]] [It.v _,It.v _,It.v (.bool false),It.v _,It.v _,It.v _,It.v _,It.v (.bool false),It.v _,It.v _,It.v _,It.v _,It.v _,It.v _,It.v _,It.v _,It.v _,It.v _] de rfl;intro wd aC;refine VA ?_;refine vc (λx u p=>?_) ?_;refine WZ ?_;exact pv (by exact congrArg Value.bool ig);refine VA ?_;refine vk aC (λx u p=>?_) ?_;have n:=n.ext p;have F:=ig;refine aA (abo t (O<|by simpa using F).2 (O<|by simpa using F).1 _ _ u n) ?_;rintro _ eM ⟨rfl,A⟩;have sL:=A.size;exact pk A;refine VA ?_;refine vc (λx u p=>?_) ?_;refine WZ ?_;exact pv (by first|exact congrArg Value.bool kj|(rw[ig] at kj;exact congrArg Value.bool kj));refine VA ?_;refine vk aC (λx u p=>?_) ?_;have n:=n.ext p;have F:=kj;refine aA (aqS t (O (by rw[Bool.or_eq_false_iff] at F;simpa using F.1)).1 _ _ u n) ?_;rintro _ eM ⟨rfl,A⟩;have sL:=A.size;exact pk A;exact VZ;intro x jO H;change OW _ _ _ _ [] (ba (aZ _ x _) (zZ 75 [_,_,_,_,_,_,_,_,_,_,_,_,_,_,_,_,_,_])) _;refine W ?_;exact kE H;intro x jO H;refine EE H c o e d f m n X λc o e d f m n X=>?_;refine zc rfl (λQ=>?_) λQ=>?_;rw[Vy lO om K] at Q;have I:=ae2 (b:=k) (i:=j) om (by simpa using Q);refine zr<|jF (PA _) rfl rfl<|cN j3 rfl rfl rfl d rfl λgX eF d aq3=>?_;have c:=c.aB eF sx;refine W ?_;exact⟨[_,_],⟨gB Ch j3 rfl d rfl,rfl⟩,SR I,c⟩;rw[Vy lO om K] at Q;have S:tP k.code j=true:=by simpa using Q
 refine W ?_;refine fM iH bZ rfl rfl λgX eF Kk aq3=>GP eF c o e d f m n λc o e d f m n=>?_;refine IG iH bZ rfl rfl rfl rfl rfl rfl m Kk n.OU (by rw[Ej _ V];omega) λa3 KD g3 _ E M=>?_;have abt:=M.size;have c:=aj.IF om m.low c M;have o:=m.since o M;have e:=e.aB M<|m.Lq om;have d:=d.aB M<|m.As sm;have f:=f.aB M<|m.As sm;rw[ae4 S K,Ei tr P] at E⊢;refine zf V3 rfl<|ia IW rfl rfl rfl f rfl λ_ U f _=>?_;have c:=c.aB U sx;have o:=o.aB U sx;have e:=e.aB U sx;have d:=d.aB U sx;have E:=E.aB U sx;refine W ?_;exact⟨(j+1,a3,KD,g3),⟨rfl,rfl,rfl,rfl,rfl,rfl⟩,⟨c,o,e,d,f,E.dY λx s=>mK _ s,by dsimp only;omega,by intro i2 Z;rcases Nat.lt_or_ge i2 j with h|h;exact J i2 h;rw[show i2=j by dsimp only at Z;omega];exact S⟩,by dsimp only;omega⟩;have I:=Vd r6 Qr λi Y=>J i om;have hqI:pM k=true:=by unfold pM;rw[I,nI];rfl
 rw[Gu tr om] at f m;refine W ?_;refine cN j3 rfl rfl rfl d rfl λw7 z d pV=>?_;have c:=c.aB z sx;have o:=o.aB z sx;have m:=m.aB z sx;refine W ?_;exact⟨[_,_],⟨gB Ch j3 rfl d rfl,rfl⟩,⟨dz k,_,by rw[hqI];rfl,Qs (l:=k.aM) ((RV.aB o sm).dY λx s=>by simp[s])<|m.trees.dY λx s=>by simp[s],λ_=>rfl⟩,c⟩
theorem aq5 (k:cw) (l:ak) (c:Nat) (v:Value) (L:List Nat) (w:World) (e:px L w v k) (b:aK w c [str l].toArray 9):
  bu Tryz.prog 71 [v,.pointer (some ⟨c,0,none⟩)] w λr w'=>r= .bool (decide<|k.aM=l)/\aj [] w w':=by
 obtain⟨_,c1,_,c2,rfl,_,_⟩:=Xq e;have a:=aj.refl [] w;refine cg [.tmp 3] 8 Tryz.func71 rfl ahJ rfl rfl ?_;refine zr<|eJ rfl λ_ d _ _=>bJ d a b λa b=>?_;refine W ?_;exact⟨_,rfl,rfl,a⟩
theorem aq6 (ps:List cw) (t:ps.length<1000000000) (g:cw->Bool) (f:FuncId) (d:List Value) (v:Value) (L:List Nat) (w:World) (l:jf L w v ps) 
  (A:∀i,i<ps.length->∀(u:Value) (w':World),aj [] w w'->px L w' u (dv ps i)->bu Tryz.prog f (u::d) w' λr p=>r= .bool (g<|dv ps i)/\aj [] w' p):
  bu Tryz.prog 70 [v,.func (.func f) #[] d.toArray] w λr w'=>r= .int .i64 (IM ps g)/\aj [] w w':=by
 obtain⟨a,c,rfl⟩:=ua l;have e:=aj.refl [] w;refine cg [.tmp 4] 19 Tryz.func70 rfl ahI rfl rfl ?_;refine W ?_;refine et (λk:Nat=>[(0,.slice a ps.length c),(1,.func (.func f) #[] d.toArray),(7,.int .i64 (ps.length:Int)),(8,.int .i64 (k:Int))]) (λk w'=>aj [] w w'/\k<=ps.length/\∀i,i<k->g (dv ps i)=false) (λk=>ps.length-k) (0) (⟨rfl,rfl,rfl,rfl⟩) (⟨e,om,by intro i s;omega⟩) λj E _ z=>?_;obtain⟨e,hk,m⟩:=z;have l:=l.ext e;refine W ?_;refine zc rfl (λy=>?_) λy=>?_;have B:=pN (ps:=ps) (i:=j) om;obtain⟨b,off,_,c1,_,c2,rfl,_,C,D⟩:=yj l B;refine W ?_;refine IE rfl rfl rfl (A j om _ E e<|Qs C D) ?_;rintro _ _ ⟨rfl,q⟩;have F:=q.size;have e:=e.ext q;refine aV<|zc rfl (λn=>?_) λn=>?_;have o:=ae5 om m n;refine W ?_;exact⟨_,rfl,by rw[o];rfl,e⟩;refine W ?_;exact⟨j+1,⟨rfl,rfl,rfl,rfl⟩,⟨e,om,by intro i s;rcases Nat.lt_or_ge i j with h|h;exact m i h;rw[show i=j by omega];exact n⟩,om⟩;have o:=ae6 λi s=>m i om;refine W ?_;exact⟨_,rfl,by rw[o];rfl,e⟩
theorem N8 (d:List cw) (c:d.length<1000000000) (l:ak) (v:Value) (L:List Nat) (w:World) (e:jf L w v d):
  bu Tryz.prog 37 [v,str l] w λr w'=>r= .int .i64 (kM d l)/\aj [] w w':=by
 have a:=aj.refl [] w;refine cg [.tmp 4] 8 Tryz.func37 rfl ahf rfl rfl ?_;refine zr<|OC rfl rfl rfl λn g j _=>bJ g a e λa e=>?_;refine W ?_;refine OS (vs:=[.pointer (some ⟨w.heap.size,0,none⟩)]) rfl rfl rfl<|aA (aq6 d c (λb=>decide<|b.aM=l) 71 [.pointer (some ⟨w.heap.size,0,none⟩)] _ L n e λi _ u w' k m=>aq5 (dv d i) l _ _ L _ m<|j.ext k) ?_;rintro _ _ ⟨rfl,f⟩;have o:=f.size;have a:=a.ext f;refine W ?_;exact⟨_,rfl,rfl,a⟩
def aq7 (L:List Nat) (bs:List Bk) (v:Value) (w:World):Prop:=∃ps pv,v= .tuple #[pv,.bool (iU bs)]/\jf L w pv ps/\(iU bs=true->ps=bs.map dz)
theorem F6 (bs:List Bk) (hb:mE bs) (v:Value) (Li L:List Nat) (w:World) (V:kh Li w v bs) (hL:∀x∈L,x<w.heap.size):
  bu Tryz.prog 31 [v] w λr w'=>aq7 L bs r w'/\aj [] w w':=by
 obtain⟨a,n,c,rfl,_⟩:=uS V;have d:=aj.refl [] w;have jo:=hb.1;refine cg [.tmp 2,.tmp 3] 52 Tryz.func31 rfl aha rfl rfl ?_;refine W ?_;refine aA (Kz _ _ _ _) ?_;rintro _ _ ⟨rfl,rfl⟩;refine kz rfl rfl rfl<|aV<|zc rfl (λB=>?_) λB=>?_;have s:iU bs=false:=ae9 (λh=>by rw[dT (p:=(1:Int)<=(n:Int)) om,dT (p:=(n:Int)<=40) om] at B;exact absurd B de);refine W ?_;exact⟨_,rfl,⟨[],_,by rw[s];rfl,Xr,by rw[s];intro h;cases h⟩,d⟩;have t:1<=bs.length/\bs.length<=40:=by have:=B;simp only[aE,dE] at this;omega
 refine W ?_;refine et (λq:Nat×Option Addr×Nat×Option Nat=>[(0,.slice a n c),(4,.slice q.2.1 ((bs.take q.1).map dz).length q.2.2.1),(13,.slice a n c),(14,.int .i64 (n:Int)),(15,.int .i64 (q.1:Int))]) (λq w'=>aj [] w w'/\Gr w.heap.size L w' 80 3 (.slice q.2.1 ((bs.take q.1).map dz).length q.2.2.1) q.2.2.2 (((bs.take q.1).map dz).map cw.enc)/\q.1<=bs.length/\∀i,i<q.1->pM (cm bs i)=true/\qw bs (cm bs i).aM=i) (λq=>bs.length-q.1) ((0,none,0,none)) (⟨rfl,rfl,rfl,rfl,rfl⟩) (⟨d,Gr.nil hL om,sm,by intro i hi;simp at hi⟩) λgg w1 _ S=>?_;obtain⟨i,_,cc,g⟩:=gg;dsimp only at S⊢;obtain⟨d,e,hk,O⟩:=S;have fi:=d.size;refine W ?_;refine zc rfl (λh2=>?_) λh2=>?_;have Q:=l8 (bs:=bs) (i:=i) om;obtain⟨b,off,_,rn,_,_,_,_,rfl,F,_,_,cz,di⟩:=xT V Q;have J:=hb.2 i om;refine WL ?_;refine zL Ay fR rfl (F.ext d) rfl<|dy fR rfl rfl rfl λy m P dN=>?_;have d:=d.grow;have d:=d.ext m;have e:=e.alloc m dN;refine cN fR rfl rfl rfl P rfl λw3 K P _=>?_;have d:=d.aB K sx;have e:=e.aB K sx;refine W ?_;refine aA (aq1 (cm bs i) J.1 J.2.1 J.2.2 _ _ (g.toList++(w1.heap.size::L)) w3 (pL.ext (tO cz di) d) e.all) ?_;rintro _ _ ⟨kG,M⟩;have fy:=M.size;refine bJ M d e λd e=>?_;obtain⟨_,_,rfl,f,U⟩:=kG;obtain⟨_,_,_,_,rfl,_,_⟩:=Xq f;refine W ?_;refine dy j3 rfl rfl rfl λ_ C A iv=>?_;have d:=d.grow;have d:=d.ext C;have e:=e.alloc C iv;have f:=f.grow;have f:=f.ext C;refine cN j3 rfl rfl rfl A rfl λY E A _=>?_;have d:=d.aB E sx;have e:=e.aB E sx;have f:=f.aB E sx;refine W ?_;apply oO 6 26 32 (aj [] Y) rfl oQ;intro h3;have z:pM (cm bs i)=true:=by simpa using h3
 have H:=U z;subst H;refine W ?_;refine aA (N8 ((bs.take i).map dz) (by rw[Ej _ hk];omega) (cm bs i).aM _ L Y<|e.prog.dY λx l=>by simp[l]) ?_;rintro _ _ ⟨rfl,cF⟩;have lU:=cF.size;exact oQ;intro _ _ cL;refine gK cL d e f A λd e f A=>?_;refine aV<|zc rfl (λo=>?_) λo=>?_;have s:iU bs=false:=ae7 (i:=i) om (by simp only[oE,Bool.not_eq_true'] at o;rcases o with h|h;exact .inl h;rw[Vz om] at h;exact .inr (of_decide_eq_true h));refine W ?_;exact⟨_,rfl,⟨[],_,by rw[s];rfl,Xr,by rw[s];intro h;cases h⟩,d⟩;have z:pM (cm bs i)=true/\qw bs (cm bs i).aM=i:=by simp only[Bool.or_eq_false_iff,Bool.not_eq_false'] at o;rw[Vz om] at o;exact⟨o.1,Classical.byContradiction<|of_decide_eq_false o.2⟩
 refine W ?_;refine fM x5 j3 rfl rfl λ_ aD D _=>cV aD d e f λd e f=>?_;refine ajZ x5 j3 rfl rfl rfl rfl rfl rfl e D (f.dY (λx l=>by simp at l⊢;rcases l with h|h|h<;>simp[h])) (by rw[Ej _ hk];omega) λa3 Z g3 _ R N=>?_;have abt:=N.size;have d:=e.since d N;rw[U z.1,Ei dz Q] at R⊢;refine W ?_;exact⟨(i+1,a3,Z,g3),⟨rfl,rfl,rfl,rfl,rfl⟩,⟨d,R.dY λx l=>by simp[l],by dsimp only;omega,by intro I T;rcases Nat.lt_or_ge I i with h|h;exact O I h;rw[show I=i by dsimp only at T;omega];exact z⟩,by dsimp only;omega⟩;have s:=ae8 λj T=>O j om;rw[Gu dz om] at e⊢;obtain⟨b,off,_,_,_,_,rfl,F,cC,cI⟩:=yj e.prog<|pN (ps:=bs.map dz) (i:=0) so;have e0:dv (bs.map dz) 0=dz (cm bs 0):=by simp[gE (show 0<bs.length by omega)]
 rw[e0] at F cC cI;refine W ?_;refine Ek [38,39,40,41,42,43,44,45,46,47,48,49,50,51,2,3] [(2,.slice (some ⟨b,off,none⟩) (bs.map dz).length cc),(3,.bool<|decide ((cm bs 0).aM=[109,97,105,110])&&decide (((dz<|cm bs 0).regs.length:Int)=0))] ?_ ?_;rcases bE (decide ((cm bs 0).aM=[109,97,105,110])) with ig|ig;apply j1 dh 16 (rA 38 14++[2,3]) (rA 38 14++[2,3]) [[],[],[1],[2],[3],[4],[5],[6],[6,7],[6,8],[6,9],[6,10],[6,11],[6,12],[0],[13]] [It.v _,It.v _,It.v _,It.v _,It.v _,It.v _,It.v<|.bool true,It.v _,It.v _,It.v _,It.v _,It.v _,It.v _,It.v _,It.v _,It.v _] de rfl;intro wd aC;refine VA ?_;refine vk aC (λx y m=>?_) ?_;refine zi (i:=0) x5 j3 rfl rfl so ?_;exact pv;refine VA ?_;refine vc (λx y m=>?_) ?_;refine zm ?_;exact pv (by exact congrArg Value.bool ig);refine VA ?_;refine vk aC (λx y m=>?_) ?_;refine zi (i:=0) x5 j3 rfl rfl so ?_;exact pv;exact VZ;intro x X u;change OW _ _ _ _ [] (ba (aZ _ x _) (zZ 38 [_,_,_,_,_,_,_,_,_,_,_,_,_,_]++[(2,_),(3,_)])) _;refine W ?_;exact kE u;apply j1 dh 16 (rA 38 14++[2,3]) (rA 38 14++[2,3]) [[],[],[1],[2],[3],[4],[5],[6],[6,7],[6,8],[6,9],[6,10],[6,11],[6,12],[0],[13]] [It.v _,It.v _,It.v _,It.v _,It.v _,It.v _,It.v (.bool false),It.v _,It.v _,It.v _,It.v _,It.v _,It.v _,It.v _,It.v _,It.v _] de rfl;intro wd aC;refine VA ?_;refine vk aC (λx y m=>?_) ?_;refine zi (i:=0) x5 j3 rfl rfl so ?_;exact pv;refine VA ?_;refine vc (λx y m=>?_) ?_;refine zm ?_;exact pv (by exact congrArg Value.bool ig);exact VZ;intro x X u;change OW _ _ _ _ [] (ba (aZ _ x _) (zZ 38 [_,_,_,_,_,_,_,_,_,_,_,_,_,_]++[(2,_),(3,_)])) _;refine W ?_;exact kE u;intro x X u;refine bJ u d e λd e=>?_;refine kW<|⟨_,rfl,⟨bs.map dz,_,?_,e.prog.dY λx l=>by simp[l],λ_=>rfl⟩,d⟩;rw[s,dT t.1,dT t.2,show decide (((dz<|cm bs 0).regs.length:Int)=0)=decide ((cm bs 0).cQ.length=0) from decide_eq_decide.2 (by have:(dz<|cm bs 0).regs.length=(cm bs 0).cQ.length:=List.length_map _;omega)];rfl
theorem ara (bs:List Bk) (hb:mE bs) (v:Value) (b:List Nat) (w:World) (e:kh b w v bs):
  bu Tryz.prog 48 [v] w λr w'=>r= .bool (iU bs)/\aj [] w w':=by
 have a:=aj.refl [] w;refine cg [.tmp 2] 11 Tryz.func48 rfl ahm rfl rfl ?_;refine W ?_;refine aA (F6 bs hb _ b [] w e sm) ?_;rintro _ _ ⟨d,c⟩;have f:=c.size;have a:=a.ext c;obtain⟨ps,pv,rfl,_,_⟩:=d;refine W ?_;exact⟨_,rfl,rfl,a⟩
def rN (t:aq):Option ak:=if bC t=[108,97,98]\/bC t=[122,101,114,111] then some (nth t.ag 2).au else none
def addN (out:List ak) (t:aq):List ak:=match rN t with
 |some s=>if s∈out then out else out++[s]
 |none=>out
theorem arb (out:List ak) (t:aq):(addN out t).length<=out.length+1:=by
 unfold addN;split
 .split<;>simp
 .omega
theorem SU:∀(a:List aq) (out:List ak),(a.foldl addN out).length<=out.length+a.length
 |[],out=>by simp
 |t::a,out=>by have b:=SU a<|addN out t;have c:=arb out t;simp only[List.foldl_cons,lC];omega
theorem abv {b c:Type} (f:c->b->c) (a:c) {l:List b} {x:b} (h:l[k]?=some x):(l.take<|k+1).foldl f a=f ((l.take k).foldl f a) x:=by rw[List.take_add_one,h,List.foldl_append];rfl
def F7 (out:List ak) (b:cw):List ak:=b.code.foldl addN out
def kK (a:List cw):List ak:=a.foldl F7 []
def kx (a:List cw):Nat:=(a.map λb=>b.code.length).sum
theorem N9 (hk:k<ps.length):kx (ps.take<|k+1)=kx (ps.take k)+(dv ps k).code.length:=by unfold kx;rw[List.take_add_one,pN hk,List.map_append,List.sum_append];simp
theorem SV:∀ps:List cw,(kK ps).length<=kx ps:=by
 have a:∀(ps:List cw) (out:List ak),(ps.foldl F7 out).length<=out.length+kx ps:=by
  intro ps;induction ps with
  |nil=>intro out;simp[kx]
  |cons b ps d=>intro out;have c:=d<|F7 out b;have e:=SU b.code out;simp only[List.foldl_cons,kx,List.map_cons,List.sum_cons] at c⊢;unfold F7 at c⊢;omega
 intro ps;have:=a ps [];unfold kK;simpa using this
theorem Oa (a:List cw) (k:Nat):kx (a.take k)<=kx a:=by
 have h:kx a=kx (a.take k)+kx (a.drop k):=by unfold kx;rw[<-List.sum_append,<-List.map_append,List.take_append_drop]
 omega
theorem abw (bs:List Bk):kx (bs.map dz)=lines bs:=by unfold kx lines;rw[List.map_map];congr 1;exact List.map_congr_left λb _=>List.length_map _
def DN (a:List Bool):Nat:=(a.filter λb=>!b).length
theorem abx:∀{ms:List Bool} {k:Nat},ms[k]?=some false->DN (ms.set k true)+1=DN ms
 |b::ms,0,h=>by
  have hb:b=false:=by simpa using h
  subst hb;simp[DN]
 |b::ms,k+1,h=>by have a:=abx (ms:=ms) (k:=k) (by simpa using h);unfold DN at a⊢;cases b<;>simp[List.filter_cons] at a⊢<;>omega
theorem arc (n:Nat):DN (List.replicate n false)=n:=by simp[DN,List.filter_replicate]
theorem aby (a:List cw) (l:ak): -1<=kM a l/\kM a l<a.length\/a.length=0/\kM a l= -1:=by
 unfold kM;cases h:a.findIdx? (λb=>decide<|b.aM=l) with
 |none=>
  rcases Nat.eq_zero_or_pos a.length with c|c
  .exact .inr ⟨c,rfl⟩
  .exact .inl ⟨by show(-1:Int)<= -1;omega,by show(-1:Int)<_;omega⟩
 |some i=>have:=(List.findIdx?_eq_some_iff_getElem.1 h).1;exact .inl ⟨by show(-1:Int)<=(i:Int);omega,by show(i:Int)<_;omega⟩
theorem ard {t:aq} (h:nk t=true) (c:bC t=[108,97,98]\/bC t=[122,101,114,111]):2<t.ag.length:=by obtain⟨a,b,_⟩:=IY h;rcases c with e|e<;>rw[e] at a b<;>simp[eA] at a b⊢<;>omega
def o8 (p:cw):Bk:=⟨p.aM,p.regs.map aq.text,p.code.map aq.text⟩
def o9 (a:List Bool) (b:List cw):Nat->List Bk
 |0=>[]
 |k+1=>o9 a b k++if a.getD k false=true then[o8 (dv b k)] else[]
theorem abz (a:List Bool) (b:List cw):∀k,(o9 a b k).length<=k
 |0=>by simp[o9]
 |k+1=>by have:=abz a b k;rw[o9,lA];split<;>simp<;>omega
def qi (bs:List Bk):Int:=if iU bs then(lines bs:Int) else -1
theorem arf (t:aq) (m:WF t) (A:(bC t=[108,97,98]\/bC t=[122,101,114,111])->2<t.ag.length) (v:Value) (L:List Nat) (w:World) (p:bg L w v t):
  bu Tryz.prog 64 [v] w λr w'=>r= .tuple #[str<|(rN t).getD [],.bool (rN t).isSome]/\aj [] w w':=by
 have e:=p;obtain⟨a,n,c,rfl,C,d⟩:=db p;subst C;have b:=aj.refl [] w;refine cg [.tmp 2,.tmp 3] 17 Tryz.func64 rfl ahD rfl rfl ?_;refine zr<|eJ rfl λB u f _=>cV u b e d λb e d=>?_;refine W ?_;refine aA (vY t m _ _ B e) ?_;rintro _ q ⟨rfl,l⟩;have D:=l.size;refine gK l b e d f λb e d f=>?_;refine WZ ?_;apply oO 4 7 11 (aj [] q) rfl oQ;intro _;refine W ?_;refine aA (vY t m _ _ q e) ?_;rintro _ _ ⟨rfl,s⟩;have E:=s.size;exact oQ;intro _ _ y;refine cV y b d f λb d f=>?_;refine aV<|zc rfl (λj=>?_) λj=>?_;have g:bC t=[108,97,98]\/bC t=[122,101,114,111]:=by simpa using j
 have o:=A g;have z:=iB d<|eK (ps:=t.ag) (i:=2) o;obtain⟨_,_,_,_,_,rfl,_,_,_⟩:=z;refine WI ?_;refine zi (i:=2) iH bZ rfl rfl o<|W ?_;exact⟨_,rfl,by unfold rN;rw[iP g];rfl,b⟩;have g:¬(bC t=[108,97,98]\/bC t=[122,101,114,111]):=by simpa using j
 refine W ?_;exact⟨_,rfl,by unfold rN;rw[iN g];rfl,b⟩
theorem arh (xs:List ak) (C:xs.length<1000000000) (s:ak) (v:Value) (L:List Nat) (w:World) (o:bo L w v xs):
  bu Tryz.prog 101 [v,str s] w λr w'=>(∃z:Int,r= .int .i64 z/\decide (z≥0)=decide (s∈xs))/\w=w':=by
 obtain⟨a,n,c,rfl,A⟩:=er o;subst A;refine cg [.tmp 4] 19 Tryz.func101 rfl afp rfl rfl ?_;refine W ?_;refine et (λk:Nat=>[(0,.slice a xs.length c),(1,str s),(7,.int .i64 (xs.length:Int)),(8,.int .i64 (k:Int))]) (λk w'=>w'=w/\k<=xs.length/\∀i,i<k->bV xs i≠s) (λk=>xs.length-k) (0) (⟨rfl,rfl,rfl,rfl⟩) (⟨rfl,om,by intro i j;omega⟩) λd _ _ u=>?_;obtain⟨rfl,hk,l⟩:=u;refine W ?_;refine zc rfl (λt=>?_) λt=>?_;have m:=jW (xs:=xs) (i:=d) om;have q:=pg o m;obtain⟨b,off,rfl,_⟩:=q;refine W ?_;refine zc rfl (λf=>?_) λf=>?_;have g:s=bV xs d:=by simpa using f
 refine W ?_;exact⟨_,rfl,⟨(d:Int),rfl,by rw[dT (p:=s∈xs) (by rw[g];exact List.mem_of_getElem? m),dT om]⟩,rfl⟩;have g:¬s=bV xs d:=by simpa using f
 refine W ?_;exact⟨d+1,⟨rfl,rfl,rfl,rfl⟩,⟨rfl,om,by intro i j;rcases Nat.lt_or_ge i d with h|h;exact l i h;rw[show i=d by omega];exact λe=>g e.symm⟩,om⟩;have B:¬s∈xs:=λy=>by obtain⟨i,j,e⟩:=List.getElem_of_mem y;exact l i om (by rw[<-e];simp[bV,gE j])
 refine W ?_;exact⟨_,rfl,⟨-1,rfl,by rw[dF B];decide⟩,rfl⟩
theorem ari (a:List ak) (b:a.length<1000000000) (s:ak) (v:Value) (L:List Nat) (w:World) (c:bo L w v a):
  bu Tryz.prog 65 [v,str s] w λr w'=>r= .bool (decide<|s∈a)/\w=w':=by
 refine cg [.tmp 4] 9 Tryz.func65 rfl ahE rfl rfl ?_;refine W ?_;refine aA (arh a b s _ L _ c) ?_;rintro _ _ ⟨⟨z,rfl,d⟩,rfl⟩;refine W ?_;exact⟨_,rfl,congrArg Value.bool d,rfl⟩
def qj (a:List cw) (i j:Nat):List ak:=((dv a i).code.take j).foldl addN (kK<|a.take i)
theorem arj {j:Nat} (b:i<ps.length) (f:j<=(dv ps i).code.length):(qj ps i j).length<=kx ps:=by have a:=SU ((dv ps i).code.take j) (kK<|ps.take i);have c:=SV<|ps.take i;have d:=N9 b;have e:=Oa ps<|i+1;rw[List.length_take] at a;unfold qj;omega
theorem ark (a:i<ps.length):qj ps i (dv ps i).code.length=kK (ps.take<|i+1):=by unfold qj;rw[List.take_length];unfold kK;rw[abv F7 [] (pN a)];rfl
theorem arl {j:Nat} (a:j<(dv ps i).code.length):qj ps i (j+1)=addN (qj ps i j) (nth (dv ps i).code j):=by unfold qj;exact abv addN _<|eK a
def Ob (a:List cw):Prop:=∀b∈a,∀t∈b.code,WF t/\((bC t=[108,97,98]\/bC t=[122,101,114,111])->2<t.ag.length)
theorem abA (ps:List cw) (aO:ps.length<=1000) (BI:kx ps<=1000000) (bj:Ob ps) (v:Value) (L:List Nat) (w:World) (Q:jf L w v ps) (hL:∀x∈L,x<w.heap.size):
  bu Tryz.prog 32 [v] w λr w'=>(∃g,Gr w.heap.size L w' 9 1 r g (ic (kK ps)))/\aj [] w w':=by
 obtain⟨a,c,rfl⟩:=ua Q;have d:=aj.refl [] w;refine cg [.tmp 2] 42 Tryz.func32 rfl ahb rfl rfl ?_;refine W ?_;refine et (λq:Nat×Option Addr×Nat×Option Nat=>[(3,.slice q.2.1 (kK<|ps.take q.1).length q.2.2.1),(10,.slice a ps.length c),(11,.int .i64 (ps.length:Int)),(12,.int .i64 (q.1:Int))]) (λq w'=>aj [] w w'/\Gr w.heap.size L w' 9 1 (.slice q.2.1 (kK<|ps.take q.1).length q.2.2.1) q.2.2.2 (ic (kK<|ps.take q.1))/\q.1<=ps.length) (λq=>ps.length-q.1) ((0,none,0,none)) (⟨rfl,rfl,rfl,rfl⟩) (⟨d,Gr.nil hL<|lR _,sm⟩) λA _ _ l=>?_;obtain⟨i,X,cc,g⟩:=A;dsimp only at l⊢;obtain⟨d,e,hk⟩:=l;have fi:=d.size;refine W ?_;refine zc rfl (λh1=>?_) λh1=>?_;have m:i<ps.length:=by omega
 have P:=pN (ps:=ps) m;have z:=yj Q P;obtain⟨b,off,_,_,r2,S,rfl,hc,_,lS⟩:=z;have T:=List.mem_of_getElem? P;have mZ:(dv ps i).code.length<=1000000:=by have h3:=N9 m;have u:=Oa ps<|i+1;omega
 refine WI ?_;refine zi x5 j3 rfl rfl m<|zL Ch j3 rfl (hc.ext d) rfl<|dy j3 rfl rfl rfl λ_ F I dN=>?_;have d:=d.grow;have d:=d.ext F;have e:=e.alloc F dN;refine cN j3 rfl rfl rfl I rfl λ_ D I _=>?_;have d:=d.aB D sx;have e:=e.aB D sx;refine W ?_;refine et (λq:Nat×Option Addr×Nat×Option Nat=>[(3,.slice q.2.1 (qj ps i q.1).length q.2.2.1),(10,.slice (some ⟨b,off,none⟩) ps.length c),(11,.int .i64 (ps.length:Int)),(12,.int .i64 (i:Int)),(17,.slice r2 (dv ps i).code.length S),(18,.int .i64 ((dv ps i).code.length:Int)),(19,.int .i64 (q.1:Int))]) (λq w'=>aj [] w w'/\Gr w.heap.size L w' 9 1 (.slice q.2.1 (qj ps i q.1).length q.2.2.1) q.2.2.2 (ic<|qj ps i q.1)/\q.1<=(dv ps i).code.length) (λq=>(dv ps i).code.length-q.1) ((0,X,cc,g)) (⟨rfl,rfl,rfl,rfl,rfl,rfl,rfl⟩) (⟨d,e.dY λx f=>by simp[f],sm⟩) λA _ _ l=>?_;obtain⟨j,p,t,O⟩:=A;dsimp only at l⊢;obtain⟨d,e,hj⟩:=l;have fi:=d.size;refine W ?_;refine zc rfl (λh2=>?_) λh2=>?_;have o:j<(dv ps i).code.length:=by omega
 have M:=eK (ps:=(dv ps i).code) o;have z:=iB lS M;obtain⟨_,_,_,_,_,rfl,iV,_,fH⟩:=z;have R:=bj _ T _<|List.mem_of_getElem? M;have E3:=arj m hj;have C:=arl o;refine WI ?_;refine zi iH bZ rfl rfl o<|zL jh bZ rfl (iV.ext d) rfl<|dy bZ rfl rfl rfl λ_ E K iv=>?_;have d:=d.grow;have d:=d.ext E;have e:=e.alloc E iv;refine cN bZ rfl rfl rfl K rfl λw6 H K _=>?_;have d:=d.aB H sx;have e:=e.aB H sx;refine W ?_;refine aA (arf (nth (dv ps i).code j) R.1 R.2 _ L w6<|(kA fH).ext d) ?_;rintro _ _ ⟨rfl,J⟩;have lU:=J.size;refine bJ J d e λd e=>?_;refine W ?_;apply oB 5 29 34 rfl oQ;intro h3;refine zm<|zm<|aA (ari (qj ps i j) om _ _ _ _ e.done) ?_;rintro _ _ ⟨rfl,rfl⟩;exact oQ;intro _;refine aV<|zc rfl (λu=>?_) λu=>?_;have B:(rN<|nth (dv ps i).code j).isSome=true/\¬(rN<|nth (dv ps i).code j).getD []∈qj ps i j:=by simpa using u
 have y:qj ps i j++[(rN<|nth (dv ps i).code j).getD []]=qj ps i (j+1):=by rw[C];unfold addN;revert B;cases rN (nth (dv ps i).code j) with|none=>intro h;cases h.1|some s=>intro h;exact(iN h.2).symm
 refine lv<|zm<|zm<|fM bz bw rfl rfl λ_ cL U _=>bJ cL d e λd e=>?_;refine UJ bz bw rfl rfl rfl rfl rfl rfl e U om λY V g5 _ N Z=>?_;have d:=e.since d Z;rw[y] at N⊢;refine W ?_;exact⟨(j+1,Y,V,g5),⟨rfl,rfl,rfl,rfl,rfl,rfl,rfl⟩,⟨d,N.dY λx f=>by simp[f],by dsimp only;omega⟩,by dsimp only;omega⟩;have y:qj ps i (j+1)=qj ps i j:=by rw[C];unfold addN;have B:¬((rN<|nth (dv ps i).code j).isSome=true/\¬(rN<|nth (dv ps i).code j).getD []∈qj ps i j):=(by simpa using u);revert B;cases rN (nth (dv ps i).code j) with|none=>intro _;rfl|some s=>intro h;exact iP (Classical.byContradiction λhh=>h ⟨rfl,hh⟩)
 refine W ?_;refine⟨(j+1,p,t,O),⟨congrArg (λn=>Value.slice p n t)<|congrArg List.length y.symm,rfl,rfl,rfl,rfl,rfl,rfl⟩,⟨d,?_,by dsimp only;omega⟩,by dsimp only;omega⟩
 (show Gr _ _ _ _ _ (.slice p (qj ps i<|j+1).length t) _ (ic (qj ps i<|j+1)))
 rw[y];exact e.dY (λx f=>by simp[f]);have o:j=(dv ps i).code.length:=by omega
 subst o;rw[ark m] at e⊢;refine W ?_;exact⟨(i+1,p,t,O),⟨rfl,rfl,rfl,rfl⟩,⟨d,e.dY λx f=>by simp[f],by dsimp only;omega⟩,by dsimp only;omega⟩;have ub:ps.take i=ps:=List.take_of_length_le om;rw[ub] at e⊢;refine W ?_;exact⟨_,rfl,⟨_,e⟩,d⟩
theorem arn (a:List cw) (c:a.length<=1000) (b:kx a<=1000000) (d:Ob a) (v:Value) (L:List Nat) (w:World) (i:jf L w v a) (f:∀x∈L,x<w.heap.size):
  bu Tryz.prog 32 [v] w λr w'=>bo L w' r (kK a)/\aj [] w w':=
 (abA a c b d v L w i f).mono λ_ _ ⟨⟨_,g⟩,e⟩=>⟨g.done,e⟩
section
variable {P:Program} (w:World)
theorem aro (t ty e:TypeId) (i:TypeInfo) (y:P.underlying t=some (.slice e)) (s:P.info? e=some i) 
  (g f d n:Nat) (l:Array Value) (r:w.heap[g]?=some (.cells l e (0,0)))
  (a:Addr) (m c:Nat) (b:List Value) (v:b.length=m*i.size) (B:∀j u,b[j]?=some u->w.cell? (a.add j)=some u) (p:∀u∈b,u.oneCell'=true)
  (A:d+m<=n) (z:f+d*i.size+b.length<=l.size):
  (Builtin.append_ #[t,t] ty #[.slice (some ⟨g,f,none⟩) d n,.slice (some a) m c]).run P w=
   .ok (.slice (some ⟨g,f,none⟩) (d+m) n) (w.setRow g (l.toList.take (f+d*i.size)++b++l.toList.drop (f+d*i.size+b.length)).toArray):=by
 have q:=run_firstCells_some (P:=P) w i.size m a m c b v B;have o:=run_storeCells_at P g (f+d*i.size) e b 0 l w r (by simpa using z) p;simp only[Nat.add_zero] at o;simp[Builtin.append_,run_underlying y,sizeOf,typeInfo,s,Builtin.lenOf,A,q,qq,o]
end
def Qu (w:World) (T:TypeId) (v:Value) (g:Nat) (b:List Value):Prop:=
 ∃off cap a,v= .slice (some ⟨g,off,none⟩) b.length cap/\aK w g a T/\b.length<=cap/\off+cap<=a.size/\∀i x,b[i]?=some x->a[off+i]?=some x
theorem Qu.aG {T:TypeId} (h:Qu w T v g xs) (k:aj L w w') (b:g∉L):Qu w' T v g xs:=
 let⟨off,cap,a,e,hb,r⟩:=h;⟨off,cap,a,e,hb.aG k b,r⟩
theorem Qu.ext {T:TypeId} (h:Qu w T v g xs) (k:aj [] w w'):Qu w' T v g xs:=h.aG k sm
theorem Qu.lt {T:TypeId} (h:Qu w T v g xs):g<w.heap.size:=let⟨_,_,_,_,hb,_⟩:=h;hb.lt
theorem Qu.form {T:TypeId} (h:Qu w T v g xs):∃off cap,v= .slice (some ⟨g,off,none⟩) xs.length cap:=let⟨off,cap,_,e,_⟩:=h;⟨off,cap,e⟩
theorem Qu.one {T:Nat} {x:Value} (h:aK w b [x].toArray T):Qu w T (.slice (some ⟨b,0,none⟩) 1 1) b [x]:=
 ⟨0,1,_,rfl,h,sm,sm,λi y a=>by simpa using a⟩
theorem Qu.head {T:TypeId} {cap n:Nat} {x:Value} (h:Qu w T (.slice (some ⟨g,off,none⟩) n cap) g (x::xs)):w.cell? ⟨g,off+0*1,none⟩=some x:=by obtain⟨o,c,_,e,hb,_,_,a⟩:=h;cases e;rw[Nat.zero_mul,Nat.add_zero,hb.cell];simpa using a 0 x rfl
section
variable {P:Program} {n:Nat} {ops:Array Oper} {K:Env->World->Prop} {rest:List Oper} {e:Env} {w:World}
 {dst:Option Nat} {ty:TypeId} {pos:String} {after:Array Edge} {g:Option (Nat×Bool)} {x y:Operand}
theorem arp {z:Value} {d:Operand} {p:IntKind} {v u:Value} {a:Nat} {b:List Value} (C:P.underlying t=some (.slice E)) (B:TI P E 1 bytes z) (F:gate ops e g=true) (D:cJ n dst=true) 
  (J:ev e x=v) (m:ev e d= .int p 1) (I:Qu w E v a (u::b)) (k:∀q,Qu w E q a b->OW P n ops K rest (bU e dst q) w):
  OW P n ops K (⟨dst,.slice t x (some d) none none,ty,pos,after,g⟩::rest) e w:=by
 obtain⟨off,cap,c,rfl,hb,s,_,A⟩:=I;simp only[lC] at s;have j:∀l:Nat,l<=(u::b).length->ev e d= .int p (l:Int)->(execOp (ev e) ⟨dst,.slice t x (some d) none none,ty,pos,after,g⟩).run P w= .ok (.value (.slice (if cap=l then some ⟨a,off,none⟩ else some ⟨a,off+l*1,none⟩) ((u::b).length-l)<|cap-l)) w:=λl H m=>by have r:l<=b.length+1:=H;simp[execOp,Instr.sliceAt,Instr.slice,J,m,run_underlying C,Instr.sliceBounds,Instr.sliceBound,asIntOf,r,B.qZ,qq]
 refine fp F D (v:=.slice (if cap=1 then some ⟨a,off,none⟩ else some ⟨a,off+1*1,none⟩) b.length<|cap-1) (w':=w) (j 1 sm m)<|k _ ?_;by_cases o:cap=1
 .rw[iP o];refine⟨off,cap-1,c,rfl,hb,om,om,λi y f=>?_⟩;have:=(List.getElem?_eq_some_iff.1 f).1;omega
 .rw[iN o];refine⟨off+1*1,cap-1,c,rfl,hb,om,om,λi y f=>?_⟩;have:=A (i+1) y (by simpa using f);rw[<-this];congr 1;omega
theorem arq {z:Value} {v u:Value} {f b U:Nat} {a:List Value} (D:P.underlying t=some (.slice E)) (T:TI P E 1 bytes z) (H:gate ops e g=true) (F:cJ n dst=true) (Z:Nat.beq z.cells.size 1=true) (R:Nat.ble bytes 1000=true) 
  (X:ev e x=v) (Y:ev e y= .slice (some ⟨b,0,none⟩) 1 1) (V:Qu w E v f a) (hb:aK w b [u].toArray U) (S:u.oneCell'=true) (hn:a.length<100000000)
  (k:∀r B w',Qu w' E r B (a++[u])->aj [f] w w'->(B=f\/B=w.heap.size)->OW P n ops K rest (bU e dst r) w'):
  OW P n ops K (⟨dst,.call {callee:=.builtin .append,args:=#[x,y],argTypes:=#[t,t]},ty,pos,after,g⟩::rest) e w:=by
 obtain⟨i,I,xS,p,_⟩:=T.get;have B4:bytes<=1000:=Nat.le_of_ble_eq_true R;obtain⟨off,cap,l,rfl,s,_,_,J⟩:=V;have M:∀j d,[u][j]?=some d->w.cell? ((⟨b,0,none⟩:Addr).add j)=some d:=λj d c=>by rw[qq,hb.cell];simpa using c
 have A:∀d∈[u],d.oneCell'=true:=λd h=>by rw[List.mem_singleton.1 h];exact S
 have q:∀{r:Value} {w':World},(Builtin.append_ #[t,t] ty #[.slice (some ⟨f,off,none⟩) a.length cap,.slice (some ⟨b,0,none⟩) 1 1]).run P w= .ok r w'->
   (execOp (ev e) ⟨dst,.call {callee:=.builtin .append,args:=#[x,y],argTypes:=#[t,t]},ty,pos,after,g⟩).run P w= .ok (.value r) w':=λo=>by
  simp only[execOp,resolve,invoke,builtin,Sem.run_bind,Sem.run_pure,Result.andThen_ok,List.map_toArray,List.map_cons,List.map_nil,X,Y,o]
 by_cases L:a.length+1<=cap
 .have o:=aro (P:=P) w t ty E i D I f off a.length cap l s ⟨b,0,none⟩ 1 1 [u] (by rw[p];rfl) M A L (by rw[p];simp;omega);rw[p] at o;refine fp H F (q o) (k _ f _ ⟨off,cap,_,by rw[lA];rfl,setRow_heap w f l _ E _ s,by simpa using L,?_,λj y c=>?_⟩ ⟨rfl,rfl,rfl,sm,λC _ hk=>setRow_other w f C _<|by simpa using hk⟩<|.inl rfl)
  .simp;omega
  .rcases Nat.lt_or_ge j a.length with h|h
   .rw[List.getElem?_append_left h] at c;have:=J j y c;simp only[List.getElem?_toArray];rw[List.append_assoc,List.getElem?_append_left so,List.getElem?_take_of_lt om];simpa using this
   .rw[List.getElem?_append_right h] at c;have N:j-a.length=0:=by have:=(List.getElem?_eq_some_iff.1 c).1;simpa using this
    rw[N] at c;simp only[List.getElem?_toArray];rw[List.append_assoc,List.getElem?_append_right so];rw[show off+j-(List.take (off+a.length*1) l.toList).length=0 by simp;omega];simpa using c
 .have m:∀j d,a[j]?=some d->w.cell? ((⟨f,off,none⟩:Addr).add j)=some d:=λj d c=>by
   rw[qq,s.cell];exact J j d c
  have o:=run_append_grow (P:=P) w t ty E i z D I xS ⟨f,off,none⟩ a.length cap a (by rw[p];omega) m ⟨b,0,none⟩ 1 1 [u] (by rw[p];rfl) M om om
   (growslice_fits om<|Nat.le_trans (Nat.mul_le_mul (show a.length+1<=100000000 by omega)<|show i.bytes<=1000 by omega) de)
  have rR:=grownCap_ge w (a.length+1) cap E;refine fp H F (q o) (k _ w.heap.size _ ⟨0,_,_,by rw[lA];rfl,heap_alloc_new w.drew _,by simpa using rR,?_,λj y c=>?_⟩ ⟨rfl,rfl,rfl,sm,λC hk _=>(aj.alloc [] w.drew _).block C hk sm⟩<|.inr rfl)
  .have O:z.cells.size=1:=Nat.eq_of_beq_eq_true Z;simp only[Array.size_append,List.size_toArray,size_zeroCells,O,lC,List.length_nil];omega
  .have Q:=(List.getElem?_eq_some_iff.1 c).1;rw[Nat.zero_add,Array.getElem?_append_left (by simp at Q⊢;omega)];simpa using c
theorem art {z u:Value} {f d:IntKind} (N:Nat) (q:P.underlying t=some (.slice E)) (o:TI P E 1 bytes z) (s:gate ops e g=true) (r:cJ n dst=true) 
  (c:z.cells=[u].toArray) (m:Nat.ble bytes 1000=true) (A:ev e x= .int f (N:Int)) (B:ev e y= .int d (N:Int)) (p:N<=100000000000)
  (k:∀w',aj [] w w'->w'.heap.size=w.heap.size+1->aK w' w.heap.size (List.replicate N u).toArray E->OW P n ops K rest (bU e dst<|.slice (some ⟨w.heap.size,0,none⟩) N N) w'):
  OW P n ops K (⟨dst,.makeSlice t x y,ty,pos,after,g⟩::rest) e w:=by
 obtain⟨i,v,C,l,_⟩:=o.get;have D:bytes<=1000:=Nat.le_of_ble_eq_true m;have hb:(i.bytes:Int)*(N:Int)<=281474976710656:=by
  have:i.bytes*N<=1000*100000000000:=Nat.mul_le_mul om p;have h:((i.bytes*N:Nat):Int)<=281474976710656:=by omega
  rwa [Int.natCast_mul] at h
 have a:=run_make (P:=P) w t E i z q v C f d (N:Int) (N:Int) om (Int.le_refl _) hb om;simp only[Int.toNat_natCast] at a;have b:=Xd z.cells N;rw[c] at b;have j:(madeCells [u].toArray (N*1))=(List.replicate N u).toArray:=by
  apply Array.toList_inj.1;have:([u].toArray).size=1:=rfl;rw[this] at b;rw[b];induction N with
  |zero=>rfl
  |succ N _=>simp[List.replicate_succ]
 refine fp s r (w':=w.alloc<|.cells (madeCells z.cells<|N*1) E) (by rw[l] at a;simp[execOp,A,B,a])<|k _ (aj.alloc _ _ _) sm ?_;rw[c,j];exact aK.alloc _ _ _
theorem abB {L:List Nat} {E:TypeId} {T d:Nat} {z:Value} {o j:Operand} {b a len cap l h:Nat} {k D:IntKind} (t:P.underlying T=some (.slice E)) (s:TI P E d bytes z) (A:gate ops e g=true) (y:cJ n dst=true) 
  (B:ev e x= .slice (some ⟨b,a,none⟩) len cap) (F:ev e o= .int k (l:Int)) (p:ev e j= .int D (h:Int)) (f:l<=h) (i:h<=len) {rows:List (List C)} (m:cj L w (.slice (some ⟨b,a,none⟩) len cap) (.sl d rows))
  (c:∀v,cj L w v (.sl d ((rows.take h).drop l))->OW P n ops K rest (bU e dst v) w):OW P n ops K (⟨dst,.slice T x (some o) (some j) none,ty,pos,after,g⟩::rest) e w:=by
 have H:len<=cap:=by cases m with|nil=>exact Nat.zero_le _|sl _ _ _ _ _ _ _ I u=>exact u
 have r:h<=cap:=Nat.le_trans i H;have q:=SL m i;refine fp A y (v:=.slice (if cap=l then some ⟨b,a,none⟩ else some ⟨b,a+l*d,none⟩) (h-l)<|cap-l) (w':=w) ?_ (c _<|Ue q l f _ (λh=>iN om) λh=>iP om);simp[execOp,Instr.sliceAt,Instr.slice,B,F,p,run_underlying t,Instr.sliceBounds,Instr.sliceBound,asIntOf,f,r,s.qZ,qq]
end
theorem take_one {a:Type} {l:List a} {x:a} (h:l[k]?=some x):(l.take<|k+1).drop k=[x]:=by rw[List.take_add_one,h,List.drop_append_of_le_length (by have:=(List.getElem?_eq_some_iff.1 h).1;rw[List.length_take];omega),List.drop_eq_nil_of_le (by rw[List.length_take];omega)];rfl
def zV (z:Int):Value:=.int .i64 z
structure yL (ps:List cw) (w0 w:World) (ms:List Bool) (qv:Value) (gq:Nat) (zints:List Int):Prop where
 kp:aj [] w0 w
 out:aK w w0.heap.size (ms.map Value.bool).toArray 4
 que:Qu w 3 qv gq (zints.map zV)
 len:ms.length=ps.length
 ne:w0.heap.size<gq
 rng:∀z∈zints, -1<=z/\z<ps.length
theorem yL.pop {d:List Bool} {g b:Value} {c:Nat} {a:List Int} (h:yL ps w0 w d g c (z::a)) (e:Qu w 3 b c (a.map zV)):yL ps w0 w d b c a:=
 ⟨h.kp,h.out,e,h.len,h.ne,λx f=>h.rng x<|mK _ f⟩
theorem yL.ext {c:List Bool} {d:Value} {b:Nat} {a:List Int} (h:yL ps w0 w c d b a) (k:aj [] w w'):yL ps w0 w' c d b a:=
 ⟨h.kp.trans k,h.out.ext k,h.que.ext k,h.len,h.ne,h.rng⟩
theorem yL.push {f:List Bool} {j c:Value} {e d:Nat} {a:List Int} (h:yL ps w0 w f j e a) (g:Qu w' 3 c d (a.map zV++[zV z])) (k:aj [e] w w') (l:d=e\/d=w.heap.size) 
  (i: -1<=z/\z<ps.length):yL ps w0 w' f c d (a++[z]):=by
 have n:=h.ne;have m:=h.out.lt;refine⟨h.kp.since k λx b=>.inr (by simp at b;omega),h.out.aG k so,by rw[List.map_append];exact g,h.len,om,λx b=>?_⟩;rcases mA.1 b with b|b
 .exact h.rng x b
 .rw[List.mem_singleton.1 b];exact i
theorem aru {c:List ak} {a:Nat} (h:bo [g] w v c) (k:aj [g] w w') (d:a=g\/a=w.heap.size):bo [a] w' v c:=
 cj.weaken (bo.aB (bo.fresh h (L':=[g,a]) (λx b=>by simp at b;rcases b with rfl|rfl;(·exact .inl sm);(·rcases d with e|e;(·exact .inl (by simp[e]));(·exact .inr om)))) k sm) sm
theorem abC {a:List Bool} (h:k<a.length):(a.map Value.bool)[0+k*1]?=some (.bool<|a.getD k false):=by rw[Nat.mul_one,Nat.zero_add,List.getElem?_map,gE h,gG,gE h];rfl
def Bd (B b:Nat) (l:ak) (w:World):Prop:=Lib.IsBuilderF 99 5 B b (Lib.byteCells l) w
theorem Bd.ext {l:ak} (h:Bd B b l w) (k:aj [] w w'):Bd B b l w':=by
 have cell:∀{i:Nat} {o:Obj},w.heap[i]?=some o->w'.heap[i]?=some o:=fun{i o} hi=>(k.block i (Array.getElem?_eq_some_iff.1 hi).1 sm).trans hi;have a:∀p,Lib.BuilderAtF 99 5 B b p (Lib.byteCells l) w->Lib.BuilderAtF 99 5 B b p (Lib.byteCells l) w':=by
  rintro p ⟨r,v,hb,d,e⟩;refine⟨r,v,cell hb,⟨d.1,?_⟩,e⟩;rcases d.2 with h|⟨g,cap,c,f,j,m,n,q⟩
  .exact .inl h
  .exact .inr ⟨g,cap,c,f,j,m,cell n,q⟩
 exact h.imp (a _)<|a _
structure qV (B b:Nat) (w w':World):Prop where
 below:RowKit.Below B w w'
 others:Lib.OthersKept 5 (some b) w w'
theorem qV.trans {a:World} (h:qV B b w w') (k:qV B b w' a):qV B b w a:=⟨h.below.trans k.below,h.others.trans k.others⟩
theorem qV.of {b:Nat} (h:aj [] w w') (a:B<=w.heap.size):qV B b w w':=
 ⟨h.below a sm,λk o hk _ _=>(h.block k (Array.getElem?_eq_some_iff.1 hk).1 sm).trans hk⟩
theorem qV.aG (k:qV w0.heap.size b w w') (h:aj [] w0 w):aj [] w0 w':=F4 h k.below
theorem aK.others {c:Nat} {a:Array Value} {T:TypeId} (h:aK w c a T) (k:qV B b w w') (e:c≠b) (d:T≠5):aK w' c a T:=
 k.others c _ h (by simpa using e) (by intro _ _ f;cases f;exact d rfl)
theorem arv (B b:Nat) (l s:ak) (w:World) (h:Bd B b l w) (a:l.length+s.length<=140737488355328) (f:B<=w.heap.size):
  bu Tryz.prog 105 [.pointer<|some ⟨b,0,none⟩,str s] w λ_ w'=>Bd B b (l++s) w'/\qV B b w w':=
 ⟨rQ.mk' Tryz.func105 rfl VP,Calls.mono (Tryz.Builder_WriteString_k B b _ ⟨s.toArray⟩ w h (by rw[Lib.byteCells_length];simpa[ByteArray.size] using a) f) λ_ _ ⟨d,hb,hk,e⟩=>⟨_,d,.inr (by have c:Lib.byteCells (l++s)=Lib.byteCells l++Lib.strCells ⟨s.toArray⟩:=by{simp[Lib.byteCells,Lib.strCells]};rw[c];exact hb),hk,e⟩⟩
theorem SX (B b:Nat) (l:ak) (c:Nat) (i:c<256) (w:World) (h:Bd B b l w) (a:l.length+1<=140737488355328) (g:B<=w.heap.size):
  bu Tryz.prog 106 [.pointer<|some ⟨b,0,none⟩,.int .u8 (c:Int)] w λ_ w'=>Bd B b (l++[UInt8.ofNat c]) w'/\qV B b w w':=
 ⟨rQ.mk' Tryz.func106 rfl aft,Calls.mono (Tryz.Builder_WriteByte_k B b _ (c:Int) w h (by rw[Lib.byteCells_length];exact a) g) λ_ _ ⟨e,hb,hk,f⟩=>⟨_,e,.inr (by have d:Lib.byteCells (l++[UInt8.ofNat c])=Lib.byteCells l++[.int .u8 (c:Int)]:=by{simp[Lib.byteCells];omega};rw[d];exact hb),hk,f⟩⟩
theorem arw (B b:Nat) (l:ak) (w:World) (h:Bd B b l w) (c:B<=w.heap.size):
  bu Tryz.prog 77 [.pointer (some ⟨b,0,none⟩)] w λv w'=>v=str l/\RowKit.Below B w w':=
 ⟨rQ.mk' Tryz.func77 rfl VR,Calls.mono (Tryz.Builder_String_any_f B b l w h c) λ_ _ ⟨a,hb,hk⟩=>⟨_,a,rfl,hk⟩⟩
theorem arx:∀(m:Nat) (t:aq),t.size<=m->WF t->∀(v:Value) (L:List Nat) (w0 w:World) (b:Nat) (l:ak),bg L w0 v t->aj [] w0 w->b<w.heap.size->Bd w0.heap.size b l w->l.length+t.text.length<=1000000000->t.size<=1000000000->
  bu Tryz.prog 76 [v,.pointer (some ⟨b,0,none⟩)] w λr w'=>r= .tuple #[]/\Bd w0.heap.size b (l++t.text) w'/\qV w0.heap.size b w w':=by
 intro m;induction m with
 |zero=>intro t h q;have:=Pf q;omega
 |succ m ih=>
  intro t _ q v L w0 w b l M d _ p _ _;have Y:=M;obtain⟨a,n,c,rfl,hn,S⟩:=db M;subst hn;have od:=oF t;have e:=aj.refl [] w;have y:=d.size;refine cg [] 32 Tryz.func76 rfl ahO rfl rfl ?_;refine zr<|eJ rfl λw1 R I _=>bJ R d e λd e=>?_;refine W ?_;refine aA (F3 t _ L w1<|Y.ext d) ?_;rintro _ w2 ⟨rfl,J⟩;have B:=J.size;refine cV J d e I λd e I=>?_;refine aV<|zc rfl (λK=>?_) λK=>?_;have D:=VD q K;refine W ?_;refine aA (arv w0.heap.size b l t.au w2 (p.ext e) (by rw[<-D];omega) (by have:=d.size;omega)) ?_;rintro _ z ⟨o,j⟩;refine W ?_;exact⟨_,rfl,rfl,by rw[D];exact o,(qV.of e y).trans j⟩;have u:=p.ext e;have j:=qV.of (b:=b) e y;have T:w.heap.size≠b:=by omega
  refine W ?_;refine et (λk:Nat=>[(1,.pointer<|some ⟨b,0,none⟩),(2,.pointer<|some ⟨w.heap.size,0,none⟩),(13,.slice a t.ag.length c),(14,.int .i64 (t.ag.length:Int)),(15,.int .i64 (k:Int))]) (λk w'=>aj [] w0 w'/\Bd w0.heap.size b (l++pre (t.ag.take k)) w'/\qV w0.heap.size b w w'/\k<=t.ag.length/\w.heap.size<=w'.heap.size) (λk=>t.ag.length-k) (0) (⟨rfl,rfl,rfl,rfl,rfl⟩) (⟨d,by simpa[pre] using u,j,om,e.size⟩) λf z _ C=>?_;obtain⟨d,p,j,hk,_⟩:=C;clear e u;refine W ?_;refine zc rfl (λh2=>?_) λh2=>?_;have ei:=eK (ps:=t.ag) (i:=f) om;obtain⟨X,fm,pa,_,pc,rfl,iV,Z,fH⟩:=iB S ei;subst Z;have Q:=q.nth (i:=f) om;have nh:=kZ (t:=t) (i:=f) om;have U:=VE q hk;have V:=VE q (k:=f+1) om;have E:=VB (ps:=t.ag) (k:=f) om;have qS:=congrArg List.length E;rw[lA,lC] at qS;refine WZ ?_;have e:=aj.refl [] z;refine WL ?_;refine zL jh bZ rfl (iV.ext d) rfl<|dy bZ rfl rfl rfl λw4 F s _=>?_;have d:=d.grow;have d:=d.ext F;have e:=e.grow;have e:=e.ext F;refine zA<|cN bZ rfl rfl rfl s rfl λP H s _=>?_;have d:=d.aB H sx;have e:=e.aB H sx;refine W ?_;refine jl (λ_:Unit=>[(1,.pointer<|some ⟨b,0,none⟩),(2,.pointer<|some ⟨w.heap.size,0,none⟩),(5,.pointer<|some ⟨z.heap.size,0,none⟩),(13,.slice (some ⟨X,fm,none⟩) t.ag.length c),(14,.int .i64 (t.ag.length:Int)),(15,.int .i64 (f:Int))]) (λ_ w'=>aj [] w0 w'/\Bd w0.heap.size b (l++pre (t.ag.take f)++[if f=0 then 40 else 32]) w'/\qV w0.heap.size b w w'/\w.heap.size<=w'.heap.size/\aK w' z.heap.size [str (nth t.ag f).au,.slice pa (nth t.ag f).ag.length pc].toArray 61) ?_ ?_;refine zc rfl (λh3=>?_) λh3=>?_;have A:f=0:=by omega
  refine lv<|zm<|aA (SX w0.heap.size b _ 40 de P (p.ext e) so (by have:=d.size;omega)) ?_;rintro _ w6 ⟨o,g⟩;have B:=g.below.size;refine W ?_;exact⟨(),⟨rfl,rfl,rfl,rfl,rfl,rfl⟩,g.aG d,by rw[iP A];exact o,(j.trans<|qV.of e (by have:=j.below.size;omega)).trans g,by have:=e.size;omega,s.others g om de⟩;have A:¬f=0:=by omega
  refine lv<|zm<|aA (SX w0.heap.size b _ 32 de P (p.ext e) so (by have:=d.size;omega)) ?_;rintro _ w6 ⟨o,g⟩;have B:=g.below.size;refine W ?_;exact⟨(),⟨rfl,rfl,rfl,rfl,rfl,rfl⟩,g.aG d,by rw[iN A];exact o,(j.trans<|qV.of e (by have:=j.below.size;omega)).trans g,by have:=e.size;omega,s.others g om de⟩;intro _ w7 _ C;clear d p j s e;obtain⟨d,p,j,_,s⟩:=C;refine W ?_;refine aA (ih (nth t.ag f) om Q _ L w0 w7 b _ (kA fH) d om p so om) ?_;rintro _ _ ⟨rfl,o,g⟩;have B:=g.below.size;have d:=g.aG d;refine W ?_;exact⟨f+1,⟨rfl,rfl,rfl,rfl,rfl⟩,⟨d,by rw[E];simpa using o,j.trans g,om,om⟩,om⟩;have gh:f=t.ag.length:=by omega
  have O:=VC q om;have N:=congrArg List.length O;rw[lA] at N;subst gh;refine W ?_;refine aA (SX w0.heap.size b _ 41 de z p (by simp at N⊢;omega) (by have:=d.size;omega)) ?_;rintro _ w4 ⟨o,g⟩;refine W ?_;exact⟨_,rfl,rfl,by rw[<-O,<-List.append_assoc];exact o,j.trans g⟩
theorem ary (t:aq) (o:WF t) (z:t.size<=100000000) (y:t.text.length<=100000000) (v:Value) (L:List Nat) (w:World) (i:bg L w v t):
  bu Tryz.prog 41 [v] w λr w'=>r=str t.text/\aj [] w w':=by
 have m:=i;obtain⟨a,n,c,rfl,_,_⟩:=db i;have u:=aj.refl [] w;refine cg [.tmp 2] 7 Tryz.func41 rfl ahh rfl rfl ?_;refine zr<|eJ rfl λb e f _=>zA<|aV<|zr<|dy PF rfl rfl rfl λp d l _=>?_;have f:=f.ext d;refine W ?_;refine aA (arx t.size t (lR _) o _ L b p b.heap.size [] (m.ext e) d om (.inl ⟨lR _,_,l,⟨rfl,.inl ⟨rfl,rfl⟩⟩,by simp[Value.ownBlock]⟩) so om) ?_;rintro _ q ⟨rfl,s,g⟩;refine aV<|zr<|aA (arw b.heap.size b.heap.size _ q s (by have:=g.below.size;omega)) ?_;rintro _ _ ⟨rfl,j⟩;refine W ?_;exact⟨_,rfl,rfl,e.trans (F4 (g.aG d) j)⟩
theorem abG (e:List aq) (h:Cg e) (v:Value) (L:List Nat) (w:World) (u:da L w v e):
  bu Tryz.prog 47 [v] w λr w'=>(∃a n c g,r= .slice a n c/\n=e.length/\cZ w' 9 (.slice a n c) g (e.map aq.text)/\(∀b,g=some b->w.heap.size<=b)/\(e=[]->g=none))/\aj [] w w':=by
 obtain⟨a,c,rfl⟩:=abn u;have d:=aj.refl [] w;have S:=h.1;refine cg [.tmp 2] 19 Tryz.func47 rfl ahl rfl rfl ?_;refine W ?_;refine et (λq:Nat×Option Addr×Nat×Option Nat=>[(3,.slice q.2.1 ((e.take q.1).map aq.text).length q.2.2.1),(6,.slice a e.length c),(7,.int .i64 (e.length:Int)),(8,.int .i64 (q.1:Int))]) (λq w'=>aj [] w w'/\Gr w.heap.size [] w' 9 1 (.slice q.2.1 ((e.take q.1).map aq.text).length q.2.2.1) q.2.2.2 (ic<|(e.take q.1).map aq.text)/\q.1<=e.length/\(q.1=0->q.2.2.2=none)) (λq=>e.length-q.1) ((0,none,0,none)) (⟨rfl,rfl,rfl,rfl⟩) (⟨d,Gr.nil sm om,sm,λ_=>rfl⟩) λM _ _ t=>?_;obtain⟨i,_,_,g⟩:=M;dsimp only at t⊢;obtain⟨d,f,hk,y⟩:=t;have Q:=d.size;refine W ?_;refine zc rfl (λN=>?_) λN=>?_;have j:=eK (ps:=e) (i:=i) om;obtain⟨_,_,_,_,_,rfl,O,_,I⟩:=iB u j;obtain⟨D,E,H⟩:=h.2 (nth e i)<|List.mem_of_getElem? j;refine WL ?_;refine zL jh bZ rfl (O.ext d) rfl<|dy bZ rfl rfl rfl λ_ o p F=>?_;have d:=d.grow;have d:=d.ext o;have f:=f.alloc o F;refine cN bZ rfl rfl rfl p rfl λP l p _=>?_;have d:=d.aB l sx;have f:=f.aB l sx;refine W ?_;refine aA (ary (nth e i) D E H _ L P<|(kA I).ext d) ?_;rintro _ _ ⟨rfl,m⟩;have R:=m.size;refine bJ m d f λd f=>?_;refine fM bz bw rfl rfl λ_ B z _=>bJ B d f λd f=>?_;refine UJ bz bw rfl rfl rfl rfl rfl rfl f z (by rw[Ej _ hk];omega) λA J K _ s C=>?_;have d:=f.since d C;rw[Ei aq.text j] at s⊢;refine W ?_;exact⟨(i+1,A,J,K),⟨rfl,rfl,rfl,rfl⟩,⟨d,s.dY sm,by dsimp only;omega,by dsimp only;intro h;omega⟩,by dsimp only;omega⟩;rw[Gu aq.text om] at f⊢;refine W ?_;exact⟨_,rfl,⟨_,_,_,g,rfl,List.length_map _,f.wA,f.low,λh=>y (by rw[h] at hk;simp at hk;omega)⟩,d⟩
end Go.Proofs.YtcildnfcpkpomaaGreatDoor
