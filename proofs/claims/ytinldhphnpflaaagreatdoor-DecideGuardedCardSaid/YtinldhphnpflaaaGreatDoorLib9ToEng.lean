/- Part of the proof of a statement about decisions. -/
import Derived.Shelf.Strings.BuilderK
import Derived.Shelf.Strings.SlTrimAscii
import Derived.Shelf.Strconv.Atoi
import Derived.Shelf.LaysM
import Derived.Shelf.Strconv.Itoa3
import Derived.Shelf.Strings.Prefix
import Derived.Shelf.Strings.Repeat
import Derived.Test.YtinldhphnpflaaaGreatDoorProg
import Derived.WalkKit
import Derived.WalkSpells
import Derived.WalkLawsBesides
import Derived.OrdersIn
import Derived.TacticsIn
import Derived.RangeFuncFrom
import Derived.RangeFuncCalls
import Derived.RangeFuncLeaves
import Derived.Maps.AppendAt
import Derived.Deep.MidRow
import Derived.Laws.OwnMore
import Derived.LoopNIn
import Derived.StillTail
set_option linter.all false
namespace Go.Proofs
open Go.Shelf
def Tryz.lays169_ren:Go.Shelf.Ren:=⟨fun |169=>93|n=>n,fun |70=>120|9=>9|0=>0|72=>123|37=>121|127=>163|3=>3|5=>5|n=>n,fun |n=>n⟩
theorem Tryz.lays169:Go.Proofs.Lays.n169 Tryz.prog Tryz.lays169_ren:={
  mixed:=by kernel_rfl
  f169:=Tryz.func93.trans (congrArg some (by kernel_rfl))
  t0:=Tryz.underlying0
  a0:=Tryz.isAgg0
  z0:=Tryz.sizeOf0
  v0:=Tryz.zeroValue0
  t3:=Tryz.underlying3
  a3:=Tryz.isAgg3
  z3:=Tryz.sizeOf3
  v3:=Tryz.zeroValue3
  t9:=Tryz.underlying9
  a9:=Tryz.isAgg9
  z9:=Tryz.sizeOf9
  v9:=Tryz.zeroValue9
  t37:=Tryz.underlying121
  a37:=Tryz.isAgg121
  z37:=Tryz.sizeOf121
  v37:=Tryz.zeroValue121
  t70:=Tryz.underlying120
  a70:=Tryz.isAgg120
  z70:=Tryz.sizeOf120
  v70:=Tryz.zeroValue120
  t72:=Tryz.underlying123
  a72:=Tryz.isAgg123
  z72:=Tryz.sizeOf123
  v72:=Tryz.zeroValue123
  t127:=Tryz.underlying163
  a127:=Tryz.isAgg163
  z127:=Tryz.sizeOf163
  v127:=Tryz.zeroValue163}
theorem Tryz.Builder_Extra_169:Builder.Extra Tryz.prog Tryz.lays169_ren:={
  sizeBuilder:=by kernel_rfl
  liesBuilder:=by kernel_rfl
  t5:=Tryz.underlying5
  a5:=Tryz.isAgg5
  z5:=Tryz.sizeOf5
  v5:=Tryz.zeroValue5
  infoByte:=by kernel_rfl
  cellsByte:=by kernel_rfl
  sizeByte:=by kernel_rfl
  neB5:=by decide}
open Go.RowKit in
theorem Tryz.Builder_String_any_k (B b:Nat)(l:List UInt8)(w:World)(h:Lib.IsBuilderF 123 5 B b (Lib.byteCells l) w)(hBw:B<=w.heap.size):
    Calls Tryz.prog 93 #[.pointer (some ⟨b,0,none⟩)] w λe w'=>e=.returned (.string ⟨l.toArray⟩)∧(Lib.IsBuilderF 123 5 B b (Lib.byteCells l) w'∧Below B w w'∧Lib.OthersKept 5 (some b) w w'):=Any.Builder_String_any_k Tryz.lays169 Tryz.Builder_Extra_169 B b l w h hBw
def Tryz.lays172_ren:Go.Shelf.Ren:=⟨fun |172=>130|244=>174|245=>175|247=>199|279=>200|280=>201|281=>202|282=>203|287=>216|316=>217|171=>91|205=>218|321=>231|322=>232|243=>132|246=>176|283=>204|284=>205|285=>206|286=>207|129=>220|317=>219|318=>221|319=>222|320=>223|337=>233|338=>234|n=>n,fun |9=>9|3=>3|75=>128|76=>129|4=>4|5=>5|167=>214|37=>121|0=>0|85=>215|2=>2|168=>217|53=>167|175=>233|46=>132|210=>237|127=>163|145=>265|143=>263|21=>21|171=>220|173=>223|212=>240|51=>164|20=>20|213=>241|232=>267|233=>268|80=>131|n=>n,fun |15=>2|16=>3|17=>4|18=>7|19=>8|n=>n⟩
theorem Tryz.lays172:Go.Proofs.Lays.n172 Tryz.prog Tryz.lays172_ren:={
  mixed:=by kernel_rfl
  f129:=Tryz.func220.trans (congrArg some (by kernel_rfl))
  f171:=Tryz.func91.trans (congrArg some (by kernel_rfl))
  f172:=Tryz.func130.trans (congrArg some (by kernel_rfl))
  f205:=Tryz.func218.trans (congrArg some (by kernel_rfl))
  f243:=Tryz.func132.trans (congrArg some (by kernel_rfl))
  f244:=Tryz.func174.trans (congrArg some (by kernel_rfl))
  f245:=Tryz.func175.trans (congrArg some (by kernel_rfl))
  f246:=Tryz.func176.trans (congrArg some (by kernel_rfl))
  f247:=Tryz.func199.trans (congrArg some (by kernel_rfl))
  f279:=Tryz.func200.trans (congrArg some (by kernel_rfl))
  f280:=Tryz.func201.trans (congrArg some (by kernel_rfl))
  f281:=Tryz.func202.trans (congrArg some (by kernel_rfl))
  f282:=Tryz.func203.trans (congrArg some (by kernel_rfl))
  f283:=Tryz.func204.trans (congrArg some (by kernel_rfl))
  f284:=Tryz.func205.trans (congrArg some (by kernel_rfl))
  f285:=Tryz.func206.trans (congrArg some (by kernel_rfl))
  f286:=Tryz.func207.trans (congrArg some (by kernel_rfl))
  f287:=Tryz.func216.trans (congrArg some (by kernel_rfl))
  f316:=Tryz.func217.trans (congrArg some (by kernel_rfl))
  f317:=Tryz.func219.trans (congrArg some (by kernel_rfl))
  f318:=Tryz.func221.trans (congrArg some (by kernel_rfl))
  f319:=Tryz.func222.trans (congrArg some (by kernel_rfl))
  f320:=Tryz.func223.trans (congrArg some (by kernel_rfl))
  f321:=Tryz.func231.trans (congrArg some (by kernel_rfl))
  f322:=Tryz.func232.trans (congrArg some (by kernel_rfl))
  f337:=Tryz.func233.trans (congrArg some (by kernel_rfl))
  f338:=Tryz.func234.trans (congrArg some (by kernel_rfl))
  t0:=Tryz.underlying0
  a0:=Tryz.isAgg0
  z0:=Tryz.sizeOf0
  v0:=Tryz.zeroValue0
  t2:=Tryz.underlying2
  a2:=Tryz.isAgg2
  z2:=Tryz.sizeOf2
  v2:=Tryz.zeroValue2
  t3:=Tryz.underlying3
  a3:=Tryz.isAgg3
  z3:=Tryz.sizeOf3
  v3:=Tryz.zeroValue3
  t4:=Tryz.underlying4
  a4:=Tryz.isAgg4
  z4:=Tryz.sizeOf4
  v4:=Tryz.zeroValue4
  t5:=Tryz.underlying5
  a5:=Tryz.isAgg5
  z5:=Tryz.sizeOf5
  v5:=Tryz.zeroValue5
  t9:=Tryz.underlying9
  a9:=Tryz.isAgg9
  z9:=Tryz.sizeOf9
  v9:=Tryz.zeroValue9
  t20:=Tryz.underlying20
  a20:=Tryz.isAgg20
  z20:=Tryz.sizeOf20
  v20:=Tryz.zeroValue20
  t21:=Tryz.underlying21
  a21:=Tryz.isAgg21
  z21:=Tryz.sizeOf21
  v21:=Tryz.zeroValue21
  t37:=Tryz.underlying121
  a37:=Tryz.isAgg121
  z37:=Tryz.sizeOf121
  v37:=Tryz.zeroValue121
  t46:=Tryz.underlying132
  a46:=Tryz.isAgg132
  z46:=Tryz.sizeOf132
  v46:=Tryz.zeroValue132
  t51:=Tryz.underlying164
  a51:=Tryz.isAgg164
  z51:=Tryz.sizeOf164
  v51:=Tryz.zeroValue164
  t53:=Tryz.underlying167
  a53:=Tryz.isAgg167
  z53:=Tryz.sizeOf167
  v53:=Tryz.zeroValue167
  t75:=Tryz.underlying128
  a75:=Tryz.isAgg128
  z75:=Tryz.sizeOf128
  v75:=Tryz.zeroValue128
  t76:=Tryz.underlying129
  a76:=Tryz.isAgg129
  z76:=Tryz.sizeOf129
  v76:=Tryz.zeroValue129
  t85:=Tryz.underlying215
  a85:=Tryz.isAgg215
  z85:=Tryz.sizeOf215
  v85:=Tryz.zeroValue215
  t127:=Tryz.underlying163
  a127:=Tryz.isAgg163
  z127:=Tryz.sizeOf163
  v127:=Tryz.zeroValue163
  t143:=Tryz.underlying263
  a143:=Tryz.isAgg263
  z143:=Tryz.sizeOf263
  v143:=Tryz.zeroValue263
  t145:=Tryz.underlying265
  a145:=Tryz.isAgg265
  z145:=Tryz.sizeOf265
  v145:=Tryz.zeroValue265
  t167:=Tryz.underlying214
  a167:=Tryz.isAgg214
  z167:=Tryz.sizeOf214
  v167:=Tryz.zeroValue214
  t168:=Tryz.underlying217
  a168:=Tryz.isAgg217
  z168:=Tryz.sizeOf217
  v168:=Tryz.zeroValue217
  t171:=Tryz.underlying220
  a171:=Tryz.isAgg220
  z171:=Tryz.sizeOf220
  v171:=Tryz.zeroValue220
  t173:=Tryz.underlying223
  a173:=Tryz.isAgg223
  z173:=Tryz.sizeOf223
  v173:=Tryz.zeroValue223
  t175:=Tryz.underlying233
  a175:=Tryz.isAgg233
  z175:=Tryz.sizeOf233
  v175:=Tryz.zeroValue233
  t210:=Tryz.underlying237
  a210:=Tryz.isAgg237
  z210:=Tryz.sizeOf237
  v210:=Tryz.zeroValue237
  t212:=Tryz.underlying240
  a212:=Tryz.isAgg240
  z212:=Tryz.sizeOf240
  v212:=Tryz.zeroValue240
  t213:=Tryz.underlying241
  a213:=Tryz.isAgg241
  z213:=Tryz.sizeOf241
  t232:=Tryz.underlying267
  a232:=Tryz.isAgg267
  z232:=Tryz.sizeOf267
  v232:=Tryz.zeroValue267
  t233:=Tryz.underlying268
  a233:=Tryz.isAgg268
  z233:=Tryz.sizeOf268
  v233:=Tryz.zeroValue268
  g15:=by kernel_rfl
  g16:=by kernel_rfl
  g17:=by kernel_rfl
  g18:=by kernel_rfl
  g19:=by kernel_rfl}
open Go.RowKit in
theorem Tryz.strconv_Atoi (s:ByteArray)(n:Int)(hl:s.size<=18)(h:Lib.atoi s.data.toList=some n)(w:World):
    Calls Tryz.prog 130 #[.string s] w λe w'=>e=.returned (.tuple #[.int .i64 n,.nilIface])∧∃t,w'=Lib.bytesWorld w 5 t:=Any.strconv_Atoi Tryz.lays172 s n hl h w
def Tryz.laysM171_ren:Go.Shelf.Ren:=⟨fun |171=>91|243=>132|246=>176|283=>204|284=>205|285=>206|286=>207|129=>220|317=>219|318=>221|319=>222|320=>223|337=>233|338=>234|n=>n,fun |3=>3|9=>9|2=>2|4=>4|171=>220|0=>0|53=>167|37=>121|5=>5|173=>223|212=>240|51=>164|20=>20|213=>241|46=>132|232=>267|233=>268|n=>n,fun |17=>4|18=>7|19=>8|n=>n⟩
theorem Tryz.laysM171:Go.Proofs.LaysM.n171 Tryz.prog Tryz.laysM171_ren:={
  mixed:=by kernel_rfl
  f129:=Tryz.func220.trans (congrArg some (by kernel_rfl))
  f171:=Tryz.func91.trans (congrArg some (by kernel_rfl))
  f243:=Tryz.func132.trans (congrArg some (by kernel_rfl))
  f246:=Tryz.func176.trans (congrArg some (by kernel_rfl))
  f283:=Tryz.func204.trans (congrArg some (by kernel_rfl))
  f284:=Tryz.func205.trans (congrArg some (by kernel_rfl))
  f285:=Tryz.func206.trans (congrArg some (by kernel_rfl))
  f286:=Tryz.func207.trans (congrArg some (by kernel_rfl))
  f317:=Tryz.func219.trans (congrArg some (by kernel_rfl))
  f318:=Tryz.func221.trans (congrArg some (by kernel_rfl))
  f319:=Tryz.func222.trans (congrArg some (by kernel_rfl))
  f320:=Tryz.func223.trans (congrArg some (by kernel_rfl))
  f337:=Tryz.func233.trans (congrArg some (by kernel_rfl))
  f338:=Tryz.func234.trans (congrArg some (by kernel_rfl))
  t0:=Tryz.underlying0
  a0:=Tryz.isAgg0
  z0:=Tryz.sizeOf0
  v0:=Tryz.zeroValue0
  t2:=Tryz.underlying2
  a2:=Tryz.isAgg2
  z2:=Tryz.sizeOf2
  v2:=Tryz.zeroValue2
  t3:=Tryz.underlying3
  a3:=Tryz.isAgg3
  z3:=Tryz.sizeOf3
  v3:=Tryz.zeroValue3
  t4:=Tryz.underlying4
  a4:=Tryz.isAgg4
  z4:=Tryz.sizeOf4
  v4:=Tryz.zeroValue4
  t5:=Tryz.underlying5
  a5:=Tryz.isAgg5
  z5:=Tryz.sizeOf5
  v5:=Tryz.zeroValue5
  t9:=Tryz.underlying9
  a9:=Tryz.isAgg9
  z9:=Tryz.sizeOf9
  v9:=Tryz.zeroValue9
  t20:=Tryz.underlying20
  a20:=Tryz.isAgg20
  z20:=Tryz.sizeOf20
  v20:=Tryz.zeroValue20
  t37:=Tryz.underlying121
  a37:=Tryz.isAgg121
  z37:=Tryz.sizeOf121
  v37:=Tryz.zeroValue121
  t46:=Tryz.underlying132
  a46:=Tryz.isAgg132
  z46:=Tryz.sizeOf132
  v46:=Tryz.zeroValue132
  t51:=Tryz.underlying164
  a51:=Tryz.isAgg164
  z51:=Tryz.sizeOf164
  v51:=Tryz.zeroValue164
  t53:=Tryz.underlying167
  a53:=Tryz.isAgg167
  z53:=Tryz.sizeOf167
  v53:=Tryz.zeroValue167
  t171:=Tryz.underlying220
  a171:=Tryz.isAgg220
  z171:=Tryz.sizeOf220
  v171:=Tryz.zeroValue220
  t173:=Tryz.underlying223
  a173:=Tryz.isAgg223
  z173:=Tryz.sizeOf223
  v173:=Tryz.zeroValue223
  t212:=Tryz.underlying240
  a212:=Tryz.isAgg240
  z212:=Tryz.sizeOf240
  v212:=Tryz.zeroValue240
  t213:=Tryz.underlying241
  a213:=Tryz.isAgg241
  z213:=Tryz.sizeOf241
  t232:=Tryz.underlying267
  a232:=Tryz.isAgg267
  z232:=Tryz.sizeOf267
  v232:=Tryz.zeroValue267
  t233:=Tryz.underlying268
  a233:=Tryz.isAgg268
  z233:=Tryz.sizeOf268
  v233:=Tryz.zeroValue268
  g17:=by kernel_rfl
  g18:=by kernel_rfl
  g19:=by kernel_rfl
  i0:=by kernel_rfl
  i2:=by kernel_rfl
  i3:=by kernel_rfl
  i4:=by kernel_rfl
  i5:=by kernel_rfl
  i9:=by kernel_rfl
  i20:=by kernel_rfl
  i37:=by kernel_rfl
  i46:=by kernel_rfl
  i51:=by kernel_rfl
  i53:=by kernel_rfl
  i171:=by kernel_rfl
  i173:=by kernel_rfl
  i212:=by kernel_rfl
  i232:=by kernel_rfl
  i233:=by kernel_rfl
  m17:=by kernel_rfl
  m18:=by kernel_rfl
  m19:=by kernel_rfl}
open Go.RowKit Go.Sort Go.Lib in
theorem Tryz.strconv_Itoa (n : Int)(h0 : -9223372036854775808 ≤ n)(h1 : n ≤ 9223372036854775807)(w : World)(htab : Lib.TabIs Tryz.prog w "internal/strconv.uint64pow10" .u64 Lib.pow10Tab) :
    Calls Tryz.prog 91 #[.int .i64 n] w λe w'=>e=.returned (.string ⟨(Lib.itoa n).toArray⟩)∧∃k os,w'=grow (w.drewN k) os:=Any.strconv_Itoa Tryz.laysM171 n h0 h1 w htab
def Tryz.lays101_ren:Go.Shelf.Ren:=⟨fun |101=>94|208=>134|206=>137|n=>n,fun |9=>9|4=>4|3=>3|n=>n,fun |n=>n⟩
theorem Tryz.lays101:Go.Proofs.Lays.n101 Tryz.prog Tryz.lays101_ren:={
  mixed:=by kernel_rfl
  f101:=Tryz.func94.trans (congrArg some (by kernel_rfl))
  f206:=Tryz.func137.trans (congrArg some (by kernel_rfl))
  f208:=Tryz.func134.trans (congrArg some (by kernel_rfl))
  t3:=Tryz.underlying3
  a3:=Tryz.isAgg3
  z3:=Tryz.sizeOf3
  v3:=Tryz.zeroValue3
  t4:=Tryz.underlying4
  a4:=Tryz.isAgg4
  z4:=Tryz.sizeOf4
  v4:=Tryz.zeroValue4
  t9:=Tryz.underlying9
  a9:=Tryz.isAgg9
  z9:=Tryz.sizeOf9
  v9:=Tryz.zeroValue9}
open Go.RowKit Go.Lib in
theorem Tryz.strings_TrimPrefix (s p:ByteArray)(w:World):
    Calls Tryz.prog 94 #[.string s,.string p] w λe w'=>e=.returned (.string ⟨(Lib.trimPrefix s.data.toList p.data.toList).toArray⟩)∧w'=w:=Any.strings_TrimPrefix Tryz.lays101 s p w
def Tryz.lays105_ren:Go.Shelf.Ren:=⟨fun |105=>65|212=>95|99=>96|165=>97|166=>92|170=>98|169=>93|263=>135|264=>136|206=>137|240=>133|241=>138|276=>177|277=>178|n=>n,fun |9=>9|3=>3|4=>4|20=>20|0=>0|46=>132|109=>133|5=>5|72=>123|76=>129|51=>164|146=>165|53=>167|148=>168|70=>120|37=>121|75=>128|127=>163|164=>197|80=>131|n=>n,fun |n=>n⟩
theorem Tryz.lays105:Go.Proofs.Lays.n105 Tryz.prog Tryz.lays105_ren:={
  mixed:=by kernel_rfl
  f99:=Tryz.func96.trans (congrArg some (by kernel_rfl))
  f105:=Tryz.func65.trans (congrArg some (by kernel_rfl))
  f165:=Tryz.func97.trans (congrArg some (by kernel_rfl))
  f166:=Tryz.func92.trans (congrArg some (by kernel_rfl))
  f169:=Tryz.func93.trans (congrArg some (by kernel_rfl))
  f170:=Tryz.func98.trans (congrArg some (by kernel_rfl))
  f206:=Tryz.func137.trans (congrArg some (by kernel_rfl))
  f212:=Tryz.func95.trans (congrArg some (by kernel_rfl))
  f240:=Tryz.func133.trans (congrArg some (by kernel_rfl))
  f241:=Tryz.func138.trans (congrArg some (by kernel_rfl))
  f263:=Tryz.func135.trans (congrArg some (by kernel_rfl))
  f264:=Tryz.func136.trans (congrArg some (by kernel_rfl))
  f276:=Tryz.func177.trans (congrArg some (by kernel_rfl))
  f277:=Tryz.func178.trans (congrArg some (by kernel_rfl))
  t0:=Tryz.underlying0
  a0:=Tryz.isAgg0
  z0:=Tryz.sizeOf0
  v0:=Tryz.zeroValue0
  t3:=Tryz.underlying3
  a3:=Tryz.isAgg3
  z3:=Tryz.sizeOf3
  v3:=Tryz.zeroValue3
  t4:=Tryz.underlying4
  a4:=Tryz.isAgg4
  z4:=Tryz.sizeOf4
  v4:=Tryz.zeroValue4
  t5:=Tryz.underlying5
  a5:=Tryz.isAgg5
  z5:=Tryz.sizeOf5
  v5:=Tryz.zeroValue5
  t9:=Tryz.underlying9
  a9:=Tryz.isAgg9
  z9:=Tryz.sizeOf9
  v9:=Tryz.zeroValue9
  t20:=Tryz.underlying20
  a20:=Tryz.isAgg20
  z20:=Tryz.sizeOf20
  v20:=Tryz.zeroValue20
  t37:=Tryz.underlying121
  a37:=Tryz.isAgg121
  z37:=Tryz.sizeOf121
  v37:=Tryz.zeroValue121
  t46:=Tryz.underlying132
  a46:=Tryz.isAgg132
  z46:=Tryz.sizeOf132
  v46:=Tryz.zeroValue132
  t51:=Tryz.underlying164
  a51:=Tryz.isAgg164
  z51:=Tryz.sizeOf164
  v51:=Tryz.zeroValue164
  t53:=Tryz.underlying167
  a53:=Tryz.isAgg167
  z53:=Tryz.sizeOf167
  v53:=Tryz.zeroValue167
  t70:=Tryz.underlying120
  a70:=Tryz.isAgg120
  z70:=Tryz.sizeOf120
  v70:=Tryz.zeroValue120
  t72:=Tryz.underlying123
  a72:=Tryz.isAgg123
  z72:=Tryz.sizeOf123
  v72:=Tryz.zeroValue123
  t75:=Tryz.underlying128
  a75:=Tryz.isAgg128
  z75:=Tryz.sizeOf128
  v75:=Tryz.zeroValue128
  t76:=Tryz.underlying129
  a76:=Tryz.isAgg129
  z76:=Tryz.sizeOf129
  v76:=Tryz.zeroValue129
  t109:=Tryz.underlying133
  a109:=Tryz.isAgg133
  z109:=Tryz.sizeOf133
  v109:=Tryz.zeroValue133
  t127:=Tryz.underlying163
  a127:=Tryz.isAgg163
  z127:=Tryz.sizeOf163
  v127:=Tryz.zeroValue163
  t146:=Tryz.underlying165
  a146:=Tryz.isAgg165
  z146:=Tryz.sizeOf165
  v146:=Tryz.zeroValue165
  t148:=Tryz.underlying168
  a148:=Tryz.isAgg168
  z148:=Tryz.sizeOf168
  v148:=Tryz.zeroValue168
  t164:=Tryz.underlying197
  a164:=Tryz.isAgg197
  z164:=Tryz.sizeOf197
  v164:=Tryz.zeroValue197}
theorem Tryz.Builder_Extra_105:Builder.Extra Tryz.prog Tryz.lays105_ren:={
  sizeBuilder:=by kernel_rfl
  liesBuilder:=by kernel_rfl
  t5:=Tryz.underlying5
  a5:=Tryz.isAgg5
  z5:=Tryz.sizeOf5
  v5:=Tryz.zeroValue5
  infoByte:=by kernel_rfl
  cellsByte:=by kernel_rfl
  sizeByte:=by kernel_rfl
  neB5:=by decide}
open Go.RowKit Go.Lib in
theorem Tryz.strings_Repeat (s:ByteArray)(c:Nat)(w:World)(hc:c<=9223372036854775807)(hlen:s.size*c<=140737488355328):
    Calls Tryz.prog 65 #[.string s,.int .i64 c] w λe w'=>e=.returned (.string ⟨(Lib.repeatL s.data.toList c).toArray⟩)∧Below w.heap.size w w':=Any.strings_Repeat Tryz.lays105 Tryz.Builder_Extra_105 s c w hc hlen
def Tryz.lays160_ren:Go.Shelf.Ren:=⟨fun |160=>129|232=>168|231=>167|227=>169|234=>171|233=>170|236=>173|235=>172|228=>195|271=>198|151=>197|197=>196|120=>215|152=>214|260=>213|137=>227|119=>228|224=>229|225=>230|217=>237|266=>238|n=>n,fun |9=>9|4=>4|3=>3|5=>5|117=>191|116=>190|0=>0|124=>194|21=>21|105=>211|46=>132|119=>256|139=>259|138=>258|n=>n,fun |3=>5|4=>6|n=>n⟩
theorem Tryz.lays160:Go.Proofs.Lays.n160 Tryz.prog Tryz.lays160_ren:={
  mixed:=by kernel_rfl
  f119:=Tryz.func228.trans (congrArg some (by kernel_rfl))
  f120:=Tryz.func215.trans (congrArg some (by kernel_rfl))
  f137:=Tryz.func227.trans (congrArg some (by kernel_rfl))
  f151:=Tryz.func197.trans (congrArg some (by kernel_rfl))
  f152:=Tryz.func214.trans (congrArg some (by kernel_rfl))
  f160:=Tryz.func129.trans (congrArg some (by kernel_rfl))
  f197:=Tryz.func196.trans (congrArg some (by kernel_rfl))
  f217:=Tryz.func237.trans (congrArg some (by kernel_rfl))
  f224:=Tryz.func229.trans (congrArg some (by kernel_rfl))
  f225:=Tryz.func230.trans (congrArg some (by kernel_rfl))
  f227:=Tryz.func169.trans (congrArg some (by kernel_rfl))
  f228:=Tryz.func195.trans (congrArg some (by kernel_rfl))
  f231:=Tryz.func167.trans (congrArg some (by kernel_rfl))
  f232:=Tryz.func168.trans (congrArg some (by kernel_rfl))
  f233:=Tryz.func170.trans (congrArg some (by kernel_rfl))
  f234:=Tryz.func171.trans (congrArg some (by kernel_rfl))
  f235:=Tryz.func172.trans (congrArg some (by kernel_rfl))
  f236:=Tryz.func173.trans (congrArg some (by kernel_rfl))
  f260:=Tryz.func213.trans (congrArg some (by kernel_rfl))
  f266:=Tryz.func238.trans (congrArg some (by kernel_rfl))
  f271:=Tryz.func198.trans (congrArg some (by kernel_rfl))
  t0:=Tryz.underlying0
  a0:=Tryz.isAgg0
  z0:=Tryz.sizeOf0
  v0:=Tryz.zeroValue0
  t3:=Tryz.underlying3
  a3:=Tryz.isAgg3
  z3:=Tryz.sizeOf3
  v3:=Tryz.zeroValue3
  t4:=Tryz.underlying4
  a4:=Tryz.isAgg4
  z4:=Tryz.sizeOf4
  v4:=Tryz.zeroValue4
  t5:=Tryz.underlying5
  a5:=Tryz.isAgg5
  z5:=Tryz.sizeOf5
  v5:=Tryz.zeroValue5
  t9:=Tryz.underlying9
  a9:=Tryz.isAgg9
  z9:=Tryz.sizeOf9
  v9:=Tryz.zeroValue9
  t21:=Tryz.underlying21
  a21:=Tryz.isAgg21
  z21:=Tryz.sizeOf21
  v21:=Tryz.zeroValue21
  t46:=Tryz.underlying132
  a46:=Tryz.isAgg132
  z46:=Tryz.sizeOf132
  v46:=Tryz.zeroValue132
  t105:=Tryz.underlying211
  a105:=Tryz.isAgg211
  z105:=Tryz.sizeOf211
  v105:=Tryz.zeroValue211
  t116:=Tryz.underlying190
  a116:=Tryz.isAgg190
  z116:=Tryz.sizeOf190
  t117:=Tryz.underlying191
  a117:=Tryz.isAgg191
  z117:=Tryz.sizeOf191
  v117:=Tryz.zeroValue191
  t119:=Tryz.underlying256
  a119:=Tryz.isAgg256
  z119:=Tryz.sizeOf256
  t124:=Tryz.underlying194
  a124:=Tryz.isAgg194
  z124:=Tryz.sizeOf194
  v124:=Tryz.zeroValue194
  t138:=Tryz.underlying258
  a138:=Tryz.isAgg258
  z138:=Tryz.sizeOf258
  v138:=Tryz.zeroValue258
  t139:=Tryz.underlying259
  a139:=Tryz.isAgg259
  z139:=Tryz.sizeOf259
  v139:=Tryz.zeroValue259
  g3:=by kernel_rfl
  g4:=by kernel_rfl}
end Go.Proofs
namespace Go.Eng
open Go Go.RowKit
def upd (e:Nat->Value)(d:Nat)(v:Value):Nat->Value:=λi=>match Nat.beq i d with|true=>v|false=>e i
theorem upd_eq (e:Nat->Value)(d:Nat)(v:Value):upd e d v d=v:=by simp[upd]
theorem upd_ne (e:Nat->Value)(v:Value){d i:Nat}(h:i≠d):upd e d v i=e i:=by
  have:Nat.beq i d=false:=by
    cases hb:Nat.beq i d with
    |false=>rfl
    |true=>exact absurd (Nat.eq_of_beq_eq_true hb) h
  simp[upd,this]
def act (N:Nat)(e:Nat->Value)(ds:List Deferred):Act:=⟨Array.ofFn (n:=N) λi=>e i,ds⟩
def ev (N:Nat)(e:Nat->Value):Operand->Value
  | .tmp t=>match Nat.blt t N with|true=>e t|false=>undef
  | .const v=>v
  | .global g=>.pointer (some ⟨g,0,none⟩)
  | .func f=>.func (.func f) #[] #[]
theorem act_eval (N:Nat)(e:Nat->Value)(ds:List Deferred):(act N e ds).eval=ev N e:=by
  funext x
  cases x with
  | tmp t=>
    by_cases h:t<N
    · have:Nat.blt t N=true:=by simpa[Nat.blt_eq]using h
      simp[act,Act.eval,ev,this,h]
    · have:Nat.blt t N=false:=by
        cases hb:Nat.blt t N with
        |false=>rfl
        |true=>exact absurd (by simpa[Nat.blt_eq]using hb) h
      simp[act,Act.eval,ev,this,h]
  |const v=>rfl
  |global g=>rfl
  |func f=>rfl
theorem act_put (N:Nat)(e:Nat->Value)(ds:List Deferred)(d:Nat)(v:Value):(act N e ds).put (some d) v=act N (upd e d v) ds:=by
  simp only[act,Act.put,Act.mk.injEq,and_true]
  apply Array.ext
  · simp
  · intro i _ h2
    have h3:i<N:=by simpa using h2
    by_cases h:d=i
    · subst h;simp[upd_eq]
    · rw[Array.getElem_setIfInBounds_ne (by simpa using h3) h];simp[upd_ne e v (Ne.symm h)]
theorem cons_eq {α:Type}{a b:α}{l m:List α}(h:a=b)(t:l=m):a::l=b::m:=by rw[h,t]
theorem cons_eqp {α β:Type}{i:β}{a b:α}{l m:List (β×α)}(h:a=b)(t:l=m):(i,a)::l=(i,b)::m:=by rw[h,t]
def Fw:Option Nat->Fence
  |none=>Fence.wide
  |some l=>Fence.wide.inRound l
theorem Fw_fn (r:Option Nat)(f:FuncId):(Fw r).fn f:=by cases r <;>exact trivial
theorem Fw_depth (r:Option Nat):(Fw r).depth=none:=by cases r <;>rfl
theorem Fw_round (r:Option Nat):(Fw r).round=r:=by cases r <;>rfl
theorem Fw_calls {r:Option Nat}{n:Nat}{P:Program}{f:FuncId}{args:Array Value}{w:World}{R:Ending->World->Prop}(h:Calls P f args w R):CallsIn (Fw r) n P f args w R:=by
  cases r with
  |none=>exact callsIn_wide.2 h
  |some l=>exact CallsIn.inRound l (callsIn_wide.2 h)
theorem calls_Fw {n:Nat}{P:Program}{f:FuncId}{args:Array Value}{w:World}{R:Ending->World->Prop}(h:CallsIn (Fw none) n P f args w R):Calls P f args w R:=callsIn_wide.1 h
def Ext (w w':World):Prop:=Below w.heap.size w w'
theorem Ext.refl (w:World):Ext w w:=Below.refl _ w
theorem Ext.trans {a b c:World}(h:Ext a b)(k:Ext b c):Ext a c:=Below.trans h (Below.mono k h.size)
theorem Ext.alloc (w:World)(o:Obj):Ext w (w.alloc o):=(Below.refl _ w).alloc (Nat.le_refl _) o
theorem Ext.drew (w:World):Ext w w.drew:=(Below.refl _ w).drew
theorem Ext.heap {w w':World}(h:Ext w w'){b:Nat}{o:Obj}(ho:w.heap[b]?=some o):w'.heap[b]?=some o:=
  (h.block b (Array.getElem?_eq_some_iff.1 ho).1).trans ho
theorem Ext.cell {w w':World}(h:Ext w w'){a:Addr}{v:Value}(hv:w.cell? a=some v):w'.cell? a=some v:=
  (Below.cell h (World.block_lt_of_cell? w a hv)).trans hv
def Ret (w:World)(R:Value->World->Prop):Ending->World->Prop
  | .returned v,w'=>Ext w w'∧R v w'
  |_,_=>False
variable {P:Program}{r:Option Nat}{n N:Nat}{e:Nat->Value}{ds:List Deferred}{w w':World}{Q:Exit->Act->World->Prop}{K:Act->World->Prop}
def noDefer:Op->Bool
  | .defer _=>false
  |_=>true
theorem semAt_Fw {o:Oper}(h:noDefer o.op=true)(ρ:Operand->Value):Oper.semAt (Fw r).round ρ o=execOp ρ o:=by
  rw[Fw_round]
  cases r with
  |none=>exact Oper.semAt_none _ _
  |some l=>exact Oper.semAt_some l ρ o (λc hc=>by rw[hc]at h;cases h)
theorem k_val {o:Oper}{v:Value}(hd:noDefer o.op=true)(hr:(execOp (ev N e) o).run P w=.ok (.value v) w')(hk:K ((act N e ds).put o.dst v) w'):o.wpIn (Fw r) n P (act N e ds) w K Q:=by
  refine⟨λf _=>Fw_fn r f,?_⟩
  rw[semAt_Fw hd,act_eval,hr]
  exact hk
theorem k_skip {o:Oper}(hd:noDefer o.op=true)(hr:(execOp (ev N e) o).run P w=.ok .skip w')(hk:K ((act N e ds).put o.dst undef) w'):o.wpIn (Fw r) n P (act N e ds) w K Q:=by
  refine⟨λf _=>Fw_fn r f,?_⟩
  rw[semAt_Fw hd,act_eval,hr]
  exact hk
theorem k_enter {o:Oper}{f:FuncId}{args:Array Value}{R:Value->World->Prop}(hd:noDefer o.op=true)(hr:(execOp (ev N e) o).run P w=.ok (.enter f args) w)(hc:Calls P f args w (Ret w R))(hk:∀v w',Ext w w'->R v w'->K ((act N e ds).put o.dst v) w'):o.wpIn (Fw r) n P (act N e ds) w K Q:=by
  refine⟨λf _=>Fw_fn r f,?_⟩
  rw[semAt_Fw hd,act_eval,hr]
  refine⟨(λh=>by rw[Fw_depth]at h;cases h),Fw_calls (hc.mono ?_)⟩
  intro e' w' h
  cases e' with
  |returned v=>exact hk v w' h.1 h.2
  |panicked c=>exact h.elim
  |outgrown=>exact h.elim
section ops
variable {d ty:Nat}{pos:String}{af:Array Edge}{g:Option (Nat×Bool)}{v u:Value}{x y:Operand}
theorem k_move (hx:ev N e x=v)(hk:K (act N (upd e d v) ds) w):Oper.wpIn (Fw r) n P ⟨some d,.move x,ty,pos,af,g⟩ (act N e ds) w K Q:=
  k_val (v:=v) (w':=w) rfl (by subst hx;rfl) (by rw[act_put];exact hk)
theorem k_assign (hx:ev N e x=v)(hk:K (act N (upd e d v) ds) w):Oper.wpIn (Fw r) n P ⟨some d,.assign x,ty,pos,af,g⟩ (act N e ds) w K Q:=
  k_val (v:=v) (w':=w) rfl (by subst hx;rfl) (by rw[act_put];exact hk)
end ops
def Inf (P:Program)(t:TypeId)(z:Value)(size bytes:Nat):Prop:=(P.info? t).map (λi=>(i.zero,i.size,i.bytes))=some (some z,size,bytes)
theorem Inf.parts {P:Program}{t:TypeId}{z:Value}{size bytes:Nat}(h:Inf P t z size bytes):∃i,P.info? t=some i∧i.zero=some z∧i.size=size∧i.bytes=bytes:=by
  unfold Inf at h
  cases hi:P.info? t with
  |none=>rw[hi]at h;cases h
  | some i=>
    rw[hi]at h
    simp only[Option.map_some,Option.some.injEq,Prod.mk.injEq]at h
    exact⟨i,rfl,h.1,h.2.1,h.2.2⟩
def Blk (w:World)(b:Nat)(t:TypeId)(cs:Array Value):Prop:=w.heap[b]?=some (.cells cs t (0,0))
theorem Blk.lt {w:World}{b:Nat}{t:TypeId}{cs:Array Value}(h:Blk w b t cs):b<w.heap.size:=(Array.getElem?_eq_some_iff.1 h).1
theorem Blk.ext {w w':World}{b:Nat}{t:TypeId}{cs:Array Value}(k:Ext w w')(h:Blk w b t cs):Blk w' b t cs:=k.heap h
theorem Blk.cell {w:World}{b:Nat}{t:TypeId}{cs:Array Value}(h:Blk w b t cs){o:Nat}{v:Value}(hv:cs[o]?=some v):w.cell? ⟨b,o,none⟩=some v:=by
  unfold Blk at h
  simp only[World.cell?,h]
  simpa using hv
theorem Blk.frozen {w:World}{b:Nat}{t:TypeId}{cs:Array Value}(h:Blk w b t cs)(o:Nat):w.frozen? ⟨b,o,none⟩=false:=by
  unfold Blk at h
  simp[World.frozen?,h]
structure Put (w w':World)(b:Nat):Prop where
  os:w'.os=w.os
  tape:w'.tape=w.tape
  output:w'.output=w.output
  size:w'.heap.size=w.heap.size
  block:∀k,k≠b->w'.heap[k]?=w.heap[k]?
theorem Put.low {w0 w w':World}{B b:Nat}(k:Put w w' b)(h:Below B w0 w)(hb:B<=b):Below B w0 w':=
  ⟨k.os.trans h.os,k.tape.trans h.tape,k.output.trans h.output,by rw[k.size];exact h.size,λi hi=>(k.block i (by omega)).trans (h.block i hi)⟩
theorem Put.blk {w w':World}{b c:Nat}{t:TypeId}{cs:Array Value}(k:Put w w' b)(hne:c≠b)(h:Blk w c t cs):Blk w' c t cs:=(k.block c hne).trans h
theorem Put.cell {w w':World}{b:Nat}(k:Put w w' b){a:Addr}(hne:a.block≠b):w'.cell? a=w.cell? a:=World.cell?_of_block (k.block _ hne)
theorem Put.refl (w:World)(b:Nat):Put w w b:=⟨rfl,rfl,rfl,rfl,λ_ _=>rfl⟩
theorem Put.trans {w w' w'':World}{b:Nat}(h:Put w w' b)(k:Put w' w'' b):Put w w'' b:=
  ⟨k.os.trans h.os,k.tape.trans h.tape,k.output.trans h.output,k.size.trans h.size,λi hi=>(k.block i hi).trans (h.block i hi)⟩
theorem put_setCell {w:World}{b o:Nat}(v:Value):Put w (w.setCell ⟨b,o,none⟩ v) b:=
  ⟨rfl,rfl,rfl,by simp,λk hk=>Below.heap_setCell w ⟨b,o,none⟩ v k hk⟩
theorem blk_setCell {w:World}{b o:Nat}{t:TypeId}{cs:Array Value}(h:Blk w b t cs)(v:Value):Blk (w.setCell ⟨b,o,none⟩ v) b t (cs.setIfInBounds o v):=by
  unfold Blk at h ⊢
  simp[World.setCell,Array.getElem?_modify,h]
structure Rw (w:World)(lo:Nat)(A:Option Addr)(cs:List Value):Prop where
  cells:∀j u,cs[j]?=some u->∃b o,A=some ⟨b,o,none⟩∧w.cell? ⟨b,o+j,none⟩=some u
  lo:∀ad,A=some ad->lo<=ad.block
  hi:∀ad,A=some ad->ad.block<w.heap.size
section rows
variable {w w' w0:World}{lo B:Nat}{A:Option Addr}{cs:List Value}
theorem Rw.ext (k:Ext w w')(h:Rw w lo A cs):Rw w' lo A cs:=
  ⟨λj u hu=>by obtain⟨b,o,hA,hc⟩:=h.cells j u hu;exact⟨b,o,hA,k.cell hc⟩,h.lo,λad hA=>Nat.lt_of_lt_of_le (h.hi ad hA) k.size⟩
theorem Rw.put {b:Nat}(k:Put w w' b)(hb:b<lo)(h:Rw w lo A cs):Rw w' lo A cs:=
  ⟨λj u hu=>by
    obtain⟨c,o,hA,hc⟩:=h.cells j u hu
    have:=h.lo _ hA
    exact⟨c,o,hA,(k.cell (by simp at this ⊢;omega)).trans hc⟩,h.lo,λad hA=>by rw[k.size];exact h.hi ad hA⟩
theorem Rw.nil (w:World)(lo:Nat):Rw w lo none []:=⟨λj u hu=>by simp at hu,(λad h=>by cases h),(λad h=>by cases h)⟩
theorem Rw.mono {lo':Nat}(hl:lo'<=lo)(h:Rw w lo A cs):Rw w lo' A cs:=⟨h.cells,λad hA=>Nat.le_trans hl (h.lo ad hA),h.hi⟩
theorem Rw.take (k:Nat)(h:Rw w lo A cs):Rw w lo A (cs.take k):=
  ⟨λj u hu=>h.cells j u (by rw[List.getElem?_take]at hu;split at hu <;>simp_all),h.lo,h.hi⟩
end rows
section ops
variable {P:Program}{r:Option Nat}{n N:Nat}{e:Nat->Value}{ds:List Deferred}{w:World}{Q:Exit->Act->World->Prop}{K:Act->World->Prop}
variable {d ty:Nat}{pos:String}{af:Array Edge}{g:Option (Nat×Bool)}{v u:Value}{x y:Operand}
theorem k_pick {c a b:Operand}{t:Bool}(hc:ev N e c=.bool t)(hv:(if t then ev N e a else ev N e b)=v)(hk:K (act N (upd e d v) ds) w):
    Oper.wpIn (Fw r) n P ⟨some d,.pick c a b,ty,pos,af,g⟩ (act N e ds) w K Q:=
  k_val (v:=v) (w':=w) rfl (by simp[execOp,hc,asBool,hv]) (by rw[act_put];exact hk)
theorem k_alloc {t:TypeId}{z:Value}{s b:Nat}(hi:Inf P t z s b)(hk:∀w',Ext w w'->w'.heap.size=w.heap.size+1->Blk w' w.heap.size t z.cells->K (act N (upd e d (.pointer (some ⟨w.heap.size,0,none⟩))) ds) w'):
    Oper.wpIn (Fw r) n P ⟨some d,.alloc t,ty,pos,af,g⟩ (act N e ds) w K Q:=by
  obtain⟨i,h1,h2,_,_⟩:=hi.parts
  refine k_val (v:=.pointer (some ⟨w.heap.size,0,none⟩)) (w':=w.alloc (.cells z.cells t)) rfl ?_ (by rw[act_put];exact hk _ (Ext.alloc _ _) (by simp) (by unfold Blk;exact heap_alloc_new w _))
  simp[execOp,Instr.alloc,zeroValue,typeInfo,h1,h2,newVar,newRow]
theorem k_box {t:TypeId}(hx:ev N e x=v)(hk:∀w',Ext w w'->w'.heap.size=w.heap.size+1->Blk w' w.heap.size t v.cells->K (act N (upd e d (.pointer (some ⟨w.heap.size,0,none⟩))) ds) w'):
    Oper.wpIn (Fw r) n P ⟨some d,.box t x,ty,pos,af,g⟩ (act N e ds) w K Q:=by
  refine k_val (v:=.pointer (some ⟨w.heap.size,0,none⟩)) (w':=w.alloc (.cells v.cells t)) rfl ?_ (by rw[act_put];exact hk _ (Ext.alloc _ _) (by simp) (by unfold Blk;exact heap_alloc_new w _))
  subst hx
  simp[execOp,Instr.box,newVar,newRow]
theorem k_load {t:TypeId}{D:TypeDesc}{b o:Nat}(hu:P.underlying t=some D)(hd:D.isRow=false)(hx:ev N e x=.pointer (some ⟨b,o,none⟩))(hc:w.cell? ⟨b,o,none⟩=some v)(hk:K (act N (upd e d v) ds) w):Oper.wpIn (Fw r) n P ⟨some d,.load t x,ty,pos,af,g⟩ (act N e ds) w K Q:=by
  refine k_val (v:=v) (w':=w) rfl ?_ (by rw[act_put];exact hk)
  have hagg:(isAgg t).run P w=.ok false w:=by
    unfold isAgg
    rw[Sem.run_bind,run_underlying hu w]
    cases D <;>simp_all
  simp[execOp,hx,Instr.loadAt,Instr.sureAddr,loadVar,hagg,hc]
theorem k_loadA {t:TypeId}{D:TypeDesc}{b o:Nat}{cs:List Value}(hu:P.underlying t=some D)(hd:D.isRow=true)(hi:(P.info? t).map (·.size)=some cs.length)(hx:ev N e x=.pointer (some ⟨b,o,none⟩))(hc:∀j u,cs[j]?=some u->w.cell? ⟨b,o+j,none⟩=some u)(hk:K (act N (upd e d (.agg cs.toArray)) ds) w):
    Oper.wpIn (Fw r) n P ⟨some d,.load t x,ty,pos,af,g⟩ (act N e ds) w K Q:=by
  refine k_val (v:=.agg cs.toArray) (w':=w) rfl ?_ (by rw[act_put];exact hk)
  simp[execOp,hx,run_loadAt_mid w b o t cs D hc hu hd hi]
theorem k_store {t tb:TypeId}{b o:Nat}{cs:Array Value}(hi:(P.info? t).map (·.size)=some 1)(hx:ev N e x=.pointer (some ⟨b,o,none⟩))(hy:ev N e y=v)(h1:v.oneCell'=true)(hb:Blk w b tb cs)(ho:o<cs.size)(hk:∀w',Put w w' b->Blk w' b tb (cs.setIfInBounds o v)->K (act N e ds) w'):
    Oper.wpIn (Fw r) n P ⟨none,.store t x y,ty,pos,af,g⟩ (act N e ds) w K Q:=by
  refine k_skip (w':=w.setCell ⟨b,o,none⟩ v) rfl ?_ (hk _ (put_setCell v) (blk_setCell hb v))
  have hc:w.cell? ⟨b,o,none⟩=some cs[o]:=hb.cell (Array.getElem?_eq_getElem ho)
  have hs:=run_store P w ⟨b,o,none⟩ v .plain h1
  rw[hc,hb.frozen]at hs
  simp only[Bool.false_eq_true,if_false]at hs
  have hcells:v.cells=#[v]:=by cases v <;>first|rfl|(simp[Value.oneCell']at h1;done)
  cases hq:P.info? t with
  |none=>simp[hq]at hi
  | some i=>
    simp[hq]at hi
    subst hy
    simp[execOp,hx,Instr.storeAt,Instr.sureAddr,storeVar,sizeOf,typeInfo,hq,hi,hcells,storeCells,Addr.add_mid,hs]
theorem k_fieldAddr {t:TypeId}{fs:Array Field}{f:Field}{b o k off oo m:Nat}(hu:P.underlying t=some (.struct fs))(hf:fs[k]? =some f)(ho:f.offset=off)(hs:(P.info? f.type).map (·.size)=some (m+1))(hoo:o+off=oo)(hx:ev N e x=.pointer (some ⟨b,o,none⟩))(hk:K (act N (upd e d (.pointer (some ⟨b,oo,none⟩))) ds) w):
    Oper.wpIn (Fw r) n P ⟨some d,.fieldAddr t x k,ty,pos,af,g⟩ (act N e ds) w K Q:=by
  refine k_val (v:=.pointer (some ⟨b,oo,none⟩)) (w':=w) rfl ?_ (by rw[act_put];exact hk)
  subst ho hoo
  cases hq:P.info? f.type with
  |none=>simp[hq]at hs
  | some i=>
    simp[hq]at hs
    simp[execOp,hx,Instr.fieldAt,run_underlying hu,hf,Instr.sureAddr,fieldPlace,sizeOf,typeInfo,hq,hs,Addr.add_mid]
theorem Blk.cells {w:World}{b:Nat}{t:TypeId}{cs:Array Value}(h:Blk w b t cs){i:Nat}{vs:List Value}(hv:(cs.toList.drop i).take vs.length=vs):∀j u,vs[j]?=some u->w.cell? ⟨b,i+j,none⟩=some u:=by
  intro j u hu
  refine h.cell ?_
  have hj:j<vs.length:=(List.getElem?_eq_some_iff.1 hu).1
  rw[<-hv,List.getElem?_take,if_pos hj,List.getElem?_drop]at hu
  simpa using hu
theorem put_setCells {b:Nat}:∀(vs:List Value) (o:Nat) (w:World),Put w (w.setCells b o vs) b
  |[],o,w=>by simpa[World.setCells]using Put.refl w b
  | v::vs,o,w=>by
    have h1:Put w (w.setCell ⟨b,o,none⟩ v) b:=put_setCell v
    have:=h1.trans (put_setCells vs (o+1) _)
    simpa[World.setCells]using this
def putCells:Array Value->Nat->List Value->Array Value
  |cs,_,[]=>cs
  |cs,o,v::vs=>putCells (cs.setIfInBounds o v) (o+1) vs
theorem blk_setCells {b:Nat}{t:TypeId}:∀(vs:List Value) (o:Nat) (w:World) (cs:Array Value),Blk w b t cs->Blk (w.setCells b o vs) b t (putCells cs o vs)
  |[],o,w,cs,h=>by simpa[World.setCells,putCells]using h
  | v::vs,o,w,cs,h=>by
    have:=blk_setCells vs (o+1) _ _ (blk_setCell (o:=o) h v)
    simpa[World.setCells,putCells]using this
theorem k_storeA {t tb:TypeId}{b o:Nat}{vs:List Value}{cs:Array Value}(hi:(P.info? t).map (·.size)=some vs.length)(hx:ev N e x=.pointer (some ⟨b,o,none⟩))(hy:ev N e y=.agg vs.toArray)(h1:∀v∈vs,v.oneCell'=true)(hb:Blk w b tb cs)(ho:o+vs.length<=cs.size)(hk:∀w',Put w w' b->Blk w' b tb (putCells cs o vs)->K (act N e ds) w'):
    Oper.wpIn (Fw r) n P ⟨none,.store t x y,ty,pos,af,g⟩ (act N e ds) w K Q:=by
  refine k_skip (w':=w.setCells b o vs) rfl ?_ (hk _ (put_setCells vs o w) (blk_setCells vs o w cs hb))
  have hth:w.there b o vs.toArray.size:=by
    intro j hj
    have hj':j<vs.length:=by simpa using hj
    have h2:o+j<cs.size:=by omega
    exact⟨by rw[hb.cell (Array.getElem?_eq_getElem h2)];rfl,hb.frozen _⟩
  have hs:=run_storeAt_mid (P:=P) w b o t vs.toArray hth (by simpa using hi) (all_oneCell_toArray h1)
  simp[execOp,hx,hy,hs]
theorem k_len {t:TypeId}{A:Option Addr}{m c:Nat}{D:TypeId}(hu:P.underlying t=some (.slice D))(hx:ev N e x=.slice A m c)(hk:K (act N (upd e d (.int .i64 m)) ds) w):
    Oper.wpIn (Fw r) n P ⟨some d,.call {callee:=.builtin .len,args:=#[x],argTypes:=#[t]},ty,pos,af,g⟩ (act N e ds) w K Q:=by
  refine k_val (v:=.int .i64 m) (w':=w) rfl ?_ (by rw[act_put];exact hk)
  simp[execOp,resolve,invoke,builtin,Builtin.len_,run_underlying hu,hx,goInt]
theorem k_lenL {t:TypeId}{l:List UInt8}(hu:P.underlying t=some .string)(hx:ev N e x=.string ⟨l.toArray⟩)(hk:K (act N (upd e d (.int .i64 ((l.length:Nat):Int))) ds) w):
    Oper.wpIn (Fw r) n P ⟨some d,.call {callee:=.builtin .len,args:=#[x],argTypes:=#[t]},ty,pos,af,g⟩ (act N e ds) w K Q:=by
  refine k_val (v:=.int .i64 l.length) (w':=w) rfl ?_ (by rw[act_put];exact hk)
  have hsz:(ByteArray.mk l.toArray).size=l.length:=by simp[ByteArray.size]
  simp[execOp,resolve,invoke,builtin,Builtin.len_,run_underlying hu,hx,goInt,hsz]
end ops
theorem pf_int {N:Nat}{e:Nat->Value}{x:Operand}{k:IntKind}{a b:Int}(h:ev N e x=.int k a)(hb:a=b):ev N e x=.int k b:=by rw[h,hb]
section ops2
variable {P:Program}{r:Option Nat}{n N:Nat}{e:Nat->Value}{ds:List Deferred}{w:World}{Q:Exit->Act->World->Prop}{K:Act->World->Prop}
variable {d ty:Nat}{pos:String}{af:Array Edge}{g:Option (Nat×Bool)}{v u:Value}{x y:Operand}{t t':TypeId}{a b:Int}{q:Bool}{k:IntKind}
def In64 (a:Int):Prop:=-9223372036854775808<=a∧a<=9223372036854775807
theorem wrap_in {a:Int}(h:In64 a):IntKind.i64.wrap a=a:=IntWalk.i64_in a h
theorem k_bin {op:BinOp}{X Y:Value}(hx:ev N e x=X)(hy:ev N e y=Y)(hg:(eqGuard op t x y X Y).run P w=.ok () w)(hr:(binOp op t X Y).run P w=.ok v w)(hk:K (act N (upd e d v) ds) w):Oper.wpIn (Fw r) n P ⟨some d,.binOp op t x y t',ty,pos,af,g⟩ (act N e ds) w K Q:=by
  refine k_val (v:=v) (w':=w) rfl ?_ (by rw[act_put];exact hk)
  simp[execOp,hx,hy,hg,hr]
theorem guard_int {op:BinOp}(x y:Operand)(k k':IntKind)(a b:Int):(eqGuard op t x y (.int k a) (.int k' b)).run P w=.ok () w:=by
  unfold eqGuard
  cases op <;>simp
theorem guard_str {op:BinOp}(x y:Operand)(a b:ByteArray):(eqGuard op t x y (.string a) (.string b)).run P w=.ok () w:=by
  unfold eqGuard
  cases op <;>simp
theorem guard_bool {op:BinOp}(x y:Operand)(a b:Bool):(eqGuard op t x y (.bool a) (.bool b)).run P w=.ok () w:=by
  unfold eqGuard
  cases op <;>simp
theorem k_add {c:Int}(hx:ev N e x=.int .i64 a)(hy:ev N e y=.int .i64 b)(hr:In64 (a+b))(hc:a+b=c)(hk:K (act N (upd e d (.int .i64 c)) ds) w):
    Oper.wpIn (Fw r) n P ⟨some d,.binOp .add t x y t',ty,pos,af,g⟩ (act N e ds) w K Q:=
  k_bin hx hy (guard_int ..) (by subst hc;simp[binOp,Op.intArith,wrap_in hr]) hk
theorem k_sub {c:Int}(hx:ev N e x=.int .i64 a)(hy:ev N e y=.int .i64 b)(hr:In64 (a-b))(hc:a-b=c)(hk:K (act N (upd e d (.int .i64 c)) ds) w):
    Oper.wpIn (Fw r) n P ⟨some d,.binOp .sub t x y t',ty,pos,af,g⟩ (act N e ds) w K Q:=
  k_bin hx hy (guard_int ..) (by subst hc;simp[binOp,Op.intArith,wrap_in hr]) hk
theorem k_mul {c:Int}(hx:ev N e x=.int .i64 a)(hy:ev N e y=.int .i64 b)(hr:In64 (a*b))(hc:a*b=c)(hk:K (act N (upd e d (.int .i64 c)) ds) w):
    Oper.wpIn (Fw r) n P ⟨some d,.binOp .mul t x y t',ty,pos,af,g⟩ (act N e ds) w K Q:=
  k_bin hx hy (guard_int ..) (by subst hc;simp[binOp,Op.intArith,wrap_in hr]) hk
theorem k_quo (hx:ev N e x=.int .i64 a)(hy:ev N e y=.int .i64 b){c:Int}(h0:0<=a)(h1:1<=b)(hr:In64 a)(hc:a/b=c)(hk:K (act N (upd e d (.int .i64 c)) ds) w):
    Oper.wpIn (Fw r) n P ⟨some d,.binOp .quo t x y t',ty,pos,af,g⟩ (act N e ds) w K Q:=
  k_bin hx hy (guard_int ..) (by subst hc;simp[binOp,Op.intDiv,show b≠0 by omega,IntWalk.i64_quo a b ⟨h0,hr.2,h1⟩]) hk
theorem k_rem (hx:ev N e x=.int .i64 a)(hy:ev N e y=.int .i64 b){c:Int}(h0:0<=a)(h1:1<=b)(hc:a%b=c)(hk:K (act N (upd e d (.int .i64 c)) ds) w):
    Oper.wpIn (Fw r) n P ⟨some d,.binOp .rem t x y t',ty,pos,af,g⟩ (act N e ds) w K Q:=
  k_bin hx hy (guard_int ..) (by subst hc;simp[binOp,Op.intDiv,show b≠0 by omega,Int.tmod_eq_emod_of_nonneg h0]) hk
theorem k_lss (hx:ev N e x=.int k a)(hy:ev N e y=.int k b)(hq:decide (a<b)=q)(hk:K (act N (upd e d (.bool q)) ds) w):
    Oper.wpIn (Fw r) n P ⟨some d,.binOp .lss t x y t',ty,pos,af,g⟩ (act N e ds) w K Q:=
  k_bin hx hy (guard_int ..) (by subst hq;simp[binOp,Op.intCmp]) hk
theorem k_leq (hx:ev N e x=.int k a)(hy:ev N e y=.int k b)(hq:decide (a<=b)=q)(hk:K (act N (upd e d (.bool q)) ds) w):
    Oper.wpIn (Fw r) n P ⟨some d,.binOp .leq t x y t',ty,pos,af,g⟩ (act N e ds) w K Q:=
  k_bin hx hy (guard_int ..) (by subst hq;simp[binOp,Op.intCmp]) hk
theorem k_gtr (hx:ev N e x=.int k a)(hy:ev N e y=.int k b)(hq:decide (b<a)=q)(hk:K (act N (upd e d (.bool q)) ds) w):
    Oper.wpIn (Fw r) n P ⟨some d,.binOp .gtr t x y t',ty,pos,af,g⟩ (act N e ds) w K Q:=
  k_bin hx hy (guard_int ..) (by subst hq;simp[binOp,Op.intCmp]) hk
theorem k_geq (hx:ev N e x=.int k a)(hy:ev N e y=.int k b)(hq:decide (b<=a)=q)(hk:K (act N (upd e d (.bool q)) ds) w):
    Oper.wpIn (Fw r) n P ⟨some d,.binOp .geq t x y t',ty,pos,af,g⟩ (act N e ds) w K Q:=
  k_bin hx hy (guard_int ..) (by subst hq;simp[binOp,Op.intCmp]) hk
theorem k_eql (hx:ev N e x=.int k a)(hy:ev N e y=.int k b)(hq:decide (a=b)=q)(hk:K (act N (upd e d (.bool q)) ds) w):
    Oper.wpIn (Fw r) n P ⟨some d,.binOp .eql t x y t',ty,pos,af,g⟩ (act N e ds) w K Q:=
  k_bin hx hy (guard_int ..) (by subst hq;simp[binOp,Op.intCmp];rfl) hk
theorem k_neq (hx:ev N e x=.int k a)(hy:ev N e y=.int k b)(hq:(!decide (a=b))=q)(hk:K (act N (upd e d (.bool q)) ds) w):
    Oper.wpIn (Fw r) n P ⟨some d,.binOp .neq t x y t',ty,pos,af,g⟩ (act N e ds) w K Q:=
  k_bin hx hy (guard_int ..) (by subst hq;simp[binOp,Op.intCmp];rfl) hk
theorem equal_bool {a b:Bool}(hu:P.underlying t=some .bool)(m:Nat):(Op.equalIn (m+1) t (.bool a) (.bool b)).run P w=.ok (a==b) w:=by
  simp[Op.equalIn,run_underlying hu]
theorem equal_bool' {a b:Bool}(hu:P.underlying t=some .bool):(Op.equal t (.bool a) (.bool b)).run P w=.ok (a==b) w:=equal_bool hu 9999
theorem k_eqlB {a b:Bool}(hu:P.underlying t=some .bool)(hx:ev N e x=.bool a)(hy:ev N e y=.bool b)(hq:(a==b)=q)(hk:K (act N (upd e d (.bool q)) ds) w):
    Oper.wpIn (Fw r) n P ⟨some d,.binOp .eql t x y t',ty,pos,af,g⟩ (act N e ds) w K Q:=
  k_bin hx hy (guard_bool ..) (by subst hq;simp[binOp,equal_bool' hu]) hk
theorem k_neqB {a b:Bool}(hu:P.underlying t=some .bool)(hx:ev N e x=.bool a)(hy:ev N e y=.bool b)(hq:(!(a==b))=q)(hk:K (act N (upd e d (.bool q)) ds) w):
    Oper.wpIn (Fw r) n P ⟨some d,.binOp .neq t x y t',ty,pos,af,g⟩ (act N e ds) w K Q:=
  k_bin hx hy (guard_bool ..) (by subst hq;simp[binOp,equal_bool' hu]) hk
def S (l:List UInt8):Value:=.string ⟨l.toArray⟩
theorem k_eqlS {a b:List UInt8}(hx:ev N e x=S a)(hy:ev N e y=S b)(hq:decide (a=b)=q)(hk:K (act N (upd e d (.bool q)) ds) w):
    Oper.wpIn (Fw r) n P ⟨some d,.binOp .eql t x y t',ty,pos,af,g⟩ (act N e ds) w K Q:=
  k_bin hx hy (guard_str ..) (by subst hq;simp[binOp,Op.stringOp,S];exact Bool.eq_iff_iff.2 (by simp)) hk
theorem k_neqS {a b:List UInt8}(hx:ev N e x=S a)(hy:ev N e y=S b)(hq:(!decide (a=b))=q)(hk:K (act N (upd e d (.bool q)) ds) w):
    Oper.wpIn (Fw r) n P ⟨some d,.binOp .neq t x y t',ty,pos,af,g⟩ (act N e ds) w K Q:=
  k_bin hx hy (guard_str ..) (by subst hq;simp[binOp,Op.stringOp,S];exact Bool.eq_iff_iff.2 (by simp)) hk
theorem k_addS {a b:List UInt8}(hx:ev N e x=S a)(hy:ev N e y=S b)(hl:a.length+b.length<=9223372036854775807)(hk:K (act N (upd e d (S (a++b))) ds) w):
    Oper.wpIn (Fw r) n P ⟨some d,.binOp .add t x y t',ty,pos,af,g⟩ (act N e ds) w K Q:=
  k_bin hx hy (guard_str ..) (by
    have h63:¬((((a.length+b.length:Nat):Int))>IntKind.i64.max):=by show¬((((a.length+b.length:Nat):Int))>9223372036854775807);omega
    have e1:(ByteArray.mk a.toArray).size=a.length:=by simp[ByteArray.size]
    have e2:(ByteArray.mk b.toArray).size=b.length:=by simp[ByteArray.size]
    have e3:ByteArray.mk a.toArray++ByteArray.mk b.toArray=ByteArray.mk (a++b).toArray:=by
      apply ByteArray.ext;simp[ByteArray.data_append]
    simp only[binOp,S,Op.stringOp,e1,e2,if_neg h63,e3]
    rfl) hk
theorem k_not {a:Bool}(hx:ev N e x=.bool a)(hq:(!a)=q)(hk:K (act N (upd e d (.bool q)) ds) w):
    Oper.wpIn (Fw r) n P ⟨some d,.unOp .not t x,ty,pos,af,g⟩ (act N e ds) w K Q:=
  k_val (v:=.bool q) (w':=w) rfl (by subst hq;simp[execOp,hx,Op.unary]) (by rw[act_put];exact hk)
theorem k_neg (hx:ev N e x=.int .i64 a)(hr:In64 (-a))(hk:K (act N (upd e d (.int .i64 (-a))) ds) w):
    Oper.wpIn (Fw r) n P ⟨some d,.unOp .neg t x,ty,pos,af,g⟩ (act N e ds) w K Q:=
  k_val (v:=.int .i64 (-a)) (w':=w) rfl (by
    have:IntKind.i64.wrap (0-a)=-a:=by rw[wrap_in (by rw[Int.zero_sub];exact hr),Int.zero_sub]
    simp[execOp,hx,Op.unary,Op.intArith];simpa using this) (by rw[act_put];exact hk)
theorem k_extract {vs:Array Value}{i:Nat}(hx:ev N e x=.tuple vs)(hv:vs[i]?=some v)(hk:K (act N (upd e d v) ds) w):
    Oper.wpIn (Fw r) n P ⟨some d,.extract x i,ty,pos,af,g⟩ (act N e ds) w K Q:=
  k_val (v:=v) (w':=w) rfl (by simp[execOp,hx,Instr.extract,hv]) (by rw[act_put];exact hk)
theorem k_byte {l:List UInt8}{i:Nat}{c:UInt8}(hu:P.underlying t=some .string)(hx:ev N e x=S l)(hy:ev N e y=.int k (i:Int))(hc:l[i]?=some c)(hk:K (act N (upd e d (.int .u8 c.toNat)) ds) w):Oper.wpIn (Fw r) n P ⟨some d,.index t x y,ty,pos,af,g⟩ (act N e ds) w K Q:=by
  refine k_val (v:=.int .u8 c.toNat) (w':=w) rfl ?_ (by rw[act_put];exact hk)
  have hi:i<l.length:=(List.getElem?_eq_some_iff.1 hc).1
  have h1:(ByteArray.mk l.toArray)[i]?=some c:=by
    have hs:i<(ByteArray.mk l.toArray).size:=by simpa[ByteArray.size]using hi
    rw[getElem?_pos (ByteArray.mk l.toArray) i hs]
    have:=(List.getElem?_eq_some_iff.1 hc).2
    simp only[Option.some.injEq]
    rw[<-this];rfl
  simp[execOp,hx,hy,S,Instr.index,asIntOf,run_underlying hu,h1]
theorem k_indexAddr {el:TypeId}{A:Option Addr}{bk o m c i s oo:Nat}(hu:P.underlying t=some (.slice el))(hs:(P.info? el).map (·.size)=some s)(hx:ev N e x=.slice A m c)(hA:A=some ⟨bk,o,none⟩)(hy:ev N e y=.int k (i:Int))(hlt:i<m)(hoo:o+i*s=oo)(hk:K (act N (upd e d (.pointer (some ⟨bk,oo,none⟩))) ds) w):Oper.wpIn (Fw r) n P ⟨some d,.indexAddr t x y,ty,pos,af,g⟩ (act N e ds) w K Q:=by
  refine k_val (v:=.pointer (some ⟨bk,oo,none⟩)) (w':=w) rfl ?_ (by rw[act_put];exact hk)
  subst hA hoo
  cases hi:P.info? el with
  |none=>simp[hi]at hs
  | some inf=>
    have hs':inf.size=s:=by simpa[hi]using hs
    subst hs'
    simp[execOp,hx,hy,Instr.indexAt,run_underlying hu,asIntOf,hlt,sizeOf,typeInfo,hi,Addr.add_mid]
theorem k_makeFunc {fn:Fn}{fs cs:Array Operand}{vf vc:List Value}(hf:fs.toList.map (ev N e)=vf)(hc:cs.toList.map (ev N e)=vc)(hk:K (act N (upd e d (.func fn vf.toArray vc.toArray)) ds) w):
    Oper.wpIn (Fw r) n P ⟨some d,.makeFunc fn fs cs,ty,pos,af,g⟩ (act N e ds) w K Q:=
  k_val (v:=.func fn vf.toArray vc.toArray) (w':=w) rfl (by subst hf hc;rw[<-Array.toList_map,<-Array.toList_map,Array.toArray_toList,Array.toArray_toList];rfl) (by rw[act_put];exact hk)
theorem k_max (hx:ev N e x=.int k a)(hy:ev N e y=.int k b){m:Int}(hm:(if a<b then b else a)=m)(hk:K (act N (upd e d (.int k m)) ds) w){ats:Array TypeId}:
    Oper.wpIn (Fw r) n P ⟨some d,.call {callee:=.builtin .max,args:=#[x,y],argTypes:=ats},ty,pos,af,g⟩ (act N e ds) w K Q:=
  k_val (v:=.int k m) (w':=w) rfl (by subst hm;simp[execOp,resolve,invoke,builtin,Builtin.max_,hx,hy,Builtin.max2,List.foldlM]) (by rw[act_put];exact hk)
theorem k_sliceS {l:List UInt8}{lo hi:Option Operand}{i j:Nat}(hu:P.underlying t=some .string)(hx:ev N e x=S l)(hlo:(lo.map (ev N e))=none∧i=0∨∃k,lo.map (ev N e)=some (.int k (i:Int)))(hhi:(hi.map (ev N e))=none∧j=l.length∨∃k,hi.map (ev N e)=some (.int k (j:Int)))(hij:i<=j)(hj:j<=l.length)(hk:K (act N (upd e d (S ((l.take j).drop i))) ds) w):
    Oper.wpIn (Fw r) n P ⟨some d,.slice t x lo hi none,ty,pos,af,g⟩ (act N e ds) w K Q:=by
  refine k_val (v:=S ((l.take j).drop i)) (w':=w) rfl ?_ (by rw[act_put];exact hk)
  have hsz:(ByteArray.mk l.toArray).size=l.length:=by simp[ByteArray.size]
  have hex:(ByteArray.mk l.toArray).extract i j=ByteArray.mk ((l.take j).drop i).toArray:=by
    apply ByteArray.ext
    simp[ByteArray.data_extract,List.drop_take]
  rcases hlo with⟨hlo,rfl⟩|⟨k1,hlo⟩ <;>rcases hhi with⟨hhi,rfl⟩|⟨k2,hhi⟩ <;>
    simp[execOp,hx,S,Instr.sliceAt,run_underlying hu,Instr.slice,Instr.sliceBounds,Instr.sliceBound,asIntOf,hlo,hhi,hsz,hex,hij,hj]
theorem k_sliceR {el:TypeId}{A:Option Addr}{m c s i j:Nat}{lo hi:Option Operand}(hu:P.underlying t=some (.slice el))(hi0:(P.info? el).map (·.size)=some s)(hx:ev N e x=.slice A m c)(hlo:(lo.map (ev N e))=none∧i=0∨∃k,lo.map (ev N e)=some (.int k (i:Int)))(hhi:(hi.map (ev N e))=none∧j=m∨∃k,hi.map (ev N e)=some (.int k (j:Int)))(hij:i<=j)(hj:j<=c)(hk:K (act N (upd e d (.slice (if c=i then A else A.map (·.add (i*s))) (j-i) (c-i))) ds) w):
    Oper.wpIn (Fw r) n P ⟨some d,.slice t x lo hi none,ty,pos,af,g⟩ (act N e ds) w K Q:=by
  refine k_val (v:=.slice (if c=i then A else A.map (·.add (i*s))) (j-i) (c-i)) (w':=w) rfl ?_ (by rw[act_put];exact hk)
  obtain⟨inf,hi',hs⟩:∃inf,P.info? el=some inf∧inf.size=s:=by
    cases hq:P.info? el with
    |none=>rw[hq]at hi0;cases hi0
    |some inf=>rw[hq]at hi0;exact⟨inf,rfl,by simpa using hi0⟩
  subst hs
  rcases hlo with⟨hlo,rfl⟩|⟨k1,hlo⟩ <;>rcases hhi with⟨hhi,rfl⟩|⟨k2,hhi⟩ <;>
    simp[execOp,hx,Instr.sliceAt,run_underlying hu,Instr.slice,Instr.sliceBounds,Instr.sliceBound,asIntOf,hlo,hhi,hij,hj,sizeOf,typeInfo,hi']
theorem k_cut {el:TypeId}{A:Option Addr}{m c j:Nat}{hi:Operand}{s:Nat}(hu:P.underlying t=some (.slice el))(hi0:(P.info? el).map (·.size)=some s)(hx:ev N e x=.slice A m c)(hhi:ev N e hi=.int k (j:Int))(hj:j<=c)(hk:K (act N (upd e d (.slice A j c)) ds) w):
    Oper.wpIn (Fw r) n P ⟨some d,.slice t x none (some hi) none,ty,pos,af,g⟩ (act N e ds) w K Q:=by
  refine k_sliceR (i:=0) (j:=j) hu hi0 hx (.inl ⟨rfl,rfl⟩) (.inr ⟨k,congrArg some hhi⟩) (Nat.zero_le _) hj ?_
  have:(if c=0 then A else A.map (·.add (0*s)))=A:=by
    split
    · rfl
    · cases A <;>simp[Addr.add]
  rw[this]
  exact hk
end ops2
section grow
variable {w w' w0:World}{row:Option Nat}{lo B:Nat}{A:Option Addr}{cs:List Value}
theorem Ext.of_gr (h:w.grownBy w' none):Ext w w':=⟨h.os,h.tape,h.output,h.size,λk hk=>h.block k hk (by simp)⟩
theorem low_gr (h:Below B w0 w)(k:w.grownBy w' row)(hB:B<=w.heap.size)(hr:∀g,row=some g->B<=g):Below B w0 w':=h.grown k hB hr
theorem Blk.gr {b:Nat}{t:TypeId}{cs:Array Value}(k:w.grownBy w' row)(hne:some b≠row)(h:Blk w b t cs):Blk w' b t cs:=(k.block b h.lt hne).trans h
theorem Rw.gr (k:w.grownBy w' row)(hne:∀ad,A=some ad->some ad.block≠row)(h:Rw w lo A cs):Rw w' lo A cs:=
  ⟨λj u hu=>by
    obtain⟨b,o,hA,hc⟩:=h.cells j u hu
    exact⟨b,o,hA,(World.cell?_of_block (k.block b (h.hi _ hA) (hne _ hA))).trans hc⟩,h.lo,λad hA=>Nat.lt_of_lt_of_le (h.hi ad hA) k.size⟩
theorem Rw.of_own {et:TypeId}{sz n c:Nat}(h:w.ownsRow lo et sz (.slice A n c) n cs):Rw w lo A cs:=by
  obtain⟨hl,hv|⟨g,cap,cur,hv,hg,hh,hc,hm,hs,ht⟩⟩:=h
  · simp only[Value.slice.injEq]at hv
    obtain⟨⟨rfl,rfl,rfl⟩,_⟩:=hv
    have:cs=[]:=List.eq_nil_of_length_eq_zero (by simpa using hl)
    subst this
    exact Rw.nil w lo
  · simp only[Value.slice.injEq]at hv
    obtain⟨rfl,_,rfl⟩:=hv
    have hlt:g<w.heap.size:=(Array.getElem?_eq_some_iff.1 hh).1
    refine⟨λj u hu=>⟨g,0,rfl,?_⟩,λad hA=>by cases hA;exact hg,λad hA=>by cases hA;exact hlt⟩
    have hj:j<cs.length:=(List.getElem?_eq_some_iff.1 hu).1
    rw[<-ht,List.getElem?_take,if_pos (by omega)]at hu
    simp only[World.cell?,hh,Nat.zero_add]
    simpa using hu
theorem own_form {et:TypeId}{sz n:Nat}{v:Value}(h:w.ownsRow lo et sz v n cs):∃A c,v=.slice A n c∧n<=c∧c<=maxLen∧(∀ad,A=some ad->v.ownBlock=some ad.block∧lo<=ad.block∧ad.block<w.heap.size)∧(A=none->v.ownBlock=none):=by
  obtain⟨hl,⟨rfl,rfl⟩|⟨g,cap,cur,rfl,hg,hh,hc,hm,hs,ht⟩⟩:=h
  · exact⟨none,0,rfl,Nat.le_refl _,by simp[maxLen],(λad hA=>by cases hA),λ_=>rfl⟩
  · exact⟨_,cap,rfl,hc,hm,λad hA=>by cases hA;exact⟨rfl,hg,(Array.getElem?_eq_some_iff.1 hh).1⟩,(λhA=>by cases hA)⟩
theorem own_ext {et:TypeId}{sz n:Nat}{v:Value}(k:Ext w w')(h:w.ownsRow lo et sz v n cs):w'.ownsRow lo et sz v n cs:=by
  obtain⟨hl,hv|⟨g,cap,cur,hv,hg,hh,r⟩⟩:=h
  · exact⟨hl,.inl hv⟩
  · exact⟨hl,.inr ⟨g,cap,cur,hv,hg,k.heap hh,r⟩⟩
theorem own_put {b:Nat}{et:TypeId}{sz n:Nat}{v:Value}(k:Put w w' b)(hne:v.ownBlock≠some b)(h:w.ownsRow lo et sz v n cs):w'.ownsRow lo et sz v n cs:=by
  obtain⟨hl,hv|⟨g,cap,cur,rfl,hg,hh,r⟩⟩:=h
  · exact⟨hl,.inl hv⟩
  · exact⟨hl,.inr ⟨g,cap,cur,rfl,hg,(k.block g (λe=>hne (by simp[Value.ownBlock,e]))).trans hh,r⟩⟩
theorem own_gr {et:TypeId}{sz n:Nat}{v:Value}(k:w.grownBy w' row)(hne:∀g,v.ownBlock=some g->some g≠row)(h:w.ownsRow lo et sz v n cs):w'.ownsRow lo et sz v n cs:=by
  obtain⟨hl,hv|⟨g,cap,cur,rfl,hg,hh,r⟩⟩:=h
  · exact⟨hl,.inl hv⟩
  · exact⟨hl,.inr ⟨g,cap,cur,rfl,hg,(k.block g (Array.getElem?_eq_some_iff.1 hh).1 (hne g rfl)).trans hh,r⟩⟩
end grow
section ops3
variable {P:Program}{r:Option Nat}{n N:Nat}{e:Nat->Value}{ds:List Deferred}{w:World}{Q:Exit->Act->World->Prop}{K:Act->World->Prop}
variable {d ty:Nat}{pos:String}{af:Array Edge}{g:Option (Nat×Bool)}{v u:Value}{x y:Operand}{t t':TypeId}
theorem run_append_none (base:Nat)(ty e:TypeId)(i:TypeInfo)(size:Nat)(ht:P.underlying t=some (.slice e))(hi:P.info? e=some i)(v:Value)(n:Nat)(xs:List Value)(hown:w.ownsRow base e size v n xs)(c:Nat):(Builtin.append_ #[t,t] ty #[v,.slice none 0 c]).run P w=.ok v w:=by
  rcases hown.2 with⟨rfl,rfl⟩|⟨g,cap,cur,rfl,_,_,hnc,_⟩
  · simp[Builtin.append_,run_underlying ht,sizeOf,typeInfo,hi,Builtin.lenOf,Builtin.firstCells]
  · simp[Builtin.append_,run_underlying ht,sizeOf,typeInfo,hi,Builtin.lenOf,Builtin.firstCells,hnc,storeCells]
theorem k_append {el:TypeId}{z:Value}{size bytes base lo m c k:Nat}{A:Option Addr}{xs news:List Value}(hu:P.underlying t=some (.slice el))(hi:Inf P el z size bytes)(hz:z.cells.size=size)(hs:0<size)(hx:ev N e x=v)(hown:w.ownsRow base el size v k xs)(hy:ev N e y=.slice A m c)(hr:Rw w lo A news)(hl:news.length=m*size)(h1:∀u∈news,u.oneCell'=true)(h63:k+m<=maxLen)(hb:(k+m)*bytes<=140737488355328)(hbase:base<=w.heap.size)(hk:∀v' w',w'.ownsRow base el size v' (k+m) (xs++news)->w.grownBy w' v.ownBlock->(v'.ownBlock=v.ownBlock∨v'.ownBlock=some w.heap.size)->K (act N (upd e d v') ds) w'):
    Oper.wpIn (Fw r) n P ⟨some d,.call {callee:=.builtin .append,args:=#[x,y],argTypes:=#[t,t]},ty,pos,af,g⟩ (act N e ds) w K Q:=by
  obtain⟨i,i1,i2,i3,i4⟩:=hi.parts
  have key:∃v' w',(Builtin.append_ #[t,t] ty #[v,.slice A m c]).run P w=.ok v' w'∧w'.ownsRow base el size v' (k+m) (xs++news)∧w.grownBy w' v.ownBlock∧(v'.ownBlock=v.ownBlock∨v'.ownBlock=some w.heap.size):=by
    by_cases hm:news=[]
    · subst hm
      have hm0:m=0:=by
        rcases Nat.eq_zero_or_pos m with h|h
        · exact h
        · have:=Nat.mul_pos h hs;simp at hl;omega
      subst hm0
      rcases A with _|ad
      · exact⟨v,w,run_append_none base ty el i size hu i1 v k xs hown c,by simpa using hown,World.grownBy.refl w _,.inl rfl⟩
      · obtain⟨v',w',hrun,h2,h3,_,h5⟩:=run_append_own_at (P:=P) w base t ty el i z size bytes hu i1 i2 i3 i4 hz hs v k xs hown ad 0 c [] (by simp) (λj u hu=>by simp at hu) (by simp) h63 hb hbase
        exact⟨v',w',hrun,h2,h3,h5⟩
    · have hlt:0<news.length:=List.length_pos_iff.2 hm
      obtain⟨b,o,hA,_⟩:=hr.cells 0 news[0] (List.getElem?_eq_getElem hlt)
      subst hA
      obtain⟨v',w',hrun,h2,h3,_,h5⟩:=run_append_own_at (P:=P) w base t ty el i z size bytes hu i1 i2 i3 i4 hz hs v k xs hown ⟨b,o,none⟩ m c news hl
        (λj u hu=>by obtain⟨_,_,hA,hc⟩:=hr.cells j u hu;cases hA;rw[Addr.add_mid];exact hc) h1 h63 hb hbase
      exact⟨v',w',hrun,h2,h3,h5⟩
  obtain⟨v',w',hrun,h2,h3,h4⟩:=key
  refine k_val (v:=v') (w':=w') rfl ?_ (by rw[act_put];exact hk v' w' h2 h3 h4)
  simp[execOp,resolve,invoke,builtin,hx,hy,hrun]
theorem k_make {el:TypeId}{z:Value}{size bytes m:Nat}{kl kc:IntKind}(hu:P.underlying t=some (.slice el))(hi:Inf P el z size bytes)(hx:ev N e x=.int kl m)(hy:ev N e y=.int kc m)(hb:bytes*m<=281474976710656)(h63:m<=maxLen)(hk:∀w',Ext w w'->w.heap.size<w'.heap.size->w'.ownsRow w.heap.size el size (.slice (some ⟨w.heap.size,0,none⟩) m m) m (madeCells z.cells (m*size)).toList->K (act N (upd e d (.slice (some ⟨w.heap.size,0,none⟩) m m)) ds) w'):
    Oper.wpIn (Fw r) n P ⟨some d,.makeSlice t x y,ty,pos,af,g⟩ (act N e ds) w K Q:=by
  obtain⟨i,i1,i2,i3,i4⟩:=hi.parts
  subst i4
  obtain⟨w',hrun,r1,r2⟩:=run_make_full (P:=P) w w.heap.size t el i z size hu i1 i2 i3 kl kc m hb h63 (Nat.le_refl _)
  have hlt:w.heap.size<w'.heap.size:=by
    obtain⟨_,h|⟨g,cap,cur,hv,hg,hh,_⟩⟩:=r1
    · simp at h
    · simp only[Value.slice.injEq,Option.some.injEq,Addr.mk.injEq]at hv
      obtain⟨⟨rfl,_⟩,_⟩:=hv
      exact(Array.getElem?_eq_some_iff.1 hh).1
  refine k_val (v:=.slice (some ⟨w.heap.size,0,none⟩) m m) (w':=w') rfl ?_ (by rw[act_put];exact hk w' (Ext.of_gr r2) hlt r1)
  simp[execOp,hx,hy,hrun]
theorem k_make0 {el:TypeId}{z:Value}{size bytes m:Nat}{kl kc:IntKind}(hu:P.underlying t=some (.slice el))(hi:Inf P el z size bytes)(hx:ev N e x=.int kl 0)(hy:ev N e y=.int kc m)(hb:bytes*m<=281474976710656)(h63:m<=maxLen)(hk:∀w',Ext w w'->w'.ownsRow w.heap.size el size (.slice (some ⟨w.heap.size,0,none⟩) 0 m) 0 []->K (act N (upd e d (.slice (some ⟨w.heap.size,0,none⟩) 0 m)) ds) w'):
    Oper.wpIn (Fw r) n P ⟨some d,.makeSlice t x y,ty,pos,af,g⟩ (act N e ds) w K Q:=by
  obtain⟨i,i1,i2,i3,i4⟩:=hi.parts
  subst i4
  obtain⟨w',hrun,r1,r2⟩:=run_make_own (P:=P) w w.heap.size t el i z size hu i1 i2 i3 kl kc m hb h63 (Nat.le_refl _)
  refine k_val (v:=.slice (some ⟨w.heap.size,0,none⟩) 0 m) (w':=w') rfl ?_ (by rw[act_put];exact hk w' (Ext.of_gr r2) r1)
  simp[execOp,hx,hy,hrun]
theorem k_buildSlice {el:TypeId}{z:Value}{size bytes m:Nat}{parts:Array (Nat×Operand)}{vs:List (Nat×Value)}{cells:Array Value}(hu:P.underlying t=some (.slice el))(hi:Inf P el z size bytes)(hp:(parts.toList.map fun(i,x)=>(i,ev N e x))=vs)(h24:m*size<=16777216)(hm:0<m*size)(hf:Instr.fill (λi=>some (i*size,size)) ((Array.range (m*size)).map (z.cells[· %z.cells.size]!)) vs=some cells)(hsz:cells.size=m*size)(hmm:m<=maxLen)(hk:∀w',Ext w w'->w.heap.size<w'.heap.size->w'.ownsRow w.heap.size el size (.slice (some ⟨w.heap.size,0,none⟩) m m) m cells.toList->K (act N (upd e d (.slice (some ⟨w.heap.size,0,none⟩) m m)) ds) w'):
    Oper.wpIn (Fw r) n P ⟨some d,.buildSlice t m parts,ty,pos,af,g⟩ (act N e ds) w K Q:=by
  obtain⟨i,i1,i2,i3,_⟩:=hi.parts
  subst i3
  refine k_val (v:=.slice (some ⟨w.heap.size,0,none⟩) m m) (w':=w.alloc (.cells cells el)) rfl ?_ (by
    rw[act_put]
    exact hk _ (Ext.alloc _ _) (by simp) ⟨by simpa using hsz,.inr ⟨w.heap.size,m,cells,rfl,Nat.le_refl _,heap_alloc_new w _,Nat.le_refl _,hmm,hsz,by rw[List.take_of_length_le (by simp[hsz])]⟩⟩)
  have hp':(parts.map fun(i,x)=>(i,ev N e x)).toList=vs:=by rw[<-hp];simp
  subst hp'
  have h2:¬m*i.size>2^24:=by omega
  have h3:¬(m*i.size=0):=by omega
  simp only[execOp,Instr.buildSlice,Sem.run_bind,run_underlying hu,Result.andThen_ok,sizeOf,typeInfo,run_program,i1,Sem.run_pure,zeroValue,i2,h2,if_false,h3,hf,newRow,run_newObj,World.alloc_eq]
theorem mapM_places {w:World}:∀(fs:List Field) (pl:List (Nat×Nat)),fs.map (λf=>(f.offset,(P.info? f.type).map (·.size)))=pl.map (λp=>(p.1,some p.2))->
    (fs.mapM λf=>(do pure (f.offset,<-sizeOf f.type):Sem (Nat×Nat))).run P w=.ok pl w
  |[],[],_=>by simp
  |[],p::pl,h=>by simp at h
  |f::fs,[],h=>by simp at h
  | f ::fs,p::pl,h=>by
    simp only[List.map_cons,List.cons.injEq,Prod.mk.injEq]at h
    obtain⟨⟨h1,h2⟩,h3⟩:=h
    have ih:=mapM_places (w:=w) fs pl h3
    cases hi:P.info? f.type with
    |none=>rw[hi]at h2;cases h2
    | some i=>
      rw[hi]at h2
      simp only[Option.map_some,Option.some.injEq]at h2
      have hs:(sizeOf f.type).run P w=.ok p.2 w:=by simp[sizeOf,typeInfo,hi,h2]
      rw[List.mapM_cons]
      simp only[Sem.run_bind,hs,Result.andThen_ok,Sem.run_pure]at ih ⊢
      rw[ih]
      simp[h1]
theorem k_build {fs:Array Field}{z:Value}{size bytes:Nat}{parts:Array (Nat×Operand)}{vs:List (Nat×Value)}{pl:List (Nat×Nat)}{cells:Array Value}(hu:P.underlying t=some (.struct fs))(hi:Inf P t z size bytes)(hpl:fs.toList.map (λf=>(f.offset,(P.info? f.type).map (·.size)))=pl.map (λp=>(p.1,some p.2)))(hp:(parts.toList.map fun(i,x)=>(i,ev N e x))=vs)(hf:Instr.fill (pl.toArray[·]?) z.cells vs=some cells)(hk:K (act N (upd e d (.agg cells)) ds) w):
    Oper.wpIn (Fw r) n P ⟨some d,.build t parts,ty,pos,af,g⟩ (act N e ds) w K Q:=by
  obtain⟨i,i1,i2,_,_⟩:=hi.parts
  refine k_val (v:=.agg cells) (w':=w) rfl ?_ (by rw[act_put];exact hk)
  have hp':(parts.map fun(i,x)=>(i,ev N e x)).toList=vs:=by rw[<-hp];simp
  subst hp'
  have hw:=mapM_places (P:=P) (w:=w) fs.toList pl hpl
  have hw2:(fs.mapM λf=>(do pure (f.offset,<-sizeOf f.type):Sem (Nat×Nat))).run P w=.ok pl.toArray w:=by
    rw[Array.mapM_eq_mapM_toList]
    simp only[Sem.run_map,hw,Result.andThen_ok]
  simp only[execOp,Instr.build,Sem.run_bind,run_underlying hu,Result.andThen_ok,zeroValue,typeInfo,run_program,i1,Sem.run_pure,i2]
  erw [hw2]
  simp only[Result.andThen_ok,hf]
  rfl
end ops3
section code
variable {P:Program}{r:Option Nat}{n N:Nat}{e:Nat->Value}{ds:List Deferred}{w:World}{Q:Exit->Act->World->Prop}{K:Act->World->Prop}{a:Act}
variable {ops:Array Oper}{rest:List Oper}{dst:Option Tmp}{op:Op}{ty:Nat}{pos:String}{af:Array Edge}{id:Nat}{c c1 c2:Code}
theorem l_op (h:Oper.wpIn (Fw r) n P ⟨dst,op,ty,pos,af,none⟩ a w (wpListIn (Fw r) n P ops Q rest) Q):wpListIn (Fw r) n P ops Q (⟨dst,op,ty,pos,af,none⟩::rest) a w:=by
  unfold wpListIn
  rw[if_pos (by simp[Region.wanted])]
  exact h
theorem yielded_act {j s:Nat}(hj:(ops[j]?).bind (·.dst)=some s){q:Bool}(hv:ev N e (.tmp s)=.bool q):yielded ops (act N e ds).tmps j=some q:=by
  have h1:(act N e ds).tmps[s]?=some (.bool q):=by
    have h2:(act N e ds).eval (.tmp s)=.bool q:=by rw[act_eval];exact hv
    simp only[Act.eval]at h2
    by_cases hs:s<(act N e ds).tmps.size
    · simp only[Array.getD,hs,dif_pos]at h2
      rw[Array.getElem?_eq_getElem hs]
      exact congrArg some h2
    · simp only[Array.getD,hs,dif_neg,not_false_eq_true]at h2
      simp[undef]at h2
  simp[yielded,hj,h1]
def dstOf (l:List Oper)(j:Nat):Option Nat:=(l[j]?).bind (·.dst)
theorem l_want {l:List Oper}{j s:Nat}{q:Bool}(hj:dstOf l j=some s)(hv:ev N e (.tmp s)=.bool q)(h:wpListIn (Fw r) n P l.toArray Q (⟨dst,op,ty,pos,af,none⟩::rest) (act N e ds) w):wpListIn (Fw r) n P l.toArray Q (⟨dst,op,ty,pos,af,some (j,q)⟩::rest) (act N e ds) w:=by
  have hj':(l.toArray[j]?).bind (·.dst)=some s:=by rw[List.getElem?_toArray];exact hj
  unfold wpListIn at h ⊢
  rw[if_pos (by simp[Region.wanted])]at h
  rw[if_pos (by simp[Region.wanted,yielded_act hj' hv])]
  obtain⟨_,h2⟩:=h
  exact⟨λf _=>Fw_fn r f,h2⟩
theorem l_not {l:List Oper}{j s d:Nat}{q:Bool}(hj:dstOf l j=some s)(hv:ev N e (.tmp s)=.bool (!q))(h:wpListIn (Fw r) n P l.toArray Q rest (act N (upd e d undef) ds) w):wpListIn (Fw r) n P l.toArray Q (⟨some d,op,ty,pos,af,some (j,q)⟩::rest) (act N e ds) w:=by
  have hj':(l.toArray[j]?).bind (·.dst)=some s:=by rw[List.getElem?_toArray];exact hj
  unfold wpListIn
  rw[if_neg (by simp[Region.wanted,yielded_act hj' hv])]
  exact⟨λf _=>Fw_fn r f,by rw[act_put];exact h⟩
theorem l_nil (h:Q .normal a w):wpListIn (Fw r) n P ops Q [] a w:=h
theorem c_seq (h:c1.wpIn (Fw r) n P (Exit.then (c2.wpIn (Fw r) n P Q) Q) a w):(Code.seq c1 c2).wpIn (Fw r) n P Q a w:=wpIn_seq h
theorem c_reg {l:List Oper}(h:wpListIn (Fw r) n P l.toArray Q l a w):(Code.region id l.toArray false).wpIn (Fw r) n P Q a w:=wpIn_region_lit h
theorem c_block (h:c.wpIn (Fw r) n P (Exit.inBlock id Q) a w):(Code.block id c).wpIn (Fw r) n P Q a w:=wpIn_block h
theorem c_true {x:Operand}(hx:ev N e x=.bool true)(h:c1.wpIn (Fw r) n P Q (act N e ds) w):(Code.cond x c1 c2).wpIn (Fw r) n P Q (act N e ds) w:=wpIn_cond_true (by rw[act_eval];exact hx) h
theorem c_false {x:Operand}(hx:ev N e x=.bool false)(h:c2.wpIn (Fw r) n P Q (act N e ds) w):(Code.cond x c1 c2).wpIn (Fw r) n P Q (act N e ds) w:=wpIn_cond_false (by rw[act_eval];exact hx) h
theorem c_split {x:Operand}{q:Bool}(hx:ev N e x=.bool q)(h1:q=true->c1.wpIn (Fw r) n P Q (act N e ds) w)(h2:q=false->c2.wpIn (Fw r) n P Q (act N e ds) w):
    (Code.cond x c1 c2).wpIn (Fw r) n P Q (act N e ds) w:=wpIn_cond_split (by rw[act_eval];exact hx) h1 h2
theorem c_skip (h:Q .normal a w):Code.skip.wpIn (Fw r) n P Q a w:=wpIn_skip h
theorem c_exit (h:Q (.exit id) a w):(Code.exit id).wpIn (Fw r) n P Q a w:=wpIn_exit h
theorem c_ret (h:Q .ret a w):Code.ret.wpIn (Fw r) n P Q a w:=wpIn_ret h
theorem rounds_of (I:Nat->(Nat->Value)->World->Prop)(hs:∀k e w,I k e w->c.wpIn (Fw r) n P (Exit.then (λa' w'=>∃k' e',k'<k∧a'=act N e' ds∧I k' e' w') Q) (act N e ds) w):
    ∀(m k:Nat) (e:Nat->Value) (w:World),k<m->I k e w->Code.roundsIn (Fw r) n P c Q m (act N e ds) w
  |0,_,_,_,h,_=>absurd h (Nat.not_lt_zero _)
  | m +1,k,e,w,h,hI=>wpIn_mono (hs k e w hI) (by
      intro x a' w' hq
      cases x <;>first|exact hq|(obtain⟨k',e',hk,rfl,hI'⟩:=hq;exact rounds_of I hs m k' e' w' (by omega) hI'))
theorem c_loop (I:Nat->(Nat->Value)->World->Prop)(k:Nat)(h0:I k e w)(hs:∀k e w,I k e w->c.wpIn (Fw r) n P (Exit.then (λa' w'=>∃k' e',k'<k∧a'=act N e' ds∧I k' e' w') Q) (act N e ds) w):
    (Code.loop c).wpIn (Fw r) n P Q (act N e ds) w:=wpIn_loop_rounds (k+1) (rounds_of I hs (k+1) k e w (Nat.lt_succ_self k) h0)
def inB (l:List Nat)(t:Nat):Bool:=l.any λd=>Nat.beq d t
theorem same_upd {l:List Nat}{e1 e':Nat->Value}{d:Nat}{v:Value}(hd:inB l d=true)(h:∀t,inB l t=false->e' t=e1 t):∀t,inB l t=false->upd e' d v t=e1 t:=by
  intro t ht
  have:t≠d:=λhh=>by subst hh;rw[hd]at ht;cases ht
  rw[upd_ne _ _ this];exact h t ht
theorem x_then {id:Nat}(h:Q (.exit id) a w):Exit.then K Q (.exit id) a w:=h
theorem x_in {id:Nat}(h:Q .normal a w):Exit.inBlock id Q (.exit id) a w:=by simp only[Exit.inBlock,if_true];exact h
theorem x_by {id id':Nat}(hne:Nat.beq id' id=false)(h:Q (.exit id') a w):Exit.inBlock id Q (.exit id') a w:=by
  have:id'≠id:=λe=>by subst e;simp at hne
  simp only[Exit.inBlock,if_neg this];exact h
theorem n_then (h:K a w):Exit.then K Q .normal a w:=h
theorem n_in {id:Nat}(h:Q .normal a w):Exit.inBlock id Q .normal a w:=h
theorem r_then (h:Q .ret a w):Exit.then K Q .ret a w:=h
theorem r_in {id:Nat}(h:Q .ret a w):Exit.inBlock id Q .ret a w:=h
end code
section func
variable {P:Program}{f:FuncId}{fn:Func}{c:Code}{args:Array Value}{w:World}{R:Value->World->Prop}
def ent (args:List Value):Nat->Value:=λi=>args.getD i undef
theorem f_in {args:List Value}(hf:P.funcs[f]?=some fn)(hb:fn.body=some c)(h:c.wpIn (Fw none) 0 P (bodyPost P fn (Ret w R)) (act (args.length+(fn.ntmps-args.length)) (ent args) []) w):Calls P f args.toArray w (Ret w R):=by
  refine calls_Fw (n:=0) (callsIn_of_wp hf hb trivial ?_)
  have:({tmps:=args.toArray++Array.replicate (fn.ntmps-args.toArray.size) undef,defers:=[]}:Act)=act (args.length+(fn.ntmps-args.length)) (ent args) []:=by
    simp only[act,Act.mk.injEq,and_true]
    apply Array.ext
    · simp
    · intro i _ _
      simp only[Array.getElem_ofFn,ent]
      by_cases hi:i<args.length
      · simp[hi]
      · have h3:args.toArray.size<=i:=by simpa using hi
        rw[Array.getElem_append_right h3]
        simp[List.getElem?_eq_none (Nat.le_of_not_lt hi)]
  rw[this]
  exact h
theorem f_out {N:Nat}{e:Nat->Value}{w':World}{v:Value}(hr:(results fn (act N e []).tmps).run P w'=.ok v w')(hx:Ext w w')(hR:R v w'):bodyPost P fn (Ret w R) .ret (act N e []) w':=
  ⟨rfl,v,hr,hx,hR⟩
theorem f_end {N:Nat}{e:Nat->Value}{w':World}{v:Value}(hr:(results fn (act N e []).tmps).run P w'=.ok v w')(hx:Ext w w')(hR:R v w'):bodyPost P fn (Ret w R) .normal (act N e []) w':=
  ⟨rfl,v,hr,hx,hR⟩
theorem tmps_get {N t:Nat}{e:Nat->Value}{ds:List Deferred}{v:Value}(hv:ev N e (.tmp t)=v):(act N e ds).tmps.getD t undef=v:=by
  have:(act N e ds).eval (.tmp t)=v:=by rw[act_eval];exact hv
  exact this
def resRun (tmps:Array Value):ResultVar->Sem Value
  | .tmp t=>pure (tmps.getD t undef)
  | .cell a t=>do loadVar t (<-asAddr (tmps.getD a undef))
theorem res_tmp {N t:Nat}{e:Nat->Value}{ds:List Deferred}{v:Value}(hv:ev N e (.tmp t)=v)(w:World):(resRun (act N e ds).tmps (.tmp t)).run P w=.ok v w:=by
  simp[resRun,tmps_get hv]
theorem res_cell {N t:Nat}{e:Nat->Value}{ds:List Deferred}{v:Value}{ty:TypeId}{D:TypeDesc}{b o:Nat}(hu:P.underlying ty=some D)(hd:D.isRow=false)(hv:ev N e (.tmp t)=.pointer (some ⟨b,o,none⟩)){w:World}(hc:w.cell? ⟨b,o,none⟩=some v):
    (resRun (act N e ds).tmps (.cell t ty)).run P w=.ok v w:=by
  have hagg:(isAgg ty).run P w=.ok false w:=by
    unfold isAgg
    rw[Sem.run_bind,run_underlying hu w]
    cases D <;>simp_all
  simp[resRun,tmps_get hv,asAddr,loadVar,hagg,hc]
theorem res_cellA {N t:Nat}{e:Nat->Value}{ds:List Deferred}{cs:List Value}{ty:TypeId}{D:TypeDesc}{b o:Nat}(hu:P.underlying ty=some D)(hd:D.isRow=true)(hi:(P.info? ty).map (·.size)=some cs.length)(hv:ev N e (.tmp t)=.pointer (some ⟨b,o,none⟩)){w:World}(hc:∀j u,cs[j]?=some u->w.cell? ⟨b,o+j,none⟩=some u):
    (resRun (act N e ds).tmps (.cell t ty)).run P w=.ok (.agg cs.toArray) w:=by
  simp[resRun,tmps_get hv,asAddr,run_loadVar_mid w b o ty cs D hc hu hd hi]
theorem results_eq (tmps:Array Value):results fn tmps=(do
    let vs <-fn.results.mapM (resRun tmps)
    pure (if h:vs.size=1 then vs[0]else .tuple vs)):=rfl
theorem res0 {tmps:Array Value}(h:fn.results=#[]):(results fn tmps).run P w=.ok (.tuple #[]) w:=by
  rw[results_eq,h];simp
theorem res1 {tmps:Array Value}{r1:ResultVar}{v1:Value}(h:fn.results=#[r1])(h1:(resRun tmps r1).run P w=.ok v1 w):(results fn tmps).run P w=.ok v1 w:=by
  rw[results_eq,h];simp[h1]
theorem res2 {tmps:Array Value}{r1 r2:ResultVar}{v1 v2:Value}(h:fn.results=#[r1,r2])(h1:(resRun tmps r1).run P w=.ok v1 w)(h2:(resRun tmps r2).run P w=.ok v2 w):
    (results fn tmps).run P w=.ok (.tuple #[v1,v2]) w:=by
  rw[results_eq,h];simp[h1,h2]
theorem res3 {tmps:Array Value}{r1 r2 r3:ResultVar}{v1 v2 v3:Value}(h:fn.results=#[r1,r2,r3])(h1:(resRun tmps r1).run P w=.ok v1 w)(h2:(resRun tmps r2).run P w=.ok v2 w)(h3:(resRun tmps r3).run P w=.ok v3 w):
    (results fn tmps).run P w=.ok (.tuple #[v1,v2,v3]) w:=by
  rw[results_eq,h];simp[h1,h2,h3]
theorem f_ret1 {N t:Nat}{e:Nat->Value}{w':World}{v:Value}(hres:fn.results=#[.tmp t])(hx:Ext w w')(hR:R v w')(hv:ev N e (.tmp t)=v):bodyPost P fn (Ret w R) .ret (act N e []) w':=
  f_out (res1 hres (res_tmp hv w')) hx hR
theorem f_ret2 {N t u:Nat}{e:Nat->Value}{w':World}{v1 v2:Value}(hres:fn.results=#[.tmp t,.tmp u])(hx:Ext w w')(hR:R (.tuple #[v1,v2]) w')(h1:ev N e (.tmp t)=v1)(h2:ev N e (.tmp u)=v2):bodyPost P fn (Ret w R) .ret (act N e []) w':=
  f_out (res2 hres (res_tmp h1 w') (res_tmp h2 w')) hx hR
theorem f_ret3 {N t u s:Nat}{e:Nat->Value}{w':World}{v1 v2 v3:Value}(hres:fn.results=#[.tmp t,.tmp u,.tmp s])(hx:Ext w w')(hR:R (.tuple #[v1,v2,v3]) w')(h1:ev N e (.tmp t)=v1)(h2:ev N e (.tmp u)=v2)(h3:ev N e (.tmp s)=v3):bodyPost P fn (Ret w R) .ret (act N e []) w':=
  f_out (res3 hres (res_tmp h1 w') (res_tmp h2 w') (res_tmp h3 w')) hx hR
end func
section calls
variable {P:Program}{r:Option Nat}{n N:Nat}{e:Nat->Value}{ds:List Deferred}{w:World}{Q:Exit->Act->World->Prop}{K:Act->World->Prop}
variable {d ty:Nat}{pos:String}{af:Array Edge}{g:Option (Nat×Bool)}{v u:Value}{x y:Operand}{t t':TypeId}{R:Value->World->Prop}
def Enters (P:Program)(f:FuncId):Prop:=∀args w,(callFunc f args).run P w=.ok (.enter f args) w
theorem enters_mk {P : Program}{f : FuncId}{fn : Func}(hf : P.funcs[f]? = some fn)(hn : (fn.name == "runtime.NumGoroutine") = false)(hb : fn.body.isNone = false) : Enters P f := fun args w => by
  have hn' : fn.name ≠ "runtime.NumGoroutine" := by simpa using hn
  have hb':fn.body≠none:=λh=>by rw[h]at hb;cases hb
  simp[callFunc,hf,hn',hb']
theorem k_call {f:FuncId}{xs:Array Operand}{ats:Array TypeId}{vs:List Value}(hf:Enters P f)(hv:xs.toList.map (ev N e)=vs)(hc:Calls P f vs.toArray w (Ret w R))(hk:∀v w',Ext w w'->R v w'->K (act N (upd e d v) ds) w'):Oper.wpIn (Fw r) n P ⟨some d,.call {callee:=.value (.func f),args:=xs,argTypes:=ats},ty,pos,af,g⟩ (act N e ds) w K Q:=by
  subst hv
  refine k_enter (f:=f) (args:=xs.map (ev N e)) (R:=R) rfl ?_ (by have h:=hc;rwa [show(xs.toList.map (ev N e)).toArray=xs.map (ev N e)by rw[<-Array.toList_map,Array.toArray_toList]]at h) (λv w' h1 h2=>by rw[act_put];exact hk v w' h1 h2)
  simp[execOp,resolve,Deferred.ofValue,ev,invoke,hf _ _]
theorem k_callV {f:FuncId}{lb:List Value}{xs:Array Operand}{ats:Array TypeId}{vs:List Value}(hf:Enters P f)(hx:ev N e x=.func (.func f) #[] lb.toArray)(hv:xs.toList.map (ev N e)=vs)(hc:Calls P f (vs++lb).toArray w (Ret w R))(hk:∀v w',Ext w w'->R v w'->K (act N (upd e d v) ds) w'):Oper.wpIn (Fw r) n P ⟨some d,.call {callee:=.value x,args:=xs,argTypes:=ats},ty,pos,af,g⟩ (act N e ds) w K Q:=by
  subst hv
  have h2:xs.map (ev N e)++lb.toArray=(xs.toList.map (ev N e)++lb).toArray:=by simp
  refine k_enter (f:=f) (args:=xs.map (ev N e)++lb.toArray) (R:=R) rfl ?_ (by rw[h2];exact hc) (λv w' h1 h2=>by rw[act_put];exact hk v w' h1 h2)
  simp[execOp,resolve,Deferred.ofValue,hx,invoke,hf _ _]
end calls
section draws
variable {P:Program}{r:Option Nat}{n N:Nat}{e0:Nat->Value}{ds:List Deferred}{w0:World}{Q:Exit->Act->World->Prop}{ops:Array Oper}{M:Nat}
theorem tail_run (hc:Region.chainB .any ops M=true)(hwf:∀(i:Nat) (o:Oper),ops[i]?=some o->∀e∈o.after,Region.binds .any e=true->e.on<i):
    ∀ (m k:Nat) (listed:Array Bool) (a:Act) (w:World) (fuel:Nat),k+m=ops.size->M<=k->listed.size=ops.size->(∀i,i<k->listed.getD i false=true)->(∀i,k<=i->i<ops.size->listed.getD i true=false)->m<=fuel->
      wpListIn (Fw r) n P ops Q (ops.toList.drop k) a w->wpAnyIn (Fw r) n P .any ops Q fuel listed a w:=by
  intro m
  induction m with
  | zero=>
    intro k listed a w fuel hk hM hsz hl hn hf h
    have hd:ops.toList.drop k=[]:=List.drop_eq_nil_of_le (by simp;omega)
    rw[hd]at h
    have hr:Region.ready .any ops listed=[]:=by
      cases hr:Region.ready .any ops listed with
      |nil=>rfl
      | cons i l=>
        have hi:i∈Region.ready .any ops listed:=by rw[hr];simp
        obtain⟨h1,o,ho,_⟩:=mem_ready.1 hi
        have hlt:=(Array.getElem?_eq_some_iff.1 ho).1
        have h2:=hl i (by omega)
        have h3:i<listed.size:=by omega
        simp[h3]at h1 h2
        rw[h1]at h2
        cases h2
    cases fuel with
    |zero=>exact⟨hr,h⟩
    |succ f=>exact⟨λ_=>h,λi hi=>by rw[hr]at hi;cases hi⟩
  | succ m ih=>
    intro k listed a w fuel hk hM hsz hl hn hf h
    have hlt:k<ops.size:=by omega
    have hko:ops[k]?=some ops[k]:=Array.getElem?_eq_getElem hlt
    have hd:ops.toList.drop k=ops[k]::ops.toList.drop (k+1):=by
      rw[List.drop_eq_getElem_cons (by simpa using hlt)];simp
    rw[hd]at h
    have hkr:k∈Region.ready .any ops listed:=mem_ready.2 ⟨hn k (Nat.le_refl k) hlt,ops[k],hko,λe he hb=>hl _ (hwf k _ hko e he hb)⟩
    cases fuel with
    |zero=>omega
    | succ f=>
      refine⟨λh0=>(by rw[h0]at hkr;cases hkr),λi hi=>?_⟩
      obtain⟨h1,o,ho,hall⟩:=mem_ready.1 hi
      have hil:=(Array.getElem?_eq_some_iff.1 ho).1
      have hik:k<=i:=by
        rcases Nat.lt_or_ge i k with hh|hh
        · have h2:=hl i hh
          have h3:i<listed.size:=by omega
          simp[h3]at h1 h2
          rw[h1]at h2
          cases h2
        · exact hh
      have hie:i=k:=by
        rcases Nat.eq_or_lt_of_le hik with hh|hh
        · exact hh.symm
        · have hcc:=List.all_eq_true.1 hc i (List.mem_range.2 hil)
          simp only[Bool.or_eq_true,decide_eq_true_eq]at hcc
          rcases hcc with hcc|hcc
          · omega
          · obtain⟨o',ho',e,he,hb,hon⟩:=Region.waitsFor_spec hcc
            have:o'=o:=Option.some.inj (ho'.symm.trans ho)
            subst this
            have h2:=hall e he hb
            have h3:=hn (i-1) (by omega) (by omega)
            rw[hon,getD_both h3]at h2
            cases h2
      subst hie
      have step:∀a w,wpListIn (Fw r) n P ops Q (ops.toList.drop (i+1)) a w->wpAnyIn (Fw r) n P .any ops Q f (listed.setIfInBounds i true) a w:=λa w h=>
        ih (i+1) _ a w f (by omega) (by omega) (by simp[hsz]) (λj hj=>by
          by_cases hji:i=j
          · subst hji;simp[hsz,hil]
          · rw[getD_set_ne false hji];exact hl j (by omega)) (λj hj hj2=>by rw[getD_set_ne true (by omega)];exact hn j (by omega) hj2) (by omega) h
      unfold wpOpIn
      rw[hko]
      unfold wpListIn at h
      dsimp only
      split
      · rename_i hw;rw[if_pos hw]at h;exact Oper.wpIn_mono step h
      · rename_i hw;rw[if_neg hw]at h;exact⟨h.1,step _ _ h.2⟩
def left (ops:Array Oper)(listed:Array Bool):Nat:=((List.range ops.size).filter λi=>!listed.getD i false).length
theorem left_set {listed:Array Bool}{i:Nat}(hi:i<ops.size)(hs:listed.size=ops.size)(h:listed.getD i false=false):left ops (listed.setIfInBounds i true)+1<=left ops listed:=by
  unfold left
  have key:∀l:List Nat,l.Nodup->(∀j∈l,j<ops.size)->((l.filter λj=> !(listed.setIfInBounds i true).getD j false).length+(if i∈l then 1 else 0)<=(l.filter λj=> !listed.getD j false).length):=by
    intro l
    induction l with
    |nil=>simp
    | cons j l ih=>
      intro hnd hb
      obtain⟨hn1,hn2⟩:=List.nodup_cons.1 hnd
      have hih:=ih hn2 (λx hx=>hb x (by simp[hx]))
      by_cases hij:i=j
      · subst hij
        rw[if_neg hn1]at hih
        have h1:(listed.setIfInBounds i true).getD i false=true:=by simp[hs,hi]
        rw[List.filter_cons,List.filter_cons,h1,h]
        simp only[Bool.not_true,Bool.false_eq_true,if_false,Bool.not_false,if_true,List.length_cons,List.mem_cons,true_or]
        omega
      · have h1:(listed.setIfInBounds i true).getD j false=listed.getD j false:=getD_set_ne false hij
        rw[List.filter_cons,List.filter_cons,h1]
        have h3:(if i∈j::l then 1 else 0)=(if i∈l then(1:Nat)else 0):=by simp[hij]
        rw[h3]
        cases listed.getD j false
        · simp only[Bool.not_false,if_true,List.length_cons];omega
        · simp only[Bool.not_true,Bool.false_eq_true,if_false];exact hih
  have:=key (List.range ops.size) List.nodup_range (λj hj=>List.mem_range.1 hj)
  rw[if_pos (List.mem_range.2 hi)]at this
  exact this
theorem left_tail {listed:Array Bool}{M:Nat}(hM:M<=ops.size)(h:∀i,M<=i->i<ops.size->listed.getD i false=false):ops.size-M<=left ops listed:=by
  unfold left
  have h1:List.range ops.size=List.range' 0 M++List.range' M (ops.size-M):=by
    have h3:=List.range'_append (s:=0) (m:=M) (n:=ops.size-M) (step:=1)
    simp only[Nat.zero_add,Nat.one_mul]at h3
    rw[List.range_eq_range',h3]
    congr 1;omega
  rw[h1,List.filter_append,List.length_append]
  have h2:(List.range' M (ops.size-M)).filter (λi=> !listed.getD i false)=List.range' M (ops.size-M):=by
    rw[List.filter_eq_self]
    intro i hi
    rw[List.mem_range'_1]at hi
    rw[h i hi.1 (by omega)];rfl
  rw[h2,List.length_range']
  omega
theorem oper_mono2 {o:Oper}{a:Act}{w:World}{K K':Act->World->Prop}{Q Q':Exit->Act->World->Prop}(h:∀a w,K a w->K' a w)(hq:∀c a w,Q (.panic c) a w->Q' (.panic c) a w)(ho:∀a w,Q .outgrown a w->Q' .outgrown a w)(hh:o.wpIn (Fw r) n P a w K Q):o.wpIn (Fw r) n P a w K' Q':=by
  unfold Oper.wpIn at *
  refine⟨hh.1,?_⟩
  have hh:=hh.2
  have hl:LetsOut Q->LetsOut Q':=fun⟨a,w,h⟩=>⟨a,w,ho a w h⟩
  generalize (o.semAt (Fw r).round a.eval).run P w=r at *
  cases r with
  | ok x w'=>
    cases x <;>simp only[Oper.uponIn]at hh ⊢ <;>
      first
        |exact h _ _ hh
        |exact⟨hh.1,CallsIn.mono hh.2 (λe w'' he=>by cases e <;>first|exact h _ _ he|exact hq _ _ _ he|exact hl he)⟩
        |exact⟨hh.1,RowsIn.mono hh.2 (λ_ _ he=>h _ _ he)⟩
        |exact⟨hh.1,RoundIn.mono hh.2 (λe w'' he=>by cases e <;>first|exact h _ _ he|exact hq _ _ _ he|exact hl he)⟩
  |halt x w'=>cases x <;>simp only[Oper.uponIn]at hh ⊢ <;>first|exact hq _ _ _ hh|exact hh
def isDst (l:List Oper)(M t:Nat):Bool:=(l.take M).any λo=>match o.dst with|some d=>Nat.beq d t|none=>false
def predB (o:Oper)(j:Nat):Bool:=o.after.toList.any λed=>Region.binds .any ed&&Nat.beq ed.on j
def wfB (l:List Oper):Bool:=(List.range l.length).all λi=>match l[i]? with|some o=>o.after.toList.all λed=>!Region.binds .any ed||Nat.blt ed.on i|none=>true
def shapeB (l:List Oper)(M:Nat):Bool:=(Region.sinkB .any l.toArray M&&Region.chainB .any l.toArray M&&Nat.blt M l.length)||Nat.beq M l.length
def dstB (l:List Oper)(M:Nat):Bool:=(List.range M).all λi=>(List.range M).all λj=>Nat.beq i j||(match dstOf l i,dstOf l j with|some a,some b=>!Nat.beq a b|_,_=>true)
def phi (φs:List (Value->World->Prop))(j:Nat):Value->World->Prop:=match φs[j]? with|some φ=>φ|none=>λ_ _=>True
def Stable (R:World->World->Prop):List (Value->World->Prop)->Prop
  |[]=>True
  |φ::φs=>(∀v w w',R w w'->φ v w->φ v w')∧Stable R φs
theorem stable_get {R:World->World->Prop}:∀{φs:List (Value->World->Prop)},Stable R φs->∀i v w w',R w w'->phi φs i v w->phi φs i v w'
  |[],_,i,v,w,w',_,_=>by simp[phi]
  |φ::φs,h,0,v,w,w',hR,hv=>h.1 v w w' hR hv
  | φ::φs,h,i+1,v,w,w',hR,hv=>by
    have:=stable_get h.2 i v w w' hR
    simp only[phi,List.getElem?_cons_succ]at this hv ⊢
    exact this hv
end draws
end Go.Eng
