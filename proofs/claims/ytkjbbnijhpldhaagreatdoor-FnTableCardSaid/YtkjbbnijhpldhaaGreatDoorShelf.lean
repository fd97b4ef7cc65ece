/- Contracts of Go's library, laid by the kit's lay-shelf and lay-plain at this seat; what this claim does not use is left out (wip/shakeshelf.py). Conditions: none. -/
import Derived.Shelf.Strings.Builder1
import Derived.Shelf.Strings.Builder2
import Derived.Shelf.Strings.Trim
import Derived.Shelf.Small.Utf8
import Derived.Shelf.Small.Strs
import Derived.Shelf.Small.Wraps
import Derived.Shelf.Strconv.Itoa0
import Derived.Shelf.Strconv.Itoa1
import Derived.Shelf.LaysM
import Derived.Shelf.Strconv.Itoa2
import Derived.Shelf.Strconv.Itoa3
import Derived.Shelf.Strings.Search1
import Derived.Shelf.Strings.Search2
import Derived.Shelf.Strings.Search3
import Derived.Shelf.Strings.Cut
import Derived.Shelf.Strings.Count
import Derived.Shelf.Strings.Shaped
import Derived.Shelf.Strings.Prefix
import Derived.Shelf.Strings.Split
import Derived.Shelf.Strings.Runes
import Derived.Shelf.Strings.IndexAny
import Derived.Shelf.Strings.AsciiSet
import Derived.Shelf.Strings.IndexAnyAll
import Derived.Shelf.Unicode.DecodeSlow
import Derived.Shelf.Slices.Turned
import Derived.Shelf.Slices.Equal
import Derived.Ground.Names2Prog
import Derived.Shelf.Slices.Clone
import Derived.Shelf.Slices.Empties2
import Derived.Ground.SlgfProg
import Derived.Shelf.SlicesE.IndexFunc
import Derived.Test.YtkjbbnijhpldhaaGreatDoorProg
namespace Go.Proofs
open Go.Shelf
def Tryz.VR:Go.Shelf.Ren:=⟨fun|162=>56|232=>77|227=>78|234=>79|236=>80|228=>91|271=>92|151=>93|120=>102|197=>103|152=>95|260=>121|137=>109|119=>110|224=>111|225=>112|217=>126|266=>135|n=>n,fun|9=>9|4=>4|3=>3|5=>5|117=>93|116=>92|0=>0|124=>96|21=>21|105=>106|46=>104|119=>136|139=>139|138=>138|n=>n,fun|3=>2|4=>3|n=>n⟩
theorem Tryz.ama:Go.Proofs.Lays.n162 Tryz.prog Tryz.VR:={
  mixed:=by kernel_rfl
  f119:=Tryz.func110.trans (congrArg some (by kernel_rfl))
  f120:=Tryz.func102.trans (congrArg some (by kernel_rfl))
  f137:=Tryz.func109.trans (congrArg some (by kernel_rfl))
  f151:=Tryz.func93.trans (congrArg some (by kernel_rfl))
  f152:=Tryz.func95.trans (congrArg some (by kernel_rfl))
  f162:=Tryz.func56.trans (congrArg some (by kernel_rfl))
  f197:=Tryz.func103.trans (congrArg some (by kernel_rfl))
  f217:=Tryz.func126.trans (congrArg some (by kernel_rfl))
  f224:=Tryz.func111.trans (congrArg some (by kernel_rfl))
  f225:=Tryz.func112.trans (congrArg some (by kernel_rfl))
  f227:=Tryz.func78.trans (congrArg some (by kernel_rfl))
  f228:=Tryz.func91.trans (congrArg some (by kernel_rfl))
  f232:=Tryz.func77.trans (congrArg some (by kernel_rfl))
  f234:=Tryz.func79.trans (congrArg some (by kernel_rfl))
  f236:=Tryz.func80.trans (congrArg some (by kernel_rfl))
  f260:=Tryz.func121.trans (congrArg some (by kernel_rfl))
  f266:=Tryz.func135.trans (congrArg some (by kernel_rfl))
  f271:=Tryz.func92.trans (congrArg some (by kernel_rfl))
  t0:=Tryz.underlying0
  a0:=Tryz.isAgg0
  z0:=Tryz.sizeOf0
  v0:=Tryz.zeroValue0
  t3:=Tryz.underlying3
  a3:=Tryz.isAgg3
  z3:=Tryz.sizeOf3
  v3:=Tryz.zeroValue3
  t4:=Tryz.underlying4
  a4:=Tryz.isAgg4
  z4:=Tryz.sizeOf4
  v4:=Tryz.zeroValue4
  t5:=Tryz.underlying5
  a5:=Tryz.isAgg5
  z5:=Tryz.sizeOf5
  v5:=Tryz.zeroValue5
  t9:=Tryz.underlying9
  a9:=Tryz.isAgg9
  z9:=Tryz.sizeOf9
  v9:=Tryz.zeroValue9
  t21:=Tryz.underlying21
  a21:=Tryz.isAgg21
  z21:=Tryz.sizeOf21
  v21:=Tryz.zeroValue21
  t46:=Tryz.underlying104
  a46:=Tryz.isAgg104
  z46:=Tryz.sizeOf104
  v46:=Tryz.zeroValue104
  t105:=Tryz.underlying106
  a105:=Tryz.isAgg106
  z105:=Tryz.sizeOf106
  v105:=Tryz.zeroValue106
  t116:=Tryz.underlying92
  a116:=Tryz.isAgg92
  z116:=Tryz.sizeOf92
  t117:=Tryz.underlying93
  a117:=Tryz.isAgg93
  z117:=Tryz.sizeOf93
  v117:=Tryz.zeroValue93
  t119:=Tryz.underlying136
  a119:=Tryz.isAgg136
  z119:=Tryz.sizeOf136
  t124:=Tryz.underlying96
  a124:=Tryz.isAgg96
  z124:=Tryz.sizeOf96
  v124:=Tryz.zeroValue96
  t138:=Tryz.underlying138
  a138:=Tryz.isAgg138
  z138:=Tryz.sizeOf138
  v138:=Tryz.zeroValue138
  t139:=Tryz.underlying139
  a139:=Tryz.isAgg139
  z139:=Tryz.sizeOf139
  v139:=Tryz.zeroValue139
  g3:=by kernel_rfl
  g4:=by kernel_rfl}
open Go.RowKit in
theorem Tryz.strings_TrimRight_one (s:ByteArray) (c:UInt8) (hc:c.toNat<128) (w:World) (hs:s.size≤9223372036854775807):
    Calls Tryz.prog 56 #[.string s,.string ⟨#[c]⟩] w fun e w'=>e=.returned (.string ⟨(Lib.trimRightB s.data.toList c).toArray⟩)∧w'=w:=Any.strings_TrimRight_one Tryz.ama s c hc w hs
def Tryz.VS:Go.Shelf.Ren:=⟨fun|160=>100|232=>77|231=>114|227=>78|234=>79|233=>115|236=>80|235=>116|228=>91|271=>92|151=>93|197=>103|120=>102|152=>95|260=>121|137=>109|119=>110|224=>111|225=>112|217=>126|266=>135|n=>n,fun|9=>9|4=>4|3=>3|5=>5|117=>93|116=>92|0=>0|124=>96|21=>21|105=>106|46=>104|119=>136|139=>139|138=>138|n=>n,fun|3=>2|4=>3|n=>n⟩
theorem Tryz.akc:Go.Proofs.Lays.n160 Tryz.prog Tryz.VS:={
  mixed:=by kernel_rfl
  f119:=Tryz.func110.trans (congrArg some (by kernel_rfl))
  f120:=Tryz.func102.trans (congrArg some (by kernel_rfl))
  f137:=Tryz.func109.trans (congrArg some (by kernel_rfl))
  f151:=Tryz.func93.trans (congrArg some (by kernel_rfl))
  f152:=Tryz.func95.trans (congrArg some (by kernel_rfl))
  f160:=Tryz.func100.trans (congrArg some (by kernel_rfl))
  f197:=Tryz.func103.trans (congrArg some (by kernel_rfl))
  f217:=Tryz.func126.trans (congrArg some (by kernel_rfl))
  f224:=Tryz.func111.trans (congrArg some (by kernel_rfl))
  f225:=Tryz.func112.trans (congrArg some (by kernel_rfl))
  f227:=Tryz.func78.trans (congrArg some (by kernel_rfl))
  f228:=Tryz.func91.trans (congrArg some (by kernel_rfl))
  f231:=Tryz.func114.trans (congrArg some (by kernel_rfl))
  f232:=Tryz.func77.trans (congrArg some (by kernel_rfl))
  f233:=Tryz.func115.trans (congrArg some (by kernel_rfl))
  f234:=Tryz.func79.trans (congrArg some (by kernel_rfl))
  f235:=Tryz.func116.trans (congrArg some (by kernel_rfl))
  f236:=Tryz.func80.trans (congrArg some (by kernel_rfl))
  f260:=Tryz.func121.trans (congrArg some (by kernel_rfl))
  f266:=Tryz.func135.trans (congrArg some (by kernel_rfl))
  f271:=Tryz.func92.trans (congrArg some (by kernel_rfl))
  t0:=Tryz.underlying0
  a0:=Tryz.isAgg0
  z0:=Tryz.sizeOf0
  v0:=Tryz.zeroValue0
  t3:=Tryz.underlying3
  a3:=Tryz.isAgg3
  z3:=Tryz.sizeOf3
  v3:=Tryz.zeroValue3
  t4:=Tryz.underlying4
  a4:=Tryz.isAgg4
  z4:=Tryz.sizeOf4
  v4:=Tryz.zeroValue4
  t5:=Tryz.underlying5
  a5:=Tryz.isAgg5
  z5:=Tryz.sizeOf5
  v5:=Tryz.zeroValue5
  t9:=Tryz.underlying9
  a9:=Tryz.isAgg9
  z9:=Tryz.sizeOf9
  v9:=Tryz.zeroValue9
  t21:=Tryz.underlying21
  a21:=Tryz.isAgg21
  z21:=Tryz.sizeOf21
  v21:=Tryz.zeroValue21
  t46:=Tryz.underlying104
  a46:=Tryz.isAgg104
  z46:=Tryz.sizeOf104
  v46:=Tryz.zeroValue104
  t105:=Tryz.underlying106
  a105:=Tryz.isAgg106
  z105:=Tryz.sizeOf106
  v105:=Tryz.zeroValue106
  t116:=Tryz.underlying92
  a116:=Tryz.isAgg92
  z116:=Tryz.sizeOf92
  t117:=Tryz.underlying93
  a117:=Tryz.isAgg93
  z117:=Tryz.sizeOf93
  v117:=Tryz.zeroValue93
  t119:=Tryz.underlying136
  a119:=Tryz.isAgg136
  z119:=Tryz.sizeOf136
  t124:=Tryz.underlying96
  a124:=Tryz.isAgg96
  z124:=Tryz.sizeOf96
  v124:=Tryz.zeroValue96
  t138:=Tryz.underlying138
  a138:=Tryz.isAgg138
  z138:=Tryz.sizeOf138
  v138:=Tryz.zeroValue138
  t139:=Tryz.underlying139
  a139:=Tryz.isAgg139
  z139:=Tryz.sizeOf139
  v139:=Tryz.zeroValue139
  g3:=by kernel_rfl
  g4:=by kernel_rfl}
def Tryz.VT:Go.Shelf.Ren:=⟨fun|119=>110|n=>n,fun|21=>21|4=>4|n=>n,fun|n=>n⟩
theorem Tryz.amb:Go.Proofs.Lays.n119 Tryz.prog Tryz.VT:={
  mixed:=by kernel_rfl
  f119:=Tryz.func110.trans (congrArg some (by kernel_rfl))
  t4:=Tryz.underlying4
  a4:=Tryz.isAgg4
  z4:=Tryz.sizeOf4
  v4:=Tryz.zeroValue4
  t21:=Tryz.underlying21
  a21:=Tryz.isAgg21
  z21:=Tryz.sizeOf21
  v21:=Tryz.zeroValue21}
theorem Tryz.utf8_ValidRune (r:Int) (w:World):
    Calls Tryz.prog 110 #[.int .i32 r] w fun e w'=>e=.returned (.bool (Lib.validRune r))∧w'=w:=Any.utf8_ValidRune Tryz.amb r w
def Tryz.VU:Go.Shelf.Ren:=⟨fun|137=>109|217=>126|266=>135|n=>n,fun|9=>9|5=>5|3=>3|n=>n,fun|n=>n⟩
theorem Tryz.amc:Go.Proofs.Lays.n137 Tryz.prog Tryz.VU:={
  mixed:=by kernel_rfl
  f137:=Tryz.func109.trans (congrArg some (by kernel_rfl))
  f217:=Tryz.func126.trans (congrArg some (by kernel_rfl))
  f266:=Tryz.func135.trans (congrArg some (by kernel_rfl))
  t3:=Tryz.underlying3
  a3:=Tryz.isAgg3
  z3:=Tryz.sizeOf3
  v3:=Tryz.zeroValue3
  t5:=Tryz.underlying5
  a5:=Tryz.isAgg5
  z5:=Tryz.sizeOf5
  v5:=Tryz.zeroValue5
  t9:=Tryz.underlying9
  a9:=Tryz.isAgg9
  z9:=Tryz.sizeOf9
  v9:=Tryz.zeroValue9}
open Go.RowKit in
theorem Tryz.strings_IndexByte (s:ByteArray) (c:Int) (w:World):
    Calls Tryz.prog 109 #[.string s,.int .u8 c] w fun e w'=>e=.returned (.int .i64 (Lib.indexByte s.data.toList c.toNat.toUInt8))∧w'=w:=Any.strings_IndexByte Tryz.amc s c w
def Tryz.SH:Go.Shelf.Ren:=⟨fun|171=>76|243=>90|246=>101|283=>117|284=>118|285=>119|286=>120|129=>129|317=>128|318=>130|319=>131|320=>132|337=>137|338=>138|n=>n,fun|3=>3|9=>9|2=>2|4=>4|171=>123|0=>0|53=>124|37=>22|5=>5|173=>127|212=>132|51=>133|20=>20|213=>134|46=>104|232=>146|233=>147|n=>n,fun|17=>1|18=>4|19=>5|n=>n⟩
theorem Tryz.ahT:Go.Proofs.LaysM.n171 Tryz.prog Tryz.SH:={
  mixed:=by kernel_rfl
  f129:=Tryz.func129.trans (congrArg some (by kernel_rfl))
  f171:=Tryz.func76.trans (congrArg some (by kernel_rfl))
  f243:=Tryz.func90.trans (congrArg some (by kernel_rfl))
  f246:=Tryz.func101.trans (congrArg some (by kernel_rfl))
  f283:=Tryz.func117.trans (congrArg some (by kernel_rfl))
  f284:=Tryz.func118.trans (congrArg some (by kernel_rfl))
  f285:=Tryz.func119.trans (congrArg some (by kernel_rfl))
  f286:=Tryz.func120.trans (congrArg some (by kernel_rfl))
  f317:=Tryz.func128.trans (congrArg some (by kernel_rfl))
  f318:=Tryz.func130.trans (congrArg some (by kernel_rfl))
  f319:=Tryz.func131.trans (congrArg some (by kernel_rfl))
  f320:=Tryz.func132.trans (congrArg some (by kernel_rfl))
  f337:=Tryz.func137.trans (congrArg some (by kernel_rfl))
  f338:=Tryz.func138.trans (congrArg some (by kernel_rfl))
  t0:=Tryz.underlying0
  a0:=Tryz.isAgg0
  z0:=Tryz.sizeOf0
  v0:=Tryz.zeroValue0
  t2:=Tryz.underlying2
  a2:=Tryz.isAgg2
  z2:=Tryz.sizeOf2
  v2:=Tryz.zeroValue2
  t3:=Tryz.underlying3
  a3:=Tryz.isAgg3
  z3:=Tryz.sizeOf3
  v3:=Tryz.zeroValue3
  t4:=Tryz.underlying4
  a4:=Tryz.isAgg4
  z4:=Tryz.sizeOf4
  v4:=Tryz.zeroValue4
  t5:=Tryz.underlying5
  a5:=Tryz.isAgg5
  z5:=Tryz.sizeOf5
  v5:=Tryz.zeroValue5
  t9:=Tryz.underlying9
  a9:=Tryz.isAgg9
  z9:=Tryz.sizeOf9
  v9:=Tryz.zeroValue9
  t20:=Tryz.underlying20
  a20:=Tryz.isAgg20
  z20:=Tryz.sizeOf20
  v20:=Tryz.zeroValue20
  t37:=Tryz.underlying22
  a37:=Tryz.isAgg22
  z37:=Tryz.sizeOf22
  v37:=Tryz.zeroValue22
  t46:=Tryz.underlying104
  a46:=Tryz.isAgg104
  z46:=Tryz.sizeOf104
  v46:=Tryz.zeroValue104
  t51:=Tryz.underlying133
  a51:=Tryz.isAgg133
  z51:=Tryz.sizeOf133
  v51:=Tryz.zeroValue133
  t53:=Tryz.underlying124
  a53:=Tryz.isAgg124
  z53:=Tryz.sizeOf124
  v53:=Tryz.zeroValue124
  t171:=Tryz.underlying123
  a171:=Tryz.isAgg123
  z171:=Tryz.sizeOf123
  v171:=Tryz.zeroValue123
  t173:=Tryz.underlying127
  a173:=Tryz.isAgg127
  z173:=Tryz.sizeOf127
  v173:=Tryz.zeroValue127
  t212:=Tryz.underlying132
  a212:=Tryz.isAgg132
  z212:=Tryz.sizeOf132
  v212:=Tryz.zeroValue132
  t213:=Tryz.underlying134
  a213:=Tryz.isAgg134
  z213:=Tryz.sizeOf134
  t232:=Tryz.underlying146
  a232:=Tryz.isAgg146
  z232:=Tryz.sizeOf146
  v232:=Tryz.zeroValue146
  t233:=Tryz.underlying147
  a233:=Tryz.isAgg147
  z233:=Tryz.sizeOf147
  v233:=Tryz.zeroValue147
  g17:=by kernel_rfl
  g18:=by kernel_rfl
  g19:=by kernel_rfl
  i0:=by kernel_rfl
  i2:=by kernel_rfl
  i3:=by kernel_rfl
  i4:=by kernel_rfl
  i5:=by kernel_rfl
  i9:=by kernel_rfl
  i20:=by kernel_rfl
  i37:=by kernel_rfl
  i46:=by kernel_rfl
  i51:=by kernel_rfl
  i53:=by kernel_rfl
  i171:=by kernel_rfl
  i173:=by kernel_rfl
  i212:=by kernel_rfl
  i232:=by kernel_rfl
  i233:=by kernel_rfl
  m17:=by kernel_rfl
  m18:=by kernel_rfl
  m19:=by kernel_rfl}
open Go.RowKit Go.Sort Go.Lib in
theorem Tryz.strconv_Itoa (n:Int) (h0:-9223372036854775808≤n) (h1:n≤9223372036854775807) (w:World) (htab:Lib.TabIs Tryz.prog w "internal/strconv.uint64pow10" .u64 Lib.pow10Tab):
    Calls Tryz.prog 76 #[.int .i64 n] w fun e w'=>e=.returned (.string ⟨(Lib.itoa n).toArray⟩)∧∃k os,w'=grow (w.drewN k) os:=Any.strconv_Itoa Tryz.ahT n h0 h1 w htab
def Tryz.VV:Go.Shelf.Ren:=⟨fun|145=>87|220=>99|219=>113|217=>126|225=>112|224=>111|267=>127|266=>135|314=>136|n=>n,fun|9=>9|4=>4|59=>102|3=>3|5=>5|46=>104|146=>143|51=>133|n=>n,fun|1=>0|n=>n⟩
theorem Tryz.amd:Go.Proofs.Lays.n145 Tryz.prog Tryz.VV:={
  mixed:=by kernel_rfl
  f145:=Tryz.func87.trans (congrArg some (by kernel_rfl))
  f217:=Tryz.func126.trans (congrArg some (by kernel_rfl))
  f219:=Tryz.func113.trans (congrArg some (by kernel_rfl))
  f220:=Tryz.func99.trans (congrArg some (by kernel_rfl))
  f224:=Tryz.func111.trans (congrArg some (by kernel_rfl))
  f225:=Tryz.func112.trans (congrArg some (by kernel_rfl))
  f266:=Tryz.func135.trans (congrArg some (by kernel_rfl))
  f267:=Tryz.func127.trans (congrArg some (by kernel_rfl))
  f314:=Tryz.func136.trans (congrArg some (by kernel_rfl))
  t3:=Tryz.underlying3
  a3:=Tryz.isAgg3
  z3:=Tryz.sizeOf3
  v3:=Tryz.zeroValue3
  t4:=Tryz.underlying4
  a4:=Tryz.isAgg4
  z4:=Tryz.sizeOf4
  v4:=Tryz.zeroValue4
  t5:=Tryz.underlying5
  a5:=Tryz.isAgg5
  z5:=Tryz.sizeOf5
  v5:=Tryz.zeroValue5
  t9:=Tryz.underlying9
  a9:=Tryz.isAgg9
  z9:=Tryz.sizeOf9
  v9:=Tryz.zeroValue9
  t46:=Tryz.underlying104
  a46:=Tryz.isAgg104
  z46:=Tryz.sizeOf104
  v46:=Tryz.zeroValue104
  t51:=Tryz.underlying133
  a51:=Tryz.isAgg133
  z51:=Tryz.sizeOf133
  v51:=Tryz.zeroValue133
  t59:=Tryz.underlying102
  a59:=Tryz.isAgg102
  z59:=Tryz.sizeOf102
  v59:=Tryz.zeroValue102
  t146:=Tryz.underlying143
  a146:=Tryz.isAgg143
  z146:=Tryz.sizeOf143
  v146:=Tryz.zeroValue143
  g1:=by kernel_rfl}
open Go.RowKit Go.Lib in
theorem Tryz.strings_Cut (s sep:ByteArray) (m:Int) (w:World) (hs:s.size<4294967281) (hm:w.cell? ⟨0,0,none⟩=some (.int .i64 m)):
    Calls Tryz.prog 87 #[.string s,.string sep] w fun e w'=>e=.returned (.tuple #[.string ⟨(Lib.cut s.data.toList sep.data.toList).1.toArray⟩,.string ⟨(Lib.cut s.data.toList sep.data.toList).2.1.toArray⟩,.bool (Lib.cut s.data.toList sep.data.toList).2.2])∧∃n,w'=w.drewN n:=Any.strings_Cut Tryz.amd s sep m w hs hm
def Tryz.VW:Go.Shelf.Ren:=⟨fun|152=>95|137=>109|119=>110|224=>111|225=>112|217=>126|266=>135|n=>n,fun|9=>9|21=>21|3=>3|4=>4|5=>5|0=>0|46=>104|n=>n,fun|n=>n⟩
theorem Tryz.ame:Go.Proofs.Lays.n152 Tryz.prog Tryz.VW:={
  mixed:=by kernel_rfl
  f119:=Tryz.func110.trans (congrArg some (by kernel_rfl))
  f137:=Tryz.func109.trans (congrArg some (by kernel_rfl))
  f152:=Tryz.func95.trans (congrArg some (by kernel_rfl))
  f217:=Tryz.func126.trans (congrArg some (by kernel_rfl))
  f224:=Tryz.func111.trans (congrArg some (by kernel_rfl))
  f225:=Tryz.func112.trans (congrArg some (by kernel_rfl))
  f266:=Tryz.func135.trans (congrArg some (by kernel_rfl))
  t0:=Tryz.underlying0
  a0:=Tryz.isAgg0
  z0:=Tryz.sizeOf0
  v0:=Tryz.zeroValue0
  t3:=Tryz.underlying3
  a3:=Tryz.isAgg3
  z3:=Tryz.sizeOf3
  v3:=Tryz.zeroValue3
  t4:=Tryz.underlying4
  a4:=Tryz.isAgg4
  z4:=Tryz.sizeOf4
  v4:=Tryz.zeroValue4
  t5:=Tryz.underlying5
  a5:=Tryz.isAgg5
  z5:=Tryz.sizeOf5
  v5:=Tryz.zeroValue5
  t9:=Tryz.underlying9
  a9:=Tryz.isAgg9
  z9:=Tryz.sizeOf9
  v9:=Tryz.zeroValue9
  t21:=Tryz.underlying21
  a21:=Tryz.isAgg21
  z21:=Tryz.sizeOf21
  v21:=Tryz.zeroValue21
  t46:=Tryz.underlying104
  a46:=Tryz.isAgg104
  z46:=Tryz.sizeOf104
  v46:=Tryz.zeroValue104}
open Go.RowKit Go.Lib in
theorem Tryz.strings_IndexRune_ascii (s:ByteArray) (r:Int) (w:World) (h0:0≤r) (h1:r<128):
    Calls Tryz.prog 95 #[.string s,.int .i32 r] w fun e w'=>e=.returned (.int .i64 (Lib.indexByte s.data.toList r.toNat.toUInt8))∧w'=w:=Any.strings_IndexRune_ascii Tryz.ame s r w h0 h1
def Tryz.VX:Go.Shelf.Ren:=⟨fun|226=>96|n=>n,fun|3=>3|4=>4|n=>n,fun|n=>n⟩
theorem Tryz.amf:Go.Proofs.Lays.n226 Tryz.prog Tryz.VX:={
  mixed:=by kernel_rfl
  f226:=Tryz.func96.trans (congrArg some (by kernel_rfl))
  t3:=Tryz.underlying3
  a3:=Tryz.isAgg3
  z3:=Tryz.sizeOf3
  v3:=Tryz.zeroValue3
  t4:=Tryz.underlying4
  a4:=Tryz.isAgg4
  z4:=Tryz.sizeOf4
  v4:=Tryz.zeroValue4}
open Go.RowKit Go.Lib in
theorem Tryz.strings_shouldUseASCIISet (n:Int) (w:World):
    Calls Tryz.prog 96 #[.int .i64 n] w fun e w'=>e=.returned (.bool (decide (8<n)))∧w'=w:=Any.strings_shouldUseASCIISet Tryz.amf n w
def Tryz.VY:Go.Shelf.Ren:=⟨fun|153=>84|152=>95|226=>96|227=>78|228=>91|137=>109|119=>110|224=>111|225=>112|217=>126|266=>135|n=>n,fun|9=>9|3=>3|4=>4|5=>5|21=>21|117=>93|116=>92|0=>0|46=>104|124=>96|n=>n,fun|n=>n⟩
theorem Tryz.amg:Go.Proofs.Lays.n153 Tryz.prog Tryz.VY:={
  mixed:=by kernel_rfl
  f119:=Tryz.func110.trans (congrArg some (by kernel_rfl))
  f137:=Tryz.func109.trans (congrArg some (by kernel_rfl))
  f152:=Tryz.func95.trans (congrArg some (by kernel_rfl))
  f153:=Tryz.func84.trans (congrArg some (by kernel_rfl))
  f217:=Tryz.func126.trans (congrArg some (by kernel_rfl))
  f224:=Tryz.func111.trans (congrArg some (by kernel_rfl))
  f225:=Tryz.func112.trans (congrArg some (by kernel_rfl))
  f226:=Tryz.func96.trans (congrArg some (by kernel_rfl))
  f227:=Tryz.func78.trans (congrArg some (by kernel_rfl))
  f228:=Tryz.func91.trans (congrArg some (by kernel_rfl))
  f266:=Tryz.func135.trans (congrArg some (by kernel_rfl))
  t0:=Tryz.underlying0
  a0:=Tryz.isAgg0
  z0:=Tryz.sizeOf0
  v0:=Tryz.zeroValue0
  t3:=Tryz.underlying3
  a3:=Tryz.isAgg3
  z3:=Tryz.sizeOf3
  v3:=Tryz.zeroValue3
  t4:=Tryz.underlying4
  a4:=Tryz.isAgg4
  z4:=Tryz.sizeOf4
  v4:=Tryz.zeroValue4
  t5:=Tryz.underlying5
  a5:=Tryz.isAgg5
  z5:=Tryz.sizeOf5
  v5:=Tryz.zeroValue5
  t9:=Tryz.underlying9
  a9:=Tryz.isAgg9
  z9:=Tryz.sizeOf9
  v9:=Tryz.zeroValue9
  t21:=Tryz.underlying21
  a21:=Tryz.isAgg21
  z21:=Tryz.sizeOf21
  v21:=Tryz.zeroValue21
  t46:=Tryz.underlying104
  a46:=Tryz.isAgg104
  z46:=Tryz.sizeOf104
  v46:=Tryz.zeroValue104
  t116:=Tryz.underlying92
  a116:=Tryz.isAgg92
  z116:=Tryz.sizeOf92
  t117:=Tryz.underlying93
  a117:=Tryz.isAgg93
  z117:=Tryz.sizeOf93
  v117:=Tryz.zeroValue93
  t124:=Tryz.underlying96
  a124:=Tryz.isAgg96
  z124:=Tryz.sizeOf96
  v124:=Tryz.zeroValue96}
open Go.RowKit Go.Lib in
theorem Tryz.strings_IndexAny_long (hv116:∀w,(zeroValue 92).run Tryz.prog w=.ok (.agg (Array.replicate 256 (.bool false))) w) (s chars:ByteArray) (w:World) (h2:2≤chars.size) (h8:8<s.size) (hs:s.size<4294967281) (hcs:chars.size<4294967281) (hascii:∀(j:Nat) b,chars.data.toList[j]?=some b→b.toNat<128):
    Calls Tryz.prog 84 #[.string s,.string chars] w fun e w'=>e=.returned (.int .i64 (Lib.indexAny s.data.toList chars.data.toList))∧w'=((w.alloc (.cells (Lib.setCells chars.data.toList) 92)).alloc (.cells (Lib.setCells chars.data.toList) 92)):=Any.strings_IndexAny_long Tryz.amg hv116 (by kernel_rfl) s chars w h2 h8 hs hcs hascii
def Tryz.Pk:Go.Shelf.Ren:=⟨fun|15=>32|n=>n,fun|22=>26|3=>3|4=>4|n=>n,fun|n=>n⟩
theorem Tryz.Kw:Go.Proofs.Lays2.n15 Tryz.prog Tryz.Pk:={
  mixed:=by kernel_rfl
  f15:=Tryz.func32.trans (congrArg some (by kernel_rfl))
  t3:=Tryz.underlying3
  a3:=Tryz.isAgg3
  z3:=Tryz.sizeOf3
  v3:=Tryz.zeroValue3
  t4:=Tryz.underlying4
  a4:=Tryz.isAgg4
  z4:=Tryz.sizeOf4
  v4:=Tryz.zeroValue4
  t22:=Tryz.underlying26
  a22:=Tryz.isAgg26
  z22:=Tryz.sizeOf26
  v22:=Tryz.zeroValue26
  i3:=by kernel_rfl}
open Go.RowKit Go.Lib in
theorem Tryz.slices_Clone_int (b off n c:Nat) (zs:List Int) (w:World) (hz:n≤zs.length) (hbig:n * 8≤140737488355328) (hc:∀j,j<zs.length→w.cell? ⟨b,off+j,none⟩=some (.int .i64 (zs.getD j 0))):
    Calls Tryz.prog 32 #[.slice (some ⟨b,off,none⟩) n c] w fun e w'=>∃v',e=.returned v'∧w'.ownsRow w.heap.size 3 1 v' n ((zs.take n).map (Value.int .i64))∧v'≠ .slice none 0 0∧Below w.heap.size w w':=Any.slices_Clone_int Tryz.Kw b off n c zs w hz hbig hc
open Go.RowKit Go.Lib in
theorem Tryz.slices_Clone_int_nil (n c:Nat) (w:World):
    Calls Tryz.prog 32 #[.slice none n c] w fun e w'=>e=.returned (.slice none 0 0)∧w'=w:=Any.slices_Clone_int_nil Tryz.Kw n c w
def Tryz.Pm:Go.Shelf.Ren:=⟨fun|16=>17|n=>n,fun|24=>24|9=>9|4=>4|n=>n,fun|n=>n⟩
theorem Tryz.Ky:Go.Proofs.Lays2.n16 Tryz.prog Tryz.Pm:={
  mixed:=by kernel_rfl
  f16:=Tryz.func17.trans (congrArg some (by kernel_rfl))
  t4:=Tryz.underlying4
  a4:=Tryz.isAgg4
  z4:=Tryz.sizeOf4
  v4:=Tryz.zeroValue4
  t9:=Tryz.underlying9
  a9:=Tryz.isAgg9
  z9:=Tryz.sizeOf9
  v9:=Tryz.zeroValue9
  t24:=Tryz.underlying24
  a24:=Tryz.isAgg24
  z24:=Tryz.sizeOf24
  v24:=Tryz.zeroValue24
  i9:=by kernel_rfl}
open Go.RowKit Go.Lib in
theorem Tryz.slices_Clone_string (b off n c:Nat) (zs:List ByteArray) (w:World) (hz:n≤zs.length) (hbig:n * 16≤140737488355328) (hc:∀j,j<zs.length→w.cell? ⟨b,off+j,none⟩=some (.string (zs.getD j ByteArray.empty))):
    Calls Tryz.prog 17 #[.slice (some ⟨b,off,none⟩) n c] w fun e w'=>∃v',e=.returned v'∧w'.ownsRow w.heap.size 9 1 v' n ((zs.take n).map (Value.string))∧v'≠ .slice none 0 0∧Below w.heap.size w w':=Any.slices_Clone_string Tryz.Ky b off n c zs w hz hbig hc
open Go.RowKit Go.Lib in
theorem Tryz.slices_Clone_string_nil (n c:Nat) (w:World):
    Calls Tryz.prog 17 #[.slice none n c] w fun e w'=>e=.returned (.slice none 0 0)∧w'=w:=Any.slices_Clone_string_nil Tryz.Ky n c w
open Go.RowKit Go.Lib in
theorem Tryz.slices_Clone_int_zero (a:Addr) (c:Nat) (w:World):
    Calls Tryz.prog 32 #[.slice (some a) 0 c] w fun e w'=>∃v',e=.returned v'∧w'.ownsRow w.heap.size 3 1 v' 0 []∧v'≠ .slice none 0 0∧Below w.heap.size w w':=Any.slices_Clone_int_zero Tryz.Kw a c w
open Go.RowKit Go.Lib in
theorem Tryz.slices_Clone_string_zero (a:Addr) (c:Nat) (w:World):
    Calls Tryz.prog 17 #[.slice (some a) 0 c] w fun e w'=>∃v',e=.returned v'∧w'.ownsRow w.heap.size 9 1 v' 0 []∧v'≠ .slice none 0 0∧Below w.heap.size w w':=Any.slices_Clone_string_zero Tryz.Ky a c w
def Tryz.Kz:Go.Shelf.Ren:=⟨fun|8=>26|6=>62|n=>n,fun|22=>25|23=>26|25=>48|4=>4|3=>3|0=>0|n=>n,fun|n=>n⟩
theorem Tryz.Jp:Go.Proofs.SlLaysH.n8 Tryz.prog Tryz.Kz:={
  mixed:=by kernel_rfl
  f6:=⟨Tryz.f62.name,by decide,Tryz.func62.trans (congrArg some (by kernel_rfl))⟩
  f8:=⟨Tryz.f26.name,by decide,Tryz.func26.trans (congrArg some (by kernel_rfl))⟩
  t0:=Tryz.underlying0
  a0:=Tryz.isAgg0
  z0:=Tryz.sizeOf0
  v0:=Tryz.zeroValue0
  t3:=Tryz.underlying3
  a3:=Tryz.isAgg3
  z3:=Tryz.sizeOf3
  v3:=Tryz.zeroValue3
  t4:=Tryz.underlying4
  a4:=Tryz.isAgg4
  z4:=Tryz.sizeOf4
  v4:=Tryz.zeroValue4
  t22:=Tryz.underlying25
  a22:=Tryz.isAgg25
  z22:=Tryz.sizeOf25
  v22:=Tryz.zeroValue25
  a23:=Tryz.isAgg26
  z23:=Tryz.sizeOf26
  t25:=Tryz.underlying48
  a25:=Tryz.isAgg48
  z25:=Tryz.sizeOf48
  v25:=Tryz.zeroValue48}
open Go.RowKit Go.Lib in
theorem Tryz.Cs {α:Type} [Inhabited α] (enc:α→Value) (p:α→Bool) (g:Nat) (lb:Array Value) (eg:∀args w,(callFunc g args).run Tryz.prog w=.ok (.enter g args) w) (b off n c:Nat) (zs:List α) (w:World) (hp:PredAt Tryz.prog g lb enc p w) (hz:n≤zs.length) (hbig:n≤9223372036854775807) (hc:∀j,j<zs.length→w.cell? ⟨b,off+j,none⟩=some (enc zs[j]!)):
    Calls Tryz.prog 26 #[.slice (some ⟨b,off,none⟩) n c,.func (.func g) #[] lb] w fun e w'=>e=.returned (.bool ((zs.take n).any p))∧∃q,w'=w.drewN q:=AnyE.slices_ContainsFunc Tryz.Jp enc p g lb eg b off n c zs w hp hz hbig hc
open Go.RowKit Go.Lib in
theorem Tryz.yV {α:Type} [Inhabited α] (a:Option Addr) (c:Nat) (fv:Value) (w:World):
    Calls Tryz.prog 26 #[.slice a 0 c,fv] w fun e w'=>e=.returned (.bool false)∧w'=w:=AnyE.slices_ContainsFunc_empty Tryz.Jp a c fv w
end Go.Proofs
