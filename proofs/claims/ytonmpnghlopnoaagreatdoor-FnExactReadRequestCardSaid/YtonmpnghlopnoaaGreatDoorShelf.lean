/-
  DERIVED: THE SHELF's CONTRACTS AT THIS DUMP, IN PLAIN WORDS (tools/lay-plain.mjs out of 'TryzShelf.lean', which tools/lay-shelf.mjs wrote): THE SAME DECLARATIONS UNDER THE SAME NAMES: 'import', 'namespace', 'open', 'def', 'theorem' AND NOTHING ELSE: no command of the shelf's: FOR A HAND-IN. Each laying: the table of numbers ('.._ren') and one theorem, a field a fact of the dump's own or the kernel's comparison; each contract: ONE APPLICATION.
-/
import Derived.Shelf.Strings.Builder1
import Derived.Shelf.Strings.Builder2
import Derived.Shelf.Strings.OnBuilder
import Derived.Shelf.Small.Utf8
import Derived.Shelf.Small.Strs
import Derived.Shelf.Strings.BuilderF
import Derived.Shelf.Strings.BuilderK
import Derived.Shelf.Utf8.RuneCount
import Derived.Shelf.Strings.Builder2Cap
import Derived.Shelf.Strconv.Atoi
import Derived.Shelf.Strconv.Itoa0
import Derived.Shelf.Strconv.Itoa1
import Derived.Shelf.LaysM
import Derived.Shelf.Strconv.Itoa2
import Derived.Shelf.Strconv.Itoa3
import Derived.Shelf.Strconv.AtoiErrFast
import Derived.Shelf.Strconv.ParseIntEmpty
import Derived.Shelf.Strconv.AtoiFail
import Derived.Shelf.Strconv.Clone
import Derived.Shelf.Strconv.SyntaxError
import Derived.Shelf.LaysC
import Derived.Shelf.Strconv.ToError
import Derived.Shelf.Strconv.AtoiErr
import Derived.Shelf.Strconv.Lower
import Derived.Shelf.Strconv.ParseUint10
import Derived.Shelf.Strconv.ParseUint10Empty
import Derived.Shelf.Strconv.ParseUint10Any
import Derived.Shelf.Strconv.ParseInt10
import Derived.Shelf.Strconv.AtoiLong
import Derived.Shelf.Strconv.AtoiInnerAll
import Derived.Shelf.Strconv.RangeError
import Derived.Shelf.Strconv.ToErrorRange
import Derived.Shelf.Strconv.AtoiAll
import Derived.Shelf.Strings.Search1
import Derived.Shelf.Strings.Search2
import Derived.Shelf.Strings.Search3
import Derived.Shelf.Strings.Cut
import Derived.Shelf.Strings.Count
import Derived.Shelf.Strings.Shaped
import Derived.Shelf.Strings.Split
import Derived.Shelf.Strings.SplitShaped
import Derived.Shelf.Unicode.Decode
import Derived.Shelf.Strings.Runes
import Derived.Shelf.Strings.RuneCount
import Derived.Shelf.Strings.IndexAny
import Derived.Shelf.Strings.AsciiSet
import Derived.Shelf.Strings.IndexAnyAll
import Derived.Shelf.Strings.Explode
import Derived.Shelf.Unicode.DecodeSlow
import Derived.Shelf.Unicode.DecodeAny
import Derived.Shelf.Strings.BuilderCap
import Derived.Test.YtonmpnghlopnoaaGreatDoorProg
namespace Go.Proofs
open Go.Shelf
def Tryz.lays156_ren : Go.Shelf.Ren:=⟨fun|156=>148|165=>157|166=>132|169=>135|240=>150|241=>160|276=>158|277=>165|n=>n,fun|31=>64|9=>9|3=>3|4=>4|0=>0|20=>20|72=>118|76=>61|70=>116|37=>87|75=>60|127=>132|164=>140|5=>5|80=>119|n=>n,fun|n=>n⟩
theorem Tryz.lays156 : Go.Proofs.Lays.n156 Tryz.prog Tryz.lays156_ren:={
  mixed:=by kernel_rfl
  f156:=Tryz.func148.trans (congrArg some (by kernel_rfl))
  f165:=Tryz.func157.trans (congrArg some (by kernel_rfl))
  f166:=Tryz.func132.trans (congrArg some (by kernel_rfl))
  f169:=Tryz.func135.trans (congrArg some (by kernel_rfl))
  f240:=Tryz.func150.trans (congrArg some (by kernel_rfl))
  f241:=Tryz.func160.trans (congrArg some (by kernel_rfl))
  f276:=Tryz.func158.trans (congrArg some (by kernel_rfl))
  f277:=Tryz.func165.trans (congrArg some (by kernel_rfl))
  t0:=Tryz.underlying0
  a0:=Tryz.isAgg0
  z0:=Tryz.sizeOf0
  v0:=Tryz.zeroValue0
  t3:=Tryz.underlying3
  a3:=Tryz.isAgg3
  z3:=Tryz.sizeOf3
  v3:=Tryz.zeroValue3
  t4:=Tryz.underlying4
  a4:=Tryz.isAgg4
  z4:=Tryz.sizeOf4
  v4:=Tryz.zeroValue4
  t9:=Tryz.underlying9
  a9:=Tryz.isAgg9
  z9:=Tryz.sizeOf9
  v9:=Tryz.zeroValue9
  t20:=Tryz.underlying20
  a20:=Tryz.isAgg20
  z20:=Tryz.sizeOf20
  v20:=Tryz.zeroValue20
  t31:=Tryz.underlying64
  a31:=Tryz.isAgg64
  z31:=Tryz.sizeOf64
  v31:=Tryz.zeroValue64
  t37:=Tryz.underlying87
  a37:=Tryz.isAgg87
  z37:=Tryz.sizeOf87
  v37:=Tryz.zeroValue87
  t70:=Tryz.underlying116
  a70:=Tryz.isAgg116
  z70:=Tryz.sizeOf116
  v70:=Tryz.zeroValue116
  t72:=Tryz.underlying118
  a72:=Tryz.isAgg118
  z72:=Tryz.sizeOf118
  v72:=Tryz.zeroValue118
  t75:=Tryz.underlying60
  a75:=Tryz.isAgg60
  z75:=Tryz.sizeOf60
  v75:=Tryz.zeroValue60
  t76:=Tryz.underlying61
  a76:=Tryz.isAgg61
  z76:=Tryz.sizeOf61
  v76:=Tryz.zeroValue61
  t127:=Tryz.underlying132
  a127:=Tryz.isAgg132
  z127:=Tryz.sizeOf132
  v127:=Tryz.zeroValue132
  t164:=Tryz.underlying140
  a164:=Tryz.isAgg140
  z164:=Tryz.sizeOf140
  v164:=Tryz.zeroValue140 }
theorem Tryz.Builder_Extra_156 : Builder.Extra Tryz.prog Tryz.lays156_ren:={
  sizeBuilder:=by kernel_rfl
  liesBuilder:=by kernel_rfl
  t5:=Tryz.underlying5
  a5:=Tryz.isAgg5
  z5:=Tryz.sizeOf5
  v5:=Tryz.zeroValue5
  infoByte:=by kernel_rfl
  cellsByte:=by kernel_rfl
  sizeByte:=by kernel_rfl
  neB5:=by decide }
open Go.RowKit in
theorem Tryz.strings_Join_none (a:Option Addr) (c:Nat) (sep:ByteArray) (w:World) :
    Calls Tryz.prog 148 #[.slice a 0 c,.string sep] w fun e w'=>e = .returned (.string ⟨#[]⟩)∧w'=w:=Any.strings_Join_none Tryz.lays156 Tryz.Builder_Extra_156 a c sep w
open Go.RowKit in
theorem Tryz.strings_Join (bk o c:Nat) (xs:List ByteArray) (sep:ByteArray) (w:World) (hcells:∀(j:Nat) x,xs[j]? = some x→w.cell? ⟨bk,o+j,none⟩=some (.string x)) (hbk:bk<w.heap.size) (hN:xs.length≤140737488355328) (hcap:xs.length≤c) (hlen:(Lib.join (xs.map (·.data.toList)) sep.data.toList).length≤140737488355328) :
    Calls Tryz.prog 148 #[.slice (some ⟨bk,o,none⟩) xs.length c,.string sep] w fun e w'=>e = .returned (.string ⟨(Lib.join (xs.map (·.data.toList)) sep.data.toList).toArray⟩)∧Below w.heap.size w w':=Any.strings_Join Tryz.lays156 Tryz.Builder_Extra_156 bk o c xs sep w hcells hbk hN hcap hlen
def Tryz.lays119_ren : Go.Shelf.Ren:=⟨fun|119=>104|n=>n,fun|21=>21|4=>4|n=>n,fun|n=>n⟩
theorem Tryz.lays119 : Go.Proofs.Lays.n119 Tryz.prog Tryz.lays119_ren:={
  mixed:=by kernel_rfl
  f119:=Tryz.func104.trans (congrArg some (by kernel_rfl))
  t4:=Tryz.underlying4
  a4:=Tryz.isAgg4
  z4:=Tryz.sizeOf4
  v4:=Tryz.zeroValue4
  t21:=Tryz.underlying21
  a21:=Tryz.isAgg21
  z21:=Tryz.sizeOf21
  v21:=Tryz.zeroValue21 }
theorem Tryz.utf8_ValidRune (r:Int) (w:World) :
    Calls Tryz.prog 104 #[.int .i32 r] w fun e w'=>e = .returned (.bool (Lib.validRune r))∧w'=w:=Any.utf8_ValidRune Tryz.lays119 r w
def Tryz.lays137_ren : Go.Shelf.Ren:=⟨fun|137=>103|217=>137|266=>152|n=>n,fun|9=>9|5=>5|3=>3|n=>n,fun|n=>n⟩
theorem Tryz.lays137 : Go.Proofs.Lays.n137 Tryz.prog Tryz.lays137_ren:={
  mixed:=by kernel_rfl
  f137:=Tryz.func103.trans (congrArg some (by kernel_rfl))
  f217:=Tryz.func137.trans (congrArg some (by kernel_rfl))
  f266:=Tryz.func152.trans (congrArg some (by kernel_rfl))
  t3:=Tryz.underlying3
  a3:=Tryz.isAgg3
  z3:=Tryz.sizeOf3
  v3:=Tryz.zeroValue3
  t5:=Tryz.underlying5
  a5:=Tryz.isAgg5
  z5:=Tryz.sizeOf5
  v5:=Tryz.zeroValue5
  t9:=Tryz.underlying9
  a9:=Tryz.isAgg9
  z9:=Tryz.sizeOf9
  v9:=Tryz.zeroValue9 }
open Go.RowKit in
theorem Tryz.strings_IndexByte (s:ByteArray) (c:Int) (w:World) :
    Calls Tryz.prog 103 #[.string s,.int .u8 c] w fun e w'=>e = .returned (.int .i64 (Lib.indexByte s.data.toList c.toNat.toUInt8))∧w'=w:=Any.strings_IndexByte Tryz.lays137 s c w
def Tryz.lays172_ren : Go.Shelf.Ren:=⟨fun|172=>38|244=>75|245=>76|247=>108|279=>109|280=>110|281=>111|282=>112|287=>138|316=>139|171=>133|205=>140|321=>153|322=>154|243=>151|246=>159|283=>161|284=>162|285=>163|286=>164|129=>167|317=>166|318=>168|319=>169|320=>170|337=>171|338=>172|n=>n,fun|9=>9|3=>3|75=>60|76=>61|4=>4|5=>5|167=>103|37=>87|0=>0|85=>104|2=>2|168=>106|53=>121|175=>122|46=>101|210=>125|127=>132|145=>135|143=>133|21=>21|171=>147|173=>150|212=>154|51=>136|20=>20|213=>155|232=>158|233=>159|80=>119|n=>n,fun|15=>1|16=>2|17=>5|18=>6|19=>7|n=>n⟩
theorem Tryz.lays172 : Go.Proofs.Lays.n172 Tryz.prog Tryz.lays172_ren:={
  mixed:=by kernel_rfl
  f129:=Tryz.func167.trans (congrArg some (by kernel_rfl))
  f171:=Tryz.func133.trans (congrArg some (by kernel_rfl))
  f172:=Tryz.func38.trans (congrArg some (by kernel_rfl))
  f205:=Tryz.func140.trans (congrArg some (by kernel_rfl))
  f243:=Tryz.func151.trans (congrArg some (by kernel_rfl))
  f244:=Tryz.func75.trans (congrArg some (by kernel_rfl))
  f245:=Tryz.func76.trans (congrArg some (by kernel_rfl))
  f246:=Tryz.func159.trans (congrArg some (by kernel_rfl))
  f247:=Tryz.func108.trans (congrArg some (by kernel_rfl))
  f279:=Tryz.func109.trans (congrArg some (by kernel_rfl))
  f280:=Tryz.func110.trans (congrArg some (by kernel_rfl))
  f281:=Tryz.func111.trans (congrArg some (by kernel_rfl))
  f282:=Tryz.func112.trans (congrArg some (by kernel_rfl))
  f283:=Tryz.func161.trans (congrArg some (by kernel_rfl))
  f284:=Tryz.func162.trans (congrArg some (by kernel_rfl))
  f285:=Tryz.func163.trans (congrArg some (by kernel_rfl))
  f286:=Tryz.func164.trans (congrArg some (by kernel_rfl))
  f287:=Tryz.func138.trans (congrArg some (by kernel_rfl))
  f316:=Tryz.func139.trans (congrArg some (by kernel_rfl))
  f317:=Tryz.func166.trans (congrArg some (by kernel_rfl))
  f318:=Tryz.func168.trans (congrArg some (by kernel_rfl))
  f319:=Tryz.func169.trans (congrArg some (by kernel_rfl))
  f320:=Tryz.func170.trans (congrArg some (by kernel_rfl))
  f321:=Tryz.func153.trans (congrArg some (by kernel_rfl))
  f322:=Tryz.func154.trans (congrArg some (by kernel_rfl))
  f337:=Tryz.func171.trans (congrArg some (by kernel_rfl))
  f338:=Tryz.func172.trans (congrArg some (by kernel_rfl))
  t0:=Tryz.underlying0
  a0:=Tryz.isAgg0
  z0:=Tryz.sizeOf0
  v0:=Tryz.zeroValue0
  t2:=Tryz.underlying2
  a2:=Tryz.isAgg2
  z2:=Tryz.sizeOf2
  v2:=Tryz.zeroValue2
  t3:=Tryz.underlying3
  a3:=Tryz.isAgg3
  z3:=Tryz.sizeOf3
  v3:=Tryz.zeroValue3
  t4:=Tryz.underlying4
  a4:=Tryz.isAgg4
  z4:=Tryz.sizeOf4
  v4:=Tryz.zeroValue4
  t5:=Tryz.underlying5
  a5:=Tryz.isAgg5
  z5:=Tryz.sizeOf5
  v5:=Tryz.zeroValue5
  t9:=Tryz.underlying9
  a9:=Tryz.isAgg9
  z9:=Tryz.sizeOf9
  v9:=Tryz.zeroValue9
  t20:=Tryz.underlying20
  a20:=Tryz.isAgg20
  z20:=Tryz.sizeOf20
  v20:=Tryz.zeroValue20
  t21:=Tryz.underlying21
  a21:=Tryz.isAgg21
  z21:=Tryz.sizeOf21
  v21:=Tryz.zeroValue21
  t37:=Tryz.underlying87
  a37:=Tryz.isAgg87
  z37:=Tryz.sizeOf87
  v37:=Tryz.zeroValue87
  t46:=Tryz.underlying101
  a46:=Tryz.isAgg101
  z46:=Tryz.sizeOf101
  v46:=Tryz.zeroValue101
  t51:=Tryz.underlying136
  a51:=Tryz.isAgg136
  z51:=Tryz.sizeOf136
  v51:=Tryz.zeroValue136
  t53:=Tryz.underlying121
  a53:=Tryz.isAgg121
  z53:=Tryz.sizeOf121
  v53:=Tryz.zeroValue121
  t75:=Tryz.underlying60
  a75:=Tryz.isAgg60
  z75:=Tryz.sizeOf60
  v75:=Tryz.zeroValue60
  t76:=Tryz.underlying61
  a76:=Tryz.isAgg61
  z76:=Tryz.sizeOf61
  v76:=Tryz.zeroValue61
  t85:=Tryz.underlying104
  a85:=Tryz.isAgg104
  z85:=Tryz.sizeOf104
  v85:=Tryz.zeroValue104
  t127:=Tryz.underlying132
  a127:=Tryz.isAgg132
  z127:=Tryz.sizeOf132
  v127:=Tryz.zeroValue132
  t143:=Tryz.underlying133
  a143:=Tryz.isAgg133
  z143:=Tryz.sizeOf133
  v143:=Tryz.zeroValue133
  t145:=Tryz.underlying135
  a145:=Tryz.isAgg135
  z145:=Tryz.sizeOf135
  v145:=Tryz.zeroValue135
  t167:=Tryz.underlying103
  a167:=Tryz.isAgg103
  z167:=Tryz.sizeOf103
  v167:=Tryz.zeroValue103
  t168:=Tryz.underlying106
  a168:=Tryz.isAgg106
  z168:=Tryz.sizeOf106
  v168:=Tryz.zeroValue106
  t171:=Tryz.underlying147
  a171:=Tryz.isAgg147
  z171:=Tryz.sizeOf147
  v171:=Tryz.zeroValue147
  t173:=Tryz.underlying150
  a173:=Tryz.isAgg150
  z173:=Tryz.sizeOf150
  v173:=Tryz.zeroValue150
  t175:=Tryz.underlying122
  a175:=Tryz.isAgg122
  z175:=Tryz.sizeOf122
  v175:=Tryz.zeroValue122
  t210:=Tryz.underlying125
  a210:=Tryz.isAgg125
  z210:=Tryz.sizeOf125
  v210:=Tryz.zeroValue125
  t212:=Tryz.underlying154
  a212:=Tryz.isAgg154
  z212:=Tryz.sizeOf154
  v212:=Tryz.zeroValue154
  t213:=Tryz.underlying155
  a213:=Tryz.isAgg155
  z213:=Tryz.sizeOf155
  t232:=Tryz.underlying158
  a232:=Tryz.isAgg158
  z232:=Tryz.sizeOf158
  v232:=Tryz.zeroValue158
  t233:=Tryz.underlying159
  a233:=Tryz.isAgg159
  z233:=Tryz.sizeOf159
  v233:=Tryz.zeroValue159
  g15:=by kernel_rfl
  g16:=by kernel_rfl
  g17:=by kernel_rfl
  g18:=by kernel_rfl
  g19:=by kernel_rfl }
open Go.RowKit in
theorem Tryz.strconv_Atoi (s:ByteArray) (n:Int) (hl:s.size≤18) (h:Lib.atoi s.data.toList=some n) (w:World) :
    Calls Tryz.prog 38 #[.string s] w fun e w'=>e = .returned (.tuple #[.int .i64 n,.nilIface])∧∃ t,w'=Lib.bytesWorld w 5 t:=Any.strconv_Atoi Tryz.lays172 s n hl h w
def Tryz.laysM171_ren : Go.Shelf.Ren:=⟨fun|171=>133|243=>151|246=>159|283=>161|284=>162|285=>163|286=>164|129=>167|317=>166|318=>168|319=>169|320=>170|337=>171|338=>172|n=>n,fun|3=>3|9=>9|2=>2|4=>4|171=>147|0=>0|53=>121|37=>87|5=>5|173=>150|212=>154|51=>136|20=>20|213=>155|46=>101|232=>158|233=>159|n=>n,fun|17=>5|18=>6|19=>7|n=>n⟩
theorem Tryz.laysM171 : Go.Proofs.LaysM.n171 Tryz.prog Tryz.laysM171_ren:={
  mixed:=by kernel_rfl
  f129:=Tryz.func167.trans (congrArg some (by kernel_rfl))
  f171:=Tryz.func133.trans (congrArg some (by kernel_rfl))
  f243:=Tryz.func151.trans (congrArg some (by kernel_rfl))
  f246:=Tryz.func159.trans (congrArg some (by kernel_rfl))
  f283:=Tryz.func161.trans (congrArg some (by kernel_rfl))
  f284:=Tryz.func162.trans (congrArg some (by kernel_rfl))
  f285:=Tryz.func163.trans (congrArg some (by kernel_rfl))
  f286:=Tryz.func164.trans (congrArg some (by kernel_rfl))
  f317:=Tryz.func166.trans (congrArg some (by kernel_rfl))
  f318:=Tryz.func168.trans (congrArg some (by kernel_rfl))
  f319:=Tryz.func169.trans (congrArg some (by kernel_rfl))
  f320:=Tryz.func170.trans (congrArg some (by kernel_rfl))
  f337:=Tryz.func171.trans (congrArg some (by kernel_rfl))
  f338:=Tryz.func172.trans (congrArg some (by kernel_rfl))
  t0:=Tryz.underlying0
  a0:=Tryz.isAgg0
  z0:=Tryz.sizeOf0
  v0:=Tryz.zeroValue0
  t2:=Tryz.underlying2
  a2:=Tryz.isAgg2
  z2:=Tryz.sizeOf2
  v2:=Tryz.zeroValue2
  t3:=Tryz.underlying3
  a3:=Tryz.isAgg3
  z3:=Tryz.sizeOf3
  v3:=Tryz.zeroValue3
  t4:=Tryz.underlying4
  a4:=Tryz.isAgg4
  z4:=Tryz.sizeOf4
  v4:=Tryz.zeroValue4
  t5:=Tryz.underlying5
  a5:=Tryz.isAgg5
  z5:=Tryz.sizeOf5
  v5:=Tryz.zeroValue5
  t9:=Tryz.underlying9
  a9:=Tryz.isAgg9
  z9:=Tryz.sizeOf9
  v9:=Tryz.zeroValue9
  t20:=Tryz.underlying20
  a20:=Tryz.isAgg20
  z20:=Tryz.sizeOf20
  v20:=Tryz.zeroValue20
  t37:=Tryz.underlying87
  a37:=Tryz.isAgg87
  z37:=Tryz.sizeOf87
  v37:=Tryz.zeroValue87
  t46:=Tryz.underlying101
  a46:=Tryz.isAgg101
  z46:=Tryz.sizeOf101
  v46:=Tryz.zeroValue101
  t51:=Tryz.underlying136
  a51:=Tryz.isAgg136
  z51:=Tryz.sizeOf136
  v51:=Tryz.zeroValue136
  t53:=Tryz.underlying121
  a53:=Tryz.isAgg121
  z53:=Tryz.sizeOf121
  v53:=Tryz.zeroValue121
  t171:=Tryz.underlying147
  a171:=Tryz.isAgg147
  z171:=Tryz.sizeOf147
  v171:=Tryz.zeroValue147
  t173:=Tryz.underlying150
  a173:=Tryz.isAgg150
  z173:=Tryz.sizeOf150
  v173:=Tryz.zeroValue150
  t212:=Tryz.underlying154
  a212:=Tryz.isAgg154
  z212:=Tryz.sizeOf154
  v212:=Tryz.zeroValue154
  t213:=Tryz.underlying155
  a213:=Tryz.isAgg155
  z213:=Tryz.sizeOf155
  t232:=Tryz.underlying158
  a232:=Tryz.isAgg158
  z232:=Tryz.sizeOf158
  v232:=Tryz.zeroValue158
  t233:=Tryz.underlying159
  a233:=Tryz.isAgg159
  z233:=Tryz.sizeOf159
  v233:=Tryz.zeroValue159
  g17:=by kernel_rfl
  g18:=by kernel_rfl
  g19:=by kernel_rfl
  i0:=by kernel_rfl
  i2:=by kernel_rfl
  i3:=by kernel_rfl
  i4:=by kernel_rfl
  i5:=by kernel_rfl
  i9:=by kernel_rfl
  i20:=by kernel_rfl
  i37:=by kernel_rfl
  i46:=by kernel_rfl
  i51:=by kernel_rfl
  i53:=by kernel_rfl
  i171:=by kernel_rfl
  i173:=by kernel_rfl
  i212:=by kernel_rfl
  i232:=by kernel_rfl
  i233:=by kernel_rfl
  m17:=by kernel_rfl
  m18:=by kernel_rfl
  m19:=by kernel_rfl }
open Go.RowKit Go.Sort Go.Lib in
theorem Tryz.strconv_Itoa (n : Int) (h0 : -9223372036854775808 ≤ n) (h1 : n ≤ 9223372036854775807) (w : World) (htab : Lib.TabIs Tryz.prog w "internal/strconv.uint64pow10" .u64 Lib.pow10Tab) :
    Calls Tryz.prog 133 #[.int .i64 n] w fun e w'=>e = .returned (.string ⟨(Lib.itoa n).toArray⟩)∧∃ k os,w'=grow (w.drewN k) os:=Any.strconv_Itoa Tryz.laysM171 n h0 h1 w htab
def Tryz.laysC172_ren : Go.Shelf.Ren:=⟨fun|172=>38|244=>75|245=>76|247=>108|279=>109|280=>110|281=>111|282=>112|287=>138|316=>139|171=>133|205=>140|321=>153|322=>154|243=>151|246=>159|283=>161|284=>162|285=>163|286=>164|129=>167|317=>166|318=>168|319=>169|320=>170|337=>171|338=>172|n=>n,fun|9=>9|3=>3|75=>60|76=>61|4=>4|5=>5|167=>103|37=>87|0=>0|85=>104|2=>2|168=>106|53=>121|175=>122|46=>101|210=>125|127=>132|145=>135|143=>133|21=>21|171=>147|173=>150|212=>154|51=>136|20=>20|213=>155|232=>158|233=>159|80=>119|n=>n,fun|15=>1|16=>2|17=>5|18=>6|19=>7|n=>n⟩
theorem Tryz.laysC172 : Go.Proofs.LaysC.n172 Tryz.prog Tryz.laysC172_ren:={
  mixed:=by kernel_rfl
  f129:=Tryz.func167.trans (congrArg some (by kernel_rfl))
  f171:=Tryz.func133.trans (congrArg some (by kernel_rfl))
  f172:=Tryz.func38.trans (congrArg some (by kernel_rfl))
  f205:=Tryz.func140.trans (congrArg some (by kernel_rfl))
  f243:=Tryz.func151.trans (congrArg some (by kernel_rfl))
  f244:=Tryz.func75.trans (congrArg some (by kernel_rfl))
  f245:=Tryz.func76.trans (congrArg some (by kernel_rfl))
  f246:=Tryz.func159.trans (congrArg some (by kernel_rfl))
  f247:=Tryz.func108.trans (congrArg some (by kernel_rfl))
  f279:=Tryz.func109.trans (congrArg some (by kernel_rfl))
  f280:=Tryz.func110.trans (congrArg some (by kernel_rfl))
  f281:=Tryz.func111.trans (congrArg some (by kernel_rfl))
  f282:=Tryz.func112.trans (congrArg some (by kernel_rfl))
  f283:=Tryz.func161.trans (congrArg some (by kernel_rfl))
  f284:=Tryz.func162.trans (congrArg some (by kernel_rfl))
  f285:=Tryz.func163.trans (congrArg some (by kernel_rfl))
  f286:=Tryz.func164.trans (congrArg some (by kernel_rfl))
  f287:=Tryz.func138.trans (congrArg some (by kernel_rfl))
  f316:=Tryz.func139.trans (congrArg some (by kernel_rfl))
  f317:=Tryz.func166.trans (congrArg some (by kernel_rfl))
  f318:=Tryz.func168.trans (congrArg some (by kernel_rfl))
  f319:=Tryz.func169.trans (congrArg some (by kernel_rfl))
  f320:=Tryz.func170.trans (congrArg some (by kernel_rfl))
  f321:=Tryz.func153.trans (congrArg some (by kernel_rfl))
  f322:=Tryz.func154.trans (congrArg some (by kernel_rfl))
  f337:=Tryz.func171.trans (congrArg some (by kernel_rfl))
  f338:=Tryz.func172.trans (congrArg some (by kernel_rfl))
  t0:=Tryz.underlying0
  a0:=Tryz.isAgg0
  z0:=Tryz.sizeOf0
  v0:=Tryz.zeroValue0
  t2:=Tryz.underlying2
  a2:=Tryz.isAgg2
  z2:=Tryz.sizeOf2
  v2:=Tryz.zeroValue2
  t3:=Tryz.underlying3
  a3:=Tryz.isAgg3
  z3:=Tryz.sizeOf3
  v3:=Tryz.zeroValue3
  t4:=Tryz.underlying4
  a4:=Tryz.isAgg4
  z4:=Tryz.sizeOf4
  v4:=Tryz.zeroValue4
  t5:=Tryz.underlying5
  a5:=Tryz.isAgg5
  z5:=Tryz.sizeOf5
  v5:=Tryz.zeroValue5
  t9:=Tryz.underlying9
  a9:=Tryz.isAgg9
  z9:=Tryz.sizeOf9
  v9:=Tryz.zeroValue9
  t20:=Tryz.underlying20
  a20:=Tryz.isAgg20
  z20:=Tryz.sizeOf20
  v20:=Tryz.zeroValue20
  t21:=Tryz.underlying21
  a21:=Tryz.isAgg21
  z21:=Tryz.sizeOf21
  v21:=Tryz.zeroValue21
  t37:=Tryz.underlying87
  a37:=Tryz.isAgg87
  z37:=Tryz.sizeOf87
  v37:=Tryz.zeroValue87
  t46:=Tryz.underlying101
  a46:=Tryz.isAgg101
  z46:=Tryz.sizeOf101
  v46:=Tryz.zeroValue101
  t51:=Tryz.underlying136
  a51:=Tryz.isAgg136
  z51:=Tryz.sizeOf136
  v51:=Tryz.zeroValue136
  t53:=Tryz.underlying121
  a53:=Tryz.isAgg121
  z53:=Tryz.sizeOf121
  v53:=Tryz.zeroValue121
  t75:=Tryz.underlying60
  a75:=Tryz.isAgg60
  z75:=Tryz.sizeOf60
  v75:=Tryz.zeroValue60
  t76:=Tryz.underlying61
  a76:=Tryz.isAgg61
  z76:=Tryz.sizeOf61
  v76:=Tryz.zeroValue61
  t85:=Tryz.underlying104
  a85:=Tryz.isAgg104
  z85:=Tryz.sizeOf104
  v85:=Tryz.zeroValue104
  t127:=Tryz.underlying132
  a127:=Tryz.isAgg132
  z127:=Tryz.sizeOf132
  v127:=Tryz.zeroValue132
  t143:=Tryz.underlying133
  a143:=Tryz.isAgg133
  z143:=Tryz.sizeOf133
  v143:=Tryz.zeroValue133
  t145:=Tryz.underlying135
  a145:=Tryz.isAgg135
  z145:=Tryz.sizeOf135
  v145:=Tryz.zeroValue135
  t167:=Tryz.underlying103
  a167:=Tryz.isAgg103
  z167:=Tryz.sizeOf103
  v167:=Tryz.zeroValue103
  t168:=Tryz.underlying106
  a168:=Tryz.isAgg106
  z168:=Tryz.sizeOf106
  v168:=Tryz.zeroValue106
  t171:=Tryz.underlying147
  a171:=Tryz.isAgg147
  z171:=Tryz.sizeOf147
  v171:=Tryz.zeroValue147
  t173:=Tryz.underlying150
  a173:=Tryz.isAgg150
  z173:=Tryz.sizeOf150
  v173:=Tryz.zeroValue150
  t175:=Tryz.underlying122
  a175:=Tryz.isAgg122
  z175:=Tryz.sizeOf122
  v175:=Tryz.zeroValue122
  t210:=Tryz.underlying125
  a210:=Tryz.isAgg125
  z210:=Tryz.sizeOf125
  v210:=Tryz.zeroValue125
  t212:=Tryz.underlying154
  a212:=Tryz.isAgg154
  z212:=Tryz.sizeOf154
  v212:=Tryz.zeroValue154
  t213:=Tryz.underlying155
  a213:=Tryz.isAgg155
  z213:=Tryz.sizeOf155
  t232:=Tryz.underlying158
  a232:=Tryz.isAgg158
  z232:=Tryz.sizeOf158
  v232:=Tryz.zeroValue158
  t233:=Tryz.underlying159
  a233:=Tryz.isAgg159
  z233:=Tryz.sizeOf159
  v233:=Tryz.zeroValue159
  g15:=by kernel_rfl
  g16:=by kernel_rfl
  g17:=by kernel_rfl
  g18:=by kernel_rfl
  g19:=by kernel_rfl
  t80:=Tryz.underlying119
  a80:=Tryz.isAgg119
  z80:=Tryz.sizeOf119
  v80:=Tryz.zeroValue119
  i0:=by kernel_rfl
  i2:=by kernel_rfl
  i3:=by kernel_rfl
  i4:=by kernel_rfl
  i5:=by kernel_rfl
  i9:=by kernel_rfl
  i20:=by kernel_rfl
  i21:=by kernel_rfl
  i37:=by kernel_rfl
  i46:=by kernel_rfl
  i51:=by kernel_rfl
  i53:=by kernel_rfl
  i75:=by kernel_rfl
  i76:=by kernel_rfl
  i80:=by kernel_rfl
  i85:=by kernel_rfl
  i127:=by kernel_rfl
  i143:=by kernel_rfl
  i145:=by kernel_rfl
  i167:=by kernel_rfl
  i168:=by kernel_rfl
  i171:=by kernel_rfl
  i173:=by kernel_rfl
  i175:=by kernel_rfl
  i210:=by kernel_rfl
  i212:=by kernel_rfl
  i232:=by kernel_rfl
  i233:=by kernel_rfl
  m15:=by kernel_rfl
  m16:=by kernel_rfl
  m17:=by kernel_rfl
  m18:=by kernel_rfl
  m19:=by kernel_rfl
  c0:=by kernel_rfl
  c2:=by kernel_rfl
  c3:=by kernel_rfl
  c4:=by kernel_rfl
  c5:=by kernel_rfl
  c9:=by kernel_rfl
  c20:=by kernel_rfl
  c21:=by kernel_rfl
  c37:=by kernel_rfl
  c46:=by kernel_rfl
  c51:=by kernel_rfl
  c53:=by kernel_rfl
  c75:=by kernel_rfl
  c76:=by kernel_rfl
  c80:=by kernel_rfl
  c85:=by kernel_rfl
  c127:=by kernel_rfl
  c143:=by kernel_rfl
  c145:=by kernel_rfl
  c167:=by kernel_rfl
  c168:=by kernel_rfl
  c171:=by kernel_rfl
  c173:=by kernel_rfl
  c175:=by kernel_rfl
  c210:=by kernel_rfl
  c212:=by kernel_rfl
  c213:=by kernel_rfl
  c232:=by kernel_rfl
  c233:=by kernel_rfl }
open Go.RowKit in
theorem Tryz.strconv_Atoi_ok (s:ByteArray) (hmax:s.size≤9223372036854775806) (v:Int) (h:Lib.atoiAll s.data.toList = .ok v) (w:World) :
    Calls Tryz.prog 38 #[.string s] w fun e w'=>e = .returned (.tuple #[.int .i64 v,.nilIface])∧(w'=w∨∃ t,w'=Lib.bytesWorld w 5 t):=Any.strconv_Atoi_ok Tryz.laysC172 s hmax v h w
open Go.RowKit in
theorem Tryz.strconv_Atoi_syntax (s:ByteArray) (hlim:s.size≤281474976710656) (h:(∀ v,Lib.atoiAll s.data.toList≠.ok v)∧Lib.atoiAll s.data.toList≠.range) (ev:Value) (w:World) (hv:w.cell? ⟨1,0,none⟩=some ev) (hev:ev = .nilIface∨∃ te pe,ev = .iface te pe) :
    Calls Tryz.prog 38 #[.string s] w fun e w'=>∃ N,e = .returned (.tuple #[.int .i64 (0),.iface 106 (.pointer (some ⟨N,0,none⟩))])∧w.heap.size≤N∧w'.heap[N]? = some (.cells #[.string ⟨#[65,116,111,105]⟩,.string s,ev] 125 (0,0))∧Below w.heap.size w w':=by
  rcases hA_:Lib.atoiAll s.data.toList with v_|_|_
  · exact absurd hA_ (h.1 v_)
  · exact Any.strconv_Atoi_syntax Tryz.laysC172 s hlim hA_ ev w hv hev
  · exact absurd hA_ h.2
open Go.RowKit in
theorem Tryz.strconv_Atoi_range (s:ByteArray) (hlim:s.size≤281474976710656) (h:Lib.atoiAll s.data.toList = .range) (ev:Value) (w:World) (hv:w.cell? ⟨2,0,none⟩=some ev) (hev:ev = .nilIface∨∃ te pe,ev = .iface te pe) :
    Calls Tryz.prog 38 #[.string s] w fun e w'=>∃ N,e = .returned (.tuple #[.int .i64 (Lib.atoiSat s.data.toList),.iface 106 (.pointer (some ⟨N,0,none⟩))])∧w.heap.size≤N∧w'.heap[N]? = some (.cells #[.string ⟨#[65,116,111,105]⟩,.string s,ev] 125 (0,0))∧Below w.heap.size w w':=Any.strconv_Atoi_range Tryz.laysC172 s hlim h ev w hv hev
def Tryz.lays219_ren : Go.Shelf.Ren:=⟨fun|219=>117|217=>137|225=>106|224=>105|267=>145|266=>152|314=>156|n=>n,fun|9=>9|3=>3|4=>4|5=>5|46=>101|146=>137|51=>136|n=>n,fun|1=>0|n=>n⟩
theorem Tryz.lays219 : Go.Proofs.Lays.n219 Tryz.prog Tryz.lays219_ren:={
  mixed:=by kernel_rfl
  f217:=Tryz.func137.trans (congrArg some (by kernel_rfl))
  f219:=Tryz.func117.trans (congrArg some (by kernel_rfl))
  f224:=Tryz.func105.trans (congrArg some (by kernel_rfl))
  f225:=Tryz.func106.trans (congrArg some (by kernel_rfl))
  f266:=Tryz.func152.trans (congrArg some (by kernel_rfl))
  f267:=Tryz.func145.trans (congrArg some (by kernel_rfl))
  f314:=Tryz.func156.trans (congrArg some (by kernel_rfl))
  t3:=Tryz.underlying3
  a3:=Tryz.isAgg3
  z3:=Tryz.sizeOf3
  v3:=Tryz.zeroValue3
  t4:=Tryz.underlying4
  a4:=Tryz.isAgg4
  z4:=Tryz.sizeOf4
  v4:=Tryz.zeroValue4
  t5:=Tryz.underlying5
  a5:=Tryz.isAgg5
  z5:=Tryz.sizeOf5
  v5:=Tryz.zeroValue5
  t9:=Tryz.underlying9
  a9:=Tryz.isAgg9
  z9:=Tryz.sizeOf9
  v9:=Tryz.zeroValue9
  t46:=Tryz.underlying101
  a46:=Tryz.isAgg101
  z46:=Tryz.sizeOf101
  v46:=Tryz.zeroValue101
  t51:=Tryz.underlying136
  a51:=Tryz.isAgg136
  z51:=Tryz.sizeOf136
  v51:=Tryz.zeroValue136
  t146:=Tryz.underlying137
  a146:=Tryz.isAgg137
  z146:=Tryz.sizeOf137
  v146:=Tryz.zeroValue137
  g1:=by kernel_rfl }
open Go.RowKit Go.Lib in
theorem Tryz.stringslite_Index_one (s:ByteArray) (c:UInt8) (w:World) :
    Calls Tryz.prog 117 #[.string s,.string ⟨#[c]⟩] w fun e w'=>e = .returned (.int .i64 (Lib.indexByte s.data.toList c))∧w'=w:=Any.stringslite_Index_one Tryz.lays219 s c w
def Tryz.lays143_ren : Go.Shelf.Ren:=⟨fun|143=>115|219=>117|217=>137|225=>106|224=>105|267=>145|266=>152|314=>156|n=>n,fun|9=>9|3=>3|4=>4|5=>5|46=>101|146=>137|51=>136|n=>n,fun|1=>0|n=>n⟩
theorem Tryz.lays143 : Go.Proofs.Lays.n143 Tryz.prog Tryz.lays143_ren:={
  mixed:=by kernel_rfl
  f143:=Tryz.func115.trans (congrArg some (by kernel_rfl))
  f217:=Tryz.func137.trans (congrArg some (by kernel_rfl))
  f219:=Tryz.func117.trans (congrArg some (by kernel_rfl))
  f224:=Tryz.func105.trans (congrArg some (by kernel_rfl))
  f225:=Tryz.func106.trans (congrArg some (by kernel_rfl))
  f266:=Tryz.func152.trans (congrArg some (by kernel_rfl))
  f267:=Tryz.func145.trans (congrArg some (by kernel_rfl))
  f314:=Tryz.func156.trans (congrArg some (by kernel_rfl))
  t3:=Tryz.underlying3
  a3:=Tryz.isAgg3
  z3:=Tryz.sizeOf3
  v3:=Tryz.zeroValue3
  t4:=Tryz.underlying4
  a4:=Tryz.isAgg4
  z4:=Tryz.sizeOf4
  v4:=Tryz.zeroValue4
  t5:=Tryz.underlying5
  a5:=Tryz.isAgg5
  z5:=Tryz.sizeOf5
  v5:=Tryz.zeroValue5
  t9:=Tryz.underlying9
  a9:=Tryz.isAgg9
  z9:=Tryz.sizeOf9
  v9:=Tryz.zeroValue9
  t46:=Tryz.underlying101
  a46:=Tryz.isAgg101
  z46:=Tryz.sizeOf101
  v46:=Tryz.zeroValue101
  t51:=Tryz.underlying136
  a51:=Tryz.isAgg136
  z51:=Tryz.sizeOf136
  v51:=Tryz.zeroValue136
  t146:=Tryz.underlying137
  a146:=Tryz.isAgg137
  z146:=Tryz.sizeOf137
  v146:=Tryz.zeroValue137
  g1:=by kernel_rfl }
open Go.RowKit Go.Lib in
theorem Tryz.strings_Index_one (s:ByteArray) (c:UInt8) (w:World) :
    Calls Tryz.prog 115 #[.string s,.string ⟨#[c]⟩] w fun e w'=>e = .returned (.int .i64 (Lib.indexByte s.data.toList c))∧w'=w:=Any.strings_Index_one Tryz.lays143 s c w
def Tryz.lays138_ren : Go.Shelf.Ren:=⟨fun|138=>114|195=>141|218=>143|143=>115|219=>117|217=>137|225=>106|224=>105|267=>145|266=>152|314=>156|n=>n,fun|9=>9|3=>3|4=>4|5=>5|0=>0|46=>101|146=>137|51=>136|n=>n,fun|1=>0|n=>n⟩
theorem Tryz.lays138 : Go.Proofs.Lays.n138 Tryz.prog Tryz.lays138_ren:={
  mixed:=by kernel_rfl
  f138:=Tryz.func114.trans (congrArg some (by kernel_rfl))
  f143:=Tryz.func115.trans (congrArg some (by kernel_rfl))
  f195:=Tryz.func141.trans (congrArg some (by kernel_rfl))
  f217:=Tryz.func137.trans (congrArg some (by kernel_rfl))
  f218:=Tryz.func143.trans (congrArg some (by kernel_rfl))
  f219:=Tryz.func117.trans (congrArg some (by kernel_rfl))
  f224:=Tryz.func105.trans (congrArg some (by kernel_rfl))
  f225:=Tryz.func106.trans (congrArg some (by kernel_rfl))
  f266:=Tryz.func152.trans (congrArg some (by kernel_rfl))
  f267:=Tryz.func145.trans (congrArg some (by kernel_rfl))
  f314:=Tryz.func156.trans (congrArg some (by kernel_rfl))
  t0:=Tryz.underlying0
  a0:=Tryz.isAgg0
  z0:=Tryz.sizeOf0
  v0:=Tryz.zeroValue0
  t3:=Tryz.underlying3
  a3:=Tryz.isAgg3
  z3:=Tryz.sizeOf3
  v3:=Tryz.zeroValue3
  t4:=Tryz.underlying4
  a4:=Tryz.isAgg4
  z4:=Tryz.sizeOf4
  v4:=Tryz.zeroValue4
  t5:=Tryz.underlying5
  a5:=Tryz.isAgg5
  z5:=Tryz.sizeOf5
  v5:=Tryz.zeroValue5
  t9:=Tryz.underlying9
  a9:=Tryz.isAgg9
  z9:=Tryz.sizeOf9
  v9:=Tryz.zeroValue9
  t46:=Tryz.underlying101
  a46:=Tryz.isAgg101
  z46:=Tryz.sizeOf101
  v46:=Tryz.zeroValue101
  t51:=Tryz.underlying136
  a51:=Tryz.isAgg136
  z51:=Tryz.sizeOf136
  v51:=Tryz.zeroValue136
  t146:=Tryz.underlying137
  a146:=Tryz.isAgg137
  z146:=Tryz.sizeOf137
  v146:=Tryz.zeroValue137
  g1:=by kernel_rfl }
open Go.RowKit Go.Lib in
theorem Tryz.strings_Count_one (s:ByteArray) (c:UInt8) (w:World) :
    Calls Tryz.prog 114 #[.string s,.string ⟨#[c]⟩] w fun e w'=>e = .returned (.int .i64 (Lib.countByte s.data.toList c))∧w'=w:=Any.strings_Count_one Tryz.lays138 s c w
def Tryz.lays146_ren : Go.Shelf.Ren:=⟨fun|146=>41|221=>78|268=>113|138=>114|143=>115|195=>141|197=>142|218=>143|219=>117|260=>155|217=>137|225=>106|224=>105|267=>145|266=>152|314=>156|n=>n,fun|9=>9|31=>64|3=>3|4=>4|0=>0|105=>128|21=>21|5=>5|46=>101|119=>143|139=>146|138=>145|146=>137|51=>136|n=>n,fun|1=>0|3=>3|4=>4|n=>n⟩
theorem Tryz.lays146 : Go.Proofs.Lays.n146 Tryz.prog Tryz.lays146_ren:={
  mixed:=by kernel_rfl
  f138:=Tryz.func114.trans (congrArg some (by kernel_rfl))
  f143:=Tryz.func115.trans (congrArg some (by kernel_rfl))
  f146:=Tryz.func41.trans (congrArg some (by kernel_rfl))
  f195:=Tryz.func141.trans (congrArg some (by kernel_rfl))
  f197:=Tryz.func142.trans (congrArg some (by kernel_rfl))
  f217:=Tryz.func137.trans (congrArg some (by kernel_rfl))
  f218:=Tryz.func143.trans (congrArg some (by kernel_rfl))
  f219:=Tryz.func117.trans (congrArg some (by kernel_rfl))
  f221:=Tryz.func78.trans (congrArg some (by kernel_rfl))
  f224:=Tryz.func105.trans (congrArg some (by kernel_rfl))
  f225:=Tryz.func106.trans (congrArg some (by kernel_rfl))
  f260:=Tryz.func155.trans (congrArg some (by kernel_rfl))
  f266:=Tryz.func152.trans (congrArg some (by kernel_rfl))
  f267:=Tryz.func145.trans (congrArg some (by kernel_rfl))
  f268:=Tryz.func113.trans (congrArg some (by kernel_rfl))
  f314:=Tryz.func156.trans (congrArg some (by kernel_rfl))
  t0:=Tryz.underlying0
  a0:=Tryz.isAgg0
  z0:=Tryz.sizeOf0
  v0:=Tryz.zeroValue0
  t3:=Tryz.underlying3
  a3:=Tryz.isAgg3
  z3:=Tryz.sizeOf3
  v3:=Tryz.zeroValue3
  t4:=Tryz.underlying4
  a4:=Tryz.isAgg4
  z4:=Tryz.sizeOf4
  v4:=Tryz.zeroValue4
  t5:=Tryz.underlying5
  a5:=Tryz.isAgg5
  z5:=Tryz.sizeOf5
  v5:=Tryz.zeroValue5
  t9:=Tryz.underlying9
  a9:=Tryz.isAgg9
  z9:=Tryz.sizeOf9
  v9:=Tryz.zeroValue9
  t21:=Tryz.underlying21
  a21:=Tryz.isAgg21
  z21:=Tryz.sizeOf21
  v21:=Tryz.zeroValue21
  t31:=Tryz.underlying64
  a31:=Tryz.isAgg64
  z31:=Tryz.sizeOf64
  v31:=Tryz.zeroValue64
  t46:=Tryz.underlying101
  a46:=Tryz.isAgg101
  z46:=Tryz.sizeOf101
  v46:=Tryz.zeroValue101
  t51:=Tryz.underlying136
  a51:=Tryz.isAgg136
  z51:=Tryz.sizeOf136
  v51:=Tryz.zeroValue136
  t105:=Tryz.underlying128
  a105:=Tryz.isAgg128
  z105:=Tryz.sizeOf128
  v105:=Tryz.zeroValue128
  t119:=Tryz.underlying143
  a119:=Tryz.isAgg143
  z119:=Tryz.sizeOf143
  t138:=Tryz.underlying145
  a138:=Tryz.isAgg145
  z138:=Tryz.sizeOf145
  v138:=Tryz.zeroValue145
  t139:=Tryz.underlying146
  a139:=Tryz.isAgg146
  z139:=Tryz.sizeOf146
  v139:=Tryz.zeroValue146
  t146:=Tryz.underlying137
  a146:=Tryz.isAgg137
  z146:=Tryz.sizeOf137
  v146:=Tryz.zeroValue137
  g1:=by kernel_rfl
  g3:=by kernel_rfl
  g4:=by kernel_rfl }
open Go.RowKit Go.Lib in
theorem Tryz.strings_Split (s sep:ByteArray) (m:Int) (w:World) (hs:s.size<4294967281) (hm:w.cell? ⟨0,0,none⟩=some (.int .i64 m)) (h1:1≤sep.size) :
    Calls Tryz.prog 41 #[.string s,.string sep] w fun e w'=>
      e = .returned (.slice (some ⟨w.heap.size,0,none⟩) (Lib.countB s sep+1) (Lib.countB s sep+1))∧w'=w.alloc (.cells ((Lib.splitB sep 0 (Lib.countB s sep) s).map Value.string).toArray 9):=Any.strings_Split Tryz.lays146 (by kernel_rfl) s sep m w hs hm h1
def Tryz.lays152_ren : Go.Shelf.Ren:=⟨fun|152=>70|137=>103|119=>104|224=>105|225=>106|217=>137|266=>152|n=>n,fun|9=>9|21=>21|3=>3|4=>4|5=>5|0=>0|46=>101|n=>n,fun|n=>n⟩
theorem Tryz.lays152 : Go.Proofs.Lays.n152 Tryz.prog Tryz.lays152_ren:={
  mixed:=by kernel_rfl
  f119:=Tryz.func104.trans (congrArg some (by kernel_rfl))
  f137:=Tryz.func103.trans (congrArg some (by kernel_rfl))
  f152:=Tryz.func70.trans (congrArg some (by kernel_rfl))
  f217:=Tryz.func137.trans (congrArg some (by kernel_rfl))
  f224:=Tryz.func105.trans (congrArg some (by kernel_rfl))
  f225:=Tryz.func106.trans (congrArg some (by kernel_rfl))
  f266:=Tryz.func152.trans (congrArg some (by kernel_rfl))
  t0:=Tryz.underlying0
  a0:=Tryz.isAgg0
  z0:=Tryz.sizeOf0
  v0:=Tryz.zeroValue0
  t3:=Tryz.underlying3
  a3:=Tryz.isAgg3
  z3:=Tryz.sizeOf3
  v3:=Tryz.zeroValue3
  t4:=Tryz.underlying4
  a4:=Tryz.isAgg4
  z4:=Tryz.sizeOf4
  v4:=Tryz.zeroValue4
  t5:=Tryz.underlying5
  a5:=Tryz.isAgg5
  z5:=Tryz.sizeOf5
  v5:=Tryz.zeroValue5
  t9:=Tryz.underlying9
  a9:=Tryz.isAgg9
  z9:=Tryz.sizeOf9
  v9:=Tryz.zeroValue9
  t21:=Tryz.underlying21
  a21:=Tryz.isAgg21
  z21:=Tryz.sizeOf21
  v21:=Tryz.zeroValue21
  t46:=Tryz.underlying101
  a46:=Tryz.isAgg101
  z46:=Tryz.sizeOf101
  v46:=Tryz.zeroValue101 }
open Go.RowKit Go.Lib in
theorem Tryz.strings_IndexRune_ascii (s:ByteArray) (r:Int) (w:World) (h0:0≤r) (h1:r<128) :
    Calls Tryz.prog 70 #[.string s,.int .i32 r] w fun e w'=>e = .returned (.int .i64 (Lib.indexByte s.data.toList r.toNat.toUInt8))∧w'=w:=Any.strings_IndexRune_ascii Tryz.lays152 s r w h0 h1
def Tryz.lays226_ren : Go.Shelf.Ren:=⟨fun|226=>71|n=>n,fun|3=>3|4=>4|n=>n,fun|n=>n⟩
theorem Tryz.lays226 : Go.Proofs.Lays.n226 Tryz.prog Tryz.lays226_ren:={
  mixed:=by kernel_rfl
  f226:=Tryz.func71.trans (congrArg some (by kernel_rfl))
  t3:=Tryz.underlying3
  a3:=Tryz.isAgg3
  z3:=Tryz.sizeOf3
  v3:=Tryz.zeroValue3
  t4:=Tryz.underlying4
  a4:=Tryz.isAgg4
  z4:=Tryz.sizeOf4
  v4:=Tryz.zeroValue4 }
open Go.RowKit Go.Lib in
theorem Tryz.strings_shouldUseASCIISet (n:Int) (w:World) :
    Calls Tryz.prog 71 #[.int .i64 n] w fun e w'=>e = .returned (.bool (decide (8<n)))∧w'=w:=Any.strings_shouldUseASCIISet Tryz.lays226 n w
def Tryz.lays153_ren : Go.Shelf.Ren:=⟨fun|153=>34|152=>70|226=>71|227=>72|228=>73|137=>103|119=>104|224=>105|225=>106|217=>137|266=>152|n=>n,fun|9=>9|3=>3|4=>4|5=>5|21=>21|117=>83|116=>82|0=>0|46=>101|124=>102|n=>n,fun|n=>n⟩
theorem Tryz.lays153 : Go.Proofs.Lays.n153 Tryz.prog Tryz.lays153_ren:={
  mixed:=by kernel_rfl
  f119:=Tryz.func104.trans (congrArg some (by kernel_rfl))
  f137:=Tryz.func103.trans (congrArg some (by kernel_rfl))
  f152:=Tryz.func70.trans (congrArg some (by kernel_rfl))
  f153:=Tryz.func34.trans (congrArg some (by kernel_rfl))
  f217:=Tryz.func137.trans (congrArg some (by kernel_rfl))
  f224:=Tryz.func105.trans (congrArg some (by kernel_rfl))
  f225:=Tryz.func106.trans (congrArg some (by kernel_rfl))
  f226:=Tryz.func71.trans (congrArg some (by kernel_rfl))
  f227:=Tryz.func72.trans (congrArg some (by kernel_rfl))
  f228:=Tryz.func73.trans (congrArg some (by kernel_rfl))
  f266:=Tryz.func152.trans (congrArg some (by kernel_rfl))
  t0:=Tryz.underlying0
  a0:=Tryz.isAgg0
  z0:=Tryz.sizeOf0
  v0:=Tryz.zeroValue0
  t3:=Tryz.underlying3
  a3:=Tryz.isAgg3
  z3:=Tryz.sizeOf3
  v3:=Tryz.zeroValue3
  t4:=Tryz.underlying4
  a4:=Tryz.isAgg4
  z4:=Tryz.sizeOf4
  v4:=Tryz.zeroValue4
  t5:=Tryz.underlying5
  a5:=Tryz.isAgg5
  z5:=Tryz.sizeOf5
  v5:=Tryz.zeroValue5
  t9:=Tryz.underlying9
  a9:=Tryz.isAgg9
  z9:=Tryz.sizeOf9
  v9:=Tryz.zeroValue9
  t21:=Tryz.underlying21
  a21:=Tryz.isAgg21
  z21:=Tryz.sizeOf21
  v21:=Tryz.zeroValue21
  t46:=Tryz.underlying101
  a46:=Tryz.isAgg101
  z46:=Tryz.sizeOf101
  v46:=Tryz.zeroValue101
  t116:=Tryz.underlying82
  a116:=Tryz.isAgg82
  z116:=Tryz.sizeOf82
  t117:=Tryz.underlying83
  a117:=Tryz.isAgg83
  z117:=Tryz.sizeOf83
  v117:=Tryz.zeroValue83
  t124:=Tryz.underlying102
  a124:=Tryz.isAgg102
  z124:=Tryz.sizeOf102
  v124:=Tryz.zeroValue102 }
open Go.RowKit Go.Lib in
theorem Tryz.strings_IndexAny_long (hv116:∀ w,(zeroValue 82).run Tryz.prog w = .ok (.agg (Array.replicate 256 (.bool false))) w) (s chars:ByteArray) (w:World) (h2:2≤chars.size) (h8:8<s.size) (hs:s.size<4294967281) (hcs:chars.size<4294967281) (hascii:∀(j:Nat) b,chars.data.toList[j]? = some b→b.toNat<128) :
    Calls Tryz.prog 34 #[.string s,.string chars] w fun e w'=>e = .returned (.int .i64 (Lib.indexAny s.data.toList chars.data.toList))∧w'=((w.alloc (.cells (Lib.setCells chars.data.toList) 82)).alloc (.cells (Lib.setCells chars.data.toList) 82)):=Any.strings_IndexAny_long Tryz.lays153 hv116 (by kernel_rfl) s chars w h2 h8 hs hcs hascii
end Go.Proofs
