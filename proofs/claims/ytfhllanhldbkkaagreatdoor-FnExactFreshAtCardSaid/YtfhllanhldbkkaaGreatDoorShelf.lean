import Derived.Shelf.Strings.Builder1
import Derived.Shelf.Strings.Builder2
import Derived.Shelf.Strings.OnBuilder
import Derived.Shelf.Small.Utf8
import Derived.Shelf.Small.Strs
import Derived.Shelf.Strconv.Atoi
import Derived.Shelf.Strconv.Itoa0
import Derived.Shelf.Strconv.Itoa1
import Derived.Shelf.LaysM
import Derived.Shelf.Strconv.Itoa2
import Derived.Shelf.Strconv.Itoa3
import Derived.Shelf.Strconv.AtoiErrFast
import Derived.Shelf.Strconv.ParseIntEmpty
import Derived.Shelf.Strconv.AtoiFail
import Derived.Shelf.Strconv.Clone
import Derived.Shelf.Strconv.SyntaxError
import Derived.Shelf.LaysC
import Derived.Shelf.Strconv.ToError
import Derived.Shelf.Strconv.AtoiErr
import Derived.Shelf.Strconv.Lower
import Derived.Shelf.Strconv.ParseUint10
import Derived.Shelf.Strconv.ParseUint10Empty
import Derived.Shelf.Strconv.ParseUint10Any
import Derived.Shelf.Strconv.ParseInt10
import Derived.Shelf.Strconv.AtoiLong
import Derived.Shelf.Strconv.AtoiInnerAll
import Derived.Shelf.Strconv.RangeError
import Derived.Shelf.Strconv.ToErrorRange
import Derived.Shelf.Strconv.AtoiAll
import Derived.Shelf.Strconv.ErrVarAll
import Derived.Shelf.Strings.Search1
import Derived.Shelf.Strings.Search2
import Derived.Shelf.Strings.Search3
import Derived.Shelf.Strings.Cut
import Derived.Shelf.Strings.Count
import Derived.Shelf.Strings.Shaped
import Derived.Shelf.Strings.Split
import Derived.Shelf.Strings.Runes
import Derived.Shelf.Strings.IndexAny
import Derived.Shelf.Strings.AsciiSet
import Derived.Shelf.Strings.IndexAnyAll
import Derived.Shelf.Unicode.DecodeSlow
import Derived.Test.YtfhllanhldbkkaaGreatDoorProg
namespace Go.Proofs
open Go.Shelf
def Tryz.GY : Go.Shelf.Ren:=⟨fun|156=>169|165=>206|166=>110|169=>113|240=>157|241=>228|276=>200|277=>243|n=>n,fun|31=>76|9=>9|3=>3|4=>4|0=>0|20=>20|72=>102|76=>105|70=>99|37=>100|75=>104|127=>125|164=>145|5=>5|80=>107|n=>n,fun|n=>n⟩
theorem Tryz.Tf : Go.Proofs.Lays.n156 Tryz.prog Tryz.GY:={
  mixed:=by kernel_rfl
  f156:=Tryz.func169.trans (congrArg some (by kernel_rfl))
  f165:=Tryz.func206.trans (congrArg some (by kernel_rfl))
  f166:=Tryz.func110.trans (congrArg some (by kernel_rfl))
  f169:=Tryz.func113.trans (congrArg some (by kernel_rfl))
  f240:=Tryz.func157.trans (congrArg some (by kernel_rfl))
  f241:=Tryz.func228.trans (congrArg some (by kernel_rfl))
  f276:=Tryz.func200.trans (congrArg some (by kernel_rfl))
  f277:=Tryz.func243.trans (congrArg some (by kernel_rfl))
  t0:=Tryz.underlying0
  a0:=Tryz.isAgg0
  z0:=Tryz.sizeOf0
  v0:=Tryz.zeroValue0
  t3:=Tryz.underlying3
  a3:=Tryz.isAgg3
  z3:=Tryz.sizeOf3
  v3:=Tryz.zeroValue3
  t4:=Tryz.underlying4
  a4:=Tryz.isAgg4
  z4:=Tryz.sizeOf4
  v4:=Tryz.zeroValue4
  t9:=Tryz.underlying9
  a9:=Tryz.isAgg9
  z9:=Tryz.sizeOf9
  v9:=Tryz.zeroValue9
  t20:=Tryz.underlying20
  a20:=Tryz.isAgg20
  z20:=Tryz.sizeOf20
  v20:=Tryz.zeroValue20
  t31:=Tryz.underlying76
  a31:=Tryz.isAgg76
  z31:=Tryz.sizeOf76
  v31:=Tryz.zeroValue76
  t37:=Tryz.underlying100
  a37:=Tryz.isAgg100
  z37:=Tryz.sizeOf100
  v37:=Tryz.zeroValue100
  t70:=Tryz.underlying99
  a70:=Tryz.isAgg99
  z70:=Tryz.sizeOf99
  v70:=Tryz.zeroValue99
  t72:=Tryz.underlying102
  a72:=Tryz.isAgg102
  z72:=Tryz.sizeOf102
  v72:=Tryz.zeroValue102
  t75:=Tryz.underlying104
  a75:=Tryz.isAgg104
  z75:=Tryz.sizeOf104
  v75:=Tryz.zeroValue104
  t76:=Tryz.underlying105
  a76:=Tryz.isAgg105
  z76:=Tryz.sizeOf105
  v76:=Tryz.zeroValue105
  t127:=Tryz.underlying125
  a127:=Tryz.isAgg125
  z127:=Tryz.sizeOf125
  v127:=Tryz.zeroValue125
  t164:=Tryz.underlying145
  a164:=Tryz.isAgg145
  z164:=Tryz.sizeOf145
  v164:=Tryz.zeroValue145 }
theorem Tryz.xD : Builder.Extra Tryz.prog Tryz.GY:={
  sizeBuilder:=by kernel_rfl
  liesBuilder:=by kernel_rfl
  t5:=Tryz.underlying5
  a5:=Tryz.isAgg5
  z5:=Tryz.sizeOf5
  v5:=Tryz.zeroValue5
  infoByte:=by kernel_rfl
  cellsByte:=by kernel_rfl
  sizeByte:=by kernel_rfl
  neB5:=by decide }
open Go.RowKit in
theorem Tryz.strings_Join_none (a:Option Addr) (c:Nat) (sep:ByteArray) (w:World) :
    Calls Tryz.prog 169 #[.slice a 0 c,.string sep] w fun e w'=>e = .returned (.string ⟨#[]⟩)/\w'=w:=Any.strings_Join_none Tryz.Tf Tryz.xD a c sep w
open Go.RowKit in
theorem Tryz.strings_Join (bk o c:Nat) (xs:List ByteArray) (sep:ByteArray) (w:World) (hcells:∀(j:Nat) x,xs[j]? = some x->w.cell? ⟨bk,o+j,none⟩=some (.string x)) (hbk:bk<w.heap.size) (hN:xs.length<=140737488355328) (hcap:xs.length<=c) (hlen:(Lib.join (xs.map (·.data.toList)) sep.data.toList).length<=140737488355328) :
    Calls Tryz.prog 169 #[.slice (some ⟨bk,o,none⟩) xs.length c,.string sep] w fun e w'=>e = .returned (.string ⟨(Lib.join (xs.map (·.data.toList)) sep.data.toList).toArray⟩)/\Below w.heap.size w w':=Any.strings_Join Tryz.Tf Tryz.xD bk o c xs sep w hcells hbk hN hcap hlen
def Tryz.aaY : Go.Shelf.Ren:=⟨fun|119=>214|n=>n,fun|21=>21|4=>4|n=>n,fun|n=>n⟩
theorem Tryz.alu : Go.Proofs.Lays.n119 Tryz.prog Tryz.aaY:={
  mixed:=by kernel_rfl
  f119:=Tryz.func214.trans (congrArg some (by kernel_rfl))
  t4:=Tryz.underlying4
  a4:=Tryz.isAgg4
  z4:=Tryz.sizeOf4
  v4:=Tryz.zeroValue4
  t21:=Tryz.underlying21
  a21:=Tryz.isAgg21
  z21:=Tryz.sizeOf21
  v21:=Tryz.zeroValue21 }
theorem Tryz.utf8_ValidRune (r:Int) (w:World) :
    Calls Tryz.prog 214 #[.int .i32 r] w fun e w'=>e = .returned (.bool (Lib.validRune r))/\w'=w:=Any.utf8_ValidRune Tryz.alu r w
def Tryz.aaZ : Go.Shelf.Ren:=⟨fun|137=>134|217=>172|266=>210|n=>n,fun|9=>9|5=>5|3=>3|n=>n,fun|n=>n⟩
theorem Tryz.alv : Go.Proofs.Lays.n137 Tryz.prog Tryz.aaZ:={
  mixed:=by kernel_rfl
  f137:=Tryz.func134.trans (congrArg some (by kernel_rfl))
  f217:=Tryz.func172.trans (congrArg some (by kernel_rfl))
  f266:=Tryz.func210.trans (congrArg some (by kernel_rfl))
  t3:=Tryz.underlying3
  a3:=Tryz.isAgg3
  z3:=Tryz.sizeOf3
  v3:=Tryz.zeroValue3
  t5:=Tryz.underlying5
  a5:=Tryz.isAgg5
  z5:=Tryz.sizeOf5
  v5:=Tryz.zeroValue5
  t9:=Tryz.underlying9
  a9:=Tryz.isAgg9
  z9:=Tryz.sizeOf9
  v9:=Tryz.zeroValue9 }
open Go.RowKit in
theorem Tryz.strings_IndexByte (s:ByteArray) (c:Int) (w:World) :
    Calls Tryz.prog 134 #[.string s,.int .u8 c] w fun e w'=>e = .returned (.int .i64 (Lib.indexByte s.data.toList c.toNat.toUInt8))/\w'=w:=Any.strings_IndexByte Tryz.alv s c w
def Tryz.aa0 : Go.Shelf.Ren:=⟨fun|172=>192|244=>215|245=>216|247=>230|279=>231|280=>232|281=>233|282=>234|287=>244|316=>245|171=>111|205=>246|321=>252|322=>253|243=>158|246=>201|283=>223|284=>224|285=>225|286=>226|129=>239|317=>238|318=>240|319=>241|320=>242|337=>250|338=>251|n=>n,fun|9=>9|3=>3|75=>104|76=>105|4=>4|5=>5|167=>164|37=>100|0=>0|85=>165|2=>2|168=>167|53=>156|175=>177|46=>149|210=>180|127=>125|145=>187|143=>185|21=>21|171=>155|173=>159|212=>173|51=>161|20=>20|213=>174|232=>188|233=>189|80=>107|n=>n,fun|15=>2|16=>3|17=>1|18=>4|19=>5|n=>n⟩
theorem Tryz.alx : Go.Proofs.Lays.n172 Tryz.prog Tryz.aa0:={
  mixed:=by kernel_rfl
  f129:=Tryz.func239.trans (congrArg some (by kernel_rfl))
  f171:=Tryz.func111.trans (congrArg some (by kernel_rfl))
  f172:=Tryz.func192.trans (congrArg some (by kernel_rfl))
  f205:=Tryz.func246.trans (congrArg some (by kernel_rfl))
  f243:=Tryz.func158.trans (congrArg some (by kernel_rfl))
  f244:=Tryz.func215.trans (congrArg some (by kernel_rfl))
  f245:=Tryz.func216.trans (congrArg some (by kernel_rfl))
  f246:=Tryz.func201.trans (congrArg some (by kernel_rfl))
  f247:=Tryz.func230.trans (congrArg some (by kernel_rfl))
  f279:=Tryz.func231.trans (congrArg some (by kernel_rfl))
  f280:=Tryz.func232.trans (congrArg some (by kernel_rfl))
  f281:=Tryz.func233.trans (congrArg some (by kernel_rfl))
  f282:=Tryz.func234.trans (congrArg some (by kernel_rfl))
  f283:=Tryz.func223.trans (congrArg some (by kernel_rfl))
  f284:=Tryz.func224.trans (congrArg some (by kernel_rfl))
  f285:=Tryz.func225.trans (congrArg some (by kernel_rfl))
  f286:=Tryz.func226.trans (congrArg some (by kernel_rfl))
  f287:=Tryz.func244.trans (congrArg some (by kernel_rfl))
  f316:=Tryz.func245.trans (congrArg some (by kernel_rfl))
  f317:=Tryz.func238.trans (congrArg some (by kernel_rfl))
  f318:=Tryz.func240.trans (congrArg some (by kernel_rfl))
  f319:=Tryz.func241.trans (congrArg some (by kernel_rfl))
  f320:=Tryz.func242.trans (congrArg some (by kernel_rfl))
  f321:=Tryz.func252.trans (congrArg some (by kernel_rfl))
  f322:=Tryz.func253.trans (congrArg some (by kernel_rfl))
  f337:=Tryz.func250.trans (congrArg some (by kernel_rfl))
  f338:=Tryz.func251.trans (congrArg some (by kernel_rfl))
  t0:=Tryz.underlying0
  a0:=Tryz.isAgg0
  z0:=Tryz.sizeOf0
  v0:=Tryz.zeroValue0
  t2:=Tryz.underlying2
  a2:=Tryz.isAgg2
  z2:=Tryz.sizeOf2
  v2:=Tryz.zeroValue2
  t3:=Tryz.underlying3
  a3:=Tryz.isAgg3
  z3:=Tryz.sizeOf3
  v3:=Tryz.zeroValue3
  t4:=Tryz.underlying4
  a4:=Tryz.isAgg4
  z4:=Tryz.sizeOf4
  v4:=Tryz.zeroValue4
  t5:=Tryz.underlying5
  a5:=Tryz.isAgg5
  z5:=Tryz.sizeOf5
  v5:=Tryz.zeroValue5
  t9:=Tryz.underlying9
  a9:=Tryz.isAgg9
  z9:=Tryz.sizeOf9
  v9:=Tryz.zeroValue9
  t20:=Tryz.underlying20
  a20:=Tryz.isAgg20
  z20:=Tryz.sizeOf20
  v20:=Tryz.zeroValue20
  t21:=Tryz.underlying21
  a21:=Tryz.isAgg21
  z21:=Tryz.sizeOf21
  v21:=Tryz.zeroValue21
  t37:=Tryz.underlying100
  a37:=Tryz.isAgg100
  z37:=Tryz.sizeOf100
  v37:=Tryz.zeroValue100
  t46:=Tryz.underlying149
  a46:=Tryz.isAgg149
  z46:=Tryz.sizeOf149
  v46:=Tryz.zeroValue149
  t51:=Tryz.underlying161
  a51:=Tryz.isAgg161
  z51:=Tryz.sizeOf161
  v51:=Tryz.zeroValue161
  t53:=Tryz.underlying156
  a53:=Tryz.isAgg156
  z53:=Tryz.sizeOf156
  v53:=Tryz.zeroValue156
  t75:=Tryz.underlying104
  a75:=Tryz.isAgg104
  z75:=Tryz.sizeOf104
  v75:=Tryz.zeroValue104
  t76:=Tryz.underlying105
  a76:=Tryz.isAgg105
  z76:=Tryz.sizeOf105
  v76:=Tryz.zeroValue105
  t85:=Tryz.underlying165
  a85:=Tryz.isAgg165
  z85:=Tryz.sizeOf165
  v85:=Tryz.zeroValue165
  t127:=Tryz.underlying125
  a127:=Tryz.isAgg125
  z127:=Tryz.sizeOf125
  v127:=Tryz.zeroValue125
  t143:=Tryz.underlying185
  a143:=Tryz.isAgg185
  z143:=Tryz.sizeOf185
  v143:=Tryz.zeroValue185
  t145:=Tryz.underlying187
  a145:=Tryz.isAgg187
  z145:=Tryz.sizeOf187
  v145:=Tryz.zeroValue187
  t167:=Tryz.underlying164
  a167:=Tryz.isAgg164
  z167:=Tryz.sizeOf164
  v167:=Tryz.zeroValue164
  t168:=Tryz.underlying167
  a168:=Tryz.isAgg167
  z168:=Tryz.sizeOf167
  v168:=Tryz.zeroValue167
  t171:=Tryz.underlying155
  a171:=Tryz.isAgg155
  z171:=Tryz.sizeOf155
  v171:=Tryz.zeroValue155
  t173:=Tryz.underlying159
  a173:=Tryz.isAgg159
  z173:=Tryz.sizeOf159
  v173:=Tryz.zeroValue159
  t175:=Tryz.underlying177
  a175:=Tryz.isAgg177
  z175:=Tryz.sizeOf177
  v175:=Tryz.zeroValue177
  t210:=Tryz.underlying180
  a210:=Tryz.isAgg180
  z210:=Tryz.sizeOf180
  v210:=Tryz.zeroValue180
  t212:=Tryz.underlying173
  a212:=Tryz.isAgg173
  z212:=Tryz.sizeOf173
  v212:=Tryz.zeroValue173
  t213:=Tryz.underlying174
  a213:=Tryz.isAgg174
  z213:=Tryz.sizeOf174
  t232:=Tryz.underlying188
  a232:=Tryz.isAgg188
  z232:=Tryz.sizeOf188
  v232:=Tryz.zeroValue188
  t233:=Tryz.underlying189
  a233:=Tryz.isAgg189
  z233:=Tryz.sizeOf189
  v233:=Tryz.zeroValue189
  g15:=by kernel_rfl
  g16:=by kernel_rfl
  g17:=by kernel_rfl
  g18:=by kernel_rfl
  g19:=by kernel_rfl }
open Go.RowKit in
theorem Tryz.strconv_Atoi (s:ByteArray) (n:Int) (hl:s.size<=18) (h:Lib.atoi s.data.toList=some n) (w:World) :
    Calls Tryz.prog 192 #[.string s] w fun e w'=>e = .returned (.tuple #[.int .i64 n,.nilIface])/\∃ t,w'=Lib.bytesWorld w 5 t:=Any.strconv_Atoi Tryz.alx s n hl h w
def Tryz.Zz : Go.Shelf.Ren:=⟨fun|171=>111|243=>158|246=>201|283=>223|284=>224|285=>225|286=>226|129=>239|317=>238|318=>240|319=>241|320=>242|337=>250|338=>251|n=>n,fun|3=>3|9=>9|2=>2|4=>4|171=>155|0=>0|53=>156|37=>100|5=>5|173=>159|212=>173|51=>161|20=>20|213=>174|46=>149|232=>188|233=>189|n=>n,fun|17=>1|18=>4|19=>5|n=>n⟩
theorem Tryz.aiI : Go.Proofs.LaysM.n171 Tryz.prog Tryz.Zz:={
  mixed:=by kernel_rfl
  f129:=Tryz.func239.trans (congrArg some (by kernel_rfl))
  f171:=Tryz.func111.trans (congrArg some (by kernel_rfl))
  f243:=Tryz.func158.trans (congrArg some (by kernel_rfl))
  f246:=Tryz.func201.trans (congrArg some (by kernel_rfl))
  f283:=Tryz.func223.trans (congrArg some (by kernel_rfl))
  f284:=Tryz.func224.trans (congrArg some (by kernel_rfl))
  f285:=Tryz.func225.trans (congrArg some (by kernel_rfl))
  f286:=Tryz.func226.trans (congrArg some (by kernel_rfl))
  f317:=Tryz.func238.trans (congrArg some (by kernel_rfl))
  f318:=Tryz.func240.trans (congrArg some (by kernel_rfl))
  f319:=Tryz.func241.trans (congrArg some (by kernel_rfl))
  f320:=Tryz.func242.trans (congrArg some (by kernel_rfl))
  f337:=Tryz.func250.trans (congrArg some (by kernel_rfl))
  f338:=Tryz.func251.trans (congrArg some (by kernel_rfl))
  t0:=Tryz.underlying0
  a0:=Tryz.isAgg0
  z0:=Tryz.sizeOf0
  v0:=Tryz.zeroValue0
  t2:=Tryz.underlying2
  a2:=Tryz.isAgg2
  z2:=Tryz.sizeOf2
  v2:=Tryz.zeroValue2
  t3:=Tryz.underlying3
  a3:=Tryz.isAgg3
  z3:=Tryz.sizeOf3
  v3:=Tryz.zeroValue3
  t4:=Tryz.underlying4
  a4:=Tryz.isAgg4
  z4:=Tryz.sizeOf4
  v4:=Tryz.zeroValue4
  t5:=Tryz.underlying5
  a5:=Tryz.isAgg5
  z5:=Tryz.sizeOf5
  v5:=Tryz.zeroValue5
  t9:=Tryz.underlying9
  a9:=Tryz.isAgg9
  z9:=Tryz.sizeOf9
  v9:=Tryz.zeroValue9
  t20:=Tryz.underlying20
  a20:=Tryz.isAgg20
  z20:=Tryz.sizeOf20
  v20:=Tryz.zeroValue20
  t37:=Tryz.underlying100
  a37:=Tryz.isAgg100
  z37:=Tryz.sizeOf100
  v37:=Tryz.zeroValue100
  t46:=Tryz.underlying149
  a46:=Tryz.isAgg149
  z46:=Tryz.sizeOf149
  v46:=Tryz.zeroValue149
  t51:=Tryz.underlying161
  a51:=Tryz.isAgg161
  z51:=Tryz.sizeOf161
  v51:=Tryz.zeroValue161
  t53:=Tryz.underlying156
  a53:=Tryz.isAgg156
  z53:=Tryz.sizeOf156
  v53:=Tryz.zeroValue156
  t171:=Tryz.underlying155
  a171:=Tryz.isAgg155
  z171:=Tryz.sizeOf155
  v171:=Tryz.zeroValue155
  t173:=Tryz.underlying159
  a173:=Tryz.isAgg159
  z173:=Tryz.sizeOf159
  v173:=Tryz.zeroValue159
  t212:=Tryz.underlying173
  a212:=Tryz.isAgg173
  z212:=Tryz.sizeOf173
  v212:=Tryz.zeroValue173
  t213:=Tryz.underlying174
  a213:=Tryz.isAgg174
  z213:=Tryz.sizeOf174
  t232:=Tryz.underlying188
  a232:=Tryz.isAgg188
  z232:=Tryz.sizeOf188
  v232:=Tryz.zeroValue188
  t233:=Tryz.underlying189
  a233:=Tryz.isAgg189
  z233:=Tryz.sizeOf189
  v233:=Tryz.zeroValue189
  g17:=by kernel_rfl
  g18:=by kernel_rfl
  g19:=by kernel_rfl
  i0:=by kernel_rfl
  i2:=by kernel_rfl
  i3:=by kernel_rfl
  i4:=by kernel_rfl
  i5:=by kernel_rfl
  i9:=by kernel_rfl
  i20:=by kernel_rfl
  i37:=by kernel_rfl
  i46:=by kernel_rfl
  i51:=by kernel_rfl
  i53:=by kernel_rfl
  i171:=by kernel_rfl
  i173:=by kernel_rfl
  i212:=by kernel_rfl
  i232:=by kernel_rfl
  i233:=by kernel_rfl
  m17:=by kernel_rfl
  m18:=by kernel_rfl
  m19:=by kernel_rfl }
open Go.RowKit Go.Sort Go.Lib in
theorem Tryz.strconv_Itoa (n : Int) (h0 : -9223372036854775808 <= n) (h1 : n <= 9223372036854775807) (w : World) (htab : Lib.TabIs Tryz.prog w "internal/strconv.uint64pow10" .u64 Lib.pow10Tab) :
    Calls Tryz.prog 111 #[.int .i64 n] w fun e w'=>e = .returned (.string ⟨(Lib.itoa n).toArray⟩)/\∃ k os,w'=grow (w.drewN k) os:=Any.strconv_Itoa Tryz.aiI n h0 h1 w htab
def Tryz.ZA : Go.Shelf.Ren:=⟨fun|172=>192|244=>215|245=>216|247=>230|279=>231|280=>232|281=>233|282=>234|287=>244|316=>245|171=>111|205=>246|321=>252|322=>253|243=>158|246=>201|283=>223|284=>224|285=>225|286=>226|129=>239|317=>238|318=>240|319=>241|320=>242|337=>250|338=>251|n=>n,fun|9=>9|3=>3|75=>104|76=>105|4=>4|5=>5|167=>164|37=>100|0=>0|85=>165|2=>2|168=>167|53=>156|175=>177|46=>149|210=>180|127=>125|145=>187|143=>185|21=>21|171=>155|173=>159|212=>173|51=>161|20=>20|213=>174|232=>188|233=>189|80=>107|n=>n,fun|15=>2|16=>3|17=>1|18=>4|19=>5|n=>n⟩
theorem Tryz.Vh : Go.Proofs.LaysC.n172 Tryz.prog Tryz.ZA:={
  mixed:=by kernel_rfl
  f129:=Tryz.func239.trans (congrArg some (by kernel_rfl))
  f171:=Tryz.func111.trans (congrArg some (by kernel_rfl))
  f172:=Tryz.func192.trans (congrArg some (by kernel_rfl))
  f205:=Tryz.func246.trans (congrArg some (by kernel_rfl))
  f243:=Tryz.func158.trans (congrArg some (by kernel_rfl))
  f244:=Tryz.func215.trans (congrArg some (by kernel_rfl))
  f245:=Tryz.func216.trans (congrArg some (by kernel_rfl))
  f246:=Tryz.func201.trans (congrArg some (by kernel_rfl))
  f247:=Tryz.func230.trans (congrArg some (by kernel_rfl))
  f279:=Tryz.func231.trans (congrArg some (by kernel_rfl))
  f280:=Tryz.func232.trans (congrArg some (by kernel_rfl))
  f281:=Tryz.func233.trans (congrArg some (by kernel_rfl))
  f282:=Tryz.func234.trans (congrArg some (by kernel_rfl))
  f283:=Tryz.func223.trans (congrArg some (by kernel_rfl))
  f284:=Tryz.func224.trans (congrArg some (by kernel_rfl))
  f285:=Tryz.func225.trans (congrArg some (by kernel_rfl))
  f286:=Tryz.func226.trans (congrArg some (by kernel_rfl))
  f287:=Tryz.func244.trans (congrArg some (by kernel_rfl))
  f316:=Tryz.func245.trans (congrArg some (by kernel_rfl))
  f317:=Tryz.func238.trans (congrArg some (by kernel_rfl))
  f318:=Tryz.func240.trans (congrArg some (by kernel_rfl))
  f319:=Tryz.func241.trans (congrArg some (by kernel_rfl))
  f320:=Tryz.func242.trans (congrArg some (by kernel_rfl))
  f321:=Tryz.func252.trans (congrArg some (by kernel_rfl))
  f322:=Tryz.func253.trans (congrArg some (by kernel_rfl))
  f337:=Tryz.func250.trans (congrArg some (by kernel_rfl))
  f338:=Tryz.func251.trans (congrArg some (by kernel_rfl))
  t0:=Tryz.underlying0
  a0:=Tryz.isAgg0
  z0:=Tryz.sizeOf0
  v0:=Tryz.zeroValue0
  t2:=Tryz.underlying2
  a2:=Tryz.isAgg2
  z2:=Tryz.sizeOf2
  v2:=Tryz.zeroValue2
  t3:=Tryz.underlying3
  a3:=Tryz.isAgg3
  z3:=Tryz.sizeOf3
  v3:=Tryz.zeroValue3
  t4:=Tryz.underlying4
  a4:=Tryz.isAgg4
  z4:=Tryz.sizeOf4
  v4:=Tryz.zeroValue4
  t5:=Tryz.underlying5
  a5:=Tryz.isAgg5
  z5:=Tryz.sizeOf5
  v5:=Tryz.zeroValue5
  t9:=Tryz.underlying9
  a9:=Tryz.isAgg9
  z9:=Tryz.sizeOf9
  v9:=Tryz.zeroValue9
  t20:=Tryz.underlying20
  a20:=Tryz.isAgg20
  z20:=Tryz.sizeOf20
  v20:=Tryz.zeroValue20
  t21:=Tryz.underlying21
  a21:=Tryz.isAgg21
  z21:=Tryz.sizeOf21
  v21:=Tryz.zeroValue21
  t37:=Tryz.underlying100
  a37:=Tryz.isAgg100
  z37:=Tryz.sizeOf100
  v37:=Tryz.zeroValue100
  t46:=Tryz.underlying149
  a46:=Tryz.isAgg149
  z46:=Tryz.sizeOf149
  v46:=Tryz.zeroValue149
  t51:=Tryz.underlying161
  a51:=Tryz.isAgg161
  z51:=Tryz.sizeOf161
  v51:=Tryz.zeroValue161
  t53:=Tryz.underlying156
  a53:=Tryz.isAgg156
  z53:=Tryz.sizeOf156
  v53:=Tryz.zeroValue156
  t75:=Tryz.underlying104
  a75:=Tryz.isAgg104
  z75:=Tryz.sizeOf104
  v75:=Tryz.zeroValue104
  t76:=Tryz.underlying105
  a76:=Tryz.isAgg105
  z76:=Tryz.sizeOf105
  v76:=Tryz.zeroValue105
  t85:=Tryz.underlying165
  a85:=Tryz.isAgg165
  z85:=Tryz.sizeOf165
  v85:=Tryz.zeroValue165
  t127:=Tryz.underlying125
  a127:=Tryz.isAgg125
  z127:=Tryz.sizeOf125
  v127:=Tryz.zeroValue125
  t143:=Tryz.underlying185
  a143:=Tryz.isAgg185
  z143:=Tryz.sizeOf185
  v143:=Tryz.zeroValue185
  t145:=Tryz.underlying187
  a145:=Tryz.isAgg187
  z145:=Tryz.sizeOf187
  v145:=Tryz.zeroValue187
  t167:=Tryz.underlying164
  a167:=Tryz.isAgg164
  z167:=Tryz.sizeOf164
  v167:=Tryz.zeroValue164
  t168:=Tryz.underlying167
  a168:=Tryz.isAgg167
  z168:=Tryz.sizeOf167
  v168:=Tryz.zeroValue167
  t171:=Tryz.underlying155
  a171:=Tryz.isAgg155
  z171:=Tryz.sizeOf155
  v171:=Tryz.zeroValue155
  t173:=Tryz.underlying159
  a173:=Tryz.isAgg159
  z173:=Tryz.sizeOf159
  v173:=Tryz.zeroValue159
  t175:=Tryz.underlying177
  a175:=Tryz.isAgg177
  z175:=Tryz.sizeOf177
  v175:=Tryz.zeroValue177
  t210:=Tryz.underlying180
  a210:=Tryz.isAgg180
  z210:=Tryz.sizeOf180
  v210:=Tryz.zeroValue180
  t212:=Tryz.underlying173
  a212:=Tryz.isAgg173
  z212:=Tryz.sizeOf173
  v212:=Tryz.zeroValue173
  t213:=Tryz.underlying174
  a213:=Tryz.isAgg174
  z213:=Tryz.sizeOf174
  t232:=Tryz.underlying188
  a232:=Tryz.isAgg188
  z232:=Tryz.sizeOf188
  v232:=Tryz.zeroValue188
  t233:=Tryz.underlying189
  a233:=Tryz.isAgg189
  z233:=Tryz.sizeOf189
  v233:=Tryz.zeroValue189
  g15:=by kernel_rfl
  g16:=by kernel_rfl
  g17:=by kernel_rfl
  g18:=by kernel_rfl
  g19:=by kernel_rfl
  t80:=Tryz.underlying107
  a80:=Tryz.isAgg107
  z80:=Tryz.sizeOf107
  v80:=Tryz.zeroValue107
  i0:=by kernel_rfl
  i2:=by kernel_rfl
  i3:=by kernel_rfl
  i4:=by kernel_rfl
  i5:=by kernel_rfl
  i9:=by kernel_rfl
  i20:=by kernel_rfl
  i21:=by kernel_rfl
  i37:=by kernel_rfl
  i46:=by kernel_rfl
  i51:=by kernel_rfl
  i53:=by kernel_rfl
  i75:=by kernel_rfl
  i76:=by kernel_rfl
  i80:=by kernel_rfl
  i85:=by kernel_rfl
  i127:=by kernel_rfl
  i143:=by kernel_rfl
  i145:=by kernel_rfl
  i167:=by kernel_rfl
  i168:=by kernel_rfl
  i171:=by kernel_rfl
  i173:=by kernel_rfl
  i175:=by kernel_rfl
  i210:=by kernel_rfl
  i212:=by kernel_rfl
  i232:=by kernel_rfl
  i233:=by kernel_rfl
  m15:=by kernel_rfl
  m16:=by kernel_rfl
  m17:=by kernel_rfl
  m18:=by kernel_rfl
  m19:=by kernel_rfl
  c0:=by kernel_rfl
  c2:=by kernel_rfl
  c3:=by kernel_rfl
  c4:=by kernel_rfl
  c5:=by kernel_rfl
  c9:=by kernel_rfl
  c20:=by kernel_rfl
  c21:=by kernel_rfl
  c37:=by kernel_rfl
  c46:=by kernel_rfl
  c51:=by kernel_rfl
  c53:=by kernel_rfl
  c75:=by kernel_rfl
  c76:=by kernel_rfl
  c80:=by kernel_rfl
  c85:=by kernel_rfl
  c127:=by kernel_rfl
  c143:=by kernel_rfl
  c145:=by kernel_rfl
  c167:=by kernel_rfl
  c168:=by kernel_rfl
  c171:=by kernel_rfl
  c173:=by kernel_rfl
  c175:=by kernel_rfl
  c210:=by kernel_rfl
  c212:=by kernel_rfl
  c213:=by kernel_rfl
  c232:=by kernel_rfl
  c233:=by kernel_rfl }
open Go.RowKit in
theorem Tryz.strconv_Atoi_ok (s:ByteArray) (hmax:s.size<=9223372036854775806) (v:Int) (h:Lib.atoiAll s.data.toList = .ok v) (w:World) :
    Calls Tryz.prog 192 #[.string s] w fun e w'=>e = .returned (.tuple #[.int .i64 v,.nilIface])/\(w'=w∨∃ t,w'=Lib.bytesWorld w 5 t):=Any.strconv_Atoi_ok Tryz.Vh s hmax v h w
open Go.RowKit in
theorem Tryz.strconv_Atoi_syntax (s:ByteArray) (hlim:s.size<=281474976710656) (h:(∀ v,Lib.atoiAll s.data.toList≠.ok v)/\Lib.atoiAll s.data.toList≠.range) (ev:Value) (w:World) (hv:w.cell? ⟨2,0,none⟩=some ev) (hev:ev = .nilIface∨∃ te pe,ev = .iface te pe) :
    Calls Tryz.prog 192 #[.string s] w fun e w'=>∃ N,e = .returned (.tuple #[.int .i64 (0),.iface 167 (.pointer (some ⟨N,0,none⟩))])/\w.heap.size<=N/\w'.heap[N]? = some (.cells #[.string ⟨#[65,116,111,105]⟩,.string s,ev] 180 (0,0))/\Below w.heap.size w w':=by
  rcases hA_:Lib.atoiAll s.data.toList with v_|_|_
  · exact absurd hA_ (h.1 v_)
  · exact Any.strconv_Atoi_syntax Tryz.Vh s hlim hA_ ev w hv hev
  · exact absurd hA_ h.2
open Go.RowKit in
theorem Tryz.strconv_Atoi_range (s:ByteArray) (hlim:s.size<=281474976710656) (h:Lib.atoiAll s.data.toList = .range) (ev:Value) (w:World) (hv:w.cell? ⟨3,0,none⟩=some ev) (hev:ev = .nilIface∨∃ te pe,ev = .iface te pe) :
    Calls Tryz.prog 192 #[.string s] w fun e w'=>∃ N,e = .returned (.tuple #[.int .i64 (Lib.atoiSat s.data.toList),.iface 167 (.pointer (some ⟨N,0,none⟩))])/\w.heap.size<=N/\w'.heap[N]? = some (.cells #[.string ⟨#[65,116,111,105]⟩,.string s,ev] 180 (0,0))/\Below w.heap.size w w':=Any.strconv_Atoi_range Tryz.Vh s hlim h ev w hv hev
def Tryz.aa1 : Go.Shelf.Ren:=⟨fun|219=>170|217=>172|225=>207|224=>208|267=>209|266=>210|314=>229|n=>n,fun|9=>9|3=>3|4=>4|5=>5|46=>149|146=>162|51=>161|n=>n,fun|1=>0|n=>n⟩
theorem Tryz.aeV : Go.Proofs.Lays.n219 Tryz.prog Tryz.aa1:={
  mixed:=by kernel_rfl
  f217:=Tryz.func172.trans (congrArg some (by kernel_rfl))
  f219:=Tryz.func170.trans (congrArg some (by kernel_rfl))
  f224:=Tryz.func208.trans (congrArg some (by kernel_rfl))
  f225:=Tryz.func207.trans (congrArg some (by kernel_rfl))
  f266:=Tryz.func210.trans (congrArg some (by kernel_rfl))
  f267:=Tryz.func209.trans (congrArg some (by kernel_rfl))
  f314:=Tryz.func229.trans (congrArg some (by kernel_rfl))
  t3:=Tryz.underlying3
  a3:=Tryz.isAgg3
  z3:=Tryz.sizeOf3
  v3:=Tryz.zeroValue3
  t4:=Tryz.underlying4
  a4:=Tryz.isAgg4
  z4:=Tryz.sizeOf4
  v4:=Tryz.zeroValue4
  t5:=Tryz.underlying5
  a5:=Tryz.isAgg5
  z5:=Tryz.sizeOf5
  v5:=Tryz.zeroValue5
  t9:=Tryz.underlying9
  a9:=Tryz.isAgg9
  z9:=Tryz.sizeOf9
  v9:=Tryz.zeroValue9
  t46:=Tryz.underlying149
  a46:=Tryz.isAgg149
  z46:=Tryz.sizeOf149
  v46:=Tryz.zeroValue149
  t51:=Tryz.underlying161
  a51:=Tryz.isAgg161
  z51:=Tryz.sizeOf161
  v51:=Tryz.zeroValue161
  t146:=Tryz.underlying162
  a146:=Tryz.isAgg162
  z146:=Tryz.sizeOf162
  v146:=Tryz.zeroValue162
  g1:=by kernel_rfl }
open Go.RowKit Go.Lib in
theorem Tryz.stringslite_Index_one (s:ByteArray) (c:UInt8) (w:World) :
    Calls Tryz.prog 170 #[.string s,.string ⟨#[c]⟩] w fun e w'=>e = .returned (.int .i64 (Lib.indexByte s.data.toList c))/\w'=w:=Any.stringslite_Index_one Tryz.aeV s c w
open Go.RowKit Go.Lib in
theorem Tryz.stringslite_Index (s sub:ByteArray) (m:Int) (w:World) (hs:s.size<4294967281) (hm:w.cell? ⟨0,0,none⟩=some (.int .i64 m)) :
    Calls Tryz.prog 170 #[.string s,.string sub] w fun e w'=>e = .returned (.int .i64 (Lib.index s.data.toList sub.data.toList))/\w'=w:=Any.stringslite_Index Tryz.aeV s sub m w hs hm
def Tryz.aa2 : Go.Shelf.Ren:=⟨fun|143=>187|219=>170|217=>172|225=>207|224=>208|267=>209|266=>210|314=>229|n=>n,fun|9=>9|3=>3|4=>4|5=>5|46=>149|146=>162|51=>161|n=>n,fun|1=>0|n=>n⟩
theorem Tryz.aly : Go.Proofs.Lays.n143 Tryz.prog Tryz.aa2:={
  mixed:=by kernel_rfl
  f143:=Tryz.func187.trans (congrArg some (by kernel_rfl))
  f217:=Tryz.func172.trans (congrArg some (by kernel_rfl))
  f219:=Tryz.func170.trans (congrArg some (by kernel_rfl))
  f224:=Tryz.func208.trans (congrArg some (by kernel_rfl))
  f225:=Tryz.func207.trans (congrArg some (by kernel_rfl))
  f266:=Tryz.func210.trans (congrArg some (by kernel_rfl))
  f267:=Tryz.func209.trans (congrArg some (by kernel_rfl))
  f314:=Tryz.func229.trans (congrArg some (by kernel_rfl))
  t3:=Tryz.underlying3
  a3:=Tryz.isAgg3
  z3:=Tryz.sizeOf3
  v3:=Tryz.zeroValue3
  t4:=Tryz.underlying4
  a4:=Tryz.isAgg4
  z4:=Tryz.sizeOf4
  v4:=Tryz.zeroValue4
  t5:=Tryz.underlying5
  a5:=Tryz.isAgg5
  z5:=Tryz.sizeOf5
  v5:=Tryz.zeroValue5
  t9:=Tryz.underlying9
  a9:=Tryz.isAgg9
  z9:=Tryz.sizeOf9
  v9:=Tryz.zeroValue9
  t46:=Tryz.underlying149
  a46:=Tryz.isAgg149
  z46:=Tryz.sizeOf149
  v46:=Tryz.zeroValue149
  t51:=Tryz.underlying161
  a51:=Tryz.isAgg161
  z51:=Tryz.sizeOf161
  v51:=Tryz.zeroValue161
  t146:=Tryz.underlying162
  a146:=Tryz.isAgg162
  z146:=Tryz.sizeOf162
  v146:=Tryz.zeroValue162
  g1:=by kernel_rfl }
open Go.RowKit Go.Lib in
theorem Tryz.strings_Index_one (s:ByteArray) (c:UInt8) (w:World) :
    Calls Tryz.prog 187 #[.string s,.string ⟨#[c]⟩] w fun e w'=>e = .returned (.int .i64 (Lib.indexByte s.data.toList c))/\w'=w:=Any.strings_Index_one Tryz.aly s c w
def Tryz.aa3 : Go.Shelf.Ren:=⟨fun|138=>236|195=>247|218=>249|143=>187|219=>170|217=>172|225=>207|224=>208|267=>209|266=>210|314=>229|n=>n,fun|9=>9|3=>3|4=>4|5=>5|0=>0|46=>149|146=>162|51=>161|n=>n,fun|1=>0|n=>n⟩
theorem Tryz.alz : Go.Proofs.Lays.n138 Tryz.prog Tryz.aa3:={
  mixed:=by kernel_rfl
  f138:=Tryz.func236.trans (congrArg some (by kernel_rfl))
  f143:=Tryz.func187.trans (congrArg some (by kernel_rfl))
  f195:=Tryz.func247.trans (congrArg some (by kernel_rfl))
  f217:=Tryz.func172.trans (congrArg some (by kernel_rfl))
  f218:=Tryz.func249.trans (congrArg some (by kernel_rfl))
  f219:=Tryz.func170.trans (congrArg some (by kernel_rfl))
  f224:=Tryz.func208.trans (congrArg some (by kernel_rfl))
  f225:=Tryz.func207.trans (congrArg some (by kernel_rfl))
  f266:=Tryz.func210.trans (congrArg some (by kernel_rfl))
  f267:=Tryz.func209.trans (congrArg some (by kernel_rfl))
  f314:=Tryz.func229.trans (congrArg some (by kernel_rfl))
  t0:=Tryz.underlying0
  a0:=Tryz.isAgg0
  z0:=Tryz.sizeOf0
  v0:=Tryz.zeroValue0
  t3:=Tryz.underlying3
  a3:=Tryz.isAgg3
  z3:=Tryz.sizeOf3
  v3:=Tryz.zeroValue3
  t4:=Tryz.underlying4
  a4:=Tryz.isAgg4
  z4:=Tryz.sizeOf4
  v4:=Tryz.zeroValue4
  t5:=Tryz.underlying5
  a5:=Tryz.isAgg5
  z5:=Tryz.sizeOf5
  v5:=Tryz.zeroValue5
  t9:=Tryz.underlying9
  a9:=Tryz.isAgg9
  z9:=Tryz.sizeOf9
  v9:=Tryz.zeroValue9
  t46:=Tryz.underlying149
  a46:=Tryz.isAgg149
  z46:=Tryz.sizeOf149
  v46:=Tryz.zeroValue149
  t51:=Tryz.underlying161
  a51:=Tryz.isAgg161
  z51:=Tryz.sizeOf161
  v51:=Tryz.zeroValue161
  t146:=Tryz.underlying162
  a146:=Tryz.isAgg162
  z146:=Tryz.sizeOf162
  v146:=Tryz.zeroValue162
  g1:=by kernel_rfl }
open Go.RowKit Go.Lib in
theorem Tryz.strings_Count_one (s:ByteArray) (c:UInt8) (w:World) :
    Calls Tryz.prog 236 #[.string s,.string ⟨#[c]⟩] w fun e w'=>e = .returned (.int .i64 (Lib.countByte s.data.toList c))/\w'=w:=Any.strings_Count_one Tryz.alz s c w
def Tryz.aa4 : Go.Shelf.Ren:=⟨fun|146=>196|221=>218|268=>235|138=>236|143=>187|195=>247|197=>248|218=>249|219=>170|260=>254|217=>172|225=>207|224=>208|267=>209|266=>210|314=>229|n=>n,fun|9=>9|31=>76|3=>3|4=>4|0=>0|105=>182|21=>21|5=>5|46=>149|119=>190|139=>193|138=>192|146=>162|51=>161|n=>n,fun|1=>0|3=>6|4=>7|n=>n⟩
theorem Tryz.aeW : Go.Proofs.Lays.n146 Tryz.prog Tryz.aa4:={
  mixed:=by kernel_rfl
  f138:=Tryz.func236.trans (congrArg some (by kernel_rfl))
  f143:=Tryz.func187.trans (congrArg some (by kernel_rfl))
  f146:=Tryz.func196.trans (congrArg some (by kernel_rfl))
  f195:=Tryz.func247.trans (congrArg some (by kernel_rfl))
  f197:=Tryz.func248.trans (congrArg some (by kernel_rfl))
  f217:=Tryz.func172.trans (congrArg some (by kernel_rfl))
  f218:=Tryz.func249.trans (congrArg some (by kernel_rfl))
  f219:=Tryz.func170.trans (congrArg some (by kernel_rfl))
  f221:=Tryz.func218.trans (congrArg some (by kernel_rfl))
  f224:=Tryz.func208.trans (congrArg some (by kernel_rfl))
  f225:=Tryz.func207.trans (congrArg some (by kernel_rfl))
  f260:=Tryz.func254.trans (congrArg some (by kernel_rfl))
  f266:=Tryz.func210.trans (congrArg some (by kernel_rfl))
  f267:=Tryz.func209.trans (congrArg some (by kernel_rfl))
  f268:=Tryz.func235.trans (congrArg some (by kernel_rfl))
  f314:=Tryz.func229.trans (congrArg some (by kernel_rfl))
  t0:=Tryz.underlying0
  a0:=Tryz.isAgg0
  z0:=Tryz.sizeOf0
  v0:=Tryz.zeroValue0
  t3:=Tryz.underlying3
  a3:=Tryz.isAgg3
  z3:=Tryz.sizeOf3
  v3:=Tryz.zeroValue3
  t4:=Tryz.underlying4
  a4:=Tryz.isAgg4
  z4:=Tryz.sizeOf4
  v4:=Tryz.zeroValue4
  t5:=Tryz.underlying5
  a5:=Tryz.isAgg5
  z5:=Tryz.sizeOf5
  v5:=Tryz.zeroValue5
  t9:=Tryz.underlying9
  a9:=Tryz.isAgg9
  z9:=Tryz.sizeOf9
  v9:=Tryz.zeroValue9
  t21:=Tryz.underlying21
  a21:=Tryz.isAgg21
  z21:=Tryz.sizeOf21
  v21:=Tryz.zeroValue21
  t31:=Tryz.underlying76
  a31:=Tryz.isAgg76
  z31:=Tryz.sizeOf76
  v31:=Tryz.zeroValue76
  t46:=Tryz.underlying149
  a46:=Tryz.isAgg149
  z46:=Tryz.sizeOf149
  v46:=Tryz.zeroValue149
  t51:=Tryz.underlying161
  a51:=Tryz.isAgg161
  z51:=Tryz.sizeOf161
  v51:=Tryz.zeroValue161
  t105:=Tryz.underlying182
  a105:=Tryz.isAgg182
  z105:=Tryz.sizeOf182
  v105:=Tryz.zeroValue182
  t119:=Tryz.underlying190
  a119:=Tryz.isAgg190
  z119:=Tryz.sizeOf190
  t138:=Tryz.underlying192
  a138:=Tryz.isAgg192
  z138:=Tryz.sizeOf192
  v138:=Tryz.zeroValue192
  t139:=Tryz.underlying193
  a139:=Tryz.isAgg193
  z139:=Tryz.sizeOf193
  v139:=Tryz.zeroValue193
  t146:=Tryz.underlying162
  a146:=Tryz.isAgg162
  z146:=Tryz.sizeOf162
  v146:=Tryz.zeroValue162
  g1:=by kernel_rfl
  g3:=by kernel_rfl
  g4:=by kernel_rfl }
open Go.RowKit Go.Lib in
theorem Tryz.strings_Split (s sep:ByteArray) (m:Int) (w:World) (hs:s.size<4294967281) (hm:w.cell? ⟨0,0,none⟩=some (.int .i64 m)) (h1:1<=sep.size) :
    Calls Tryz.prog 196 #[.string s,.string sep] w fun e w'=>
      e = .returned (.slice (some ⟨w.heap.size,0,none⟩) (Lib.countB s sep+1) (Lib.countB s sep+1))/\w'=w.alloc (.cells ((Lib.splitB sep 0 (Lib.countB s sep) s).map Value.string).toArray 9):=Any.strings_Split Tryz.aeW (by kernel_rfl) s sep m w hs hm h1
def Tryz.aa5 : Go.Shelf.Ren:=⟨fun|152=>188|137=>134|119=>214|224=>208|225=>207|217=>172|266=>210|n=>n,fun|9=>9|21=>21|3=>3|4=>4|5=>5|0=>0|46=>149|n=>n,fun|n=>n⟩
theorem Tryz.alA : Go.Proofs.Lays.n152 Tryz.prog Tryz.aa5:={
  mixed:=by kernel_rfl
  f119:=Tryz.func214.trans (congrArg some (by kernel_rfl))
  f137:=Tryz.func134.trans (congrArg some (by kernel_rfl))
  f152:=Tryz.func188.trans (congrArg some (by kernel_rfl))
  f217:=Tryz.func172.trans (congrArg some (by kernel_rfl))
  f224:=Tryz.func208.trans (congrArg some (by kernel_rfl))
  f225:=Tryz.func207.trans (congrArg some (by kernel_rfl))
  f266:=Tryz.func210.trans (congrArg some (by kernel_rfl))
  t0:=Tryz.underlying0
  a0:=Tryz.isAgg0
  z0:=Tryz.sizeOf0
  v0:=Tryz.zeroValue0
  t3:=Tryz.underlying3
  a3:=Tryz.isAgg3
  z3:=Tryz.sizeOf3
  v3:=Tryz.zeroValue3
  t4:=Tryz.underlying4
  a4:=Tryz.isAgg4
  z4:=Tryz.sizeOf4
  v4:=Tryz.zeroValue4
  t5:=Tryz.underlying5
  a5:=Tryz.isAgg5
  z5:=Tryz.sizeOf5
  v5:=Tryz.zeroValue5
  t9:=Tryz.underlying9
  a9:=Tryz.isAgg9
  z9:=Tryz.sizeOf9
  v9:=Tryz.zeroValue9
  t21:=Tryz.underlying21
  a21:=Tryz.isAgg21
  z21:=Tryz.sizeOf21
  v21:=Tryz.zeroValue21
  t46:=Tryz.underlying149
  a46:=Tryz.isAgg149
  z46:=Tryz.sizeOf149
  v46:=Tryz.zeroValue149 }
open Go.RowKit Go.Lib in
theorem Tryz.strings_IndexRune_ascii (s:ByteArray) (r:Int) (w:World) (h0:0<=r) (h1:r<128) :
    Calls Tryz.prog 188 #[.string s,.int .i32 r] w fun e w'=>e = .returned (.int .i64 (Lib.indexByte s.data.toList r.toNat.toUInt8))/\w'=w:=Any.strings_IndexRune_ascii Tryz.alA s r w h0 h1
def Tryz.aa6 : Go.Shelf.Ren:=⟨fun|226=>189|n=>n,fun|3=>3|4=>4|n=>n,fun|n=>n⟩
theorem Tryz.alB : Go.Proofs.Lays.n226 Tryz.prog Tryz.aa6:={
  mixed:=by kernel_rfl
  f226:=Tryz.func189.trans (congrArg some (by kernel_rfl))
  t3:=Tryz.underlying3
  a3:=Tryz.isAgg3
  z3:=Tryz.sizeOf3
  v3:=Tryz.zeroValue3
  t4:=Tryz.underlying4
  a4:=Tryz.isAgg4
  z4:=Tryz.sizeOf4
  v4:=Tryz.zeroValue4 }
open Go.RowKit Go.Lib in
theorem Tryz.strings_shouldUseASCIISet (n:Int) (w:World) :
    Calls Tryz.prog 189 #[.int .i64 n] w fun e w'=>e = .returned (.bool (decide (8<n)))/\w'=w:=Any.strings_shouldUseASCIISet Tryz.alB n w
def Tryz.aa7 : Go.Shelf.Ren:=⟨fun|153=>149|152=>188|226=>189|227=>190|228=>191|137=>134|119=>214|224=>208|225=>207|217=>172|266=>210|n=>n,fun|9=>9|3=>3|4=>4|5=>5|21=>21|117=>142|116=>141|0=>0|46=>149|124=>151|n=>n,fun|n=>n⟩
theorem Tryz.alC : Go.Proofs.Lays.n153 Tryz.prog Tryz.aa7:={
  mixed:=by kernel_rfl
  f119:=Tryz.func214.trans (congrArg some (by kernel_rfl))
  f137:=Tryz.func134.trans (congrArg some (by kernel_rfl))
  f152:=Tryz.func188.trans (congrArg some (by kernel_rfl))
  f153:=Tryz.func149.trans (congrArg some (by kernel_rfl))
  f217:=Tryz.func172.trans (congrArg some (by kernel_rfl))
  f224:=Tryz.func208.trans (congrArg some (by kernel_rfl))
  f225:=Tryz.func207.trans (congrArg some (by kernel_rfl))
  f226:=Tryz.func189.trans (congrArg some (by kernel_rfl))
  f227:=Tryz.func190.trans (congrArg some (by kernel_rfl))
  f228:=Tryz.func191.trans (congrArg some (by kernel_rfl))
  f266:=Tryz.func210.trans (congrArg some (by kernel_rfl))
  t0:=Tryz.underlying0
  a0:=Tryz.isAgg0
  z0:=Tryz.sizeOf0
  v0:=Tryz.zeroValue0
  t3:=Tryz.underlying3
  a3:=Tryz.isAgg3
  z3:=Tryz.sizeOf3
  v3:=Tryz.zeroValue3
  t4:=Tryz.underlying4
  a4:=Tryz.isAgg4
  z4:=Tryz.sizeOf4
  v4:=Tryz.zeroValue4
  t5:=Tryz.underlying5
  a5:=Tryz.isAgg5
  z5:=Tryz.sizeOf5
  v5:=Tryz.zeroValue5
  t9:=Tryz.underlying9
  a9:=Tryz.isAgg9
  z9:=Tryz.sizeOf9
  v9:=Tryz.zeroValue9
  t21:=Tryz.underlying21
  a21:=Tryz.isAgg21
  z21:=Tryz.sizeOf21
  v21:=Tryz.zeroValue21
  t46:=Tryz.underlying149
  a46:=Tryz.isAgg149
  z46:=Tryz.sizeOf149
  v46:=Tryz.zeroValue149
  t116:=Tryz.underlying141
  a116:=Tryz.isAgg141
  z116:=Tryz.sizeOf141
  t117:=Tryz.underlying142
  a117:=Tryz.isAgg142
  z117:=Tryz.sizeOf142
  v117:=Tryz.zeroValue142
  t124:=Tryz.underlying151
  a124:=Tryz.isAgg151
  z124:=Tryz.sizeOf151
  v124:=Tryz.zeroValue151 }
open Go.RowKit Go.Lib in
theorem Tryz.strings_IndexAny_long (hv116:∀ w,(zeroValue 141).run Tryz.prog w = .ok (.agg (Array.replicate 256 (.bool false))) w) (s chars:ByteArray) (w:World) (h2:2<=chars.size) (h8:8<s.size) (hs:s.size<4294967281) (hcs:chars.size<4294967281) (hascii:∀(j:Nat) b,chars.data.toList[j]? = some b->b.toNat<128) :
    Calls Tryz.prog 149 #[.string s,.string chars] w fun e w'=>e = .returned (.int .i64 (Lib.indexAny s.data.toList chars.data.toList))/\w'=((w.alloc (.cells (Lib.setCells chars.data.toList) 141)).alloc (.cells (Lib.setCells chars.data.toList) 141)):=Any.strings_IndexAny_long Tryz.alC hv116 (by kernel_rfl) s chars w h2 h8 hs hcs hascii
end Go.Proofs
