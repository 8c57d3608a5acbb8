/- Contracts of the library at this program,laid by the shelf's tools. -/
import Derived.Shelf.Small.Utf8
import Derived.Shelf.Small.Strs
import Derived.Shelf.Strconv.Atoi
import Derived.Shelf.Strconv.Itoa0
import Derived.Shelf.Strconv.Itoa1
import Derived.Shelf.LaysM
import Derived.Shelf.Strconv.Itoa2
import Derived.Shelf.Strconv.Itoa3
import Derived.Shelf.Strconv.AtoiErrFast
import Derived.Shelf.Strconv.ParseIntEmpty
import Derived.Shelf.Strconv.AtoiFail
import Derived.Shelf.Strconv.Clone
import Derived.Shelf.Strconv.SyntaxError
import Derived.Shelf.LaysC
import Derived.Shelf.Strconv.ToError
import Derived.Shelf.Strconv.Lower
import Derived.Shelf.Strconv.ParseUint10
import Derived.Shelf.Strconv.ParseUint10Empty
import Derived.Shelf.Strconv.ParseUint10Any
import Derived.Shelf.Strconv.ParseInt10
import Derived.Shelf.Strconv.AtoiLong
import Derived.Shelf.Strconv.AtoiInnerAll
import Derived.Shelf.Strconv.RangeError
import Derived.Shelf.Strconv.ToErrorRange
import Derived.Shelf.Strconv.AtoiAll
import Derived.Shelf.Strconv.ErrVarAll
import Derived.Shelf.Strings.Search1
import Derived.Shelf.Strings.Runes
import Derived.Shelf.Strings.IndexAny
import Derived.Shelf.Strings.AsciiSet
import Derived.Shelf.Strings.IndexAnyAll
import Derived.Test.YtkbjmlcdmbajcaaDoorProg
namespace Go.Proofs
open Go.Shelf Go.RowKit Go.Sort Go.Lib
def Tryd.laysM171_ren:Go.Shelf.Ren:=⟨fun|171=>51|243=>64|246=>76|283=>81|284=>82|285=>83|286=>84|129=>89|317=>88|318=>90|319=>91|320=>92|337=>93|338=>94|n=>n,fun|3=>3|9=>9|2=>2|4=>4|171=>143|0=>0|53=>81|37=>82|5=>5|173=>146|212=>153|51=>154|20=>20|213=>155|46=>29|232=>158|233=>159|n=>n,fun|17=>3|18=>4|19=>5|n=>n⟩
theorem Tryd.laysM171:Go.Proofs.LaysM.n171 Tryd.prog Tryd.laysM171_ren:={
 mixed:=by kernel_rfl
 f129:=Tryd.func89.trans (congrArg some (by kernel_rfl))
 f171:=Tryd.func51.trans (congrArg some (by kernel_rfl))
 f243:=Tryd.func64.trans (congrArg some (by kernel_rfl))
 f246:=Tryd.func76.trans (congrArg some (by kernel_rfl))
 f283:=Tryd.func81.trans (congrArg some (by kernel_rfl))
 f284:=Tryd.func82.trans (congrArg some (by kernel_rfl))
 f285:=Tryd.func83.trans (congrArg some (by kernel_rfl))
 f286:=Tryd.func84.trans (congrArg some (by kernel_rfl))
 f317:=Tryd.func88.trans (congrArg some (by kernel_rfl))
 f318:=Tryd.func90.trans (congrArg some (by kernel_rfl))
 f319:=Tryd.func91.trans (congrArg some (by kernel_rfl))
 f320:=Tryd.func92.trans (congrArg some (by kernel_rfl))
 f337:=Tryd.func93.trans (congrArg some (by kernel_rfl))
 f338:=Tryd.func94.trans (congrArg some (by kernel_rfl))
 t0:=Tryd.underlying0
 a0:=Tryd.isAgg0
 z0:=Tryd.sizeOf0
 v0:=Tryd.zeroValue0
 t2:=Tryd.underlying2
 a2:=Tryd.isAgg2
 z2:=Tryd.sizeOf2
 v2:=Tryd.zeroValue2
 t3:=Tryd.underlying3
 a3:=Tryd.isAgg3
 z3:=Tryd.sizeOf3
 v3:=Tryd.zeroValue3
 t4:=Tryd.underlying4
 a4:=Tryd.isAgg4
 z4:=Tryd.sizeOf4
 v4:=Tryd.zeroValue4
 t5:=Tryd.underlying5
 a5:=Tryd.isAgg5
 z5:=Tryd.sizeOf5
 v5:=Tryd.zeroValue5
 t9:=Tryd.underlying9
 a9:=Tryd.isAgg9
 z9:=Tryd.sizeOf9
 v9:=Tryd.zeroValue9
 t20:=Tryd.underlying20
 a20:=Tryd.isAgg20
 z20:=Tryd.sizeOf20
 v20:=Tryd.zeroValue20
 t37:=Tryd.underlying82
 a37:=Tryd.isAgg82
 z37:=Tryd.sizeOf82
 v37:=Tryd.zeroValue82
 t46:=Tryd.underlying29
 a46:=Tryd.isAgg29
 z46:=Tryd.sizeOf29
 v46:=Tryd.zeroValue29
 t51:=Tryd.underlying154
 a51:=Tryd.isAgg154
 z51:=Tryd.sizeOf154
 v51:=Tryd.zeroValue154
 t53:=Tryd.underlying81
 a53:=Tryd.isAgg81
 z53:=Tryd.sizeOf81
 v53:=Tryd.zeroValue81
 t171:=Tryd.underlying143
 a171:=Tryd.isAgg143
 z171:=Tryd.sizeOf143
 v171:=Tryd.zeroValue143
 t173:=Tryd.underlying146
 a173:=Tryd.isAgg146
 z173:=Tryd.sizeOf146
 v173:=Tryd.zeroValue146
 t212:=Tryd.underlying153
 a212:=Tryd.isAgg153
 z212:=Tryd.sizeOf153
 v212:=Tryd.zeroValue153
 t213:=Tryd.underlying155
 a213:=Tryd.isAgg155
 z213:=Tryd.sizeOf155
 t232:=Tryd.underlying158
 a232:=Tryd.isAgg158
 z232:=Tryd.sizeOf158
 v232:=Tryd.zeroValue158
 t233:=Tryd.underlying159
 a233:=Tryd.isAgg159
 z233:=Tryd.sizeOf159
 v233:=Tryd.zeroValue159
 g17:=by kernel_rfl
 g18:=by kernel_rfl
 g19:=by kernel_rfl
 i0:=by kernel_rfl
 i2:=by kernel_rfl
 i3:=by kernel_rfl
 i4:=by kernel_rfl
 i5:=by kernel_rfl
 i9:=by kernel_rfl
 i20:=by kernel_rfl
 i37:=by kernel_rfl
 i46:=by kernel_rfl
 i51:=by kernel_rfl
 i53:=by kernel_rfl
 i171:=by kernel_rfl
 i173:=by kernel_rfl
 i212:=by kernel_rfl
 i232:=by kernel_rfl
 i233:=by kernel_rfl
 m17:=by kernel_rfl
 m18:=by kernel_rfl
 m19:=by kernel_rfl }
theorem Tryd.strconv_Itoa(n:Int)(h0:-9223372036854775808≤n)(h1:n≤9223372036854775807)(w:World)(htab:Lib.TabIs Tryd.prog w "internal/strconv.uint64pow10" .u64 Lib.pow10Tab) :
  Calls Tryd.prog 51 #[.int .i64 n] w fun e w'=>e = .returned (.string ⟨(Lib.itoa n).toArray⟩)∧∃k os,w'=grow (w.drewN k) os:=Any.strconv_Itoa Tryd.laysM171 n h0 h1 w htab
def Tryd.laysC172_ren:Go.Shelf.Ren:=⟨fun|172=>49|244=>62|245=>63|247=>71|279=>72|280=>73|281=>74|282=>75|287=>78|316=>79|171=>51|205=>80|321=>86|322=>87|243=>64|246=>76|283=>81|284=>82|285=>83|286=>84|129=>89|317=>88|318=>90|319=>91|320=>92|337=>93|338=>94|n=>n,fun|9=>9|3=>3|75=>105|76=>106|4=>4|5=>5|167=>130|37=>82|0=>0|85=>131|2=>2|168=>133|53=>81|175=>137|46=>29|210=>141|127=>149|145=>152|143=>150|21=>21|171=>143|173=>146|212=>153|51=>154|20=>20|213=>155|232=>158|233=>159|80=>160|n=>n,fun|15=>1|16=>2|17=>3|18=>4|19=>5|n=>n⟩
theorem Tryd.laysC172:Go.Proofs.LaysC.n172 Tryd.prog Tryd.laysC172_ren:={
 mixed:=by kernel_rfl
 f129:=Tryd.func89.trans (congrArg some (by kernel_rfl))
 f171:=Tryd.func51.trans (congrArg some (by kernel_rfl))
 f172:=Tryd.func49.trans (congrArg some (by kernel_rfl))
 f205:=Tryd.func80.trans (congrArg some (by kernel_rfl))
 f243:=Tryd.func64.trans (congrArg some (by kernel_rfl))
 f244:=Tryd.func62.trans (congrArg some (by kernel_rfl))
 f245:=Tryd.func63.trans (congrArg some (by kernel_rfl))
 f246:=Tryd.func76.trans (congrArg some (by kernel_rfl))
 f247:=Tryd.func71.trans (congrArg some (by kernel_rfl))
 f279:=Tryd.func72.trans (congrArg some (by kernel_rfl))
 f280:=Tryd.func73.trans (congrArg some (by kernel_rfl))
 f281:=Tryd.func74.trans (congrArg some (by kernel_rfl))
 f282:=Tryd.func75.trans (congrArg some (by kernel_rfl))
 f283:=Tryd.func81.trans (congrArg some (by kernel_rfl))
 f284:=Tryd.func82.trans (congrArg some (by kernel_rfl))
 f285:=Tryd.func83.trans (congrArg some (by kernel_rfl))
 f286:=Tryd.func84.trans (congrArg some (by kernel_rfl))
 f287:=Tryd.func78.trans (congrArg some (by kernel_rfl))
 f316:=Tryd.func79.trans (congrArg some (by kernel_rfl))
 f317:=Tryd.func88.trans (congrArg some (by kernel_rfl))
 f318:=Tryd.func90.trans (congrArg some (by kernel_rfl))
 f319:=Tryd.func91.trans (congrArg some (by kernel_rfl))
 f320:=Tryd.func92.trans (congrArg some (by kernel_rfl))
 f321:=Tryd.func86.trans (congrArg some (by kernel_rfl))
 f322:=Tryd.func87.trans (congrArg some (by kernel_rfl))
 f337:=Tryd.func93.trans (congrArg some (by kernel_rfl))
 f338:=Tryd.func94.trans (congrArg some (by kernel_rfl))
 t0:=Tryd.underlying0
 a0:=Tryd.isAgg0
 z0:=Tryd.sizeOf0
 v0:=Tryd.zeroValue0
 t2:=Tryd.underlying2
 a2:=Tryd.isAgg2
 z2:=Tryd.sizeOf2
 v2:=Tryd.zeroValue2
 t3:=Tryd.underlying3
 a3:=Tryd.isAgg3
 z3:=Tryd.sizeOf3
 v3:=Tryd.zeroValue3
 t4:=Tryd.underlying4
 a4:=Tryd.isAgg4
 z4:=Tryd.sizeOf4
 v4:=Tryd.zeroValue4
 t5:=Tryd.underlying5
 a5:=Tryd.isAgg5
 z5:=Tryd.sizeOf5
 v5:=Tryd.zeroValue5
 t9:=Tryd.underlying9
 a9:=Tryd.isAgg9
 z9:=Tryd.sizeOf9
 v9:=Tryd.zeroValue9
 t20:=Tryd.underlying20
 a20:=Tryd.isAgg20
 z20:=Tryd.sizeOf20
 v20:=Tryd.zeroValue20
 t21:=Tryd.underlying21
 a21:=Tryd.isAgg21
 z21:=Tryd.sizeOf21
 v21:=Tryd.zeroValue21
 t37:=Tryd.underlying82
 a37:=Tryd.isAgg82
 z37:=Tryd.sizeOf82
 v37:=Tryd.zeroValue82
 t46:=Tryd.underlying29
 a46:=Tryd.isAgg29
 z46:=Tryd.sizeOf29
 v46:=Tryd.zeroValue29
 t51:=Tryd.underlying154
 a51:=Tryd.isAgg154
 z51:=Tryd.sizeOf154
 v51:=Tryd.zeroValue154
 t53:=Tryd.underlying81
 a53:=Tryd.isAgg81
 z53:=Tryd.sizeOf81
 v53:=Tryd.zeroValue81
 t75:=Tryd.underlying105
 a75:=Tryd.isAgg105
 z75:=Tryd.sizeOf105
 v75:=Tryd.zeroValue105
 t76:=Tryd.underlying106
 a76:=Tryd.isAgg106
 z76:=Tryd.sizeOf106
 v76:=Tryd.zeroValue106
 t85:=Tryd.underlying131
 a85:=Tryd.isAgg131
 z85:=Tryd.sizeOf131
 v85:=Tryd.zeroValue131
 t127:=Tryd.underlying149
 a127:=Tryd.isAgg149
 z127:=Tryd.sizeOf149
 v127:=Tryd.zeroValue149
 t143:=Tryd.underlying150
 a143:=Tryd.isAgg150
 z143:=Tryd.sizeOf150
 v143:=Tryd.zeroValue150
 t145:=Tryd.underlying152
 a145:=Tryd.isAgg152
 z145:=Tryd.sizeOf152
 v145:=Tryd.zeroValue152
 t167:=Tryd.underlying130
 a167:=Tryd.isAgg130
 z167:=Tryd.sizeOf130
 v167:=Tryd.zeroValue130
 t168:=Tryd.underlying133
 a168:=Tryd.isAgg133
 z168:=Tryd.sizeOf133
 v168:=Tryd.zeroValue133
 t171:=Tryd.underlying143
 a171:=Tryd.isAgg143
 z171:=Tryd.sizeOf143
 v171:=Tryd.zeroValue143
 t173:=Tryd.underlying146
 a173:=Tryd.isAgg146
 z173:=Tryd.sizeOf146
 v173:=Tryd.zeroValue146
 t175:=Tryd.underlying137
 a175:=Tryd.isAgg137
 z175:=Tryd.sizeOf137
 v175:=Tryd.zeroValue137
 t210:=Tryd.underlying141
 a210:=Tryd.isAgg141
 z210:=Tryd.sizeOf141
 v210:=Tryd.zeroValue141
 t212:=Tryd.underlying153
 a212:=Tryd.isAgg153
 z212:=Tryd.sizeOf153
 v212:=Tryd.zeroValue153
 t213:=Tryd.underlying155
 a213:=Tryd.isAgg155
 z213:=Tryd.sizeOf155
 t232:=Tryd.underlying158
 a232:=Tryd.isAgg158
 z232:=Tryd.sizeOf158
 v232:=Tryd.zeroValue158
 t233:=Tryd.underlying159
 a233:=Tryd.isAgg159
 z233:=Tryd.sizeOf159
 v233:=Tryd.zeroValue159
 g15:=by kernel_rfl
 g16:=by kernel_rfl
 g17:=by kernel_rfl
 g18:=by kernel_rfl
 g19:=by kernel_rfl
 t80:=Tryd.underlying160
 a80:=Tryd.isAgg160
 z80:=Tryd.sizeOf160
 v80:=Tryd.zeroValue160
 i0:=by kernel_rfl
 i2:=by kernel_rfl
 i3:=by kernel_rfl
 i4:=by kernel_rfl
 i5:=by kernel_rfl
 i9:=by kernel_rfl
 i20:=by kernel_rfl
 i21:=by kernel_rfl
 i37:=by kernel_rfl
 i46:=by kernel_rfl
 i51:=by kernel_rfl
 i53:=by kernel_rfl
 i75:=by kernel_rfl
 i76:=by kernel_rfl
 i80:=by kernel_rfl
 i85:=by kernel_rfl
 i127:=by kernel_rfl
 i143:=by kernel_rfl
 i145:=by kernel_rfl
 i167:=by kernel_rfl
 i168:=by kernel_rfl
 i171:=by kernel_rfl
 i173:=by kernel_rfl
 i175:=by kernel_rfl
 i210:=by kernel_rfl
 i212:=by kernel_rfl
 i232:=by kernel_rfl
 i233:=by kernel_rfl
 m15:=by kernel_rfl
 m16:=by kernel_rfl
 m17:=by kernel_rfl
 m18:=by kernel_rfl
 m19:=by kernel_rfl
 c0:=by kernel_rfl
 c2:=by kernel_rfl
 c3:=by kernel_rfl
 c4:=by kernel_rfl
 c5:=by kernel_rfl
 c9:=by kernel_rfl
 c20:=by kernel_rfl
 c21:=by kernel_rfl
 c37:=by kernel_rfl
 c46:=by kernel_rfl
 c51:=by kernel_rfl
 c53:=by kernel_rfl
 c75:=by kernel_rfl
 c76:=by kernel_rfl
 c80:=by kernel_rfl
 c85:=by kernel_rfl
 c127:=by kernel_rfl
 c143:=by kernel_rfl
 c145:=by kernel_rfl
 c167:=by kernel_rfl
 c168:=by kernel_rfl
 c171:=by kernel_rfl
 c173:=by kernel_rfl
 c175:=by kernel_rfl
 c210:=by kernel_rfl
 c212:=by kernel_rfl
 c213:=by kernel_rfl
 c232:=by kernel_rfl
 c233:=by kernel_rfl }
theorem Tryd.strconv_Atoi_ok(s:ByteArray)(hmax:s.size≤9223372036854775806)(v:Int)(h:Lib.atoiAll s.data.toList = .ok v)(w:World) :
  Calls Tryd.prog 49 #[.string s] w fun e w'=>e = .returned (.tuple #[.int .i64 v,.nilIface])∧(w'=w∨∃t,w'=Lib.bytesWorld w 5 t):=Any.strconv_Atoi_ok Tryd.laysC172 s hmax v h w
theorem Tryd.strconv_Atoi_syntax_var(s:ByteArray)(hlim:s.size≤281474976710656)(h1:∀n,Lib.atoiAll s.data.toList ≠ .ok n)(h2:Lib.atoiAll s.data.toList ≠ .range)(tp:TypeId)(p:Value)(w:World)(hvar:w.var? Tryd.prog "strconv.ErrSyntax"=some #[.iface tp p]) :
  Calls Tryd.prog 49 #[.string s] w fun e w'=>∃N,e = .returned (.tuple #[.int .i64 0,.iface 133 (.pointer (some ⟨N,0,none⟩))])∧w.heap.size≤N∧w'.heap[N]?=some (.cells #[.string ⟨#[65,116,111,105]⟩,.string s,.iface tp p] 141 (0,0))∧Below w.heap.size w w':=Any.strconv_Atoi_syntax_var Tryd.laysC172 s hlim (by cases hx:Lib.atoiAll s.data.toList<;>first|rfl|exact absurd hx (h1 _)|exact absurd hx h2) tp p w hvar
theorem Tryd.strconv_Atoi_range_var(s:ByteArray)(hlim:s.size≤281474976710656)(h:Lib.atoiAll s.data.toList = .range)(tp:TypeId)(p:Value)(w:World)(hvar:w.var? Tryd.prog "strconv.ErrRange"=some #[.iface tp p]) :
  Calls Tryd.prog 49 #[.string s] w fun e w'=>∃N,e = .returned (.tuple #[.int .i64 (Lib.atoiSat s.data.toList),.iface 133 (.pointer (some ⟨N,0,none⟩))])∧w.heap.size≤N∧w'.heap[N]?=some (.cells #[.string ⟨#[65,116,111,105]⟩,.string s,.iface tp p] 141 (0,0))∧Below w.heap.size w w':=Any.strconv_Atoi_range_var Tryd.laysC172 s hlim h tp p w hvar
def Tryd.lays153_ren:Go.Shelf.Ren:=⟨fun|153=>48|152=>58|226=>59|227=>60|228=>61|137=>67|119=>68|224=>69|225=>70|217=>77|266=>85|n=>n,fun|9=>9|3=>3|4=>4|5=>5|21=>21|117=>118|116=>117|0=>0|46=>29|124=>129|n=>n,fun|n=>n⟩
theorem Tryd.lays153:Go.Proofs.Lays.n153 Tryd.prog Tryd.lays153_ren:={
 mixed:=by kernel_rfl
 f119:=Tryd.func68.trans (congrArg some (by kernel_rfl))
 f137:=Tryd.func67.trans (congrArg some (by kernel_rfl))
 f152:=Tryd.func58.trans (congrArg some (by kernel_rfl))
 f153:=Tryd.func48.trans (congrArg some (by kernel_rfl))
 f217:=Tryd.func77.trans (congrArg some (by kernel_rfl))
 f224:=Tryd.func69.trans (congrArg some (by kernel_rfl))
 f225:=Tryd.func70.trans (congrArg some (by kernel_rfl))
 f226:=Tryd.func59.trans (congrArg some (by kernel_rfl))
 f227:=Tryd.func60.trans (congrArg some (by kernel_rfl))
 f228:=Tryd.func61.trans (congrArg some (by kernel_rfl))
 f266:=Tryd.func85.trans (congrArg some (by kernel_rfl))
 t0:=Tryd.underlying0
 a0:=Tryd.isAgg0
 z0:=Tryd.sizeOf0
 v0:=Tryd.zeroValue0
 t3:=Tryd.underlying3
 a3:=Tryd.isAgg3
 z3:=Tryd.sizeOf3
 v3:=Tryd.zeroValue3
 t4:=Tryd.underlying4
 a4:=Tryd.isAgg4
 z4:=Tryd.sizeOf4
 v4:=Tryd.zeroValue4
 t5:=Tryd.underlying5
 a5:=Tryd.isAgg5
 z5:=Tryd.sizeOf5
 v5:=Tryd.zeroValue5
 t9:=Tryd.underlying9
 a9:=Tryd.isAgg9
 z9:=Tryd.sizeOf9
 v9:=Tryd.zeroValue9
 t21:=Tryd.underlying21
 a21:=Tryd.isAgg21
 z21:=Tryd.sizeOf21
 v21:=Tryd.zeroValue21
 t46:=Tryd.underlying29
 a46:=Tryd.isAgg29
 z46:=Tryd.sizeOf29
 v46:=Tryd.zeroValue29
 t116:=Tryd.underlying117
 a116:=Tryd.isAgg117
 z116:=Tryd.sizeOf117
 t117:=Tryd.underlying118
 a117:=Tryd.isAgg118
 z117:=Tryd.sizeOf118
 v117:=Tryd.zeroValue118
 t124:=Tryd.underlying129
 a124:=Tryd.isAgg129
 z124:=Tryd.sizeOf129
 v124:=Tryd.zeroValue129 }
theorem Tryd.strings_IndexAny_long(hv116:∀w,(zeroValue 117).run Tryd.prog w = .ok (.agg (Array.replicate 256 (.bool false))) w)(s chars:ByteArray)(w:World)(h2:2≤chars.size)(h8:8<s.size)(hs:s.size<4294967281)(hcs:chars.size<4294967281)(hascii:∀(j:Nat) b,chars.data.toList[j]?=some b→b.toNat<128) :
  Calls Tryd.prog 48 #[.string s,.string chars] w fun e w'=>e = .returned (.int .i64 (Lib.indexAny s.data.toList chars.data.toList))∧w'=((w.alloc (.cells (Lib.setCells chars.data.toList) 117)).alloc (.cells (Lib.setCells chars.data.toList) 117)):=Any.strings_IndexAny_long Tryd.lays153 hv116 (by kernel_rfl) s chars w h2 h8 hs hcs hascii
end Go.Proofs
