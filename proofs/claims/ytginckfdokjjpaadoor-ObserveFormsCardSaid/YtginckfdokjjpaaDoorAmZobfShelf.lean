/- Contracts of the library at this program,laid by the shelf's tools. -/
import Derived.Shelf.Strings.Builder1
import Derived.Shelf.Strings.Builder2
import Derived.Shelf.Strings.OnBuilder
import Derived.Shelf.Small.Utf8
import Derived.Shelf.Small.Strs
import Derived.Shelf.Strings.Builder2Cap
import Derived.Shelf.Strconv.Atoi
import Derived.Shelf.Strconv.Itoa0
import Derived.Shelf.Strconv.Itoa1
import Derived.Shelf.LaysM
import Derived.Shelf.Strconv.Itoa2
import Derived.Shelf.Strconv.Itoa3
import Derived.Shelf.Strconv.AtoiErrFast
import Derived.Shelf.Strconv.ParseIntEmpty
import Derived.Shelf.Strconv.AtoiFail
import Derived.Shelf.Strconv.Clone
import Derived.Shelf.Strconv.SyntaxError
import Derived.Shelf.LaysC
import Derived.Shelf.Strconv.ToError
import Derived.Shelf.Strconv.Lower
import Derived.Shelf.Strconv.ParseUint10
import Derived.Shelf.Strconv.ParseUint10Empty
import Derived.Shelf.Strconv.ParseUint10Any
import Derived.Shelf.Strconv.ParseInt10
import Derived.Shelf.Strconv.AtoiLong
import Derived.Shelf.Strconv.AtoiInnerAll
import Derived.Shelf.Strconv.RangeError
import Derived.Shelf.Strconv.ToErrorRange
import Derived.Shelf.Strconv.AtoiAll
import Derived.Shelf.Strconv.ErrVarAll
import Derived.Shelf.Strings.Search1
import Derived.Shelf.Strings.Runes
import Derived.Shelf.Strings.IndexAny
import Derived.Shelf.Strings.AsciiSet
import Derived.Shelf.Strings.IndexAnyAll
import Derived.Test.YtginckfdokjjpaaDoorProg
namespace Go.Proofs
open Go.Shelf Go.RowKit Go.Sort Go.Lib
def Tryd.lays156_ren:Go.Shelf.Ren:=⟨fun|156=>29|165=>34|166=>35|169=>36|240=>40|241=>41|276=>52|277=>53|n=>n,fun|31=>24|9=>9|3=>3|4=>4|0=>0|20=>20|72=>67|76=>71|70=>65|37=>63|75=>70|127=>79|164=>95|5=>5|80=>73|n=>n,fun|n=>n⟩
theorem Tryd.lays156:Go.Proofs.Lays.n156 Tryd.prog Tryd.lays156_ren:={
 mixed:=by kernel_rfl
 f156:=Tryd.func29.trans (congrArg some (by kernel_rfl))
 f165:=Tryd.func34.trans (congrArg some (by kernel_rfl))
 f166:=Tryd.func35.trans (congrArg some (by kernel_rfl))
 f169:=Tryd.func36.trans (congrArg some (by kernel_rfl))
 f240:=Tryd.func40.trans (congrArg some (by kernel_rfl))
 f241:=Tryd.func41.trans (congrArg some (by kernel_rfl))
 f276:=Tryd.func52.trans (congrArg some (by kernel_rfl))
 f277:=Tryd.func53.trans (congrArg some (by kernel_rfl))
 t0:=Tryd.underlying0
 a0:=Tryd.isAgg0
 z0:=Tryd.sizeOf0
 v0:=Tryd.zeroValue0
 t3:=Tryd.underlying3
 a3:=Tryd.isAgg3
 z3:=Tryd.sizeOf3
 v3:=Tryd.zeroValue3
 t4:=Tryd.underlying4
 a4:=Tryd.isAgg4
 z4:=Tryd.sizeOf4
 v4:=Tryd.zeroValue4
 t9:=Tryd.underlying9
 a9:=Tryd.isAgg9
 z9:=Tryd.sizeOf9
 v9:=Tryd.zeroValue9
 t20:=Tryd.underlying20
 a20:=Tryd.isAgg20
 z20:=Tryd.sizeOf20
 v20:=Tryd.zeroValue20
 t31:=Tryd.underlying24
 a31:=Tryd.isAgg24
 z31:=Tryd.sizeOf24
 v31:=Tryd.zeroValue24
 t37:=Tryd.underlying63
 a37:=Tryd.isAgg63
 z37:=Tryd.sizeOf63
 v37:=Tryd.zeroValue63
 t70:=Tryd.underlying65
 a70:=Tryd.isAgg65
 z70:=Tryd.sizeOf65
 v70:=Tryd.zeroValue65
 t72:=Tryd.underlying67
 a72:=Tryd.isAgg67
 z72:=Tryd.sizeOf67
 v72:=Tryd.zeroValue67
 t75:=Tryd.underlying70
 a75:=Tryd.isAgg70
 z75:=Tryd.sizeOf70
 v75:=Tryd.zeroValue70
 t76:=Tryd.underlying71
 a76:=Tryd.isAgg71
 z76:=Tryd.sizeOf71
 v76:=Tryd.zeroValue71
 t127:=Tryd.underlying79
 a127:=Tryd.isAgg79
 z127:=Tryd.sizeOf79
 v127:=Tryd.zeroValue79
 t164:=Tryd.underlying95
 a164:=Tryd.isAgg95
 z164:=Tryd.sizeOf95
 v164:=Tryd.zeroValue95 }
theorem Tryd.Builder_Extra_156:Builder.Extra Tryd.prog Tryd.lays156_ren:={
 sizeBuilder:=by kernel_rfl
 liesBuilder:=by kernel_rfl
 t5:=Tryd.underlying5
 a5:=Tryd.isAgg5
 z5:=Tryd.sizeOf5
 v5:=Tryd.zeroValue5
 infoByte:=by kernel_rfl
 cellsByte:=by kernel_rfl
 sizeByte:=by kernel_rfl
 neB5:=by decide }
theorem Tryd.strings_Join_none(a:Option Addr)(c:Nat)(sep:ByteArray)(w:World) :
  Calls Tryd.prog 29 #[.slice a 0 c,.string sep] w λe w'=>e = .returned (.string ⟨#[]⟩)/\w'=w:=Any.strings_Join_none Tryd.lays156 Tryd.Builder_Extra_156 a c sep w
theorem Tryd.strings_Join(bk o c:Nat)(xs:List ByteArray)(sep:ByteArray)(w:World)(hcells:∀(j:Nat) x,xs[j]?=some x->w.cell? ⟨bk,o+j,none⟩=some (.string x))(hbk:bk<w.heap.size)(hN:xs.length<=140737488355328)(hcap:xs.length<=c)(hlen:(Lib.join (xs.map (·.data.toList)) sep.data.toList).length<=140737488355328) :
  Calls Tryd.prog 29 #[.slice (some ⟨bk,o,none⟩) xs.length c,.string sep] w λe w'=>e = .returned (.string ⟨(Lib.join (xs.map (·.data.toList)) sep.data.toList).toArray⟩)/\Below w.heap.size w w':=Any.strings_Join Tryd.lays156 Tryd.Builder_Extra_156 bk o c xs sep w hcells hbk hN hcap hlen
def Tryd.laysM171_ren:Go.Shelf.Ren:=⟨fun|171=>28|243=>33|246=>39|283=>48|284=>49|285=>50|286=>51|129=>65|317=>64|318=>66|319=>67|320=>68|337=>76|338=>77|n=>n,fun|3=>3|9=>9|2=>2|4=>4|171=>90|0=>0|53=>62|37=>63|5=>5|173=>93|212=>107|51=>108|20=>20|213=>109|46=>110|232=>129|233=>130|n=>n,fun|17=>0|18=>2|19=>3|n=>n⟩
theorem Tryd.laysM171:Go.Proofs.LaysM.n171 Tryd.prog Tryd.laysM171_ren:={
 mixed:=by kernel_rfl
 f129:=Tryd.func65.trans (congrArg some (by kernel_rfl))
 f171:=Tryd.func28.trans (congrArg some (by kernel_rfl))
 f243:=Tryd.func33.trans (congrArg some (by kernel_rfl))
 f246:=Tryd.func39.trans (congrArg some (by kernel_rfl))
 f283:=Tryd.func48.trans (congrArg some (by kernel_rfl))
 f284:=Tryd.func49.trans (congrArg some (by kernel_rfl))
 f285:=Tryd.func50.trans (congrArg some (by kernel_rfl))
 f286:=Tryd.func51.trans (congrArg some (by kernel_rfl))
 f317:=Tryd.func64.trans (congrArg some (by kernel_rfl))
 f318:=Tryd.func66.trans (congrArg some (by kernel_rfl))
 f319:=Tryd.func67.trans (congrArg some (by kernel_rfl))
 f320:=Tryd.func68.trans (congrArg some (by kernel_rfl))
 f337:=Tryd.func76.trans (congrArg some (by kernel_rfl))
 f338:=Tryd.func77.trans (congrArg some (by kernel_rfl))
 t0:=Tryd.underlying0
 a0:=Tryd.isAgg0
 z0:=Tryd.sizeOf0
 v0:=Tryd.zeroValue0
 t2:=Tryd.underlying2
 a2:=Tryd.isAgg2
 z2:=Tryd.sizeOf2
 v2:=Tryd.zeroValue2
 t3:=Tryd.underlying3
 a3:=Tryd.isAgg3
 z3:=Tryd.sizeOf3
 v3:=Tryd.zeroValue3
 t4:=Tryd.underlying4
 a4:=Tryd.isAgg4
 z4:=Tryd.sizeOf4
 v4:=Tryd.zeroValue4
 t5:=Tryd.underlying5
 a5:=Tryd.isAgg5
 z5:=Tryd.sizeOf5
 v5:=Tryd.zeroValue5
 t9:=Tryd.underlying9
 a9:=Tryd.isAgg9
 z9:=Tryd.sizeOf9
 v9:=Tryd.zeroValue9
 t20:=Tryd.underlying20
 a20:=Tryd.isAgg20
 z20:=Tryd.sizeOf20
 v20:=Tryd.zeroValue20
 t37:=Tryd.underlying63
 a37:=Tryd.isAgg63
 z37:=Tryd.sizeOf63
 v37:=Tryd.zeroValue63
 t46:=Tryd.underlying110
 a46:=Tryd.isAgg110
 z46:=Tryd.sizeOf110
 v46:=Tryd.zeroValue110
 t51:=Tryd.underlying108
 a51:=Tryd.isAgg108
 z51:=Tryd.sizeOf108
 v51:=Tryd.zeroValue108
 t53:=Tryd.underlying62
 a53:=Tryd.isAgg62
 z53:=Tryd.sizeOf62
 v53:=Tryd.zeroValue62
 t171:=Tryd.underlying90
 a171:=Tryd.isAgg90
 z171:=Tryd.sizeOf90
 v171:=Tryd.zeroValue90
 t173:=Tryd.underlying93
 a173:=Tryd.isAgg93
 z173:=Tryd.sizeOf93
 v173:=Tryd.zeroValue93
 t212:=Tryd.underlying107
 a212:=Tryd.isAgg107
 z212:=Tryd.sizeOf107
 v212:=Tryd.zeroValue107
 t213:=Tryd.underlying109
 a213:=Tryd.isAgg109
 z213:=Tryd.sizeOf109
 t232:=Tryd.underlying129
 a232:=Tryd.isAgg129
 z232:=Tryd.sizeOf129
 v232:=Tryd.zeroValue129
 t233:=Tryd.underlying130
 a233:=Tryd.isAgg130
 z233:=Tryd.sizeOf130
 v233:=Tryd.zeroValue130
 g17:=by kernel_rfl
 g18:=by kernel_rfl
 g19:=by kernel_rfl
 i0:=by kernel_rfl
 i2:=by kernel_rfl
 i3:=by kernel_rfl
 i4:=by kernel_rfl
 i5:=by kernel_rfl
 i9:=by kernel_rfl
 i20:=by kernel_rfl
 i37:=by kernel_rfl
 i46:=by kernel_rfl
 i51:=by kernel_rfl
 i53:=by kernel_rfl
 i171:=by kernel_rfl
 i173:=by kernel_rfl
 i212:=by kernel_rfl
 i232:=by kernel_rfl
 i233:=by kernel_rfl
 m17:=by kernel_rfl
 m18:=by kernel_rfl
 m19:=by kernel_rfl }
theorem Tryd.strconv_Itoa(n:Int)(h0:-9223372036854775808<=n)(h1:n<=9223372036854775807)(w:World)(htab:Lib.TabIs Tryd.prog w "internal/strconv.uint64pow10" .u64 Lib.pow10Tab) :
  Calls Tryd.prog 28 #[.int .i64 n] w λe w'=>e = .returned (.string ⟨(Lib.itoa n).toArray⟩)/\∃k os,w'=grow (w.drewN k) os:=Any.strconv_Itoa Tryd.laysM171 n h0 h1 w htab
def Tryd.laysC172_ren:Go.Shelf.Ren:=⟨fun|172=>59|244=>74|245=>75|247=>82|279=>83|280=>84|281=>85|282=>86|287=>88|316=>89|171=>28|205=>90|321=>92|322=>93|243=>33|246=>39|283=>48|284=>49|285=>50|286=>51|129=>65|317=>64|318=>66|319=>67|320=>68|337=>76|338=>77|n=>n,fun|9=>9|3=>3|75=>70|76=>71|4=>4|5=>5|167=>123|37=>63|0=>0|85=>124|2=>2|168=>126|53=>62|175=>131|46=>110|210=>135|127=>79|145=>140|143=>138|21=>21|171=>90|173=>93|212=>107|51=>108|20=>20|213=>109|232=>129|233=>130|80=>73|n=>n,fun|15=>4|16=>5|17=>0|18=>2|19=>3|n=>n⟩
theorem Tryd.laysC172:Go.Proofs.LaysC.n172 Tryd.prog Tryd.laysC172_ren:={
 mixed:=by kernel_rfl
 f129:=Tryd.func65.trans (congrArg some (by kernel_rfl))
 f171:=Tryd.func28.trans (congrArg some (by kernel_rfl))
 f172:=Tryd.func59.trans (congrArg some (by kernel_rfl))
 f205:=Tryd.func90.trans (congrArg some (by kernel_rfl))
 f243:=Tryd.func33.trans (congrArg some (by kernel_rfl))
 f244:=Tryd.func74.trans (congrArg some (by kernel_rfl))
 f245:=Tryd.func75.trans (congrArg some (by kernel_rfl))
 f246:=Tryd.func39.trans (congrArg some (by kernel_rfl))
 f247:=Tryd.func82.trans (congrArg some (by kernel_rfl))
 f279:=Tryd.func83.trans (congrArg some (by kernel_rfl))
 f280:=Tryd.func84.trans (congrArg some (by kernel_rfl))
 f281:=Tryd.func85.trans (congrArg some (by kernel_rfl))
 f282:=Tryd.func86.trans (congrArg some (by kernel_rfl))
 f283:=Tryd.func48.trans (congrArg some (by kernel_rfl))
 f284:=Tryd.func49.trans (congrArg some (by kernel_rfl))
 f285:=Tryd.func50.trans (congrArg some (by kernel_rfl))
 f286:=Tryd.func51.trans (congrArg some (by kernel_rfl))
 f287:=Tryd.func88.trans (congrArg some (by kernel_rfl))
 f316:=Tryd.func89.trans (congrArg some (by kernel_rfl))
 f317:=Tryd.func64.trans (congrArg some (by kernel_rfl))
 f318:=Tryd.func66.trans (congrArg some (by kernel_rfl))
 f319:=Tryd.func67.trans (congrArg some (by kernel_rfl))
 f320:=Tryd.func68.trans (congrArg some (by kernel_rfl))
 f321:=Tryd.func92.trans (congrArg some (by kernel_rfl))
 f322:=Tryd.func93.trans (congrArg some (by kernel_rfl))
 f337:=Tryd.func76.trans (congrArg some (by kernel_rfl))
 f338:=Tryd.func77.trans (congrArg some (by kernel_rfl))
 t0:=Tryd.underlying0
 a0:=Tryd.isAgg0
 z0:=Tryd.sizeOf0
 v0:=Tryd.zeroValue0
 t2:=Tryd.underlying2
 a2:=Tryd.isAgg2
 z2:=Tryd.sizeOf2
 v2:=Tryd.zeroValue2
 t3:=Tryd.underlying3
 a3:=Tryd.isAgg3
 z3:=Tryd.sizeOf3
 v3:=Tryd.zeroValue3
 t4:=Tryd.underlying4
 a4:=Tryd.isAgg4
 z4:=Tryd.sizeOf4
 v4:=Tryd.zeroValue4
 t5:=Tryd.underlying5
 a5:=Tryd.isAgg5
 z5:=Tryd.sizeOf5
 v5:=Tryd.zeroValue5
 t9:=Tryd.underlying9
 a9:=Tryd.isAgg9
 z9:=Tryd.sizeOf9
 v9:=Tryd.zeroValue9
 t20:=Tryd.underlying20
 a20:=Tryd.isAgg20
 z20:=Tryd.sizeOf20
 v20:=Tryd.zeroValue20
 t21:=Tryd.underlying21
 a21:=Tryd.isAgg21
 z21:=Tryd.sizeOf21
 v21:=Tryd.zeroValue21
 t37:=Tryd.underlying63
 a37:=Tryd.isAgg63
 z37:=Tryd.sizeOf63
 v37:=Tryd.zeroValue63
 t46:=Tryd.underlying110
 a46:=Tryd.isAgg110
 z46:=Tryd.sizeOf110
 v46:=Tryd.zeroValue110
 t51:=Tryd.underlying108
 a51:=Tryd.isAgg108
 z51:=Tryd.sizeOf108
 v51:=Tryd.zeroValue108
 t53:=Tryd.underlying62
 a53:=Tryd.isAgg62
 z53:=Tryd.sizeOf62
 v53:=Tryd.zeroValue62
 t75:=Tryd.underlying70
 a75:=Tryd.isAgg70
 z75:=Tryd.sizeOf70
 v75:=Tryd.zeroValue70
 t76:=Tryd.underlying71
 a76:=Tryd.isAgg71
 z76:=Tryd.sizeOf71
 v76:=Tryd.zeroValue71
 t85:=Tryd.underlying124
 a85:=Tryd.isAgg124
 z85:=Tryd.sizeOf124
 v85:=Tryd.zeroValue124
 t127:=Tryd.underlying79
 a127:=Tryd.isAgg79
 z127:=Tryd.sizeOf79
 v127:=Tryd.zeroValue79
 t143:=Tryd.underlying138
 a143:=Tryd.isAgg138
 z143:=Tryd.sizeOf138
 v143:=Tryd.zeroValue138
 t145:=Tryd.underlying140
 a145:=Tryd.isAgg140
 z145:=Tryd.sizeOf140
 v145:=Tryd.zeroValue140
 t167:=Tryd.underlying123
 a167:=Tryd.isAgg123
 z167:=Tryd.sizeOf123
 v167:=Tryd.zeroValue123
 t168:=Tryd.underlying126
 a168:=Tryd.isAgg126
 z168:=Tryd.sizeOf126
 v168:=Tryd.zeroValue126
 t171:=Tryd.underlying90
 a171:=Tryd.isAgg90
 z171:=Tryd.sizeOf90
 v171:=Tryd.zeroValue90
 t173:=Tryd.underlying93
 a173:=Tryd.isAgg93
 z173:=Tryd.sizeOf93
 v173:=Tryd.zeroValue93
 t175:=Tryd.underlying131
 a175:=Tryd.isAgg131
 z175:=Tryd.sizeOf131
 v175:=Tryd.zeroValue131
 t210:=Tryd.underlying135
 a210:=Tryd.isAgg135
 z210:=Tryd.sizeOf135
 v210:=Tryd.zeroValue135
 t212:=Tryd.underlying107
 a212:=Tryd.isAgg107
 z212:=Tryd.sizeOf107
 v212:=Tryd.zeroValue107
 t213:=Tryd.underlying109
 a213:=Tryd.isAgg109
 z213:=Tryd.sizeOf109
 t232:=Tryd.underlying129
 a232:=Tryd.isAgg129
 z232:=Tryd.sizeOf129
 v232:=Tryd.zeroValue129
 t233:=Tryd.underlying130
 a233:=Tryd.isAgg130
 z233:=Tryd.sizeOf130
 v233:=Tryd.zeroValue130
 g15:=by kernel_rfl
 g16:=by kernel_rfl
 g17:=by kernel_rfl
 g18:=by kernel_rfl
 g19:=by kernel_rfl
 t80:=Tryd.underlying73
 a80:=Tryd.isAgg73
 z80:=Tryd.sizeOf73
 v80:=Tryd.zeroValue73
 i0:=by kernel_rfl
 i2:=by kernel_rfl
 i3:=by kernel_rfl
 i4:=by kernel_rfl
 i5:=by kernel_rfl
 i9:=by kernel_rfl
 i20:=by kernel_rfl
 i21:=by kernel_rfl
 i37:=by kernel_rfl
 i46:=by kernel_rfl
 i51:=by kernel_rfl
 i53:=by kernel_rfl
 i75:=by kernel_rfl
 i76:=by kernel_rfl
 i80:=by kernel_rfl
 i85:=by kernel_rfl
 i127:=by kernel_rfl
 i143:=by kernel_rfl
 i145:=by kernel_rfl
 i167:=by kernel_rfl
 i168:=by kernel_rfl
 i171:=by kernel_rfl
 i173:=by kernel_rfl
 i175:=by kernel_rfl
 i210:=by kernel_rfl
 i212:=by kernel_rfl
 i232:=by kernel_rfl
 i233:=by kernel_rfl
 m15:=by kernel_rfl
 m16:=by kernel_rfl
 m17:=by kernel_rfl
 m18:=by kernel_rfl
 m19:=by kernel_rfl
 c0:=by kernel_rfl
 c2:=by kernel_rfl
 c3:=by kernel_rfl
 c4:=by kernel_rfl
 c5:=by kernel_rfl
 c9:=by kernel_rfl
 c20:=by kernel_rfl
 c21:=by kernel_rfl
 c37:=by kernel_rfl
 c46:=by kernel_rfl
 c51:=by kernel_rfl
 c53:=by kernel_rfl
 c75:=by kernel_rfl
 c76:=by kernel_rfl
 c80:=by kernel_rfl
 c85:=by kernel_rfl
 c127:=by kernel_rfl
 c143:=by kernel_rfl
 c145:=by kernel_rfl
 c167:=by kernel_rfl
 c168:=by kernel_rfl
 c171:=by kernel_rfl
 c173:=by kernel_rfl
 c175:=by kernel_rfl
 c210:=by kernel_rfl
 c212:=by kernel_rfl
 c213:=by kernel_rfl
 c232:=by kernel_rfl
 c233:=by kernel_rfl }
theorem Tryd.strconv_Atoi_ok(s:ByteArray)(hmax:s.size<=9223372036854775806)(v:Int)(h:Lib.atoiAll s.data.toList = .ok v)(w:World) :
  Calls Tryd.prog 59 #[.string s] w λe w'=>e = .returned (.tuple #[.int .i64 v,.nilIface])/\(w'=w\/∃t,w'=Lib.bytesWorld w 5 t):=Any.strconv_Atoi_ok Tryd.laysC172 s hmax v h w
theorem Tryd.strconv_Atoi_syntax_var(s:ByteArray)(hlim:s.size<=281474976710656)(h1:∀n,Lib.atoiAll s.data.toList ≠ .ok n)(h2:Lib.atoiAll s.data.toList ≠ .range)(tp:TypeId)(p:Value)(w:World)(hvar:w.var? Tryd.prog "strconv.ErrSyntax"=some #[.iface tp p]) :
  Calls Tryd.prog 59 #[.string s] w λe w'=>∃N,e = .returned (.tuple #[.int .i64 0,.iface 126 (.pointer (some ⟨N,0,none⟩))])/\w.heap.size<=N/\w'.heap[N]?=some (.cells #[.string ⟨#[65,116,111,105]⟩,.string s,.iface tp p] 135 (0,0))/\Below w.heap.size w w':=Any.strconv_Atoi_syntax_var Tryd.laysC172 s hlim (by cases hx:Lib.atoiAll s.data.toList<;>first|rfl|exact absurd hx (h1 _)|exact absurd hx h2) tp p w hvar
theorem Tryd.strconv_Atoi_range_var(s:ByteArray)(hlim:s.size<=281474976710656)(h:Lib.atoiAll s.data.toList = .range)(tp:TypeId)(p:Value)(w:World)(hvar:w.var? Tryd.prog "strconv.ErrRange"=some #[.iface tp p]) :
  Calls Tryd.prog 59 #[.string s] w λe w'=>∃N,e = .returned (.tuple #[.int .i64 (Lib.atoiSat s.data.toList),.iface 126 (.pointer (some ⟨N,0,none⟩))])/\w.heap.size<=N/\w'.heap[N]?=some (.cells #[.string ⟨#[65,116,111,105]⟩,.string s,.iface tp p] 135 (0,0))/\Below w.heap.size w w':=Any.strconv_Atoi_range_var Tryd.laysC172 s hlim h tp p w hvar
def Tryd.lays153_ren:Go.Shelf.Ren:=⟨fun|153=>58|152=>70|226=>71|227=>72|228=>73|137=>78|119=>79|224=>80|225=>81|217=>87|266=>91|n=>n,fun|9=>9|3=>3|4=>4|5=>5|21=>21|117=>115|116=>114|0=>0|46=>110|124=>122|n=>n,fun|n=>n⟩
theorem Tryd.lays153:Go.Proofs.Lays.n153 Tryd.prog Tryd.lays153_ren:={
 mixed:=by kernel_rfl
 f119:=Tryd.func79.trans (congrArg some (by kernel_rfl))
 f137:=Tryd.func78.trans (congrArg some (by kernel_rfl))
 f152:=Tryd.func70.trans (congrArg some (by kernel_rfl))
 f153:=Tryd.func58.trans (congrArg some (by kernel_rfl))
 f217:=Tryd.func87.trans (congrArg some (by kernel_rfl))
 f224:=Tryd.func80.trans (congrArg some (by kernel_rfl))
 f225:=Tryd.func81.trans (congrArg some (by kernel_rfl))
 f226:=Tryd.func71.trans (congrArg some (by kernel_rfl))
 f227:=Tryd.func72.trans (congrArg some (by kernel_rfl))
 f228:=Tryd.func73.trans (congrArg some (by kernel_rfl))
 f266:=Tryd.func91.trans (congrArg some (by kernel_rfl))
 t0:=Tryd.underlying0
 a0:=Tryd.isAgg0
 z0:=Tryd.sizeOf0
 v0:=Tryd.zeroValue0
 t3:=Tryd.underlying3
 a3:=Tryd.isAgg3
 z3:=Tryd.sizeOf3
 v3:=Tryd.zeroValue3
 t4:=Tryd.underlying4
 a4:=Tryd.isAgg4
 z4:=Tryd.sizeOf4
 v4:=Tryd.zeroValue4
 t5:=Tryd.underlying5
 a5:=Tryd.isAgg5
 z5:=Tryd.sizeOf5
 v5:=Tryd.zeroValue5
 t9:=Tryd.underlying9
 a9:=Tryd.isAgg9
 z9:=Tryd.sizeOf9
 v9:=Tryd.zeroValue9
 t21:=Tryd.underlying21
 a21:=Tryd.isAgg21
 z21:=Tryd.sizeOf21
 v21:=Tryd.zeroValue21
 t46:=Tryd.underlying110
 a46:=Tryd.isAgg110
 z46:=Tryd.sizeOf110
 v46:=Tryd.zeroValue110
 t116:=Tryd.underlying114
 a116:=Tryd.isAgg114
 z116:=Tryd.sizeOf114
 t117:=Tryd.underlying115
 a117:=Tryd.isAgg115
 z117:=Tryd.sizeOf115
 v117:=Tryd.zeroValue115
 t124:=Tryd.underlying122
 a124:=Tryd.isAgg122
 z124:=Tryd.sizeOf122
 v124:=Tryd.zeroValue122 }
theorem Tryd.strings_IndexAny_long(hv116:∀w,(zeroValue 114).run Tryd.prog w = .ok (.agg (Array.replicate 256 (.bool false))) w)(s chars:ByteArray)(w:World)(h2:2<=chars.size)(h8:8<s.size)(hs:s.size<4294967281)(hcs:chars.size<4294967281)(hascii:∀(j:Nat) b,chars.data.toList[j]?=some b->b.toNat<128) :
  Calls Tryd.prog 58 #[.string s,.string chars] w λe w'=>e = .returned (.int .i64 (Lib.indexAny s.data.toList chars.data.toList))/\w'=((w.alloc (.cells (Lib.setCells chars.data.toList) 114)).alloc (.cells (Lib.setCells chars.data.toList) 114)):=Any.strings_IndexAny_long Tryd.lays153 hv116 (by kernel_rfl) s chars w h2 h8 hs hcs hascii
end Go.Proofs
