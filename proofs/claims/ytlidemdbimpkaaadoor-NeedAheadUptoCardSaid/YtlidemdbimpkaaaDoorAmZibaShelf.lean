/- Contracts of the library at this program,laid by the shelf's tools. -/
import Derived.Shelf.Strings.Builder1
import Derived.Shelf.Strings.Builder2
import Derived.Shelf.Strings.OnBuilder
import Derived.Shelf.Strings.Builder2Cap
import Derived.Shelf.Strconv.Itoa0
import Derived.Shelf.Strconv.Itoa1
import Derived.Shelf.LaysM
import Derived.Shelf.Strconv.Itoa2
import Derived.Shelf.Strconv.Itoa3
import Derived.Test.YtlidemdbimpkaaaDoorProg
namespace Go.Proofs
open Go.Shelf Go.RowKit Go.Sort Go.Lib
def Tryd.lays156_ren:Go.Shelf.Ren:=⟨fun|156=>88|165=>103|166=>104|169=>105|240=>113|241=>114|276=>120|277=>121|n=>n,fun|31=>40|9=>9|3=>3|4=>4|0=>0|20=>20|72=>179|76=>183|70=>177|37=>115|75=>182|127=>192|164=>198|5=>5|80=>77|n=>n,fun|n=>n⟩
theorem Tryd.lays156:Go.Proofs.Lays.n156 Tryd.prog Tryd.lays156_ren:={
 mixed:=by kernel_rfl
 f156:=Tryd.func88.trans (congrArg some (by kernel_rfl))
 f165:=Tryd.func103.trans (congrArg some (by kernel_rfl))
 f166:=Tryd.func104.trans (congrArg some (by kernel_rfl))
 f169:=Tryd.func105.trans (congrArg some (by kernel_rfl))
 f240:=Tryd.func113.trans (congrArg some (by kernel_rfl))
 f241:=Tryd.func114.trans (congrArg some (by kernel_rfl))
 f276:=Tryd.func120.trans (congrArg some (by kernel_rfl))
 f277:=Tryd.func121.trans (congrArg some (by kernel_rfl))
 t0:=Tryd.underlying0
 a0:=Tryd.isAgg0
 z0:=Tryd.sizeOf0
 v0:=Tryd.zeroValue0
 t3:=Tryd.underlying3
 a3:=Tryd.isAgg3
 z3:=Tryd.sizeOf3
 v3:=Tryd.zeroValue3
 t4:=Tryd.underlying4
 a4:=Tryd.isAgg4
 z4:=Tryd.sizeOf4
 v4:=Tryd.zeroValue4
 t9:=Tryd.underlying9
 a9:=Tryd.isAgg9
 z9:=Tryd.sizeOf9
 v9:=Tryd.zeroValue9
 t20:=Tryd.underlying20
 a20:=Tryd.isAgg20
 z20:=Tryd.sizeOf20
 v20:=Tryd.zeroValue20
 t31:=Tryd.underlying40
 a31:=Tryd.isAgg40
 z31:=Tryd.sizeOf40
 v31:=Tryd.zeroValue40
 t37:=Tryd.underlying115
 a37:=Tryd.isAgg115
 z37:=Tryd.sizeOf115
 v37:=Tryd.zeroValue115
 t70:=Tryd.underlying177
 a70:=Tryd.isAgg177
 z70:=Tryd.sizeOf177
 v70:=Tryd.zeroValue177
 t72:=Tryd.underlying179
 a72:=Tryd.isAgg179
 z72:=Tryd.sizeOf179
 v72:=Tryd.zeroValue179
 t75:=Tryd.underlying182
 a75:=Tryd.isAgg182
 z75:=Tryd.sizeOf182
 v75:=Tryd.zeroValue182
 t76:=Tryd.underlying183
 a76:=Tryd.isAgg183
 z76:=Tryd.sizeOf183
 v76:=Tryd.zeroValue183
 t127:=Tryd.underlying192
 a127:=Tryd.isAgg192
 z127:=Tryd.sizeOf192
 v127:=Tryd.zeroValue192
 t164:=Tryd.underlying198
 a164:=Tryd.isAgg198
 z164:=Tryd.sizeOf198
 v164:=Tryd.zeroValue198 }
theorem Tryd.Builder_Extra_156:Builder.Extra Tryd.prog Tryd.lays156_ren:={
 sizeBuilder:=by kernel_rfl
 liesBuilder:=by kernel_rfl
 t5:=Tryd.underlying5
 a5:=Tryd.isAgg5
 z5:=Tryd.sizeOf5
 v5:=Tryd.zeroValue5
 infoByte:=by kernel_rfl
 cellsByte:=by kernel_rfl
 sizeByte:=by kernel_rfl
 neB5:=by decide }
theorem Tryd.strings_Join_none(a:Option Addr)(c:Nat)(sep:ByteArray)(w:World) :
  Calls Tryd.prog 88 #[.slice a 0 c,.string sep] w λe w'=>e = .returned (.string ⟨#[]⟩)/\w'=w:=Any.strings_Join_none Tryd.lays156 Tryd.Builder_Extra_156 a c sep w
theorem Tryd.strings_Join(bk o c:Nat)(xs:List ByteArray)(sep:ByteArray)(w:World)(hcells:∀(j:Nat) x,xs[j]?=some x->w.cell? ⟨bk,o+j,none⟩=some (.string x))(hbk:bk<w.heap.size)(hN:xs.length<=140737488355328)(hcap:xs.length<=c)(hlen:(Lib.join (xs.map (·.data.toList)) sep.data.toList).length<=140737488355328) :
  Calls Tryd.prog 88 #[.slice (some ⟨bk,o,none⟩) xs.length c,.string sep] w λe w'=>e = .returned (.string ⟨(Lib.join (xs.map (·.data.toList)) sep.data.toList).toArray⟩)/\Below w.heap.size w w':=Any.strings_Join Tryd.lays156 Tryd.Builder_Extra_156 bk o c xs sep w hcells hbk hN hcap hlen
def Tryd.laysM171_ren:Go.Shelf.Ren:=⟨fun|171=>60|243=>87|246=>102|283=>109|284=>110|285=>111|286=>112|129=>116|317=>115|318=>117|319=>118|320=>119|337=>122|338=>123|n=>n,fun|3=>3|9=>9|2=>2|4=>4|171=>187|0=>0|53=>114|37=>115|5=>5|173=>190|212=>194|51=>195|20=>20|213=>196|46=>47|232=>202|233=>203|n=>n,fun|17=>0|18=>2|19=>3|n=>n⟩
theorem Tryd.laysM171:Go.Proofs.LaysM.n171 Tryd.prog Tryd.laysM171_ren:={
 mixed:=by kernel_rfl
 f129:=Tryd.func116.trans (congrArg some (by kernel_rfl))
 f171:=Tryd.func60.trans (congrArg some (by kernel_rfl))
 f243:=Tryd.func87.trans (congrArg some (by kernel_rfl))
 f246:=Tryd.func102.trans (congrArg some (by kernel_rfl))
 f283:=Tryd.func109.trans (congrArg some (by kernel_rfl))
 f284:=Tryd.func110.trans (congrArg some (by kernel_rfl))
 f285:=Tryd.func111.trans (congrArg some (by kernel_rfl))
 f286:=Tryd.func112.trans (congrArg some (by kernel_rfl))
 f317:=Tryd.func115.trans (congrArg some (by kernel_rfl))
 f318:=Tryd.func117.trans (congrArg some (by kernel_rfl))
 f319:=Tryd.func118.trans (congrArg some (by kernel_rfl))
 f320:=Tryd.func119.trans (congrArg some (by kernel_rfl))
 f337:=Tryd.func122.trans (congrArg some (by kernel_rfl))
 f338:=Tryd.func123.trans (congrArg some (by kernel_rfl))
 t0:=Tryd.underlying0
 a0:=Tryd.isAgg0
 z0:=Tryd.sizeOf0
 v0:=Tryd.zeroValue0
 t2:=Tryd.underlying2
 a2:=Tryd.isAgg2
 z2:=Tryd.sizeOf2
 v2:=Tryd.zeroValue2
 t3:=Tryd.underlying3
 a3:=Tryd.isAgg3
 z3:=Tryd.sizeOf3
 v3:=Tryd.zeroValue3
 t4:=Tryd.underlying4
 a4:=Tryd.isAgg4
 z4:=Tryd.sizeOf4
 v4:=Tryd.zeroValue4
 t5:=Tryd.underlying5
 a5:=Tryd.isAgg5
 z5:=Tryd.sizeOf5
 v5:=Tryd.zeroValue5
 t9:=Tryd.underlying9
 a9:=Tryd.isAgg9
 z9:=Tryd.sizeOf9
 v9:=Tryd.zeroValue9
 t20:=Tryd.underlying20
 a20:=Tryd.isAgg20
 z20:=Tryd.sizeOf20
 v20:=Tryd.zeroValue20
 t37:=Tryd.underlying115
 a37:=Tryd.isAgg115
 z37:=Tryd.sizeOf115
 v37:=Tryd.zeroValue115
 t46:=Tryd.underlying47
 a46:=Tryd.isAgg47
 z46:=Tryd.sizeOf47
 v46:=Tryd.zeroValue47
 t51:=Tryd.underlying195
 a51:=Tryd.isAgg195
 z51:=Tryd.sizeOf195
 v51:=Tryd.zeroValue195
 t53:=Tryd.underlying114
 a53:=Tryd.isAgg114
 z53:=Tryd.sizeOf114
 v53:=Tryd.zeroValue114
 t171:=Tryd.underlying187
 a171:=Tryd.isAgg187
 z171:=Tryd.sizeOf187
 v171:=Tryd.zeroValue187
 t173:=Tryd.underlying190
 a173:=Tryd.isAgg190
 z173:=Tryd.sizeOf190
 v173:=Tryd.zeroValue190
 t212:=Tryd.underlying194
 a212:=Tryd.isAgg194
 z212:=Tryd.sizeOf194
 v212:=Tryd.zeroValue194
 t213:=Tryd.underlying196
 a213:=Tryd.isAgg196
 z213:=Tryd.sizeOf196
 t232:=Tryd.underlying202
 a232:=Tryd.isAgg202
 z232:=Tryd.sizeOf202
 v232:=Tryd.zeroValue202
 t233:=Tryd.underlying203
 a233:=Tryd.isAgg203
 z233:=Tryd.sizeOf203
 v233:=Tryd.zeroValue203
 g17:=by kernel_rfl
 g18:=by kernel_rfl
 g19:=by kernel_rfl
 i0:=by kernel_rfl
 i2:=by kernel_rfl
 i3:=by kernel_rfl
 i4:=by kernel_rfl
 i5:=by kernel_rfl
 i9:=by kernel_rfl
 i20:=by kernel_rfl
 i37:=by kernel_rfl
 i46:=by kernel_rfl
 i51:=by kernel_rfl
 i53:=by kernel_rfl
 i171:=by kernel_rfl
 i173:=by kernel_rfl
 i212:=by kernel_rfl
 i232:=by kernel_rfl
 i233:=by kernel_rfl
 m17:=by kernel_rfl
 m18:=by kernel_rfl
 m19:=by kernel_rfl }
theorem Tryd.strconv_Itoa(n:Int)(h0:-9223372036854775808<=n)(h1:n<=9223372036854775807)(w:World)(htab:Lib.TabIs Tryd.prog w "internal/strconv.uint64pow10" .u64 Lib.pow10Tab) :
  Calls Tryd.prog 60 #[.int .i64 n] w λe w'=>e = .returned (.string ⟨(Lib.itoa n).toArray⟩)/\∃k os,w'=grow (w.drewN k) os:=Any.strconv_Itoa Tryd.laysM171 n h0 h1 w htab
end Go.Proofs
