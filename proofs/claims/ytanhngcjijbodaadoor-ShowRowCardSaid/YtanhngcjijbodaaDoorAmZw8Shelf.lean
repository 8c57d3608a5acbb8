/- Contracts of the library at this program,laid by the shelf's tools. -/
import Derived.Shelf.Strings.Builder1
import Derived.Shelf.Strings.Builder2
import Derived.Shelf.Strings.OnBuilder
import Derived.Shelf.Utf8.RuneCount
import Derived.Shelf.Strings.Builder2Cap
import Derived.Shelf.Strconv.Itoa0
import Derived.Shelf.Strconv.Itoa1
import Derived.Shelf.LaysM
import Derived.Shelf.Strconv.Itoa2
import Derived.Shelf.Strconv.Itoa3
import Derived.Shelf.Strings.Search1
import Derived.Shelf.Strings.Search2
import Derived.Shelf.Strings.Search3
import Derived.Shelf.Strings.Count
import Derived.Shelf.Strings.Shaped
import Derived.Shelf.Strings.Split
import Derived.Shelf.Strings.SplitShaped
import Derived.Shelf.Unicode.Decode
import Derived.Shelf.Strings.RuneCount
import Derived.Shelf.Strings.Explode
import Derived.Shelf.Unicode.DecodeSlow
import Derived.Shelf.Unicode.DecodeAny
import Derived.Test.YtanhngcjijbodaaDoorProg
namespace Go.Proofs
open Go.Shelf Go.RowKit Go.Sort Go.Lib
def Tryd.lays156_ren:Go.Shelf.Ren:=⟨fun|156=>34|165=>50|166=>51|169=>52|240=>65|241=>66|276=>77|277=>78|n=>n,fun|31=>50|9=>9|3=>3|4=>4|0=>0|20=>20|72=>86|76=>90|70=>84|37=>67|75=>89|127=>105|164=>117|5=>5|80=>44|n=>n,fun|n=>n⟩
theorem Tryd.lays156:Go.Proofs.Lays.n156 Tryd.prog Tryd.lays156_ren:={
 mixed:=by kernel_rfl
 f156:=Tryd.func34.trans (congrArg some (by kernel_rfl))
 f165:=Tryd.func50.trans (congrArg some (by kernel_rfl))
 f166:=Tryd.func51.trans (congrArg some (by kernel_rfl))
 f169:=Tryd.func52.trans (congrArg some (by kernel_rfl))
 f240:=Tryd.func65.trans (congrArg some (by kernel_rfl))
 f241:=Tryd.func66.trans (congrArg some (by kernel_rfl))
 f276:=Tryd.func77.trans (congrArg some (by kernel_rfl))
 f277:=Tryd.func78.trans (congrArg some (by kernel_rfl))
 t0:=Tryd.underlying0
 a0:=Tryd.isAgg0
 z0:=Tryd.sizeOf0
 v0:=Tryd.zeroValue0
 t3:=Tryd.underlying3
 a3:=Tryd.isAgg3
 z3:=Tryd.sizeOf3
 v3:=Tryd.zeroValue3
 t4:=Tryd.underlying4
 a4:=Tryd.isAgg4
 z4:=Tryd.sizeOf4
 v4:=Tryd.zeroValue4
 t9:=Tryd.underlying9
 a9:=Tryd.isAgg9
 z9:=Tryd.sizeOf9
 v9:=Tryd.zeroValue9
 t20:=Tryd.underlying20
 a20:=Tryd.isAgg20
 z20:=Tryd.sizeOf20
 v20:=Tryd.zeroValue20
 t31:=Tryd.underlying50
 a31:=Tryd.isAgg50
 z31:=Tryd.sizeOf50
 v31:=Tryd.zeroValue50
 t37:=Tryd.underlying67
 a37:=Tryd.isAgg67
 z37:=Tryd.sizeOf67
 v37:=Tryd.zeroValue67
 t70:=Tryd.underlying84
 a70:=Tryd.isAgg84
 z70:=Tryd.sizeOf84
 v70:=Tryd.zeroValue84
 t72:=Tryd.underlying86
 a72:=Tryd.isAgg86
 z72:=Tryd.sizeOf86
 v72:=Tryd.zeroValue86
 t75:=Tryd.underlying89
 a75:=Tryd.isAgg89
 z75:=Tryd.sizeOf89
 v75:=Tryd.zeroValue89
 t76:=Tryd.underlying90
 a76:=Tryd.isAgg90
 z76:=Tryd.sizeOf90
 v76:=Tryd.zeroValue90
 t127:=Tryd.underlying105
 a127:=Tryd.isAgg105
 z127:=Tryd.sizeOf105
 v127:=Tryd.zeroValue105
 t164:=Tryd.underlying117
 a164:=Tryd.isAgg117
 z164:=Tryd.sizeOf117
 v164:=Tryd.zeroValue117 }
theorem Tryd.Builder_Extra_156:Builder.Extra Tryd.prog Tryd.lays156_ren:={
 sizeBuilder:=by kernel_rfl
 liesBuilder:=by kernel_rfl
 t5:=Tryd.underlying5
 a5:=Tryd.isAgg5
 z5:=Tryd.sizeOf5
 v5:=Tryd.zeroValue5
 infoByte:=by kernel_rfl
 cellsByte:=by kernel_rfl
 sizeByte:=by kernel_rfl
 neB5:=by decide }
theorem Tryd.strings_Join_none(a:Option Addr)(c:Nat)(sep:ByteArray)(w:World) :
  Calls Tryd.prog 34 #[.slice a 0 c,.string sep] w λe w'=>e = .returned (.string ⟨#[]⟩)/\w'=w:=Any.strings_Join_none Tryd.lays156 Tryd.Builder_Extra_156 a c sep w
theorem Tryd.strings_Join(bk o c:Nat)(xs:List ByteArray)(sep:ByteArray)(w:World)(hcells:∀(j:Nat) x,xs[j]?=some x->w.cell? ⟨bk,o+j,none⟩=some (.string x))(hbk:bk<w.heap.size)(hN:xs.length<=140737488355328)(hcap:xs.length<=c)(hlen:(Lib.join (xs.map (·.data.toList)) sep.data.toList).length<=140737488355328) :
  Calls Tryd.prog 34 #[.slice (some ⟨bk,o,none⟩) xs.length c,.string sep] w λe w'=>e = .returned (.string ⟨(Lib.join (xs.map (·.data.toList)) sep.data.toList).toArray⟩)/\Below w.heap.size w w':=Any.strings_Join Tryd.lays156 Tryd.Builder_Extra_156 bk o c xs sep w hcells hbk hN hcap hlen
def Tryd.laysM171_ren:Go.Shelf.Ren:=⟨fun|171=>17|243=>32|246=>48|283=>60|284=>61|285=>62|286=>63|129=>70|317=>69|318=>71|319=>72|320=>73|337=>79|338=>80|n=>n,fun|3=>3|9=>9|2=>2|4=>4|171=>99|0=>0|53=>66|37=>67|5=>5|173=>102|212=>110|51=>111|20=>20|213=>112|46=>113|232=>124|233=>125|n=>n,fun|17=>0|18=>2|19=>3|n=>n⟩
theorem Tryd.laysM171:Go.Proofs.LaysM.n171 Tryd.prog Tryd.laysM171_ren:={
 mixed:=by kernel_rfl
 f129:=Tryd.func70.trans (congrArg some (by kernel_rfl))
 f171:=Tryd.func17.trans (congrArg some (by kernel_rfl))
 f243:=Tryd.func32.trans (congrArg some (by kernel_rfl))
 f246:=Tryd.func48.trans (congrArg some (by kernel_rfl))
 f283:=Tryd.func60.trans (congrArg some (by kernel_rfl))
 f284:=Tryd.func61.trans (congrArg some (by kernel_rfl))
 f285:=Tryd.func62.trans (congrArg some (by kernel_rfl))
 f286:=Tryd.func63.trans (congrArg some (by kernel_rfl))
 f317:=Tryd.func69.trans (congrArg some (by kernel_rfl))
 f318:=Tryd.func71.trans (congrArg some (by kernel_rfl))
 f319:=Tryd.func72.trans (congrArg some (by kernel_rfl))
 f320:=Tryd.func73.trans (congrArg some (by kernel_rfl))
 f337:=Tryd.func79.trans (congrArg some (by kernel_rfl))
 f338:=Tryd.func80.trans (congrArg some (by kernel_rfl))
 t0:=Tryd.underlying0
 a0:=Tryd.isAgg0
 z0:=Tryd.sizeOf0
 v0:=Tryd.zeroValue0
 t2:=Tryd.underlying2
 a2:=Tryd.isAgg2
 z2:=Tryd.sizeOf2
 v2:=Tryd.zeroValue2
 t3:=Tryd.underlying3
 a3:=Tryd.isAgg3
 z3:=Tryd.sizeOf3
 v3:=Tryd.zeroValue3
 t4:=Tryd.underlying4
 a4:=Tryd.isAgg4
 z4:=Tryd.sizeOf4
 v4:=Tryd.zeroValue4
 t5:=Tryd.underlying5
 a5:=Tryd.isAgg5
 z5:=Tryd.sizeOf5
 v5:=Tryd.zeroValue5
 t9:=Tryd.underlying9
 a9:=Tryd.isAgg9
 z9:=Tryd.sizeOf9
 v9:=Tryd.zeroValue9
 t20:=Tryd.underlying20
 a20:=Tryd.isAgg20
 z20:=Tryd.sizeOf20
 v20:=Tryd.zeroValue20
 t37:=Tryd.underlying67
 a37:=Tryd.isAgg67
 z37:=Tryd.sizeOf67
 v37:=Tryd.zeroValue67
 t46:=Tryd.underlying113
 a46:=Tryd.isAgg113
 z46:=Tryd.sizeOf113
 v46:=Tryd.zeroValue113
 t51:=Tryd.underlying111
 a51:=Tryd.isAgg111
 z51:=Tryd.sizeOf111
 v51:=Tryd.zeroValue111
 t53:=Tryd.underlying66
 a53:=Tryd.isAgg66
 z53:=Tryd.sizeOf66
 v53:=Tryd.zeroValue66
 t171:=Tryd.underlying99
 a171:=Tryd.isAgg99
 z171:=Tryd.sizeOf99
 v171:=Tryd.zeroValue99
 t173:=Tryd.underlying102
 a173:=Tryd.isAgg102
 z173:=Tryd.sizeOf102
 v173:=Tryd.zeroValue102
 t212:=Tryd.underlying110
 a212:=Tryd.isAgg110
 z212:=Tryd.sizeOf110
 v212:=Tryd.zeroValue110
 t213:=Tryd.underlying112
 a213:=Tryd.isAgg112
 z213:=Tryd.sizeOf112
 t232:=Tryd.underlying124
 a232:=Tryd.isAgg124
 z232:=Tryd.sizeOf124
 v232:=Tryd.zeroValue124
 t233:=Tryd.underlying125
 a233:=Tryd.isAgg125
 z233:=Tryd.sizeOf125
 v233:=Tryd.zeroValue125
 g17:=by kernel_rfl
 g18:=by kernel_rfl
 g19:=by kernel_rfl
 i0:=by kernel_rfl
 i2:=by kernel_rfl
 i3:=by kernel_rfl
 i4:=by kernel_rfl
 i5:=by kernel_rfl
 i9:=by kernel_rfl
 i20:=by kernel_rfl
 i37:=by kernel_rfl
 i46:=by kernel_rfl
 i51:=by kernel_rfl
 i53:=by kernel_rfl
 i171:=by kernel_rfl
 i173:=by kernel_rfl
 i212:=by kernel_rfl
 i232:=by kernel_rfl
 i233:=by kernel_rfl
 m17:=by kernel_rfl
 m18:=by kernel_rfl
 m19:=by kernel_rfl }
theorem Tryd.strconv_Itoa(n:Int)(h0:-9223372036854775808<=n)(h1:n<=9223372036854775807)(w:World)(htab:Lib.TabIs Tryd.prog w "internal/strconv.uint64pow10" .u64 Lib.pow10Tab) :
  Calls Tryd.prog 17 #[.int .i64 n] w λe w'=>e = .returned (.string ⟨(Lib.itoa n).toArray⟩)/\∃k os,w'=grow (w.drewN k) os:=Any.strconv_Itoa Tryd.laysM171 n h0 h1 w htab
def Tryd.lays146_ren:Go.Shelf.Ren:=⟨fun|146=>49|221=>64|268=>74|138=>75|143=>76|195=>81|197=>82|218=>83|219=>84|260=>85|217=>86|225=>87|224=>88|267=>89|266=>90|314=>91|n=>n,fun|9=>9|31=>50|3=>3|4=>4|0=>0|105=>121|21=>21|5=>5|46=>113|119=>126|139=>129|138=>128|146=>130|51=>111|n=>n,fun|1=>1|3=>4|4=>5|n=>n⟩
theorem Tryd.lays146:Go.Proofs.Lays.n146 Tryd.prog Tryd.lays146_ren:={
 mixed:=by kernel_rfl
 f138:=Tryd.func75.trans (congrArg some (by kernel_rfl))
 f143:=Tryd.func76.trans (congrArg some (by kernel_rfl))
 f146:=Tryd.func49.trans (congrArg some (by kernel_rfl))
 f195:=Tryd.func81.trans (congrArg some (by kernel_rfl))
 f197:=Tryd.func82.trans (congrArg some (by kernel_rfl))
 f217:=Tryd.func86.trans (congrArg some (by kernel_rfl))
 f218:=Tryd.func83.trans (congrArg some (by kernel_rfl))
 f219:=Tryd.func84.trans (congrArg some (by kernel_rfl))
 f221:=Tryd.func64.trans (congrArg some (by kernel_rfl))
 f224:=Tryd.func88.trans (congrArg some (by kernel_rfl))
 f225:=Tryd.func87.trans (congrArg some (by kernel_rfl))
 f260:=Tryd.func85.trans (congrArg some (by kernel_rfl))
 f266:=Tryd.func90.trans (congrArg some (by kernel_rfl))
 f267:=Tryd.func89.trans (congrArg some (by kernel_rfl))
 f268:=Tryd.func74.trans (congrArg some (by kernel_rfl))
 f314:=Tryd.func91.trans (congrArg some (by kernel_rfl))
 t0:=Tryd.underlying0
 a0:=Tryd.isAgg0
 z0:=Tryd.sizeOf0
 v0:=Tryd.zeroValue0
 t3:=Tryd.underlying3
 a3:=Tryd.isAgg3
 z3:=Tryd.sizeOf3
 v3:=Tryd.zeroValue3
 t4:=Tryd.underlying4
 a4:=Tryd.isAgg4
 z4:=Tryd.sizeOf4
 v4:=Tryd.zeroValue4
 t5:=Tryd.underlying5
 a5:=Tryd.isAgg5
 z5:=Tryd.sizeOf5
 v5:=Tryd.zeroValue5
 t9:=Tryd.underlying9
 a9:=Tryd.isAgg9
 z9:=Tryd.sizeOf9
 v9:=Tryd.zeroValue9
 t21:=Tryd.underlying21
 a21:=Tryd.isAgg21
 z21:=Tryd.sizeOf21
 v21:=Tryd.zeroValue21
 t31:=Tryd.underlying50
 a31:=Tryd.isAgg50
 z31:=Tryd.sizeOf50
 v31:=Tryd.zeroValue50
 t46:=Tryd.underlying113
 a46:=Tryd.isAgg113
 z46:=Tryd.sizeOf113
 v46:=Tryd.zeroValue113
 t51:=Tryd.underlying111
 a51:=Tryd.isAgg111
 z51:=Tryd.sizeOf111
 v51:=Tryd.zeroValue111
 t105:=Tryd.underlying121
 a105:=Tryd.isAgg121
 z105:=Tryd.sizeOf121
 v105:=Tryd.zeroValue121
 t119:=Tryd.underlying126
 a119:=Tryd.isAgg126
 z119:=Tryd.sizeOf126
 t138:=Tryd.underlying128
 a138:=Tryd.isAgg128
 z138:=Tryd.sizeOf128
 v138:=Tryd.zeroValue128
 t139:=Tryd.underlying129
 a139:=Tryd.isAgg129
 z139:=Tryd.sizeOf129
 v139:=Tryd.zeroValue129
 t146:=Tryd.underlying130
 a146:=Tryd.isAgg130
 z146:=Tryd.sizeOf130
 v146:=Tryd.zeroValue130
 g1:=by kernel_rfl
 g3:=by kernel_rfl
 g4:=by kernel_rfl }
end Go.Proofs
