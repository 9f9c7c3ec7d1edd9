import Derived.Shelf.Strings.Builder1
import Derived.Shelf.Strings.Builder2
import Derived.Shelf.Strings.OnBuilder
import Derived.Shelf.Strings.BuilderF
import Derived.Shelf.Strings.BuilderK
import Derived.Shelf.Strings.Builder2Cap
import Derived.Shelf.Strconv.Atoi
import Derived.Shelf.Strconv.Itoa0
import Derived.Shelf.Strconv.Itoa1
import Derived.Shelf.LaysM
import Derived.Shelf.Strconv.Itoa2
import Derived.Shelf.Strconv.Itoa3
import Derived.Shelf.Strconv.AtoiErrFast
import Derived.Shelf.Strconv.ParseIntEmpty
import Derived.Shelf.Strconv.AtoiFail
import Derived.Shelf.Strconv.Clone
import Derived.Shelf.Strconv.SyntaxError
import Derived.Shelf.LaysC
import Derived.Shelf.Strconv.ToError
import Derived.Shelf.Strconv.AtoiErr
import Derived.Shelf.Strconv.ErrVar
import Derived.Shelf.Strconv.Lower
import Derived.Shelf.Strconv.ParseUint10
import Derived.Shelf.Strconv.ParseUint10Empty
import Derived.Shelf.Strconv.ParseUint10Any
import Derived.Shelf.Strconv.ParseInt10
import Derived.Shelf.Strconv.AtoiLong
import Derived.Shelf.Strconv.AtoiInnerAll
import Derived.Shelf.Strconv.RangeError
import Derived.Shelf.Strconv.ToErrorRange
import Derived.Shelf.Strconv.AtoiAll
import Derived.Shelf.Strconv.ErrVarAll
import Derived.Shelf.Strings.Search1
import Derived.Shelf.Strings.Search2
import Derived.Shelf.Strings.Search3
import Derived.Shelf.Strings.Count
import Derived.Shelf.Strings.Shaped
import Derived.Shelf.Strings.Split
import Derived.Shelf.Unicode.DecodeSlow
import Derived.Shelf.Strings.BuilderCap
import Derived.Shelf.Bytes.SlEqualAll
import Derived.Shelf.Bytes.Small
import Derived.Test.YtdchnngpjjcchaaDoorProg
import Derived.Test.YtdchnngpjjcchaaDoorRows
import Derived.WalkKit
import Derived.Handy
import Derived.Lib.Hide
import Derived.BigQuiet
import Derived.Deep.QuietTactic
import Derived.WalkSmall
import Derived.Lib.ItoaMem
import Derived.Lib.ItoaLen
import Derived.Lib.LaidTab
import Derived.Lib.ItoaNum
import Derived.LoopN
import Derived.Scope
import Derived.Orders
import Derived.Test.YtdchnngpjjcchaaDoorT7
set_option linter.all false
section
namespace Go.Proofs
open Go.Shelf
def Tryd.lays156_ren:Go.Shelf.Ren:=⟨fun | 156=>31 | 165=>43 | 166=>44 | 169=>45 | 240=>58 | 241=>59 | 276=>72 | 277=>73 | n=>n,fun | 31=>45 | 9=>9 | 3=>3 | 4=>4 | 0=>0 | 20=>20 | 72=>76 | 76=>72 | 70=>74 | 37=>34 | 75=>71 | 127=>88 | 164=>101 | 5=>5 | 80=>78 | n=>n,fun | n=>n⟩
theorem Tryd.lays156:Go.Proofs.Lays.n156 Tryd.prog Tryd.lays156_ren:={
  mixed := by kernel_rfl
  f156:=Tryd.func31.trans (congrArg some (by kernel_rfl))
  f165:=Tryd.func43.trans (congrArg some (by kernel_rfl))
  f166:=Tryd.func44.trans (congrArg some (by kernel_rfl))
  f169:=Tryd.func45.trans (congrArg some (by kernel_rfl))
  f240:=Tryd.func58.trans (congrArg some (by kernel_rfl))
  f241:=Tryd.func59.trans (congrArg some (by kernel_rfl))
  f276:=Tryd.func72.trans (congrArg some (by kernel_rfl))
  f277:=Tryd.func73.trans (congrArg some (by kernel_rfl))
  t0:=Tryd.underlying0
  a0:=Tryd.isAgg0
  z0:=Tryd.sizeOf0
  v0:=Tryd.zeroValue0
  t3:=Tryd.underlying3
  a3:=Tryd.isAgg3
  z3:=Tryd.sizeOf3
  v3:=Tryd.zeroValue3
  t4:=Tryd.underlying4
  a4:=Tryd.isAgg4
  z4:=Tryd.sizeOf4
  v4:=Tryd.zeroValue4
  t9:=Tryd.underlying9
  a9:=Tryd.isAgg9
  z9:=Tryd.sizeOf9
  v9:=Tryd.zeroValue9
  t20:=Tryd.underlying20
  a20:=Tryd.isAgg20
  z20:=Tryd.sizeOf20
  v20:=Tryd.zeroValue20
  t31:=Tryd.underlying45
  a31:=Tryd.isAgg45
  z31:=Tryd.sizeOf45
  v31:=Tryd.zeroValue45
  t37:=Tryd.underlying34
  a37:=Tryd.isAgg34
  z37:=Tryd.sizeOf34
  v37:=Tryd.zeroValue34
  t70:=Tryd.underlying74
  a70:=Tryd.isAgg74
  z70:=Tryd.sizeOf74
  v70:=Tryd.zeroValue74
  t72:=Tryd.underlying76
  a72:=Tryd.isAgg76
  z72:=Tryd.sizeOf76
  v72:=Tryd.zeroValue76
  t75:=Tryd.underlying71
  a75:=Tryd.isAgg71
  z75:=Tryd.sizeOf71
  v75:=Tryd.zeroValue71
  t76:=Tryd.underlying72
  a76:=Tryd.isAgg72
  z76:=Tryd.sizeOf72
  v76:=Tryd.zeroValue72
  t127:=Tryd.underlying88
  a127:=Tryd.isAgg88
  z127:=Tryd.sizeOf88
  v127:=Tryd.zeroValue88
  t164:=Tryd.underlying101
  a164:=Tryd.isAgg101
  z164:=Tryd.sizeOf101
  v164:=Tryd.zeroValue101 }
theorem Tryd.Builder_Extra_156:Builder.Extra Tryd.prog Tryd.lays156_ren:={
  sizeBuilder := by kernel_rfl
  liesBuilder:=by kernel_rfl
  t5:=Tryd.underlying5
  a5:=Tryd.isAgg5
  z5:=Tryd.sizeOf5
  v5:=Tryd.zeroValue5
  infoByte:=by kernel_rfl
  cellsByte:=by kernel_rfl
  sizeByte:=by kernel_rfl
  neB5:=by decide }
open Go.RowKit in
theorem Tryd.strings_Join (bk o c:Nat) (xs:List ByteArray) (sep:ByteArray) (w:World) (hcells:∀ (j:Nat) x,xs[j]? = some x→w.cell? ⟨bk,o + j,none⟩=some (.string x)) (hbk:bk < w.heap.size) (hN:xs.length≤140737488355328) (hcap:xs.length≤c) (hlen:(Lib.join (xs.map (·.data.toList)) sep.data.toList).length≤140737488355328) :
    Calls Tryd.prog 31 #[.slice (some ⟨bk,o,none⟩) xs.length c,.string sep] w fun e w'=>e=.returned (.string ⟨(Lib.join (xs.map (·.data.toList)) sep.data.toList).toArray⟩)∧Below w.heap.size w w':=Any.strings_Join Tryd.lays156 Tryd.Builder_Extra_156 bk o c xs sep w hcells hbk hN hcap hlen
def Tryd.laysM171_ren:Go.Shelf.Ren:=⟨fun | 171=>46 | 243=>60 | 246=>74 | 283=>83 | 284=>84 | 285=>85 | 286=>86 | 129=>92 | 317=>91 | 318=>93 | 319=>94 | 320=>95 | 337=>96 | 338=>97 | n=>n,fun | 3=>3 | 9=>9 | 2=>2 | 4=>4 | 171=>111 | 0=>0 | 53=>82 | 37=>34 | 5=>5 | 173=>113 | 212=>128 | 51=>119 | 20=>20 | 213=>129 | 46=>90 | 232=>132 | 233=>133 | n=>n,fun | 17=>6 | 18=>7 | 19=>8 | n=>n⟩
theorem Tryd.laysM171:Go.Proofs.LaysM.n171 Tryd.prog Tryd.laysM171_ren:={
  mixed := by kernel_rfl
  f129:=Tryd.func92.trans (congrArg some (by kernel_rfl))
  f171:=Tryd.func46.trans (congrArg some (by kernel_rfl))
  f243:=Tryd.func60.trans (congrArg some (by kernel_rfl))
  f246:=Tryd.func74.trans (congrArg some (by kernel_rfl))
  f283:=Tryd.func83.trans (congrArg some (by kernel_rfl))
  f284:=Tryd.func84.trans (congrArg some (by kernel_rfl))
  f285:=Tryd.func85.trans (congrArg some (by kernel_rfl))
  f286:=Tryd.func86.trans (congrArg some (by kernel_rfl))
  f317:=Tryd.func91.trans (congrArg some (by kernel_rfl))
  f318:=Tryd.func93.trans (congrArg some (by kernel_rfl))
  f319:=Tryd.func94.trans (congrArg some (by kernel_rfl))
  f320:=Tryd.func95.trans (congrArg some (by kernel_rfl))
  f337:=Tryd.func96.trans (congrArg some (by kernel_rfl))
  f338:=Tryd.func97.trans (congrArg some (by kernel_rfl))
  t0:=Tryd.underlying0
  a0:=Tryd.isAgg0
  z0:=Tryd.sizeOf0
  v0:=Tryd.zeroValue0
  t2:=Tryd.underlying2
  a2:=Tryd.isAgg2
  z2:=Tryd.sizeOf2
  v2:=Tryd.zeroValue2
  t3:=Tryd.underlying3
  a3:=Tryd.isAgg3
  z3:=Tryd.sizeOf3
  v3:=Tryd.zeroValue3
  t4:=Tryd.underlying4
  a4:=Tryd.isAgg4
  z4:=Tryd.sizeOf4
  v4:=Tryd.zeroValue4
  t5:=Tryd.underlying5
  a5:=Tryd.isAgg5
  z5:=Tryd.sizeOf5
  v5:=Tryd.zeroValue5
  t9:=Tryd.underlying9
  a9:=Tryd.isAgg9
  z9:=Tryd.sizeOf9
  v9:=Tryd.zeroValue9
  t20:=Tryd.underlying20
  a20:=Tryd.isAgg20
  z20:=Tryd.sizeOf20
  v20:=Tryd.zeroValue20
  t37:=Tryd.underlying34
  a37:=Tryd.isAgg34
  z37:=Tryd.sizeOf34
  v37:=Tryd.zeroValue34
  t46:=Tryd.underlying90
  a46:=Tryd.isAgg90
  z46:=Tryd.sizeOf90
  v46:=Tryd.zeroValue90
  t51:=Tryd.underlying119
  a51:=Tryd.isAgg119
  z51:=Tryd.sizeOf119
  v51:=Tryd.zeroValue119
  t53:=Tryd.underlying82
  a53:=Tryd.isAgg82
  z53:=Tryd.sizeOf82
  v53:=Tryd.zeroValue82
  t171:=Tryd.underlying111
  a171:=Tryd.isAgg111
  z171:=Tryd.sizeOf111
  v171:=Tryd.zeroValue111
  t173:=Tryd.underlying113
  a173:=Tryd.isAgg113
  z173:=Tryd.sizeOf113
  v173:=Tryd.zeroValue113
  t212:=Tryd.underlying128
  a212:=Tryd.isAgg128
  z212:=Tryd.sizeOf128
  v212:=Tryd.zeroValue128
  t213:=Tryd.underlying129
  a213:=Tryd.isAgg129
  z213:=Tryd.sizeOf129
  t232:=Tryd.underlying132
  a232:=Tryd.isAgg132
  z232:=Tryd.sizeOf132
  v232:=Tryd.zeroValue132
  t233:=Tryd.underlying133
  a233:=Tryd.isAgg133
  z233:=Tryd.sizeOf133
  v233:=Tryd.zeroValue133
  g17:=by kernel_rfl
  g18:=by kernel_rfl
  g19:=by kernel_rfl
  i0:=by kernel_rfl
  i2:=by kernel_rfl
  i3:=by kernel_rfl
  i4:=by kernel_rfl
  i5:=by kernel_rfl
  i9:=by kernel_rfl
  i20:=by kernel_rfl
  i37:=by kernel_rfl
  i46:=by kernel_rfl
  i51:=by kernel_rfl
  i53:=by kernel_rfl
  i171:=by kernel_rfl
  i173:=by kernel_rfl
  i212:=by kernel_rfl
  i232:=by kernel_rfl
  i233:=by kernel_rfl
  m17:=by kernel_rfl
  m18:=by kernel_rfl
  m19:=by kernel_rfl }
open Go.RowKit Go.Sort Go.Lib in
theorem Tryd.strconv_Itoa (n:Int) (h0:-9223372036854775808≤n) (h1:n≤9223372036854775807) (w:World) (htab:Lib.TabIs Tryd.prog w "internal/strconv.uint64pow10" .u64 Lib.pow10Tab) :
    Calls Tryd.prog 46 #[.int .i64 n] w fun e w'=>e=.returned (.string ⟨(Lib.itoa n).toArray⟩)∧∃ k os,w'=grow (w.drewN k) os:=Any.strconv_Itoa Tryd.laysM171 n h0 h1 w htab
def Tryd.laysC172_ren:Go.Shelf.Ren:=⟨fun | 172=>42 | 244=>56 | 245=>57 | 247=>67 | 279=>68 | 280=>69 | 281=>70 | 282=>71 | 287=>80 | 316=>81 | 171=>46 | 205=>82 | 321=>89 | 322=>90 | 243=>60 | 246=>74 | 283=>83 | 284=>84 | 285=>85 | 286=>86 | 129=>92 | 317=>91 | 318=>93 | 319=>94 | 320=>95 | 337=>96 | 338=>97 | n=>n,fun | 9=>9 | 3=>3 | 75=>71 | 76=>72 | 4=>4 | 5=>5 | 167=>95 | 37=>34 | 0=>0 | 85=>96 | 2=>2 | 168=>98 | 53=>82 | 175=>105 | 46=>90 | 210=>109 | 127=>88 | 145=>126 | 143=>124 | 21=>21 | 171=>111 | 173=>113 | 212=>128 | 51=>119 | 20=>20 | 213=>129 | 232=>132 | 233=>133 | 80=>78 | n=>n,fun | 15=>2 | 16=>3 | 17=>6 | 18=>7 | 19=>8 | n=>n⟩
theorem Tryd.laysC172:Go.Proofs.LaysC.n172 Tryd.prog Tryd.laysC172_ren:={
  mixed := by kernel_rfl
  f129:=Tryd.func92.trans (congrArg some (by kernel_rfl))
  f171:=Tryd.func46.trans (congrArg some (by kernel_rfl))
  f172:=Tryd.func42.trans (congrArg some (by kernel_rfl))
  f205:=Tryd.func82.trans (congrArg some (by kernel_rfl))
  f243:=Tryd.func60.trans (congrArg some (by kernel_rfl))
  f244:=Tryd.func56.trans (congrArg some (by kernel_rfl))
  f245:=Tryd.func57.trans (congrArg some (by kernel_rfl))
  f246:=Tryd.func74.trans (congrArg some (by kernel_rfl))
  f247:=Tryd.func67.trans (congrArg some (by kernel_rfl))
  f279:=Tryd.func68.trans (congrArg some (by kernel_rfl))
  f280:=Tryd.func69.trans (congrArg some (by kernel_rfl))
  f281:=Tryd.func70.trans (congrArg some (by kernel_rfl))
  f282:=Tryd.func71.trans (congrArg some (by kernel_rfl))
  f283:=Tryd.func83.trans (congrArg some (by kernel_rfl))
  f284:=Tryd.func84.trans (congrArg some (by kernel_rfl))
  f285:=Tryd.func85.trans (congrArg some (by kernel_rfl))
  f286:=Tryd.func86.trans (congrArg some (by kernel_rfl))
  f287:=Tryd.func80.trans (congrArg some (by kernel_rfl))
  f316:=Tryd.func81.trans (congrArg some (by kernel_rfl))
  f317:=Tryd.func91.trans (congrArg some (by kernel_rfl))
  f318:=Tryd.func93.trans (congrArg some (by kernel_rfl))
  f319:=Tryd.func94.trans (congrArg some (by kernel_rfl))
  f320:=Tryd.func95.trans (congrArg some (by kernel_rfl))
  f321:=Tryd.func89.trans (congrArg some (by kernel_rfl))
  f322:=Tryd.func90.trans (congrArg some (by kernel_rfl))
  f337:=Tryd.func96.trans (congrArg some (by kernel_rfl))
  f338:=Tryd.func97.trans (congrArg some (by kernel_rfl))
  t0:=Tryd.underlying0
  a0:=Tryd.isAgg0
  z0:=Tryd.sizeOf0
  v0:=Tryd.zeroValue0
  t2:=Tryd.underlying2
  a2:=Tryd.isAgg2
  z2:=Tryd.sizeOf2
  v2:=Tryd.zeroValue2
  t3:=Tryd.underlying3
  a3:=Tryd.isAgg3
  z3:=Tryd.sizeOf3
  v3:=Tryd.zeroValue3
  t4:=Tryd.underlying4
  a4:=Tryd.isAgg4
  z4:=Tryd.sizeOf4
  v4:=Tryd.zeroValue4
  t5:=Tryd.underlying5
  a5:=Tryd.isAgg5
  z5:=Tryd.sizeOf5
  v5:=Tryd.zeroValue5
  t9:=Tryd.underlying9
  a9:=Tryd.isAgg9
  z9:=Tryd.sizeOf9
  v9:=Tryd.zeroValue9
  t20:=Tryd.underlying20
  a20:=Tryd.isAgg20
  z20:=Tryd.sizeOf20
  v20:=Tryd.zeroValue20
  t21:=Tryd.underlying21
  a21:=Tryd.isAgg21
  z21:=Tryd.sizeOf21
  v21:=Tryd.zeroValue21
  t37:=Tryd.underlying34
  a37:=Tryd.isAgg34
  z37:=Tryd.sizeOf34
  v37:=Tryd.zeroValue34
  t46:=Tryd.underlying90
  a46:=Tryd.isAgg90
  z46:=Tryd.sizeOf90
  v46:=Tryd.zeroValue90
  t51:=Tryd.underlying119
  a51:=Tryd.isAgg119
  z51:=Tryd.sizeOf119
  v51:=Tryd.zeroValue119
  t53:=Tryd.underlying82
  a53:=Tryd.isAgg82
  z53:=Tryd.sizeOf82
  v53:=Tryd.zeroValue82
  t75:=Tryd.underlying71
  a75:=Tryd.isAgg71
  z75:=Tryd.sizeOf71
  v75:=Tryd.zeroValue71
  t76:=Tryd.underlying72
  a76:=Tryd.isAgg72
  z76:=Tryd.sizeOf72
  v76:=Tryd.zeroValue72
  t85:=Tryd.underlying96
  a85:=Tryd.isAgg96
  z85:=Tryd.sizeOf96
  v85:=Tryd.zeroValue96
  t127:=Tryd.underlying88
  a127:=Tryd.isAgg88
  z127:=Tryd.sizeOf88
  v127:=Tryd.zeroValue88
  t143:=Tryd.underlying124
  a143:=Tryd.isAgg124
  z143:=Tryd.sizeOf124
  v143:=Tryd.zeroValue124
  t145:=Tryd.underlying126
  a145:=Tryd.isAgg126
  z145:=Tryd.sizeOf126
  v145:=Tryd.zeroValue126
  t167:=Tryd.underlying95
  a167:=Tryd.isAgg95
  z167:=Tryd.sizeOf95
  v167:=Tryd.zeroValue95
  t168:=Tryd.underlying98
  a168:=Tryd.isAgg98
  z168:=Tryd.sizeOf98
  v168:=Tryd.zeroValue98
  t171:=Tryd.underlying111
  a171:=Tryd.isAgg111
  z171:=Tryd.sizeOf111
  v171:=Tryd.zeroValue111
  t173:=Tryd.underlying113
  a173:=Tryd.isAgg113
  z173:=Tryd.sizeOf113
  v173:=Tryd.zeroValue113
  t175:=Tryd.underlying105
  a175:=Tryd.isAgg105
  z175:=Tryd.sizeOf105
  v175:=Tryd.zeroValue105
  t210:=Tryd.underlying109
  a210:=Tryd.isAgg109
  z210:=Tryd.sizeOf109
  v210:=Tryd.zeroValue109
  t212:=Tryd.underlying128
  a212:=Tryd.isAgg128
  z212:=Tryd.sizeOf128
  v212:=Tryd.zeroValue128
  t213:=Tryd.underlying129
  a213:=Tryd.isAgg129
  z213:=Tryd.sizeOf129
  t232:=Tryd.underlying132
  a232:=Tryd.isAgg132
  z232:=Tryd.sizeOf132
  v232:=Tryd.zeroValue132
  t233:=Tryd.underlying133
  a233:=Tryd.isAgg133
  z233:=Tryd.sizeOf133
  v233:=Tryd.zeroValue133
  g15:=by kernel_rfl
  g16:=by kernel_rfl
  g17:=by kernel_rfl
  g18:=by kernel_rfl
  g19:=by kernel_rfl
  t80:=Tryd.underlying78
  a80:=Tryd.isAgg78
  z80:=Tryd.sizeOf78
  v80:=Tryd.zeroValue78
  i0:=by kernel_rfl
  i2:=by kernel_rfl
  i3:=by kernel_rfl
  i4:=by kernel_rfl
  i5:=by kernel_rfl
  i9:=by kernel_rfl
  i20:=by kernel_rfl
  i21:=by kernel_rfl
  i37:=by kernel_rfl
  i46:=by kernel_rfl
  i51:=by kernel_rfl
  i53:=by kernel_rfl
  i75:=by kernel_rfl
  i76:=by kernel_rfl
  i80:=by kernel_rfl
  i85:=by kernel_rfl
  i127:=by kernel_rfl
  i143:=by kernel_rfl
  i145:=by kernel_rfl
  i167:=by kernel_rfl
  i168:=by kernel_rfl
  i171:=by kernel_rfl
  i173:=by kernel_rfl
  i175:=by kernel_rfl
  i210:=by kernel_rfl
  i212:=by kernel_rfl
  i232:=by kernel_rfl
  i233:=by kernel_rfl
  m15:=by kernel_rfl
  m16:=by kernel_rfl
  m17:=by kernel_rfl
  m18:=by kernel_rfl
  m19:=by kernel_rfl
  c0:=by kernel_rfl
  c2:=by kernel_rfl
  c3:=by kernel_rfl
  c4:=by kernel_rfl
  c5:=by kernel_rfl
  c9:=by kernel_rfl
  c20:=by kernel_rfl
  c21:=by kernel_rfl
  c37:=by kernel_rfl
  c46:=by kernel_rfl
  c51:=by kernel_rfl
  c53:=by kernel_rfl
  c75:=by kernel_rfl
  c76:=by kernel_rfl
  c80:=by kernel_rfl
  c85:=by kernel_rfl
  c127:=by kernel_rfl
  c143:=by kernel_rfl
  c145:=by kernel_rfl
  c167:=by kernel_rfl
  c168:=by kernel_rfl
  c171:=by kernel_rfl
  c173:=by kernel_rfl
  c175:=by kernel_rfl
  c210:=by kernel_rfl
  c212:=by kernel_rfl
  c213:=by kernel_rfl
  c232:=by kernel_rfl
  c233:=by kernel_rfl }
open Go.RowKit in
theorem Tryd.strconv_Atoi_ok (s:ByteArray) (hmax:s.size≤9223372036854775806) (v:Int) (h:Lib.atoiAll s.data.toList=.ok v) (w:World) :
    Calls Tryd.prog 42 #[.string s] w fun e w'=>e=.returned (.tuple #[.int .i64 v,.nilIface])∧(w'=w∨∃ t,w'=Lib.bytesWorld w 5 t):=Any.strconv_Atoi_ok Tryd.laysC172 s hmax v h w
open Go.RowKit in
theorem Tryd.strconv_Atoi_range_var (s:ByteArray) (hlim:s.size≤281474976710656) (h:Lib.atoiAll s.data.toList=.range) (tp:TypeId) (p:Value) (w:World) (hvar:w.var? Tryd.prog "strconv.ErrRange" = some #[.iface tp p]) :
    Calls Tryd.prog 42 #[.string s] w fun e w'=>∃ N,e=.returned (.tuple #[.int .i64 (Lib.atoiSat s.data.toList),.iface 98 (.pointer (some ⟨N,0,none⟩))])∧w.heap.size≤N∧w'.heap[N]? = some (.cells #[.string ⟨#[65,116,111,105]⟩,.string s,.iface tp p] 109 (0,0))∧Below w.heap.size w w':=Any.strconv_Atoi_range_var Tryd.laysC172 s hlim h tp p w hvar
def Tryd.lays146_ren:Go.Shelf.Ren:=⟨fun | 146=>21 | 221=>41 | 268=>53 | 138=>54 | 143=>55 | 195=>63 | 197=>64 | 218=>65 | 219=>66 | 260=>75 | 217=>76 | 225=>77 | 224=>78 | 267=>79 | 266=>87 | 314=>88 | n=>n,fun | 9=>9 | 31=>45 | 3=>3 | 4=>4 | 0=>0 | 105=>92 | 21=>21 | 5=>5 | 46=>90 | 119=>115 | 139=>118 | 138=>117 | 146=>120 | 51=>119 | n=>n,fun | 1=>1 | 3=>4 | 4=>5 | n=>n⟩
theorem Tryd.lays146:Go.Proofs.Lays.n146 Tryd.prog Tryd.lays146_ren:={
  mixed := by kernel_rfl
  f138:=Tryd.func54.trans (congrArg some (by kernel_rfl))
  f143:=Tryd.func55.trans (congrArg some (by kernel_rfl))
  f146:=Tryd.func21.trans (congrArg some (by kernel_rfl))
  f195:=Tryd.func63.trans (congrArg some (by kernel_rfl))
  f197:=Tryd.func64.trans (congrArg some (by kernel_rfl))
  f217:=Tryd.func76.trans (congrArg some (by kernel_rfl))
  f218:=Tryd.func65.trans (congrArg some (by kernel_rfl))
  f219:=Tryd.func66.trans (congrArg some (by kernel_rfl))
  f221:=Tryd.func41.trans (congrArg some (by kernel_rfl))
  f224:=Tryd.func78.trans (congrArg some (by kernel_rfl))
  f225:=Tryd.func77.trans (congrArg some (by kernel_rfl))
  f260:=Tryd.func75.trans (congrArg some (by kernel_rfl))
  f266:=Tryd.func87.trans (congrArg some (by kernel_rfl))
  f267:=Tryd.func79.trans (congrArg some (by kernel_rfl))
  f268:=Tryd.func53.trans (congrArg some (by kernel_rfl))
  f314:=Tryd.func88.trans (congrArg some (by kernel_rfl))
  t0:=Tryd.underlying0
  a0:=Tryd.isAgg0
  z0:=Tryd.sizeOf0
  v0:=Tryd.zeroValue0
  t3:=Tryd.underlying3
  a3:=Tryd.isAgg3
  z3:=Tryd.sizeOf3
  v3:=Tryd.zeroValue3
  t4:=Tryd.underlying4
  a4:=Tryd.isAgg4
  z4:=Tryd.sizeOf4
  v4:=Tryd.zeroValue4
  t5:=Tryd.underlying5
  a5:=Tryd.isAgg5
  z5:=Tryd.sizeOf5
  v5:=Tryd.zeroValue5
  t9:=Tryd.underlying9
  a9:=Tryd.isAgg9
  z9:=Tryd.sizeOf9
  v9:=Tryd.zeroValue9
  t21:=Tryd.underlying21
  a21:=Tryd.isAgg21
  z21:=Tryd.sizeOf21
  v21:=Tryd.zeroValue21
  t31:=Tryd.underlying45
  a31:=Tryd.isAgg45
  z31:=Tryd.sizeOf45
  v31:=Tryd.zeroValue45
  t46:=Tryd.underlying90
  a46:=Tryd.isAgg90
  z46:=Tryd.sizeOf90
  v46:=Tryd.zeroValue90
  t51:=Tryd.underlying119
  a51:=Tryd.isAgg119
  z51:=Tryd.sizeOf119
  v51:=Tryd.zeroValue119
  t105:=Tryd.underlying92
  a105:=Tryd.isAgg92
  z105:=Tryd.sizeOf92
  v105:=Tryd.zeroValue92
  t119:=Tryd.underlying115
  a119:=Tryd.isAgg115
  z119:=Tryd.sizeOf115
  t138:=Tryd.underlying117
  a138:=Tryd.isAgg117
  z138:=Tryd.sizeOf117
  v138:=Tryd.zeroValue117
  t139:=Tryd.underlying118
  a139:=Tryd.isAgg118
  z139:=Tryd.sizeOf118
  v139:=Tryd.zeroValue118
  t146:=Tryd.underlying120
  a146:=Tryd.isAgg120
  z146:=Tryd.sizeOf120
  v146:=Tryd.zeroValue120
  g1:=by kernel_rfl
  g3:=by kernel_rfl
  g4:=by kernel_rfl }
open Go.RowKit Go.Lib in
theorem Tryd.strings_Split (s sep:ByteArray) (m:Int) (w:World) (hs:s.size < 4294967281) (hm:w.cell? ⟨1,0,none⟩=some (.int .i64 m)) (h1:1≤sep.size) :
    Calls Tryd.prog 21 #[.string s,.string sep] w fun e w' =>
      e=.returned (.slice (some ⟨w.heap.size,0,none⟩) (Lib.countB s sep + 1) (Lib.countB s sep + 1))∧w'=w.alloc (.cells ((Lib.splitB sep 0 (Lib.countB s sep) s).map Value.string).toArray 9):=Any.strings_Split Tryd.lays146 (by kernel_rfl) s sep m w hs hm h1
end Go.Proofs
end
section
namespace Go.Proofs.YtdchnngpjjcchaaDoor.Num
open Go Go.RowKit
def inB (n:Int):Bool:=decide (-1000000000000≤n) && decide (n≤1000000000000)
theorem inB_iff (n:Int):inB n=true↔(-1000000000000≤n∧n≤1000000000000):=by simp [inB]
theorem DY {a b:Bool}(h:a=b):Ending.returned (.bool a)=.returned (.bool b):=by rw [h]
theorem ZdV (n:Int)(w:World) :
    Calls Tryd.prog 28 #[.int .i64 n] w fun e w'=>e=.returned (.bool (inB n))∧w=w':=by
  go_enter Tryd.func28,Tryd.ntmps28
  go_wp2
  all_goals go_ret
  all_goals refine ⟨DY ?_,rfl⟩
  all_goals (simp [inB]; try omega)
theorem ZaF (n:Int)(w:World) :
    Calls Tryd.prog 30 #[.int .i64 n] w fun e w'=>e=.returned (.bool (inB n))∧w=w':=by
  go_enter Tryd.func30,Tryd.ntmps30
  go_wp2
  all_goals go_ret
  all_goals refine ⟨DY ?_,rfl⟩
  all_goals (simp [inB]; try omega)
structure Laid (w:World):Prop where
  tab:Lib.TabIs Tryd.prog w "internal/strconv.uint64pow10" .u64 Lib.pow10Tab
  syn:∃ tp p,w.var? Tryd.prog "strconv.ErrSyntax" = some #[.iface tp p]
  ran:∃ tp p,w.var? Tryd.prog "strconv.ErrRange" = some #[.iface tp p]
theorem var_below {w w':World}(hb:Below w.heap.size w w'){n:String}{cs:Array Value}(h:w.var? Tryd.prog n=some cs):w'.var? Tryd.prog n=some cs:=by
  unfold World.var? at h ⊢
  cases hg:Tryd.prog.globalNamed n with
  | none=>simp [hg] at h
  | some g =>
    simp only [hg,Option.bind_some] at h ⊢
    have hlt:g < w.heap.size:=by
      by_cases hh:g < w.heap.size
      · exact hh
      · rw [Array.getElem?_eq_none (by omega)] at h; cases h
    rw [hb.block g hlt]; exact h
theorem Laid.below {w w':World}(hL:Laid w)(hb:Below w.heap.size w w'):Laid w' :=
  ⟨var_below hb hL.tab,hL.syn.imp fun _ h=>h.imp fun _ h=>var_below hb h,hL.ran.imp fun _ h=>h.imp fun _ h=>var_below hb h⟩
theorem below_grow (w:World)(k:Nat)(os:Array Obj):Below w.heap.size w (Sort.grow (w.drewN k) os) :=
  ⟨rfl,rfl,rfl,by simp [Sort.grow,World.drewN],fun i hi=>by show (w.heap ++ os)[i]? = _; rw [Array.getElem?_append_left hi]⟩
theorem RP (w:World)(t:ByteArray):Below w.heap.size w (Lib.bytesWorld w 5 t):=by
  refine ⟨rfl,rfl,rfl,?_,fun i hi=>?_⟩
  · unfold Lib.bytesWorld World.freeze; split
    · show w.heap.size≤(w.heap.push _).size
      simp
    · show w.heap.size≤((w.heap.push _).modify _ _).size
      simp
  · unfold Lib.bytesWorld World.freeze
    split
    · exact Below.heap_alloc _ _ _ hi
    · show ((w.drew.alloc _).heap.modify w.heap.size _)[i]? = _
      rw [Array.getElem?_modify,if_neg (by omega)]; exact Below.heap_alloc _ _ _ hi
theorem c_text (n:Int)(h0:-9223372036854775808≤n)(h1:n≤9223372036854775807)(w:World)(hL:Laid w) :
    Calls Tryd.prog 32 #[.int .i64 n] w fun e w'=>e=.returned (.string ⟨(Lib.itoa n).toArray⟩)∧Below w.heap.size w w':=by
  have ht:=hL.tab
  clear hL
  have HT:=Lib.hid ht
  clear ht
  go_enter Tryd.func32,Tryd.ntmps32
  go_wp2_with fail
  refine (Tryd.strconv_Itoa n h0 h1 _ HT.out).mono ?_
  rintro e w' ⟨rfl,k,os,rfl⟩
  go_wp2
  go_ret
  exact ⟨rfl,below_grow w k os⟩
def parseI (l:List UInt8):Int×Bool :=
  match Lib.atoiAll l with
  | .ok n=>if inB n && (Lib.itoa n == l) then (n,true) else (0,false)
  | _=>(0,false)
theorem Zcl (s:ByteArray)(hs:s.size≤281474976710656)(w:World)(hL:Laid w) :
    Calls Tryd.prog 42 #[.string s] w fun e w'=>((∃ n,Lib.atoiAll s.data.toList=.ok n∧-9223372036854775808≤n∧n≤9223372036854775807∧e=.returned (.tuple #[.int .i64 n,.nilIface])) ∨
      (parseI s.data.toList=(0,false)∧∃ (n:Int) (t:TypeId) (v:Value),e=.returned (.tuple #[.int .i64 n,.iface t v])))∧Below w.heap.size w w':=by
  obtain ⟨tp,p,h1⟩:=hL.syn
  obtain ⟨tp2,p2,h2⟩:=hL.ran
  cases h:Lib.atoiAll s.data.toList
  case ok n =>
    refine (Tryd.strconv_Atoi_ok s (by omega) n h w).mono ?_
    rintro e w' ⟨rfl,hw⟩
    have hb:=Lib.atoiAll_bounds h
    refine ⟨.inl ⟨n,rfl,hb.1,hb.2,rfl⟩,?_⟩
    rcases hw with rfl | ⟨t,rfl⟩
    · exact Below.refl _ _
    · exact RP w t
  case range =>
    refine (Tryd.strconv_Atoi_range_var s hs h tp2 p2 w h2).mono ?_
    rintro e w' ⟨N,rfl,_,_,hb⟩
    exact ⟨.inr ⟨by simp [parseI,h],_,_,_,rfl⟩,hb⟩
  all_goals
    refine (Any.strconv_Atoi_syntax_var Tryd.laysC172 s hs h tp p w h1).mono ?_
    rintro e w' ⟨N,rfl,_,_,hb⟩
    exact ⟨.inr ⟨by simp [parseI,h],_,_,_,rfl⟩,hb⟩
theorem Zax {r:Int×Bool}{a:Int}{b:Bool}(h:r=(a,b)):Ending.returned (.tuple #[.int .i64 a,.bool b])=.returned (.tuple #[.int .i64 r.1,.bool r.2]):=by rw [h]
set_option maxHeartbeats 400000 in
theorem c_parse (s:ByteArray)(hs:s.size≤281474976710656)(w:World)(hL:Laid w) :
    Calls Tryd.prog 22 #[.string s] w fun e w'=>e=.returned (.tuple #[.int .i64 (parseI s.data.toList).1,.bool (parseI s.data.toList).2])∧Below w.heap.size w w':=by
  have HL:=Lib.hid hL
  clear hL
  obtain ⟨r,hr⟩:∃ r,parseI s.data.toList=r:=⟨_,rfl⟩
  rw [hr]
  have HR:=Lib.hid hr
  clear hr
  go_enter Tryd.func22,Tryd.ntmps22
  go_wp2_with fail
  refine (Zcl s hs _ HL.out).mono ?_
  rintro e w1 ⟨h,hb⟩
  rcases h with ⟨n,hn,h1,h2,rfl⟩ | ⟨hp,n,t,v,rfl⟩
  · have HN:=Lib.hid hn
    clear hn
    have HL1:=Lib.hid (HL.out.below hb)
    by_cases hi:inB n=true
    · by_cases ht:(Lib.itoa n == s.data.toList)=true
      · have hq:(Lib.itoa n == s.toList)=true:=by rw [← Lib.toList_data] at ht; exact ht
        have hres:Hid (r=(n,true)):=by unfold Hid; rw [← HR.out,parseI,HN.out]; simp [hi,ht]
        clear ht
        go_wp2_with (first | (go_at_call 28; refine (ZdV _ _).mono ?_; rintro e w' ⟨rfl,rfl⟩) | (go_at_call 32; refine (c_text _ h1 h2 _ HL1.out).mono ?_; rintro e w2 ⟨rfl,hb2⟩))
        go_ret2
        exact ⟨Zax hres.out,hb.trans (hb2.mono hb.size)⟩
      · have hq:(Lib.itoa n == s.toList)=false:=by rw [← Lib.toList_data] at ht; simpa using ht
        have hres:Hid (r=(0,false)):=by unfold Hid; rw [← HR.out,parseI,HN.out]; simp [hi,ht]
        clear ht
        go_wp2_with (first | (go_at_call 28; refine (ZdV _ _).mono ?_; rintro e w' ⟨rfl,rfl⟩) | (go_at_call 32; refine (c_text _ h1 h2 _ HL1.out).mono ?_; rintro e w2 ⟨rfl,hb2⟩))
        go_ret2
        exact ⟨Zax hres.out,hb.trans (hb2.mono hb.size)⟩
    · have hi':inB n=false:=by simpa using hi
      have hres:Hid (r=(0,false)):=by unfold Hid; rw [← HR.out,parseI,HN.out]; simp [hi]
      clear hi
      go_wp2_with (first | (go_at_call 28; refine (ZdV _ _).mono ?_; rintro e w' ⟨rfl,rfl⟩) | (go_at_call 32; refine (c_text _ h1 h2 _ HL1.out).mono ?_; rintro e w2 ⟨rfl,hb2⟩))
      go_ret2
      exact ⟨Zax hres.out,hb⟩
  · have hres:Hid (r=(0,false)):=by unfold Hid; rw [← HR.out,hp]
    clear hp
    go_wp2
    go_ret2
    exact ⟨Zax hres.out,hb⟩
section
open Lib
theorem decDigits_small (u:Nat)(h:u < 10):decDigits u=[UInt8.ofNat (48 + u)]:=by rw [decDigits,dif_pos h]
theorem decDigits_big (u:Nat)(h:¬ u < 10):decDigits u=decDigits (u / 10) ++ [UInt8.ofNat (48 + u % 10)]:=by rw [decDigits,dif_neg h]
theorem itoa_pos (n:Int)(h:0≤n):itoa n=decDigits n.natAbs:=by rw [itoa,if_neg (by omega),show n.toNat=n.natAbs from by omega]
theorem itoa_minus (n:Int)(h:n < 0):itoa n=45 :: decDigits n.natAbs:=by rw [itoa,if_pos h]
theorem digit_toNat (d:Nat)(h:d < 10):(UInt8.ofNat (48 + d)).toNat=48 + d:=by rw [UInt8.toNat_ofNat']; omega
theorem AZ (n:Int)(h:10≤n):itoa n=itoa (n / 10) ++ itoa (n % 10):=by
  rw [itoa_pos n (by omega),itoa_pos (n / 10) (by omega),itoa_pos (n % 10) (by omega),decDigits_big _ (by omega),decDigits_small (n % 10).natAbs (by omega)]
  congr 2
  · congr 1; omega
  · congr 2; omega
theorem L9 (n:Int)(h:n≤-10):itoa n=itoa (n.tdiv 10) ++ itoa (-(n.tmod 10)):=by
  have e:n=-(-n):=by omega
  have h1:n.tdiv 10=-((-n) / 10):=by rw [e,Int.neg_tdiv,Int.tdiv_eq_ediv_of_nonneg (by omega)]; omega
  have h2:n.tmod 10=-((-n) % 10):=by rw [e,Int.neg_tmod,Int.tmod_eq_emod_of_nonneg (by omega)]; omega
  rw [itoa_minus n (by omega),h1,h2,itoa_minus (-(-n / 10)) (by omega),itoa_pos (-(-(-n % 10))) (by omega),decDigits_big _ (by omega),decDigits_small (-(-(-n % 10))).natAbs (by omega),List.cons_append]
  congr 3
  · congr 1; omega
  · congr 2; omega
theorem L8 (n:Int)(h:n < 0):itoa n=45 :: itoa (-n):=by rw [itoa_minus n h,itoa_pos _ (by omega),show (-n).natAbs=n.natAbs from by omega]
theorem XO:∀ (l r:List UInt8) (acc a:Nat),parseUint10 acc l=.ok a→parseUint10 acc (l ++ r)=parseUint10 a r
  | [],r,acc,a,h=>by simp only [parseUint10] at h; injection h with h; subst h; rfl
  | c :: l,r,acc,a,h=>by
    simp only [parseUint10] at h
    simp only [List.cons_append,parseUint10]
    split at h
    · rename_i h1
      rw [if_pos h1]
      split at h
      · cases h
      · rename_i h2
        rw [if_neg h2]
        split at h
        · cases h
        · rename_i h3
          rw [if_neg h3]
          exact XO l r _ a h
    · cases h
theorem LV (k:Nat):∀ u:Nat,u≤k→u < 18446744073709551616→parseUint10 0 (decDigits u)=.ok u:=by
  induction k with
  | zero =>
    intro u hu _
    obtain rfl:u=0:=by omega
    rw [decDigits_small 0 (by omega)]; rfl
  | succ k ih =>
    intro u hu hlt
    by_cases h:u < 10
    · rw [decDigits_small u h]
      simp only [parseUint10,digit_toNat u h]
      rw [if_pos (by omega),if_neg (by omega),if_neg (by omega)]
      congr 1; omega
    · rw [decDigits_big u h,XO _ _ _ _ (ih (u / 10) (by omega) (by omega))]
      simp only [parseUint10,digit_toNat (u % 10) (by omega)]
      rw [if_pos (by omega),if_neg (by omega),if_neg (by omega)]
      congr 1; omega
theorem MX (u:Nat):decDigits u≠[]:=by
  rw [decDigits]; split
  · simp
  · simp
theorem Jh (u:Nat)(h:u < 18446744073709551616):parseMag (decDigits u)=.ok u:=by
  rw [parseMag,if_neg (MX u)]; exact LV u u (Nat.le_refl _) h
theorem GM (k:Nat):∀ u:Nat,u≤k→∃ c r,decDigits u=c :: r∧48≤c.toNat:=by
  induction k with
  | zero=>intro u hu; exact ⟨_,[],decDigits_small u (by omega),by rw [digit_toNat u (by omega)]; omega⟩
  | succ k ih =>
    intro u hu
    by_cases h:u < 10
    · exact ⟨_,[],decDigits_small u h,by rw [digit_toNat u h]; omega⟩
    · obtain ⟨c,r,e,hc⟩:=ih (u / 10) (by omega)
      exact ⟨c,r ++ [UInt8.ofNat (48 + u % 10)],by rw [decDigits_big u h,e]; rfl,hc⟩
theorem Nu (n:Int)(h0:-9223372036854775808≤n)(h1:n≤9223372036854775807):atoiAll (itoa n)=.ok n:=by
  by_cases h:n < 0
  · rw [itoa_minus n h,atoiAll_minus,Jh _ (by omega),signed,if_neg (by omega)]
    congr 1; omega
  · rw [itoa_pos n (by omega)]
    obtain ⟨c,r,e,hc⟩:=GM n.natAbs n.natAbs (Nat.le_refl _)
    have hp:=Jh n.natAbs (by omega)
    rw [e] at hp ⊢
    rw [atoiAll_plain c r (by omega) (by omega),hp,signless,if_neg (by omega)]
    congr 1; omega
def QP (acc:Nat):List UInt8→Nat
  | []=>acc
  | c :: r=>QP (if 48≤c.toNat∧c.toNat≤57 then 10 * acc + (c.toNat - 48) else acc) r
theorem Ja:∀ (l r:List UInt8) (acc:Nat),QP acc (l ++ r)=QP (QP acc l) r
  | [],_,_=>rfl
  | c :: l,r,acc=>by simp only [List.cons_append,QP]; exact Ja l r _
theorem KE (k:Nat):∀ u:Nat,u≤k→QP 0 (decDigits u)=u:=by
  induction k with
  | zero =>
    intro u hu
    obtain rfl:u=0:=by omega
    rw [decDigits_small 0 (by omega)]; rfl
  | succ k ih =>
    intro u hu
    by_cases h:u < 10
    · rw [decDigits_small u h]
      simp only [QP,digit_toNat u h]
      rw [if_pos (by omega)]; omega
    · rw [decDigits_big u h,Ja,ih (u / 10) (by omega)]
      simp only [QP,digit_toNat (u % 10) (by omega)]
      rw [if_pos (by omega)]; omega
theorem D5:∀ (l:List UInt8) (acc:Nat),QP acc l < (acc + 1) * 10 ^ l.length
  | [],acc=>by simp [QP]
  | c :: r,acc=>by
    simp only [QP,List.length_cons]
    refine Nat.lt_of_lt_of_le (D5 r _) ?_
    rw [Nat.pow_succ,Nat.mul_comm (10 ^ r.length) 10,← Nat.mul_assoc]
    refine Nat.mul_le_mul_right _ ?_
    split <;> omega
theorem digits_length (k:Nat):∀ u:Nat,u < 10 ^ (k + 1)→(decDigits u).length≤k + 1:=by
  induction k with
  | zero=>intro u hu; rw [decDigits_small u (by simpa using hu)]; simp
  | succ k ih =>
    intro u hu
    by_cases h:u < 10
    · rw [decDigits_small u h]; simp
    · rw [decDigits_big u h]
      have:=ih (u / 10) (by rw [Nat.pow_succ] at hu; omega)
      simp; omega
theorem Bv (n:Int)(h:inB n=true):(itoa n).length≤14:=by
  have hb:=(inB_iff n).1 h
  have hl:=digits_length 12 n.natAbs (by have:(10:Nat) ^ (12 + 1)=10000000000000:=(by decide); omega)
  by_cases hn:n < 0
  · rw [itoa_minus n hn]; simp; omega
  · rw [itoa_pos n (by omega)]; omega
def Uc (l:List UInt8):Int:=if l.head?.map (·.toNat)=some 45 then -(QP 0 l:Int) else QP 0 l
def parseR (l:List UInt8):Int×Bool:=if 14 < l.length then (0,false) else if inB (Uc l) && (itoa (Uc l) == l) then (Uc l,true) else (0,false)
theorem Rf (r:List UInt8):Uc (45 :: r)=-(QP 0 r:Int):=by simp [Uc,QP]
theorem Iq (c:UInt8)(r:List UInt8)(h:c.toNat≠45):Uc (c :: r)=(QP 0 (c :: r):Int):=by simp [Uc,h]
theorem Nb (n:Int):Uc (itoa n)=n:=by
  by_cases h:n < 0
  · rw [itoa_minus n h,Rf,KE _ _ (Nat.le_refl _)]; omega
  · rw [itoa_pos n (by omega)]
    obtain ⟨c,r,e,hc⟩:=GM n.natAbs n.natAbs (Nat.le_refl _)
    have hf:=KE n.natAbs n.natAbs (Nat.le_refl _)
    rw [e] at hf ⊢
    rw [Iq c r (by omega),hf]; omega
theorem parseI_itoa (n:Int)(h0:-9223372036854775808≤n)(h1:n≤9223372036854775807):parseI (itoa n)=if inB n then (n,true) else (0,false):=by
  rw [parseI,Nu n h0 h1]; simp
theorem parse_same (l:List UInt8):parseI l=parseR l:=by
  by_cases hx:∃ n,inB n=true∧itoa n=l
  · obtain ⟨n,hn,rfl⟩:=hx
    have hb:=(inB_iff n).1 hn
    have hl:=Bv n hn
    rw [parseI_itoa n (by omega) (by omega),parseR,if_neg (show ¬ 14 < (itoa n).length from by omega),Nb]
    simp [hn]
  · have h1:∀ n,(inB n && (itoa n == l))=false:=by
      intro n
      by_cases hn:inB n=true
      · by_cases he:itoa n=l
        · exact absurd ⟨n,hn,he⟩ hx
        · simp [he]
      · simp [hn]
    have e1:parseI l=(0,false):=by
      unfold parseI
      split
      · rw [h1]; rfl
      · rfl
    rw [e1,parseR]
    split
    · rfl
    · rw [h1]; rfl
end
theorem Ik {a:ByteArray}{l:List UInt8}(h:a.data.toList=l):Ending.returned (.string a)=.returned (.string ⟨l.toArray⟩):=by
  subst h; cases a; simp
set_option maxHeartbeats 1000000 in
theorem c_rtext (k:Nat):∀ (n:Int) (w:World),2 * n.natAbs + (if n < 0 then 1 else 0)≤k→-9223372036854775808≤n→n≤9223372036854775807 →
    Calls Tryd.prog 33 #[.int .i64 n] w fun e w'=>e=.returned (.string ⟨(Lib.itoa n).toArray⟩)∧w=w':=by
  induction k with
  | zero =>
    intro n w hk _ _
    have h0:n=0:=by split at hk <;> omega
    subst h0
    go_enter Tryd.func33,Tryd.ntmps33
    go_wp2_with fail
    go_ret
    exact ⟨Ik (by decide +kernel),rfl⟩
  | succ k ih =>
    intro n w hk hlo hhi
    have IH:=Lib.hid ih
    clear ih
    by_cases h1:10≤n
    · have HE:=Lib.hid (AZ n h1)
      have k1:2 * (n / 10).natAbs + (if n / 10 < 0 then 1 else 0)≤k:=by rw [if_neg (by omega)]; split at hk <;> omega
      have k2:2 * (n % 10).natAbs + (if n % 10 < 0 then 1 else 0)≤k:=by rw [if_neg (by omega)]; split at hk <;> omega
      have K1:=Lib.hid k1
      have K2:=Lib.hid k2
      have l1:=Lib.itoa_length_le (n / 10) (by omega) (by omega)
      have l2:=Lib.itoa_length_le (n % 10) (by omega) (by omega)
      clear hk k1 k2
      go_enter Tryd.func33,Tryd.ntmps33
      go_wp2_with fail
      refine (IH.out (n / 10) _ K1.out (by omega) (by omega)).mono ?_
      rintro e w' ⟨rfl,rfl⟩
      go_wp2_with fail
      refine (IH.out (n % 10) _ K2.out (by omega) (by omega)).mono ?_
      rintro e w' ⟨rfl,rfl⟩
      go_wp2
      go_ret
      exact ⟨Ik (by rw [HE.out]; simp),rfl⟩
    · by_cases h2:0≤n
      · have:n=0∨n=1∨n=2∨n=3∨n=4∨n=5∨n=6∨n=7∨n=8∨n=9:=by omega
        clear IH hk hlo hhi h1 h2
        rcases this with rfl | rfl | rfl | rfl | rfl | rfl | rfl | rfl | rfl | rfl
        all_goals
          go_enter Tryd.func33,Tryd.ntmps33
          go_wp2
          go_ret
          exact ⟨Ik (by decide +kernel),rfl⟩
      · by_cases h3:-10 < n
        · have HE:=Lib.hid (L8 n (by omega))
          have k1:2 * (-n).natAbs + (if -n < 0 then 1 else 0)≤k:=by rw [if_neg (by omega)]; rw [if_pos (by omega)] at hk; omega
          have K1:=Lib.hid k1
          have l1:=Lib.itoa_length_le (-n) (by omega) (by omega)
          clear hk k1
          go_enter Tryd.func33,Tryd.ntmps33
          go_wp2_with fail
          refine (IH.out (-n) _ K1.out (by omega) (by omega)).mono ?_
          rintro e w' ⟨rfl,rfl⟩
          go_wp2
          go_ret
          exact ⟨Ik (by rw [HE.out]; simp),rfl⟩
        · have HE:=Lib.hid (L9 n (by omega))
          have e1:n.tdiv 10=-((-n) / 10):=by
            have e:n=-(-n):=by omega
            rw [e,Int.neg_tdiv,Int.tdiv_eq_ediv_of_nonneg (by omega)]; omega
          have e2:n.tmod 10=-((-n) % 10):=by
            have e:n=-(-n):=by omega
            rw [e,Int.neg_tmod,Int.tmod_eq_emod_of_nonneg (by omega)]; omega
          have k1:2 * (n.tdiv 10).natAbs + (if n.tdiv 10 < 0 then 1 else 0)≤k:=by rw [if_pos (by omega)] at hk; split <;> omega
          have k2:2 * (-(n.tmod 10)).natAbs + (if -(n.tmod 10) < 0 then 1 else 0)≤k:=by rw [if_pos (by omega)] at hk; split <;> omega
          have K1:=Lib.hid k1
          have K2:=Lib.hid k2
          have b1:-922337203685477581≤n.tdiv 10∧n.tdiv 10≤0:=by omega
          have b2:-9≤n.tmod 10∧n.tmod 10≤0:=by omega
          have l1:=Lib.itoa_length_le (n.tdiv 10) (by omega) (by omega)
          have l2:=Lib.itoa_length_le (-(n.tmod 10)) (by omega) (by omega)
          clear hk k1 k2 e1 e2
          go_enter Tryd.func33,Tryd.ntmps33
          go_wp2_with fail
          refine (IH.out (n.tdiv 10) _ K1.out (by omega) (by omega)).mono ?_
          rintro e w' ⟨rfl,rfl⟩
          go_wp2_with fail
          refine (IH.out (-(n.tmod 10)) _ K2.out (by omega) (by omega)).mono ?_
          rintro e w' ⟨rfl,rfl⟩
          go_wp2
          go_ret
          exact ⟨Ik (by rw [HE.out]; simp),rfl⟩
theorem take_snoc (s:ByteArray)(k:Nat)(h:k < s.size):s.data.toList.take (k + 1)=s.data.toList.take k ++ [s[k]]:=by
  rw [List.take_succ_eq_append_getElem (by simpa using h)]; rfl
theorem PG (l:List UInt8)(c:UInt8):(QP 0 (l ++ [c]):Int)=if 48≤(c.toNat:Int)∧(c.toNat:Int)≤57 then 10 * (QP 0 l:Int) + ((c.toNat:Int) - 48) else (QP 0 l:Int):=by
  rw [Ja]
  by_cases h:48≤c.toNat∧c.toNat≤57
  · rw [if_pos (by omega)]; simp only [QP]; rw [if_pos h]; omega
  · rw [if_neg (by omega)]; simp only [QP]; rw [if_neg h]
theorem Az (s:ByteArray)(k:Nat)(h:k≤s.size)(hs:s.size≤14):(QP 0 (s.data.toList.take k):Int) < 100000000000000:=by
  have h1:=D5 (s.data.toList.take k) 0
  have h2:(s.data.toList.take k).length≤14:=by have:=List.length_take_le k s.data.toList; omega
  have h3:(10:Nat) ^ (s.data.toList.take k).length≤10 ^ 14:=Nat.pow_le_pow_right (by omega) h2
  have h4:(10:Nat) ^ 14=100000000000000:=by decide
  omega
theorem head_eq (s:ByteArray)(h:0 < s.size):∃ r,s.data.toList=s[0] :: r:=by
  have h1:=take_snoc s 0 h
  refine ⟨s.data.toList.drop 1,?_⟩
  rw [← List.take_append_drop 1 s.data.toList,h1]; simp
theorem Nc (s:ByteArray)(m:Int)(hm:m=(QP 0 s.data.toList:Int)) :
    (s.size=0∧Uc s.data.toList=m)∨(∃ h:0 < s.size,((s[0].toNat:Int) == 45)=false∧Uc s.data.toList=m)∨(∃ h:0 < s.size,((s[0].toNat:Int) == 45)=true∧Uc s.data.toList=-m):=by
  by_cases h:0 < s.size
  · obtain ⟨r,hr⟩:=head_eq s h
    by_cases hc:s[0].toNat=45
    · have hc':s[0]=45:=UInt8.toNat_inj.1 hc
      refine .inr (.inr ⟨h,by rw [hc]; rfl,?_⟩)
      rw [hm,hr,hc',Rf]
      simp [QP]
    · refine .inr (.inl ⟨h,by rw [beq_eq_false_iff_ne]; omega,?_⟩)
      rw [hm,hr,Iq _ _ hc]
  · have e:s.data.toList=[]:=List.eq_nil_of_length_eq_zero (by have:s.data.toList.length=s.size:=Array.length_toList; omega)
    exact .inl ⟨by omega,by rw [hm,e]; rfl⟩
set_option maxHeartbeats 2000000 in
theorem c_rparse (s:ByteArray)(hs:s.size≤281474976710656)(w:World) :
    Calls Tryd.prog 25 #[.string s] w fun e w'=>e=.returned (.tuple #[.int .i64 (parseR s.data.toList).1,.bool (parseR s.data.toList).2])∧w=w':=by
  obtain ⟨r,hr⟩:∃ r,parseR s.data.toList=r:=⟨_,rfl⟩
  rw [hr]
  have hlen:s.data.toList.length=s.size:=Array.length_toList
  by_cases hl:14 < s.size
  · have HR:Hid (r=(0,false)):=by unfold Hid; rw [← hr,parseR,if_pos (by omega)]
    clear hr hlen
    go_enter Tryd.func25,Tryd.ntmps25
    go_wp2
    go_ret2
    exact ⟨Zax HR.out,rfl⟩
  · have HR:Hid (r=if inB (Uc s.data.toList) && (Lib.itoa (Uc s.data.toList) == s.data.toList) then (Uc s.data.toList,true) else (0,false)):=by unfold Hid; rw [← hr,parseR,if_neg (by omega)]
    have hl':s.size≤14:=by omega
    have HL:=Lib.hid hlen
    clear hr hl hlen hs
    go_enter Tryd.func25,Tryd.ntmps25
    go_wp2
    go_loop [4,5] (fun n i=>∃ (k:Nat) (m:Int),k≤s.size∧i=.int .i64 k∧n=.int .i64 m∧0≤m∧m < 100000000000000∧Hid (m=(QP 0 (s.data.toList.take k):Int))) (fun _ i=>s.size - (intOf i).toNat)
    case atStart=>exact ⟨0,0,Nat.zero_le _,rfl,rfl,by omega,by omega,rfl⟩
    case round =>
      obtain ⟨k,m,hk,rfl,rfl,m0,m1,HM⟩:=hrel
      by_cases hlt:k < s.size
      · have hb:=Az s (k + 1) (by omega) hl'
        have hsn:=PG (s.data.toList.take k) s[k]
        rw [← take_snoc s k hlt,← HM.out] at hsn
        by_cases hd:48≤(s[k].toNat:Int)∧(s[k].toNat:Int)≤57
        · rw [if_pos hd] at hsn
          have hb2:10 * m + ((s[k].toNat:Int) - 48) < 100000000000000:=by omega
          have HS:=Lib.hid hsn
          obtain ⟨d1,d2⟩:=hd
          clear hsn hb HM
          go_wp2
          go_round
          case rel=>exact ⟨k + 1,_,by omega,by go_num,rfl,by omega,by omega,HS.out.symm⟩
          case measure=>simp [intOf]; omega
        · rw [if_neg hd] at hsn
          have HS:=Lib.hid hsn
          have hd':¬ 48≤(s[k].toNat:Int)∨(48≤(s[k].toNat:Int)∧¬ (s[k].toNat:Int)≤57):=by omega
          clear hsn hb HM hd
          rcases hd' with d1 | ⟨d1,d2⟩
          all_goals
            go_wp2
            go_round
            case rel=>exact ⟨k + 1,_,by omega,by go_num,rfl,by omega,by omega,HS.out.symm⟩
            case measure=>simp [intOf]; omega
      · have hk':k=s.size:=by omega
        have hm:m=(QP 0 s.data.toList:Int):=by rw [HM.out,hk',List.take_of_length_le (by have:=HL.out; omega)]
        clear HM
        have hsg:=Nc s m hm
        clear hm
        obtain ⟨v,hv⟩:∃ v,Uc s.data.toList=v:=⟨_,rfl⟩
        rw [hv] at hsg HR
        have hrest:(inB v=true∧(Lib.itoa v == s.toList)=true∧Hid (r=(v,true)))∨(inB v=true∧(Lib.itoa v == s.toList)=false∧Hid (r=(0,false)))∨(inB v=false∧Hid (r=(0,false))):=by
          rw [Lib.toList_data]
          unfold Hid
          by_cases hi:inB v=true
          · by_cases ht:(Lib.itoa v == s.data.toList)=true
            · exact .inl ⟨hi,ht,by rw [HR.out]; simp [hi,ht]⟩
            · exact .inr (.inl ⟨hi,by simpa using ht,by rw [HR.out]; simp [hi,ht]⟩)
          · exact .inr (.inr ⟨by simpa using hi,by rw [HR.out]; simp [hi]⟩)
        clear HR hv
        have hvb:-100000000000000 < v∧v < 100000000000000:=by
          rcases hsg with ⟨_,h⟩ | ⟨_,_,h⟩ | ⟨_,_,h⟩ <;> omega
        have hlv:=Lib.itoa_length_le v (by omega) (by omega)
        obtain rfl:k=s.size:=hk'
        rcases hsg with ⟨h0,hv⟩ | ⟨h0,h45,hv⟩ | ⟨h0,h45,hv⟩
        · have hz:¬ 0 < s.size:=by omega
          clear h0
          obtain rfl:m=v:=hv.symm
          rcases hrest with ⟨hi,ht,HRR⟩ | ⟨hi,ht,HRR⟩ | ⟨hi,HRR⟩
          all_goals
            go_wp2_with (first | (go_at_call 30; refine (ZaF _ _).mono ?_; rintro e w' ⟨rfl,rfl⟩) | (go_at_call 33; refine (c_rtext (2 * m.natAbs + 1) m _ (by split <;> omega) (by omega) (by omega)).mono ?_; rintro e w' ⟨rfl,rfl⟩))
            go_ret2
            exact ⟨Zax HRR.out,rfl⟩
        · clear hlt
          obtain rfl:m=v:=hv.symm
          rcases hrest with ⟨hi,ht,HRR⟩ | ⟨hi,ht,HRR⟩ | ⟨hi,HRR⟩
          all_goals
            go_wp2_with (first | (go_at_call 30; refine (ZaF _ _).mono ?_; rintro e w' ⟨rfl,rfl⟩) | (go_at_call 33; refine (c_rtext (2 * m.natAbs + 1) m _ (by split <;> omega) (by omega) (by omega)).mono ?_; rintro e w' ⟨rfl,rfl⟩))
            go_ret2
            exact ⟨Zax HRR.out,rfl⟩
        · clear hlt
          subst hv
          rcases hrest with ⟨hi,ht,HRR⟩ | ⟨hi,ht,HRR⟩ | ⟨hi,HRR⟩
          all_goals
            go_wp2_with (first | (go_at_call 30; refine (ZaF _ _).mono ?_; rintro e w' ⟨rfl,rfl⟩) | (go_at_call 33; refine (c_rtext (2 * (-m).natAbs + 1) (-m) _ (by split <;> omega) (by omega) (by omega)).mono ?_; rintro e w' ⟨rfl,rfl⟩))
            go_ret2
            exact ⟨Zax HRR.out,rfl⟩
theorem parseI_ok (l:List UInt8):(∃ n,parseI l=(n,true)∧Lib.itoa n=l∧-1000000000000≤n∧n≤1000000000000)∨parseI l=(0,false):=by
  unfold parseI
  split
  · rename_i n _
    by_cases h:(inB n && (Lib.itoa n == l))=true
    · rw [if_pos h]
      simp only [Bool.and_eq_true,beq_iff_eq] at h
      have:=(inB_iff n).1 h.1
      exact .inl ⟨n,rfl,h.2,this.1,this.2⟩
    · rw [if_neg h]; exact .inr rfl
  · exact .inr rfl
end Go.Proofs.YtdchnngpjjcchaaDoor.Num
end
section
namespace Go.Proofs.YtdchnngpjjcchaaDoor.Abs
open Go Go.RowKit
section
variable {P:Program}{G:Nat→Option (List AV)}{call:FuncId→List AV→List Zf→Option (AV×List Zf×Eff)}{E:Entry}{s s':Za}{Γ:Zm}{a:Act}{w:World}{hand:Nat→Bool}{draw:Bool}
theorem Ed (hG:GOk G E.W0)(hS:ZB P E.W0 call){ops:Array Oper}{o:Oper}{g:Option (Nat×Bool)}{u:Za}{K:Act→World→Prop}{Q:Exit→Act→World→Prop}(h2:Jy ops o.guard=some g)
    (he:Zo G call ⟨o.dst,(cOp P hand draw o).getD .bad,g⟩ s=some u) (hI:Inv E s Γ a w) (hK:∀ Γ a w,Inv E u Γ a w→K a w) :
    if Region.wanted o (yielded ops a.tmps)=true then o.wp P a w K Q∨(o.asks P a w∧LetsOut Q) else K (a.put o.dst Go.undef) w:=by
  simp only [Zo] at he
  split at he <;> first | (cases he; done) | skip
  · rename_i hw
    rw [YT hI h2 hw]
    split at he <;> first | (cases he; done) | skip
    rename_i v s2 hev
    obtain rfl:=Option.some.inj he
    simp only [if_true]
    refine .inl (Ec hG hS hI (WH hev) hev fun Γ' cv w' i1 r1 o1=>?_)
    obtain ⟨Γ2,i2⟩:=i1.put o.dst r1 o1
    exact hK _ _ _ i2
  · rename_i hw
    rw [YT hI h2 hw]
    obtain rfl:=Option.some.inj he
    simp only [Bool.false_eq_true,if_false]
    obtain ⟨Γ2,i2⟩:=hI.put o.dst (v := .undef) (cv := Go.undef) .undef (.of_ne (by simp))
    exact hK _ _ _ i2
theorem FB (hG:GOk G E.W0)(hS:ZB P E.W0 call)(hpure:∀ f args hp v hp' e,call f args hp=some (v,hp',e)→hp'=hp∧e=none){ops:Array Oper}{bops:List ZN}{Q:Exit→Act→World→Prop}{sF:Za}(hc:Qg P hand draw ops ops.toList=some bops)(hd:Ou ops bops=true)(hQ:∀ Γ a w,Inv E sF Γ a w→Q .normal a w) :
    ∀ (fuel:Nat) {listed:Array Bool} {s:Za} {Γ:Zm} {a:Act} {w:World},listed.size=ops.size→QB ops listed→(Y8 ops.size listed).length=fuel→Zy G call ((Y8 ops.size listed).map fun i=>bops.getD i ⟨none,.bad,none⟩) s=some sF→Inv E s Γ a w→wpAny P .any ops Q fuel listed a w:=by
  simp only [Ou,Bool.and_eq_true,List.all_eq_true,List.mem_range] at hd
  obtain ⟨⟨hord,hnh⟩,hpair⟩:=hd
  obtain ⟨hlen,hget⟩:=WL hc
  intro fuel
  induction fuel with
  | zero =>
    intro listed s Γ a w hsz hcl hl h hI
    have hn:=List.eq_nil_of_length_eq_zero hl
    rw [hn] at h
    obtain rfl:=Option.some.inj (by simpa [Zy] using h:some s=some sF)
    refine ⟨List.eq_nil_iff_forall_not_mem.2 fun i hi=>?_,hQ _ _ _ hI⟩
    obtain ⟨h1,o,h2,_⟩:=mem_ready.1 hi
    have:i ∈ Y8 ops.size listed:=ZZ.2 ⟨(Array.getElem?_eq_some_iff.1 h2).1,h1⟩
    rw [hn] at this
    cases this
  | succ fuel ih =>
    intro listed s Γ a w hsz hcl hl h hI
    have hlisted:∀ j,j < ops.size→listed.getD j true≠false→listed.getD j false=true:=fun j hj h=>by
      have hj':j < listed.size:=by omega
      simp [hj'] at h ⊢; exact h
    refine ⟨fun hr=>?_,fun i hi=>?_⟩
    · obtain ⟨i,r,hir⟩:∃ i r,Y8 ops.size listed=i :: r:=by
        cases hx:Y8 ops.size listed with
        | nil=>rw [hx] at hl; cases hl
        | cons i r=>exact ⟨i,r,rfl⟩
      have him:=ZZ.1 (show i ∈ Y8 ops.size listed by rw [hir]; exact List.mem_cons_self ..)
      have hoi:ops[i]? = some ops[i]:=Array.getElem?_eq_getElem him.1
      have hready:i ∈ Region.ready .any ops listed:=by
        refine mem_ready.2 ⟨him.2,_,hoi,fun e he hb=>?_⟩
        have:=hord i him.1
        rw [hoi] at this
        have hlt:=Array.all_eq_true'.1 this e he
        rw [hb] at hlt
        simp only [Bool.not_true,Bool.false_or,decide_eq_true_eq] at hlt
        refine hlisted e.on (by omega) fun hun=>?_
        have hm:=ZZ.2 ⟨show e.on < ops.size by omega,hun⟩
        rw [hir] at hm
        have hs:=YX ops.size listed
        rw [hir] at hs
        rcases List.mem_cons.1 hm with he | hm
        · omega
        · have:=(List.pairwise_cons.1 hs).1 _ hm
          omega
      rw [hr] at hready
      cases hready
    · obtain ⟨hun,o,ho,hdeps⟩:=mem_ready.1 hi
      have hin:=(Array.getElem?_eq_some_iff.1 ho).1
      obtain ⟨l1,l2,hsplit⟩:=List.append_of_mem (ZZ.2 ⟨hin,hun⟩)
      have hs:=YX ops.size listed
      rw [hsplit] at hs
      obtain ⟨g,hg1,hg2⟩:=hget i o (by simpa using ho)
      have hbi:bops.getD i ⟨none,.bad,none⟩=⟨o.dst,(cOp P hand draw o).getD .bad,g⟩:=by rw [List.getD_eq_getElem?_getD,hg2]; rfl
      have hcomm:∀ x ∈ l1.map (fun i=>bops.getD i ⟨none,.bad,none⟩),MW x ⟨o.dst,(cOp P hand draw o).getD .bad,g⟩=true:=fun x hx=>by
        obtain ⟨j,hj,rfl⟩:=List.mem_map.1 hx
        have hji:j < i:=(List.pairwise_append.1 hs).2.2 j hj i (List.mem_cons_self ..)
        have hjm:=ZZ.1 (show j ∈ Y8 ops.size listed by rw [hsplit]; exact List.mem_append_left _ hj)
        have:=hpair i hin j hji
        rw [Bool.or_eq_true] at this
        rcases this with h1 | h1
        · exfalso
          have h2:=hcl.ready ho hdeps (U6 h1)
          rw [Vq hjm.2] at h2
          cases h2
        · rw [hg2] at h1
          split at h1
          · rename_i x y hx hy
            cases hy
            rw [List.getD_eq_getElem?_getD,hx]
            exact h1
          · cases h1
      rw [hsplit,List.map_append,List.map_cons,hbi] at h
      obtain ⟨u,hu1,hu2⟩:=bubble hpure hcomm h
      rw [← List.map_append,← QR hsplit (by omega)] at hu2
      have hlen2:(Y8 ops.size (listed.setIfInBounds i true)).length=fuel:=by
        rw [QR hsplit (by omega)]
        rw [hsplit] at hl
        simp at hl ⊢
        omega
      unfold wpOp
      simp only [ho]
      exact Ed hG hS hg1 hu1 hI fun Γ' a' w' hI'=>ih (by simp [hsz]) (hcl.list ho hdeps) hlen2 hu2 hI'
end
def QU (P:Program)(takes:FuncId→List Nat)(res:List Nat):Code→Option ZG
  | .skip=>some .skip
  | .region _ ops false=>(Qg P (fun t=>(handed takes res ops.toList).contains t) false ops ops.toList).map (.region false)
  | .region _ ops true=>match Qg P (fun t=>(handed takes res ops.toList).contains t) false ops ops.toList with
    | some bops=>if Ou ops bops then some (.region true bops) else if Tn ops bops then some (.regionB bops) else some .bad
    | _=>none
  | .seq a b=>match QU P takes res a,QU P takes res b with
    | some a,some b=>some (.seq a b)
    | _,_=>none
  | .cond c a b=>match Zz P 0 c,QU P takes res a,QU P takes res b with
    | some c,some a,some b=>some (.cond c a b)
    | _,_,_=>none
  | .block id c=>(QU P takes res c).map (.block id)
  | .loop c=>(QU P takes res c).map .loop
  | .scope c=>(QU P takes res c).map .scope
  | .exit id=>some (.exit id)
  | .ret=>some .ret
  | .label _=>some .skip
  | _=>some .bad
def ZdT (P:Program)(takes:FuncId→List Nat)(fn:Func):Option AFn :=
  match fn.body,MS P fn.results.toList with
  | some c,some rs=>(QU P takes (Mc fn.results.toList) c).map fun ac=>⟨fn.ntmps,rs,ac,!(takes JY).isEmpty⟩
  | _,_=>none
section
variable (G:Nat→Option (List AV))(call:FuncId→List AV→List Zf→Option (AV×List Zf×Eff))(L:Nat)
def ZA:ZG→Za→Option (VI×Za)
  | .skip,s=>some (.normal,s)
  | .region false ops,s=>(Zy G call ops s).map (.normal,·)
  | .region true ops,s=>(Zy G (Wh call) ops s).map (.normal,·)
  | .regionB ops,s=>(Zy G (ZH call) ops s).map (.normal,·)
  | .seq a b,s=>match ZA a s with
    | some (.normal,s')=>ZA b s'
    | r=>r
  | .cond c a b,s=>match opnd G s.sl c with
    | some (.bool true)=>ZA a s
    | some (.bool false)=>ZA b s
    | _=>none
  | .block id c,s=>match ZA c s with
    | some (.exit i,s')=>if i=id then some (.normal,s') else some (.exit i,s')
    | r=>r
  | .loop c,s=>iter (ZA c) L s
  | .scope c,s=>ZA c s
  | .exit id,s=>some (.exit id,s)
  | .ret,s=>some (.ret,s)
  | .bad,_=>none
end
section
variable {P:Program}{G:Nat→Option (List AV)}{call:FuncId→List AV→List Zf→Option (AV×List Zf×Eff)}{E:Entry}
theorem Ad (hm:P.follows .mixedOrders=true)(hG:GOk G E.W0)(hS:ZB P E.W0 call){takes:FuncId→List Nat}{res:List Nat}(L:Nat):∀ {c:Code} {ac:ZG} {s:Za} {r:VI×Za} {Γ:Zm} {a:Act} {w:World},
    QU P takes res c=some ac→ZA G call L ac s=some r→Inv E s Γ a w→c.wp P (Ends E r) a w:=by
  intro c
  induction c with
  | skip =>
    intro ac s r Γ a w hc h hI
    cases hc; cases h
    exact Go.wp_skip (.normal hI)
  | region id ops draw =>
    intro ac s r Γ a w hc h hI
    cases draw with
    | false =>
      simp only [QU] at hc
      obtain ⟨aops,h1,rfl⟩:=Option.map_eq_some_iff.1 hc
      simp only [ZA] at h
      obtain ⟨s1,h2,rfl⟩:=Option.map_eq_some_iff.1 h
      refine wp_region ?_
      rw [List.range_eq_range']
      have:=DT hG hS (Q := Ends E (.normal,s1)) 0 (l := ops.toList) (by simp) h1 h2 hI fun Γ a w h=>.normal h
      simpa using this
    | true =>
      simp only [QU] at hc
      split at hc <;> first | (cases hc; done) | skip
      rename_i bops h1'
      split at hc
      · rename_i hd
        cases hc
        simp only [ZA] at h
        obtain ⟨s1,h2,rfl⟩:=Option.map_eq_some_iff.1 h
        refine wp_region_any hm ?_
        have hb:Behind w { w with drawn:=w.drawn + 1 }:=⟨rfl,rfl,rfl,Nat.le_refl _,fun _ _=>rfl⟩
        have hr:Y8 ops.size (Array.replicate ops.size false)=List.range ops.size:=by
          unfold Y8
          refine List.filter_eq_self.2 fun i hi=>?_
          simp only [List.mem_range] at hi
          simp [hi]
        have hmap:(List.range ops.size).map (fun i=>bops.getD i ⟨none,.bad,none⟩)=bops:=by
          have hl:ops.size=bops.length:=by simpa using (WL h1').1
          rw [hl]
          refine List.ext_getElem? fun i=>?_
          rw [List.getElem?_map]
          by_cases hi:i < bops.length
          · rw [List.getElem?_range hi,Option.map_some,List.getD_eq_getElem?_getD,List.getElem?_eq_getElem hi]; rfl
          · rw [List.getElem?_eq_none (by simpa using hi),List.getElem?_eq_none (by omega)]; rfl
        exact FB hG (G9 hS) N8 (Q := Ends E (.normal,s1)) h1' hd (fun Γ a w h=>.normal h) ops.size (by simp) (.start ops _) (by rw [hr]; simp) (by rw [hr,hmap]; exact h2) (hb.inv hI)
      · split at hc
        · rename_i hd
          cases hc
          simp only [ZA] at h
          obtain ⟨s1,h2,rfl⟩:=Option.map_eq_some_iff.1 h
          refine wp_region_any hm ?_
          have hb:Behind w { w with drawn:=w.drawn + 1 }:=⟨rfl,rfl,rfl,Nat.le_refl _,fun _ _=>rfl⟩
          exact DN hG (Gv hS) (Q := Ends E (.normal,s1)) h1' hd (fun Γ a w h=>.normal h) h2 (hb.inv hI)
        · cases hc; cases h
  | seq x y ihx ihy =>
    intro ac s r Γ a w hc h hI
    simp only [QU] at hc
    split at hc <;> first | (cases hc; done) | skip
    rename_i ax ay hx hy
    obtain rfl:=Option.some.inj hc
    simp only [ZA] at h
    refine Go.wp_seq ?_
    split at h
    · rename_i s1 h1
      refine Go.wp_mono (ihx hx h1 hI) fun e a' w' he=>?_
      obtain ⟨k1,Γ',i1⟩:=he
      cases e <;> first | exact k1.elim | skip
      exact ihy hy h i1
    · rename_i hne
      refine Go.wp_mono (ihx hx h hI) fun e a' w' he=>?_
      cases e <;> first | exact he | skip
      obtain ⟨k1,_⟩:=he
      obtain ⟨q,s1⟩:=r
      cases q <;> first | exact k1.elim | skip
      exact absurd h (hne s1)
  | cond c x y ihx ihy =>
    intro ac s r Γ a w hc h hI
    simp only [QU] at hc
    split at hc <;> first | (cases hc; done) | skip
    rename_i c' ax ay hcc hx hy
    obtain rfl:=Option.some.inj hc
    simp only [ZA] at h
    split at h <;> first | (cases h; done) | skip
    · rename_i hb
      have k:=(Zh hG hI hcc hb).1
      generalize hq:a.eval c=q at k
      cases k
      exact Go.wp_cond_true hq (ihx hx h hI)
    · rename_i hb
      have k:=(Zh hG hI hcc hb).1
      generalize hq:a.eval c=q at k
      cases k
      exact Go.wp_cond_false hq (ihy hy h hI)
  | block id c ih =>
    intro ac s r Γ a w hc h hI
    simp only [QU] at hc
    obtain ⟨ax,hx,rfl⟩:=Option.map_eq_some_iff.1 hc
    simp only [ZA] at h
    refine Go.wp_block ?_
    split at h
    · rename_i i s1 h1
      split at h
      · rename_i hi
        obtain rfl:=Option.some.inj h
        refine Go.wp_mono (ih hx h1 hI) fun e a' w' he=>?_
        obtain ⟨k1,Γ',i1⟩:=he
        cases e <;> first | exact k1.elim | skip
        rename_i j
        simp only [Exit.inBlock]
        rw [if_pos (by rw [← hi]; exact (show i=j from k1).symm)]
        exact .normal i1
      · rename_i hi
        obtain rfl:=Option.some.inj h
        refine Go.wp_mono (ih hx h1 hI) fun e a' w' he=>?_
        obtain ⟨k1,Γ',i1⟩:=he
        cases e <;> first | exact k1.elim | skip
        rename_i j
        simp only [Exit.inBlock]
        rw [if_neg (by rw [← (show i=j from k1)]; exact hi)]
        exact ⟨k1,Γ',i1⟩
    · rename_i hne
      refine Go.wp_mono (ih hx h hI) fun e a' w' he=>?_
      cases e <;> first | exact he | skip
      obtain ⟨k1,_⟩:=he
      obtain ⟨q,s1⟩:=r
      cases q <;> first | exact k1.elim | skip
      exact absurd h (hne _ s1)
  | loop c ih =>
    intro ac s r Γ a w hc h hI
    simp only [QU] at hc
    obtain ⟨ax,hx,rfl⟩:=Option.map_eq_some_iff.1 hc
    simp only [ZA] at h
    exact wp_loop_rounds L (Bq (fun h1 h2=>ih hx h1 h2) L h hI)
  | scope c ih =>
    intro ac s r Γ a w hc h hI
    simp only [QU] at hc
    obtain ⟨ax,hx,rfl⟩:=Option.map_eq_some_iff.1 hc
    simp only [ZA] at h
    refine Go.wp_scope_straight (Go.wp_mono (ih hx h hI) fun e a' w' he=>?_)
    cases e <;> first | exact he | skip
    obtain ⟨k1,_⟩:=he
    obtain ⟨q,s1⟩:=r
    cases q <;> exact k1.elim
  | exit id =>
    intro ac s r Γ a w hc h hI
    cases hc; cases h
    exact Go.wp_exit ⟨rfl,Γ,hI⟩
  | ret =>
    intro ac s r Γ a w hc h hI
    cases hc; cases h
    exact Go.wp_ret ⟨trivial,Γ,hI⟩
  | label l =>
    intro ac s r Γ a w hc h hI
    cases hc; cases h
    exact Go.wp_label (.normal hI)
  | _ =>
    intro ac s r Γ a w hc h
    cases hc; cases h
end
section
variable {G:Nat→Option (List AV)}{call:FuncId→List AV→List Zf→Option (AV×List Zf×Eff)}
theorem Ll (L:Nat):∀ {c:ZG} {s:Za} {r:VI×Za},ZA G call L c s=some r→r.2.bs=s.bs:=by
  intro c
  induction c with
  | skip=>intro s r h; cases h; rfl
  | region draw ops =>
    intro s r h
    cases draw with
    | false =>
      simp only [ZA] at h
      obtain ⟨s1,h1,rfl⟩:=Option.map_eq_some_iff.1 h
      exact QG h1
    | true =>
      simp only [ZA] at h
      obtain ⟨s1,h1,rfl⟩:=Option.map_eq_some_iff.1 h
      exact QG h1
  | regionB ops =>
    intro s r h
    simp only [ZA] at h
    obtain ⟨s1,h1,rfl⟩:=Option.map_eq_some_iff.1 h
    exact QG h1
  | seq x y ihx ihy =>
    intro s r h
    simp only [ZA] at h
    split at h
    · rename_i s1 h1
      rw [ihy h]; exact ihx h1
    · exact ihx h
  | cond c x y ihx ihy =>
    intro s r h
    simp only [ZA] at h
    split at h <;> first | (cases h; done) | skip
    · exact ihx h
    · exact ihy h
  | block id c ih =>
    intro s r h
    simp only [ZA] at h
    split at h
    · rename_i i s1 h1
      have:=ih h1
      split at h <;> (obtain rfl:=Option.some.inj h; exact this)
    · exact ih h
  | loop c ih =>
    intro s r h
    simp only [ZA] at h
    exact Bo ih L h
  | scope c ih=>intro s r h; simp only [ZA] at h; exact ih h
  | exit id=>intro s r h; cases h; rfl
  | ret=>intro s r h; cases h; rfl
  | bad=>intro s r h; cases h
end
def UX (C:Cfg)(S:List Nat)(n:Nat)(fn:AFn)(args:List AV)(hp:List Zf):Option (AV×List Zf×Eff) :=
  match ZA C.G (Vh S (Zb C n)) C.L fn.code ⟨args ++ List.replicate (fn.ntmps - args.length) .undef,hp,none,hp.length⟩ with
  | some (.exit _,_)=>none
  | some (_,s)=>match Q7 s fn.results with
    | some v=>some (if fn.keep then (v.nm,s.hp,s.ef) else finish v s hp)
    | none=>none
  | none=>none
theorem P9 {P:Program}{W0:World}{C:Cfg}{S:List Nat}(h:CfgOk P W0 C)(n:Nat){f:FuncId}{fn:Func}{takes:FuncId→List Nat}{af:AFn}(hf:P.funcs[f]? = some fn)(hname:(fn.name == "runtime.NumGoroutine")=false)(hcf:ZdT P takes fn=some af) :
    ZB P W0 fun g args hp=>if g=f then UX C S n af args hp else none:=by
  intro g args hp v hp' e hc Γ w xs hr ht hs hx
  replace hc:(if g=f then UX C S n af args hp else none)=some (v,hp',e):=hc
  split at hc
  case isFalse=>cases hc
  rename_i hgf
  subst hgf
  have ih:=Ff S (X4 h n)
  unfold UX at hc
  unfold ZdT at hcf
  split at hcf <;> first | (cases hcf; done) | skip
  rename_i c rs hb hrs
  obtain ⟨ac,hac,rfl⟩:=Option.map_eq_some_iff.1 hcf
  split at hc
  · cases hc
  · rename_i x s hne hev
    split at hc <;> first | (cases hc; done) | skip
    rename_i u hu
    have hfin:=Option.some.inj hc
    refine ⟨GV hf hname hb xs w,?_⟩
    have hbs:s.bs=hp.length:=Ll C.L hev
    have hI:Inv ⟨W0,Γ,w⟩ ⟨args ++ List.replicate (fn.ntmps - args.length) .undef,hp,none,hp.length⟩ Γ { tmps := xs ++ Array.replicate (fn.ntmps - xs.size) Go.undef,defers := [] } w:=by
      have get:∀ (t:Nat) (y:AV),(args ++ List.replicate (fn.ntmps - args.length) AV.undef)[t]? = some y→(args[t]? = some y∧(xs ++ Array.replicate (fn.ntmps - xs.size) Go.undef).getD t Go.undef=xs.getD t Go.undef)∨(y=.undef∧(xs ++ Array.replicate (fn.ntmps - xs.size) Go.undef).getD t Go.undef=Go.undef):=by
        intro t y hy
        rw [List.getElem?_append] at hy
        split at hy
        · rename_i hlt
          refine .inl ⟨hy,?_⟩
          rw [Array.getD_eq_getD_getElem?,Array.getD_eq_getD_getElem?,Array.getElem?_append_left (by omega)]
        · rename_i hge
          have hm:=List.mem_of_getElem? hy
          have:=List.eq_of_mem_replicate hm
          refine .inr ⟨this,?_⟩
          have hlt:=Zg hy
          simp only [List.length_replicate] at hlt
          rw [Array.getD_eq_getD_getElem?,Array.getElem?_append_right (by omega),Array.getElem?_replicate,if_pos (by omega)]
          rfl
      refine ⟨rfl,⟨by simp [hs],fun t y hy=>?_,fun t y hy=>?_⟩,hr,.refl _ _ _,fun b g hb=>hr.lt b g hb,fun b m g i hb=>ht.cell b m g i hb,Nat.le_refl _,fun _ _ hb _=>hb⟩
      · rcases get t y hy with ⟨h1,h2⟩ | ⟨rfl,h2⟩
        · rw [h2]; exact (hx t y h1).1
        · rw [h2]; exact .undef
      · rcases get t y hy with ⟨h1,h2⟩ | ⟨rfl,h2⟩
        · rw [h2]; exact (hx t y h1).2
        · exact .of_ne (by simp)
    have hw:=Ad h.mixed h.globals ih C.L hac hev hI
    refine calls_of_wp hf hb (Go.wp_mono hw fun en a' w' he=>?_)
    obtain ⟨k1,Γ',i1⟩:=he
    have fin:a'.defers=[]∧∃ cv,(results fn a'.tmps).run P w'=.ok cv w'∧∃ v',Ending.returned cv=.returned v'∧∃ Γ',RW W0 Γ' w' hp'∧Rep Γ' w' v v'∧OwnAt Γ' w' .res v v'∧Frame Γ w Γ' w' e∧hp.length≤hp'.length∧∀ b g,Γ' b=.own g→g < hp.length→Γ b=.own g:=by
      obtain ⟨cv,Γ2,q1,q2,q3,q4,q5,q6⟩:=Zaw i1 hrs hu
      obtain ⟨Γ3,p1,p2,p3,p4,p5⟩:=He hr hbs (by rw [hbs]; have:=i1.le; simpa [hbs] using this) (fun b m g i hb=>by rw [hbs]; exact ht.cell b m g i hb) q2 q3 q6 q4 q5 hfin
      exact ⟨i1.defers,cv,q1,cv,rfl,Γ3,p1,p2,p3,p4,p5⟩
    cases x with
    | exit i=>exact (hne i rfl).elim
    | normal=>cases en <;> first | exact k1.elim | exact fin
    | ret=>cases en <;> first | exact k1.elim | exact fin
  · cases hc
end Go.Proofs.YtdchnngpjjcchaaDoor.Abs
end
section
namespace Go.Proofs.YtdchnngpjjcchaaDoor
open Go Go.RowKit Go.Proofs.YtdchnngpjjcchaaDoor.Abs
set_option maxRecDepth 100000
def Zdj (r:YS):Value:=.agg #[.int .i64 r.Time,.int .i64 r.Site,.int .i64 r.What,.int .i64 r.Proc,.int .i64 r.Index,.int .i64 r.Value]
theorem ZbE (Γ:Zm)(w:World)(r:YS):Rep Γ w (.agg (Yf r)) (Zdj r):=by
  refine .agg _ _ rfl (fun j c h=>?_) (fun j k q h=>?_) (fun j c h=>?_)
  all_goals
    have hm:=(List.getElem?_eq_some_iff.1 h).1
    simp only [W9] at hm
    match j,hm,h with
    | 0,_,h=>first | (cases h; exact .int _ _) | (cases h; rfl) | cases h
    | 1,_,h=>first | (cases h; exact .int _ _) | (cases h; rfl) | cases h
    | 2,_,h=>first | (cases h; exact .int _ _) | (cases h; rfl) | cases h
    | 3,_,h=>first | (cases h; exact .int _ _) | (cases h; rfl) | cases h
    | 4,_,h=>first | (cases h; exact .int _ _) | (cases h; rfl) | cases h
    | 5,_,h=>first | (cases h; exact .int _ _) | (cases h; rfl) | cases h
theorem Dp {C:Cfg}(hC:JD C)(N:Nat)(hN:1≤N)(hp:HP):Zb C N Vz [] hp=some (.own 1 (strs ([] :: Yu)),hp,none):=by
  obtain ⟨k,rfl,hk⟩:=fuel (C := C) (d := 0) hN
  exact TY (hC.T _ _ rfl) rfl
def Zdb:List ZN:=[⟨some 6,.fa 0 (.tmp 1),none⟩,⟨some 7,.ldc (.tmp 6),none⟩,⟨some 8,.call (.const (.fn 33 [] [])) [.inr (.tmp 7)],none⟩,⟨some 9,.bin .add .prim (.tmp 8) (.const (.str [32])),none⟩,⟨some 10,.fa 1 (.tmp 1),none⟩,⟨some 11,.ldc (.tmp 10),none⟩,⟨some 12,.call (.const (.fn 33 [] [])) [.inr (.tmp 11)],none⟩,⟨some 13,.bin .add .prim (.tmp 9) (.tmp 12),none⟩,⟨some 14,.bin .add .prim (.tmp 13) (.const (.str [32])),none⟩,⟨some 15,.call (.const (.fn 26 [] [])) [],none⟩,⟨some 16,.fa 2 (.tmp 1),none⟩,⟨some 17,.ldc (.tmp 16),none⟩,⟨some 18,.ia (.slice 1) (.tmp 15) (.tmp 17),none⟩,⟨some 19,.ldc (.tmp 18),none⟩,⟨some 20,.bin .add .prim (.tmp 14) (.tmp 19),none⟩,⟨some 21,.bin .add .prim (.tmp 20) (.const (.str [32])),none⟩,⟨some 22,.fa 3 (.tmp 1),none⟩,⟨some 23,.ldc (.tmp 22),none⟩,⟨some 24,.call (.const (.fn 33 [] [])) [.inr (.tmp 23)],none⟩,⟨some 25,.bin .add .prim (.tmp 21) (.tmp 24),none⟩,⟨some 26,.bin .add .prim (.tmp 25) (.const (.str [32])),none⟩,⟨some 27,.fa 4 (.tmp 1),none⟩,⟨some 28,.ldc (.tmp 27),none⟩,⟨some 29,.call (.const (.fn 33 [] [])) [.inr (.tmp 28)],none⟩,⟨some 30,.bin .add .prim (.tmp 26) (.tmp 29),none⟩,⟨some 31,.bin .add .prim (.tmp 30) (.const (.str [32])),none⟩,⟨some 32,.fa 5 (.tmp 1),none⟩,⟨some 33,.ldc (.tmp 32),none⟩,⟨some 34,.call (.const (.fn 33 [] [])) [.inr (.tmp 33)],none⟩,⟨some 35,.bin .add .prim (.tmp 31) (.tmp 34),none⟩,⟨some 2,.take 35,none⟩]
def a15:AFn:=⟨36,[.tmp 2],.seq (.region false [⟨some 1,.box 24 6 (.tmp 0),none⟩,⟨some 2,.mv (.const (.str [])),none⟩]) (.seq (.seq (.region false [⟨some 3,.lda 6 (.tmp 1),none⟩,⟨some 4,.call (.const (.fn 13 [] [])) [.inr (.tmp 3)],none⟩,⟨some 5,.bin .neq .prim (.tmp 4) (.const (.int .i64 0)),none⟩]) (.cond (.tmp 5) (.seq (.region false [⟨some 2,.mv (.const (.str [])),none⟩]) .ret) .skip)) (.seq (.region true Zdb) .ret)),false⟩
theorem t15:ZdT Tryd.prog (fun _=>[]) Tryd.f15=some a15:=by kernel_rfl
def oQ (f:FuncId)(args:List AV):Option AV :=
  if f=Oc then (match args with
    | [.int .i64 n]=>if -9223372036854775808≤n∧n≤9223372036854775807 then some (.str (Lib.itoa n)) else none
    | _=>none) else none
theorem Zeo {W0:World}:∀ f args v,oQ f args=some v→Gh Tryd.prog W0 f args v:=by
  intro f args v h
  unfold oQ at h
  split at h
  · rename_i e; subst e
    split at h
    · rename_i n
      split at h
      · rename_i hs
        cases h
        refine ⟨fun _ _ h=>(by cases h),fun Γ w xs hb hΓ hsz hx=>?_⟩
        obtain ⟨x,rfl⟩:=xs1 hsz
        obtain rfl:x=_:=Ih (hx 0 _ rfl)
        refine Yv Tryd.func33 (by kernel_rfl) rfl ((Num.c_rtext _ n w (Nat.le_refl _) hs.1 hs.2).mono ?_)
        rintro e w' ⟨rfl,rfl⟩
        exact ⟨_,rfl,Below.refl _ _,.str _⟩
      · cases h
    · cases h
  · cases h
def CQ:Cfg:=⟨fun _=>none,cT,fun f args hp=>(oQ f args).map fun v=>(v,hp,none),9223372036854775808⟩
theorem ZeD:JD CQ:=⟨fun _ _ h=>h,Nat.le_refl _⟩
theorem ZdG (W0:World):CfgOk Tryd.prog W0 CQ where
  mixed:=by kernel_rfl
  globals:=fun g cs h=>by cases h
  table:=tT
  oracle:=Jk Zeo
theorem Zcp (n:Int)(h1:-9223372036854775808≤n)(h2:n≤9223372036854775807)(N:Nat)(hp:HP):Zb CQ (N + 1) 33 [.int .i64 n] hp=some (.str (Lib.itoa n),hp,none):=by
  have e1:CQ.T 33=none:=by kernel_rfl
  have e2:CQ.O 33 [.int .i64 n] hp=some (.str (Lib.itoa n),hp,none):=by
    show (oQ 33 [.int .i64 n]).map _=_
    unfold oQ
    rw [if_pos rfl]
    simp only [h1,h2,and_self,if_true,Option.map_some]
  simp only [Zb,e1,e2]
theorem ZdY {call:FuncId→List AV→List Zf→Option (AV×List Zf×Eff)}{f:FuncId}{xs:List AV}{hp:List Zf}{s:List UInt8}(h:call f xs hp=some (.str s,hp,none)):Wh (Vh [] call) f xs hp=some (.str s,hp,none):=by
  have:Vh [] call f xs hp=call f xs hp:=rfl
  simp only [Wh,this,h]
  rfl
theorem ZdX {call:FuncId→List AV→List Zf→Option (AV×List Zf×Eff)}{f:FuncId}{xs:List AV}{hp:List Zf}{k:Nat}{r:List (List AV)}(h:call f xs hp=some (.own k r,hp,none)):Wh (Vh [] call) f xs hp=some (.own k r,hp,none):=by
  have:Vh [] call f xs hp=call f xs hp:=rfl
  simp only [Wh,this,h]
  rfl
theorem Zee (r:YS)(ho:QT r):UX CQ [] 3 a15 [.agg (Yf r)] []=some (.str (textS r),[],none):=by
  have ck:∀ hp,Vh [] (Zb CQ 3) 13 [.agg (Yf r)] hp=some (.int .i64 (U8 r),hp,none):=fun hp=>Tu ZeD 3 (by omega) hp r
  have wd:∀ hp,Wh (Vh [] (Zb CQ 3)) 26 [] hp=some (.own 1 (strs ([] :: Yu)),hp,none):=fun hp=>ZdX (Dp ZeD 3 (by omega) hp)
  have nm:∀ n,-9223372036854775808≤n→n≤9223372036854775807→∀ hp,Wh (Vh [] (Zb CQ 3)) 33 [.int .i64 n] hp=some (.str (Lib.itoa n),hp,none):=fun n h1 h2 hp=>ZdY (Zcp n h1 h2 2 hp)
  have n0:=nm _ ho.Time.1 ho.Time.2
  have n1:=nm _ ho.Site.1 ho.Site.2
  have n3:=nm _ ho.Proc.1 ho.Proc.2
  have n4:=nm _ ho.Index.1 ho.Index.2
  have n5:=nm _ ho.Value.1 ho.Value.2
  clear nm
  have hr:Yf r=[.int .i64 r.Time,.int .i64 r.Site,.int .i64 r.What,.int .i64 r.Proc,.int .i64 r.Index,.int .i64 r.Value]:=rfl
  rw [hr] at ck ⊢
  unfold UX
  have hl:([.agg [.int .i64 r.Time,.int .i64 r.Site,.int .i64 r.What,.int .i64 r.Proc,.int .i64 r.Index,.int .i64 r.Value]]:List AV) ++ List.replicate (a15.ntmps - 1) .undef=[.agg [.int .i64 r.Time,.int .i64 r.Site,.int .i64 r.What,.int .i64 r.Proc,.int .i64 r.Index,.int .i64 r.Value],.undef,.undef,.undef,.undef,.undef,.undef,.undef,.undef,.undef,.undef,.undef,.undef,.undef,.undef,.undef,.undef,.undef,.undef,.undef,.undef,.undef,.undef,.undef,.undef,.undef,.undef,.undef,.undef,.undef,.undef,.undef,.undef,.undef,.undef,.undef]:=rfl
  simp only [List.length_cons,List.length_nil,Nat.zero_add,hl]
  have hL:CQ.L=9223372036854775808:=rfl
  by_cases h:U8 r=0
  · obtain ⟨z1,z2⟩:=U1 h
    have b1:(U8 r != 0)=false:=by rw [h]; rfl
    have hw:([] :: Yu)[r.What.toNat]? = some (XB r.What):=by
      have e1:r.What.toNat=(r.What - 1).toNat + 1:=by omega
      have hl:Yu.length=18:=rfl
      rw [e1,List.getElem?_cons_succ]
      unfold XB
      rw [List.getD_eq_getElem?_getD,List.getElem?_eq_getElem (by omega)]; rfl
    have ia:Yn (.slice 1) (.lst 1 (strs ([] :: Yu))) (.int .i64 r.What)=some (.ref [.str (XB r.What)]):=by
      simp only [Yn]
      rw [if_pos ⟨trivial,by omega⟩,strs,List.getElem?_map,hw]; rfl
    have st:∀ x y:List UInt8,x.length + y.length≤4611686018427387904→IZ .add x y=some (.str (x ++ y)):=fun x y h=>by simp only [IZ]; rw [if_pos h]
    have l1:=Lib.itoa_length_le r.Time ho.Time.1 ho.Time.2
    have l2:=Lib.itoa_length_le r.Site ho.Site.1 ho.Site.2
    have l3:=Lib.itoa_length_le r.Proc ho.Proc.1 ho.Proc.2
    have l4:=Lib.itoa_length_le r.Index ho.Index.1 ho.Index.2
    have l5:=Lib.itoa_length_le r.Value ho.Value.1 ho.Value.2
    have l6:=Pj r.What
    have ht:textS r=Lib.itoa r.Time ++ [32] ++ Lib.itoa r.Site ++ [32] ++ XB r.What ++ [32] ++ Lib.itoa r.Proc ++ [32] ++ Lib.itoa r.Index ++ [32] ++ Lib.itoa r.Value:=by
      unfold textS
      rw [if_neg (by simpa using h),Zbc]
      simp only [List.append_assoc]
    generalize Lib.itoa r.Time=s0 at *
    generalize Lib.itoa r.Site=s1 at *
    generalize Lib.itoa r.Proc=s3 at *
    generalize Lib.itoa r.Index=s4 at *
    generalize Lib.itoa r.Value=s5 at *
    generalize XB r.What=s2 at *
    have a0:=st s0 [32] (by simp; omega)
    have a1:=st (s0 ++ [32]) s1 (by simp; omega)
    have a2:=st (s0 ++ [32] ++ s1) [32] (by simp; omega)
    have a3:=st (s0 ++ [32] ++ s1 ++ [32]) s2 (by simp; omega)
    have a4:=st (s0 ++ [32] ++ s1 ++ [32] ++ s2) [32] (by simp; omega)
    have a5:=st (s0 ++ [32] ++ s1 ++ [32] ++ s2 ++ [32]) s3 (by simp; omega)
    have a6:=st (s0 ++ [32] ++ s1 ++ [32] ++ s2 ++ [32] ++ s3) [32] (by simp; omega)
    have a7:=st (s0 ++ [32] ++ s1 ++ [32] ++ s2 ++ [32] ++ s3 ++ [32]) s4 (by simp; omega)
    have a8:=st (s0 ++ [32] ++ s1 ++ [32] ++ s2 ++ [32] ++ s3 ++ [32] ++ s4) [32] (by simp; omega)
    have a9:=st (s0 ++ [32] ++ s1 ++ [32] ++ s2 ++ [32] ++ s3 ++ [32] ++ s4 ++ [32]) s5 (by simp; omega)
    clear st hw l1 l2 l3 l4 l5 l6 ho z1 z2
    rw [ht]
    generalize Zb CQ 3=call at *
    simp only [a15,Zdb,ZA,Zy,Zo,Yt,Zc,opnd,opnds,YH,List.getElem?_cons_zero,List.getElem?_cons_succ,Option.map_some,AV.ro,AV.cells,AV.laid,Za.put,Za.after,List.set_cons_zero,List.set_cons_succ,List.length_cons,List.length_nil,Nat.zero_add,Nat.reduceAdd,and_self,if_true,List.nil_append,List.append_nil,List.map_nil,ZJ,Ym,Zu,ck,Zd,Qi,Wn,Bool.false_eq_true,if_false,b1,n0,n1,wd,ia,n3,n4,n5,a0,a1,a2,a3,a4,a5,a6,a7,a8,a9,Za.let_,Nat.le_refl,List.take,List.drop,List.map_cons,Q7,JC,finish,frz,JU,PH,Option.bind_some,AV.nm]
    rfl
  · have b1:(U8 r != 0)=true:=by simpa using h
    have ht:textS r=[]:=by unfold textS; rw [if_pos h]
    rw [ht]
    generalize Zb CQ 3=call at *
    simp only [a15,ZA,Zy,Zo,Yt,Zc,opnd,opnds,YH,List.getElem?_cons_zero,List.getElem?_cons_succ,Option.map_some,AV.ro,AV.cells,AV.laid,Za.put,Za.after,List.set_cons_zero,List.set_cons_succ,List.length_cons,List.length_nil,Nat.zero_add,Nat.reduceAdd,and_self,if_true,List.nil_append,List.append_nil,List.map_nil,ZJ,Ym,Zu,ck,Zd,Qi,Wn,Bool.false_eq_true,if_false,b1,Za.let_,Nat.le_refl,List.take,List.drop,List.map_cons,Q7,JC,finish,frz,JU,PH,AV.nm]
theorem N7 (r:YS)(ho:QT r)(w:World):Calls Tryd.prog 15 #[Zdj r] w fun e w'=>e=.returned (.string ⟨(textS r).toArray⟩)∧Below w.heap.size w w':=by
  have he:(if 15=15 then UX CQ [] 3 a15 [.agg (Yf r)] [] else none)=some (.str (textS r),[],none):=by rw [if_pos rfl]; exact Zee r ho
  obtain ⟨_,h⟩:=P9 (S := []) (ZdG w) 3 (f := 15) Tryd.func15 (by kernel_rfl) t15 15 [.agg (Yf r)] [] _ _ _ he still w #[Zdj r] (ZbG (.refl _ _)) KA rfl fun j x hx=>(by match j,hx with | 0,hx=>(cases hx; exact ⟨ZbE _ _ r,.of_ne fun _ _ h=>(by cases h)⟩))
  refine h.mono fun en W' ⟨cv,hv',Γ',r1,r2,_,r4,_⟩=>?_
  subst hv'
  cases r2
  exact ⟨rfl,r4.os,r4.tape,r4.output,r4.size,fun b hb=>(r4.keep b hb trivial).2⟩
end Go.Proofs.YtdchnngpjjcchaaDoor
end
