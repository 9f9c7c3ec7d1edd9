import Derived.Shelf.Strings.Builder1
import Derived.Shelf.Strings.Builder2
import Derived.Shelf.Strings.OnBuilder
import Derived.Shelf.Strings.BuilderF
import Derived.Shelf.Strings.BuilderK
import Derived.Shelf.Utf8.RuneCount
import Derived.Shelf.Strings.Builder2Cap
import Derived.Shelf.Strconv.Atoi
import Derived.Shelf.Strconv.Itoa0
import Derived.Shelf.Strconv.Itoa1
import Derived.Shelf.LaysM
import Derived.Shelf.Strconv.Itoa2
import Derived.Shelf.Strconv.Itoa3
import Derived.Shelf.Strconv.AtoiErrFast
import Derived.Shelf.Strconv.ParseIntEmpty
import Derived.Shelf.Strconv.AtoiFail
import Derived.Shelf.Strconv.Clone
import Derived.Shelf.Strconv.SyntaxError
import Derived.Shelf.LaysC
import Derived.Shelf.Strconv.ToError
import Derived.Shelf.Strconv.AtoiErr
import Derived.Shelf.Strconv.ErrVar
import Derived.Shelf.Strconv.Lower
import Derived.Shelf.Strconv.ParseUint10
import Derived.Shelf.Strconv.ParseUint10Empty
import Derived.Shelf.Strconv.ParseUint10Any
import Derived.Shelf.Strconv.ParseInt10
import Derived.Shelf.Strconv.AtoiLong
import Derived.Shelf.Strconv.AtoiInnerAll
import Derived.Shelf.Strconv.RangeError
import Derived.Shelf.Strconv.ToErrorRange
import Derived.Shelf.Strconv.AtoiAll
import Derived.Shelf.Strconv.ErrVarAll
import Derived.Shelf.Strings.Search1
import Derived.Shelf.Strings.Search2
import Derived.Shelf.Strings.Search3
import Derived.Shelf.Strings.Count
import Derived.Shelf.Strings.Shaped
import Derived.Shelf.Strings.Split
import Derived.Shelf.Strings.SplitShaped
import Derived.Shelf.Unicode.Decode
import Derived.Shelf.Strings.RuneCount
import Derived.Shelf.Strings.Explode
import Derived.Shelf.Unicode.DecodeSlow
import Derived.Shelf.Unicode.DecodeAny
import Derived.Shelf.Strings.BuilderCap
import Derived.Shelf.Bytes.SlEqualAll
import Derived.Shelf.Bytes.Small
import Derived.Test.YtdchnngpjjcchaaDoorProg
import Derived.Test.YtdchnngpjjcchaaDoorRows
import Derived.WalkKit
import Derived.Handy
import Derived.Lib.Hide
import Derived.BigQuiet
import Derived.Deep.QuietTactic
import Derived.WalkSmall
import Derived.Lib.ItoaMem
import Derived.Lib.ItoaLen
import Derived.Lib.LaidTab
import Derived.Lib.ItoaNum
import Derived.Test.YtdchnngpjjcchaaDoorJ5
set_option linter.all false
section
namespace Go.Proofs
open Go.Shelf
def Tryd.lays156_ren:Go.Shelf.Ren:=⟨fun | 156=>31 | 165=>43 | 166=>44 | 169=>45 | 240=>58 | 241=>59 | 276=>72 | 277=>73 | n=>n,fun | 31=>45 | 9=>9 | 3=>3 | 4=>4 | 0=>0 | 20=>20 | 72=>76 | 76=>72 | 70=>74 | 37=>34 | 75=>71 | 127=>88 | 164=>101 | 5=>5 | 80=>78 | n=>n,fun | n=>n⟩
theorem Tryd.lays156:Go.Proofs.Lays.n156 Tryd.prog Tryd.lays156_ren:={
  mixed := by kernel_rfl
  f156:=Tryd.func31.trans (congrArg some (by kernel_rfl))
  f165:=Tryd.func43.trans (congrArg some (by kernel_rfl))
  f166:=Tryd.func44.trans (congrArg some (by kernel_rfl))
  f169:=Tryd.func45.trans (congrArg some (by kernel_rfl))
  f240:=Tryd.func58.trans (congrArg some (by kernel_rfl))
  f241:=Tryd.func59.trans (congrArg some (by kernel_rfl))
  f276:=Tryd.func72.trans (congrArg some (by kernel_rfl))
  f277:=Tryd.func73.trans (congrArg some (by kernel_rfl))
  t0:=Tryd.underlying0
  a0:=Tryd.isAgg0
  z0:=Tryd.sizeOf0
  v0:=Tryd.zeroValue0
  t3:=Tryd.underlying3
  a3:=Tryd.isAgg3
  z3:=Tryd.sizeOf3
  v3:=Tryd.zeroValue3
  t4:=Tryd.underlying4
  a4:=Tryd.isAgg4
  z4:=Tryd.sizeOf4
  v4:=Tryd.zeroValue4
  t9:=Tryd.underlying9
  a9:=Tryd.isAgg9
  z9:=Tryd.sizeOf9
  v9:=Tryd.zeroValue9
  t20:=Tryd.underlying20
  a20:=Tryd.isAgg20
  z20:=Tryd.sizeOf20
  v20:=Tryd.zeroValue20
  t31:=Tryd.underlying45
  a31:=Tryd.isAgg45
  z31:=Tryd.sizeOf45
  v31:=Tryd.zeroValue45
  t37:=Tryd.underlying34
  a37:=Tryd.isAgg34
  z37:=Tryd.sizeOf34
  v37:=Tryd.zeroValue34
  t70:=Tryd.underlying74
  a70:=Tryd.isAgg74
  z70:=Tryd.sizeOf74
  v70:=Tryd.zeroValue74
  t72:=Tryd.underlying76
  a72:=Tryd.isAgg76
  z72:=Tryd.sizeOf76
  v72:=Tryd.zeroValue76
  t75:=Tryd.underlying71
  a75:=Tryd.isAgg71
  z75:=Tryd.sizeOf71
  v75:=Tryd.zeroValue71
  t76:=Tryd.underlying72
  a76:=Tryd.isAgg72
  z76:=Tryd.sizeOf72
  v76:=Tryd.zeroValue72
  t127:=Tryd.underlying88
  a127:=Tryd.isAgg88
  z127:=Tryd.sizeOf88
  v127:=Tryd.zeroValue88
  t164:=Tryd.underlying101
  a164:=Tryd.isAgg101
  z164:=Tryd.sizeOf101
  v164:=Tryd.zeroValue101 }
theorem Tryd.Builder_Extra_156:Builder.Extra Tryd.prog Tryd.lays156_ren:={
  sizeBuilder := by kernel_rfl
  liesBuilder:=by kernel_rfl
  t5:=Tryd.underlying5
  a5:=Tryd.isAgg5
  z5:=Tryd.sizeOf5
  v5:=Tryd.zeroValue5
  infoByte:=by kernel_rfl
  cellsByte:=by kernel_rfl
  sizeByte:=by kernel_rfl
  neB5:=by decide }
open Go.RowKit in
theorem Tryd.strings_Join (bk o c:Nat) (xs:List ByteArray) (sep:ByteArray) (w:World) (hcells:∀ (j:Nat) x,xs[j]? = some x→w.cell? ⟨bk,o + j,none⟩=some (.string x)) (hbk:bk < w.heap.size) (hN:xs.length≤140737488355328) (hcap:xs.length≤c) (hlen:(Lib.join (xs.map (·.data.toList)) sep.data.toList).length≤140737488355328) :
    Calls Tryd.prog 31 #[.slice (some ⟨bk,o,none⟩) xs.length c,.string sep] w fun e w'=>e=.returned (.string ⟨(Lib.join (xs.map (·.data.toList)) sep.data.toList).toArray⟩)∧Below w.heap.size w w':=Any.strings_Join Tryd.lays156 Tryd.Builder_Extra_156 bk o c xs sep w hcells hbk hN hcap hlen
def Tryd.laysM171_ren:Go.Shelf.Ren:=⟨fun | 171=>46 | 243=>60 | 246=>74 | 283=>83 | 284=>84 | 285=>85 | 286=>86 | 129=>92 | 317=>91 | 318=>93 | 319=>94 | 320=>95 | 337=>96 | 338=>97 | n=>n,fun | 3=>3 | 9=>9 | 2=>2 | 4=>4 | 171=>111 | 0=>0 | 53=>82 | 37=>34 | 5=>5 | 173=>113 | 212=>128 | 51=>119 | 20=>20 | 213=>129 | 46=>90 | 232=>132 | 233=>133 | n=>n,fun | 17=>6 | 18=>7 | 19=>8 | n=>n⟩
theorem Tryd.laysM171:Go.Proofs.LaysM.n171 Tryd.prog Tryd.laysM171_ren:={
  mixed := by kernel_rfl
  f129:=Tryd.func92.trans (congrArg some (by kernel_rfl))
  f171:=Tryd.func46.trans (congrArg some (by kernel_rfl))
  f243:=Tryd.func60.trans (congrArg some (by kernel_rfl))
  f246:=Tryd.func74.trans (congrArg some (by kernel_rfl))
  f283:=Tryd.func83.trans (congrArg some (by kernel_rfl))
  f284:=Tryd.func84.trans (congrArg some (by kernel_rfl))
  f285:=Tryd.func85.trans (congrArg some (by kernel_rfl))
  f286:=Tryd.func86.trans (congrArg some (by kernel_rfl))
  f317:=Tryd.func91.trans (congrArg some (by kernel_rfl))
  f318:=Tryd.func93.trans (congrArg some (by kernel_rfl))
  f319:=Tryd.func94.trans (congrArg some (by kernel_rfl))
  f320:=Tryd.func95.trans (congrArg some (by kernel_rfl))
  f337:=Tryd.func96.trans (congrArg some (by kernel_rfl))
  f338:=Tryd.func97.trans (congrArg some (by kernel_rfl))
  t0:=Tryd.underlying0
  a0:=Tryd.isAgg0
  z0:=Tryd.sizeOf0
  v0:=Tryd.zeroValue0
  t2:=Tryd.underlying2
  a2:=Tryd.isAgg2
  z2:=Tryd.sizeOf2
  v2:=Tryd.zeroValue2
  t3:=Tryd.underlying3
  a3:=Tryd.isAgg3
  z3:=Tryd.sizeOf3
  v3:=Tryd.zeroValue3
  t4:=Tryd.underlying4
  a4:=Tryd.isAgg4
  z4:=Tryd.sizeOf4
  v4:=Tryd.zeroValue4
  t5:=Tryd.underlying5
  a5:=Tryd.isAgg5
  z5:=Tryd.sizeOf5
  v5:=Tryd.zeroValue5
  t9:=Tryd.underlying9
  a9:=Tryd.isAgg9
  z9:=Tryd.sizeOf9
  v9:=Tryd.zeroValue9
  t20:=Tryd.underlying20
  a20:=Tryd.isAgg20
  z20:=Tryd.sizeOf20
  v20:=Tryd.zeroValue20
  t37:=Tryd.underlying34
  a37:=Tryd.isAgg34
  z37:=Tryd.sizeOf34
  v37:=Tryd.zeroValue34
  t46:=Tryd.underlying90
  a46:=Tryd.isAgg90
  z46:=Tryd.sizeOf90
  v46:=Tryd.zeroValue90
  t51:=Tryd.underlying119
  a51:=Tryd.isAgg119
  z51:=Tryd.sizeOf119
  v51:=Tryd.zeroValue119
  t53:=Tryd.underlying82
  a53:=Tryd.isAgg82
  z53:=Tryd.sizeOf82
  v53:=Tryd.zeroValue82
  t171:=Tryd.underlying111
  a171:=Tryd.isAgg111
  z171:=Tryd.sizeOf111
  v171:=Tryd.zeroValue111
  t173:=Tryd.underlying113
  a173:=Tryd.isAgg113
  z173:=Tryd.sizeOf113
  v173:=Tryd.zeroValue113
  t212:=Tryd.underlying128
  a212:=Tryd.isAgg128
  z212:=Tryd.sizeOf128
  v212:=Tryd.zeroValue128
  t213:=Tryd.underlying129
  a213:=Tryd.isAgg129
  z213:=Tryd.sizeOf129
  t232:=Tryd.underlying132
  a232:=Tryd.isAgg132
  z232:=Tryd.sizeOf132
  v232:=Tryd.zeroValue132
  t233:=Tryd.underlying133
  a233:=Tryd.isAgg133
  z233:=Tryd.sizeOf133
  v233:=Tryd.zeroValue133
  g17:=by kernel_rfl
  g18:=by kernel_rfl
  g19:=by kernel_rfl
  i0:=by kernel_rfl
  i2:=by kernel_rfl
  i3:=by kernel_rfl
  i4:=by kernel_rfl
  i5:=by kernel_rfl
  i9:=by kernel_rfl
  i20:=by kernel_rfl
  i37:=by kernel_rfl
  i46:=by kernel_rfl
  i51:=by kernel_rfl
  i53:=by kernel_rfl
  i171:=by kernel_rfl
  i173:=by kernel_rfl
  i212:=by kernel_rfl
  i232:=by kernel_rfl
  i233:=by kernel_rfl
  m17:=by kernel_rfl
  m18:=by kernel_rfl
  m19:=by kernel_rfl }
open Go.RowKit Go.Sort Go.Lib in
theorem Tryd.strconv_Itoa (n:Int) (h0:-9223372036854775808≤n) (h1:n≤9223372036854775807) (w:World) (htab:Lib.TabIs Tryd.prog w "internal/strconv.uint64pow10" .u64 Lib.pow10Tab) :
    Calls Tryd.prog 46 #[.int .i64 n] w fun e w'=>e=.returned (.string ⟨(Lib.itoa n).toArray⟩)∧∃ k os,w'=grow (w.drewN k) os:=Any.strconv_Itoa Tryd.laysM171 n h0 h1 w htab
def Tryd.laysC172_ren:Go.Shelf.Ren:=⟨fun | 172=>42 | 244=>56 | 245=>57 | 247=>67 | 279=>68 | 280=>69 | 281=>70 | 282=>71 | 287=>80 | 316=>81 | 171=>46 | 205=>82 | 321=>89 | 322=>90 | 243=>60 | 246=>74 | 283=>83 | 284=>84 | 285=>85 | 286=>86 | 129=>92 | 317=>91 | 318=>93 | 319=>94 | 320=>95 | 337=>96 | 338=>97 | n=>n,fun | 9=>9 | 3=>3 | 75=>71 | 76=>72 | 4=>4 | 5=>5 | 167=>95 | 37=>34 | 0=>0 | 85=>96 | 2=>2 | 168=>98 | 53=>82 | 175=>105 | 46=>90 | 210=>109 | 127=>88 | 145=>126 | 143=>124 | 21=>21 | 171=>111 | 173=>113 | 212=>128 | 51=>119 | 20=>20 | 213=>129 | 232=>132 | 233=>133 | 80=>78 | n=>n,fun | 15=>2 | 16=>3 | 17=>6 | 18=>7 | 19=>8 | n=>n⟩
theorem Tryd.laysC172:Go.Proofs.LaysC.n172 Tryd.prog Tryd.laysC172_ren:={
  mixed := by kernel_rfl
  f129:=Tryd.func92.trans (congrArg some (by kernel_rfl))
  f171:=Tryd.func46.trans (congrArg some (by kernel_rfl))
  f172:=Tryd.func42.trans (congrArg some (by kernel_rfl))
  f205:=Tryd.func82.trans (congrArg some (by kernel_rfl))
  f243:=Tryd.func60.trans (congrArg some (by kernel_rfl))
  f244:=Tryd.func56.trans (congrArg some (by kernel_rfl))
  f245:=Tryd.func57.trans (congrArg some (by kernel_rfl))
  f246:=Tryd.func74.trans (congrArg some (by kernel_rfl))
  f247:=Tryd.func67.trans (congrArg some (by kernel_rfl))
  f279:=Tryd.func68.trans (congrArg some (by kernel_rfl))
  f280:=Tryd.func69.trans (congrArg some (by kernel_rfl))
  f281:=Tryd.func70.trans (congrArg some (by kernel_rfl))
  f282:=Tryd.func71.trans (congrArg some (by kernel_rfl))
  f283:=Tryd.func83.trans (congrArg some (by kernel_rfl))
  f284:=Tryd.func84.trans (congrArg some (by kernel_rfl))
  f285:=Tryd.func85.trans (congrArg some (by kernel_rfl))
  f286:=Tryd.func86.trans (congrArg some (by kernel_rfl))
  f287:=Tryd.func80.trans (congrArg some (by kernel_rfl))
  f316:=Tryd.func81.trans (congrArg some (by kernel_rfl))
  f317:=Tryd.func91.trans (congrArg some (by kernel_rfl))
  f318:=Tryd.func93.trans (congrArg some (by kernel_rfl))
  f319:=Tryd.func94.trans (congrArg some (by kernel_rfl))
  f320:=Tryd.func95.trans (congrArg some (by kernel_rfl))
  f321:=Tryd.func89.trans (congrArg some (by kernel_rfl))
  f322:=Tryd.func90.trans (congrArg some (by kernel_rfl))
  f337:=Tryd.func96.trans (congrArg some (by kernel_rfl))
  f338:=Tryd.func97.trans (congrArg some (by kernel_rfl))
  t0:=Tryd.underlying0
  a0:=Tryd.isAgg0
  z0:=Tryd.sizeOf0
  v0:=Tryd.zeroValue0
  t2:=Tryd.underlying2
  a2:=Tryd.isAgg2
  z2:=Tryd.sizeOf2
  v2:=Tryd.zeroValue2
  t3:=Tryd.underlying3
  a3:=Tryd.isAgg3
  z3:=Tryd.sizeOf3
  v3:=Tryd.zeroValue3
  t4:=Tryd.underlying4
  a4:=Tryd.isAgg4
  z4:=Tryd.sizeOf4
  v4:=Tryd.zeroValue4
  t5:=Tryd.underlying5
  a5:=Tryd.isAgg5
  z5:=Tryd.sizeOf5
  v5:=Tryd.zeroValue5
  t9:=Tryd.underlying9
  a9:=Tryd.isAgg9
  z9:=Tryd.sizeOf9
  v9:=Tryd.zeroValue9
  t20:=Tryd.underlying20
  a20:=Tryd.isAgg20
  z20:=Tryd.sizeOf20
  v20:=Tryd.zeroValue20
  t21:=Tryd.underlying21
  a21:=Tryd.isAgg21
  z21:=Tryd.sizeOf21
  v21:=Tryd.zeroValue21
  t37:=Tryd.underlying34
  a37:=Tryd.isAgg34
  z37:=Tryd.sizeOf34
  v37:=Tryd.zeroValue34
  t46:=Tryd.underlying90
  a46:=Tryd.isAgg90
  z46:=Tryd.sizeOf90
  v46:=Tryd.zeroValue90
  t51:=Tryd.underlying119
  a51:=Tryd.isAgg119
  z51:=Tryd.sizeOf119
  v51:=Tryd.zeroValue119
  t53:=Tryd.underlying82
  a53:=Tryd.isAgg82
  z53:=Tryd.sizeOf82
  v53:=Tryd.zeroValue82
  t75:=Tryd.underlying71
  a75:=Tryd.isAgg71
  z75:=Tryd.sizeOf71
  v75:=Tryd.zeroValue71
  t76:=Tryd.underlying72
  a76:=Tryd.isAgg72
  z76:=Tryd.sizeOf72
  v76:=Tryd.zeroValue72
  t85:=Tryd.underlying96
  a85:=Tryd.isAgg96
  z85:=Tryd.sizeOf96
  v85:=Tryd.zeroValue96
  t127:=Tryd.underlying88
  a127:=Tryd.isAgg88
  z127:=Tryd.sizeOf88
  v127:=Tryd.zeroValue88
  t143:=Tryd.underlying124
  a143:=Tryd.isAgg124
  z143:=Tryd.sizeOf124
  v143:=Tryd.zeroValue124
  t145:=Tryd.underlying126
  a145:=Tryd.isAgg126
  z145:=Tryd.sizeOf126
  v145:=Tryd.zeroValue126
  t167:=Tryd.underlying95
  a167:=Tryd.isAgg95
  z167:=Tryd.sizeOf95
  v167:=Tryd.zeroValue95
  t168:=Tryd.underlying98
  a168:=Tryd.isAgg98
  z168:=Tryd.sizeOf98
  v168:=Tryd.zeroValue98
  t171:=Tryd.underlying111
  a171:=Tryd.isAgg111
  z171:=Tryd.sizeOf111
  v171:=Tryd.zeroValue111
  t173:=Tryd.underlying113
  a173:=Tryd.isAgg113
  z173:=Tryd.sizeOf113
  v173:=Tryd.zeroValue113
  t175:=Tryd.underlying105
  a175:=Tryd.isAgg105
  z175:=Tryd.sizeOf105
  v175:=Tryd.zeroValue105
  t210:=Tryd.underlying109
  a210:=Tryd.isAgg109
  z210:=Tryd.sizeOf109
  v210:=Tryd.zeroValue109
  t212:=Tryd.underlying128
  a212:=Tryd.isAgg128
  z212:=Tryd.sizeOf128
  v212:=Tryd.zeroValue128
  t213:=Tryd.underlying129
  a213:=Tryd.isAgg129
  z213:=Tryd.sizeOf129
  t232:=Tryd.underlying132
  a232:=Tryd.isAgg132
  z232:=Tryd.sizeOf132
  v232:=Tryd.zeroValue132
  t233:=Tryd.underlying133
  a233:=Tryd.isAgg133
  z233:=Tryd.sizeOf133
  v233:=Tryd.zeroValue133
  g15:=by kernel_rfl
  g16:=by kernel_rfl
  g17:=by kernel_rfl
  g18:=by kernel_rfl
  g19:=by kernel_rfl
  t80:=Tryd.underlying78
  a80:=Tryd.isAgg78
  z80:=Tryd.sizeOf78
  v80:=Tryd.zeroValue78
  i0:=by kernel_rfl
  i2:=by kernel_rfl
  i3:=by kernel_rfl
  i4:=by kernel_rfl
  i5:=by kernel_rfl
  i9:=by kernel_rfl
  i20:=by kernel_rfl
  i21:=by kernel_rfl
  i37:=by kernel_rfl
  i46:=by kernel_rfl
  i51:=by kernel_rfl
  i53:=by kernel_rfl
  i75:=by kernel_rfl
  i76:=by kernel_rfl
  i80:=by kernel_rfl
  i85:=by kernel_rfl
  i127:=by kernel_rfl
  i143:=by kernel_rfl
  i145:=by kernel_rfl
  i167:=by kernel_rfl
  i168:=by kernel_rfl
  i171:=by kernel_rfl
  i173:=by kernel_rfl
  i175:=by kernel_rfl
  i210:=by kernel_rfl
  i212:=by kernel_rfl
  i232:=by kernel_rfl
  i233:=by kernel_rfl
  m15:=by kernel_rfl
  m16:=by kernel_rfl
  m17:=by kernel_rfl
  m18:=by kernel_rfl
  m19:=by kernel_rfl
  c0:=by kernel_rfl
  c2:=by kernel_rfl
  c3:=by kernel_rfl
  c4:=by kernel_rfl
  c5:=by kernel_rfl
  c9:=by kernel_rfl
  c20:=by kernel_rfl
  c21:=by kernel_rfl
  c37:=by kernel_rfl
  c46:=by kernel_rfl
  c51:=by kernel_rfl
  c53:=by kernel_rfl
  c75:=by kernel_rfl
  c76:=by kernel_rfl
  c80:=by kernel_rfl
  c85:=by kernel_rfl
  c127:=by kernel_rfl
  c143:=by kernel_rfl
  c145:=by kernel_rfl
  c167:=by kernel_rfl
  c168:=by kernel_rfl
  c171:=by kernel_rfl
  c173:=by kernel_rfl
  c175:=by kernel_rfl
  c210:=by kernel_rfl
  c212:=by kernel_rfl
  c213:=by kernel_rfl
  c232:=by kernel_rfl
  c233:=by kernel_rfl }
open Go.RowKit in
theorem Tryd.strconv_Atoi_ok (s:ByteArray) (hmax:s.size≤9223372036854775806) (v:Int) (h:Lib.atoiAll s.data.toList=.ok v) (w:World) :
    Calls Tryd.prog 42 #[.string s] w fun e w'=>e=.returned (.tuple #[.int .i64 v,.nilIface])∧(w'=w∨∃ t,w'=Lib.bytesWorld w 5 t):=Any.strconv_Atoi_ok Tryd.laysC172 s hmax v h w
open Go.RowKit in
theorem Tryd.strconv_Atoi_range_var (s:ByteArray) (hlim:s.size≤281474976710656) (h:Lib.atoiAll s.data.toList=.range) (tp:TypeId) (p:Value) (w:World) (hvar:w.var? Tryd.prog "strconv.ErrRange" = some #[.iface tp p]) :
    Calls Tryd.prog 42 #[.string s] w fun e w'=>∃ N,e=.returned (.tuple #[.int .i64 (Lib.atoiSat s.data.toList),.iface 98 (.pointer (some ⟨N,0,none⟩))])∧w.heap.size≤N∧w'.heap[N]? = some (.cells #[.string ⟨#[65,116,111,105]⟩,.string s,.iface tp p] 109 (0,0))∧Below w.heap.size w w':=Any.strconv_Atoi_range_var Tryd.laysC172 s hlim h tp p w hvar
def Tryd.lays146_ren:Go.Shelf.Ren:=⟨fun | 146=>21 | 221=>41 | 268=>53 | 138=>54 | 143=>55 | 195=>63 | 197=>64 | 218=>65 | 219=>66 | 260=>75 | 217=>76 | 225=>77 | 224=>78 | 267=>79 | 266=>87 | 314=>88 | n=>n,fun | 9=>9 | 31=>45 | 3=>3 | 4=>4 | 0=>0 | 105=>92 | 21=>21 | 5=>5 | 46=>90 | 119=>115 | 139=>118 | 138=>117 | 146=>120 | 51=>119 | n=>n,fun | 1=>1 | 3=>4 | 4=>5 | n=>n⟩
theorem Tryd.lays146:Go.Proofs.Lays.n146 Tryd.prog Tryd.lays146_ren:={
  mixed := by kernel_rfl
  f138:=Tryd.func54.trans (congrArg some (by kernel_rfl))
  f143:=Tryd.func55.trans (congrArg some (by kernel_rfl))
  f146:=Tryd.func21.trans (congrArg some (by kernel_rfl))
  f195:=Tryd.func63.trans (congrArg some (by kernel_rfl))
  f197:=Tryd.func64.trans (congrArg some (by kernel_rfl))
  f217:=Tryd.func76.trans (congrArg some (by kernel_rfl))
  f218:=Tryd.func65.trans (congrArg some (by kernel_rfl))
  f219:=Tryd.func66.trans (congrArg some (by kernel_rfl))
  f221:=Tryd.func41.trans (congrArg some (by kernel_rfl))
  f224:=Tryd.func78.trans (congrArg some (by kernel_rfl))
  f225:=Tryd.func77.trans (congrArg some (by kernel_rfl))
  f260:=Tryd.func75.trans (congrArg some (by kernel_rfl))
  f266:=Tryd.func87.trans (congrArg some (by kernel_rfl))
  f267:=Tryd.func79.trans (congrArg some (by kernel_rfl))
  f268:=Tryd.func53.trans (congrArg some (by kernel_rfl))
  f314:=Tryd.func88.trans (congrArg some (by kernel_rfl))
  t0:=Tryd.underlying0
  a0:=Tryd.isAgg0
  z0:=Tryd.sizeOf0
  v0:=Tryd.zeroValue0
  t3:=Tryd.underlying3
  a3:=Tryd.isAgg3
  z3:=Tryd.sizeOf3
  v3:=Tryd.zeroValue3
  t4:=Tryd.underlying4
  a4:=Tryd.isAgg4
  z4:=Tryd.sizeOf4
  v4:=Tryd.zeroValue4
  t5:=Tryd.underlying5
  a5:=Tryd.isAgg5
  z5:=Tryd.sizeOf5
  v5:=Tryd.zeroValue5
  t9:=Tryd.underlying9
  a9:=Tryd.isAgg9
  z9:=Tryd.sizeOf9
  v9:=Tryd.zeroValue9
  t21:=Tryd.underlying21
  a21:=Tryd.isAgg21
  z21:=Tryd.sizeOf21
  v21:=Tryd.zeroValue21
  t31:=Tryd.underlying45
  a31:=Tryd.isAgg45
  z31:=Tryd.sizeOf45
  v31:=Tryd.zeroValue45
  t46:=Tryd.underlying90
  a46:=Tryd.isAgg90
  z46:=Tryd.sizeOf90
  v46:=Tryd.zeroValue90
  t51:=Tryd.underlying119
  a51:=Tryd.isAgg119
  z51:=Tryd.sizeOf119
  v51:=Tryd.zeroValue119
  t105:=Tryd.underlying92
  a105:=Tryd.isAgg92
  z105:=Tryd.sizeOf92
  v105:=Tryd.zeroValue92
  t119:=Tryd.underlying115
  a119:=Tryd.isAgg115
  z119:=Tryd.sizeOf115
  t138:=Tryd.underlying117
  a138:=Tryd.isAgg117
  z138:=Tryd.sizeOf117
  v138:=Tryd.zeroValue117
  t139:=Tryd.underlying118
  a139:=Tryd.isAgg118
  z139:=Tryd.sizeOf118
  v139:=Tryd.zeroValue118
  t146:=Tryd.underlying120
  a146:=Tryd.isAgg120
  z146:=Tryd.sizeOf120
  v146:=Tryd.zeroValue120
  g1:=by kernel_rfl
  g3:=by kernel_rfl
  g4:=by kernel_rfl }
open Go.RowKit Go.Lib in
theorem Tryd.strings_Split (s sep:ByteArray) (m:Int) (w:World) (hs:s.size < 4294967281) (hm:w.cell? ⟨1,0,none⟩=some (.int .i64 m)) (h1:1≤sep.size) :
    Calls Tryd.prog 21 #[.string s,.string sep] w fun e w' =>
      e=.returned (.slice (some ⟨w.heap.size,0,none⟩) (Lib.countB s sep + 1) (Lib.countB s sep + 1))∧w'=w.alloc (.cells ((Lib.splitB sep 0 (Lib.countB s sep) s).map Value.string).toArray 9):=Any.strings_Split Tryd.lays146 (by kernel_rfl) s sep m w hs hm h1
end Go.Proofs
end
section
namespace Go.Proofs.YtdchnngpjjcchaaDoor.Num
open Go Go.RowKit
def inB (n:Int):Bool:=decide (-1000000000000≤n) && decide (n≤1000000000000)
theorem inB_iff (n:Int):inB n=true↔(-1000000000000≤n∧n≤1000000000000):=by simp [inB]
theorem EG {a b:Bool}(h:a=b):Ending.returned (.bool a)=.returned (.bool b):=by rw [h]
theorem Zgn (n:Int)(w:World) :
    Calls Tryd.prog 28 #[.int .i64 n] w fun e w'=>e=.returned (.bool (inB n))∧w=w':=by
  go_enter Tryd.func28,Tryd.ntmps28
  go_wp2
  all_goals go_ret
  all_goals refine ⟨EG ?_,rfl⟩
  all_goals (simp [inB]; try omega)
theorem Zdc (n:Int)(w:World) :
    Calls Tryd.prog 30 #[.int .i64 n] w fun e w'=>e=.returned (.bool (inB n))∧w=w':=by
  go_enter Tryd.func30,Tryd.ntmps30
  go_wp2
  all_goals go_ret
  all_goals refine ⟨EG ?_,rfl⟩
  all_goals (simp [inB]; try omega)
structure Laid (w:World):Prop where
  tab:Lib.TabIs Tryd.prog w "internal/strconv.uint64pow10" .u64 Lib.pow10Tab
  syn:∃ tp p,w.var? Tryd.prog "strconv.ErrSyntax" = some #[.iface tp p]
  ran:∃ tp p,w.var? Tryd.prog "strconv.ErrRange" = some #[.iface tp p]
theorem var_below {w w':World}(hb:Below w.heap.size w w'){n:String}{cs:Array Value}(h:w.var? Tryd.prog n=some cs):w'.var? Tryd.prog n=some cs:=by
  unfold World.var? at h ⊢
  cases hg:Tryd.prog.globalNamed n with
  | none=>simp [hg] at h
  | some g =>
    simp only [hg,Option.bind_some] at h ⊢
    have hlt:g < w.heap.size:=by
      by_cases hh:g < w.heap.size
      · exact hh
      · rw [Array.getElem?_eq_none (by omega)] at h; cases h
    rw [hb.block g hlt]; exact h
theorem Laid.below {w w':World}(hL:Laid w)(hb:Below w.heap.size w w'):Laid w' :=
  ⟨var_below hb hL.tab,hL.syn.imp fun _ h=>h.imp fun _ h=>var_below hb h,hL.ran.imp fun _ h=>h.imp fun _ h=>var_below hb h⟩
theorem below_grow (w:World)(k:Nat)(os:Array Obj):Below w.heap.size w (Sort.grow (w.drewN k) os) :=
  ⟨rfl,rfl,rfl,by simp [Sort.grow,World.drewN],fun i hi=>by show (w.heap ++ os)[i]? = _; rw [Array.getElem?_append_left hi]⟩
theorem Ny (w:World)(t:ByteArray):Below w.heap.size w (Lib.bytesWorld w 5 t):=by
  refine ⟨rfl,rfl,rfl,?_,fun i hi=>?_⟩
  · unfold Lib.bytesWorld World.freeze; split
    · show w.heap.size≤(w.heap.push _).size
      simp
    · show w.heap.size≤((w.heap.push _).modify _ _).size
      simp
  · unfold Lib.bytesWorld World.freeze
    split
    · exact Below.heap_alloc _ _ _ hi
    · show ((w.drew.alloc _).heap.modify w.heap.size _)[i]? = _
      rw [Array.getElem?_modify,if_neg (by omega)]; exact Below.heap_alloc _ _ _ hi
theorem c_text (n:Int)(h0:-9223372036854775808≤n)(h1:n≤9223372036854775807)(w:World)(hL:Laid w) :
    Calls Tryd.prog 32 #[.int .i64 n] w fun e w'=>e=.returned (.string ⟨(Lib.itoa n).toArray⟩)∧Below w.heap.size w w':=by
  have ht:=hL.tab
  clear hL
  have HT:=Lib.hid ht
  clear ht
  go_enter Tryd.func32,Tryd.ntmps32
  go_wp2_with fail
  refine (Tryd.strconv_Itoa n h0 h1 _ HT.out).mono ?_
  rintro e w' ⟨rfl,k,os,rfl⟩
  go_wp2
  go_ret
  exact ⟨rfl,below_grow w k os⟩
def parseI (l:List UInt8):Int×Bool :=
  match Lib.atoiAll l with
  | .ok n=>if inB n && (Lib.itoa n == l) then (n,true) else (0,false)
  | _=>(0,false)
theorem Ze5 (s:ByteArray)(hs:s.size≤281474976710656)(w:World)(hL:Laid w) :
    Calls Tryd.prog 42 #[.string s] w fun e w'=>((∃ n,Lib.atoiAll s.data.toList=.ok n∧-9223372036854775808≤n∧n≤9223372036854775807∧e=.returned (.tuple #[.int .i64 n,.nilIface])) ∨
      (parseI s.data.toList=(0,false)∧∃ (n:Int) (t:TypeId) (v:Value),e=.returned (.tuple #[.int .i64 n,.iface t v])))∧Below w.heap.size w w':=by
  obtain ⟨tp,p,h1⟩:=hL.syn
  obtain ⟨tp2,p2,h2⟩:=hL.ran
  cases h:Lib.atoiAll s.data.toList
  case ok n =>
    refine (Tryd.strconv_Atoi_ok s (by omega) n h w).mono ?_
    rintro e w' ⟨rfl,hw⟩
    have hb:=Lib.atoiAll_bounds h
    refine ⟨.inl ⟨n,rfl,hb.1,hb.2,rfl⟩,?_⟩
    rcases hw with rfl | ⟨t,rfl⟩
    · exact Below.refl _ _
    · exact Ny w t
  case range =>
    refine (Tryd.strconv_Atoi_range_var s hs h tp2 p2 w h2).mono ?_
    rintro e w' ⟨N,rfl,_,_,hb⟩
    exact ⟨.inr ⟨by simp [parseI,h],_,_,_,rfl⟩,hb⟩
  all_goals
    refine (Any.strconv_Atoi_syntax_var Tryd.laysC172 s hs h tp p w h1).mono ?_
    rintro e w' ⟨N,rfl,_,_,hb⟩
    exact ⟨.inr ⟨by simp [parseI,h],_,_,_,rfl⟩,hb⟩
theorem ZcL {r:Int×Bool}{a:Int}{b:Bool}(h:r=(a,b)):Ending.returned (.tuple #[.int .i64 a,.bool b])=.returned (.tuple #[.int .i64 r.1,.bool r.2]):=by rw [h]
set_option maxHeartbeats 400000 in
theorem c_parse (s:ByteArray)(hs:s.size≤281474976710656)(w:World)(hL:Laid w) :
    Calls Tryd.prog 22 #[.string s] w fun e w'=>e=.returned (.tuple #[.int .i64 (parseI s.data.toList).1,.bool (parseI s.data.toList).2])∧Below w.heap.size w w':=by
  have HL:=Lib.hid hL
  clear hL
  obtain ⟨r,hr⟩:∃ r,parseI s.data.toList=r:=⟨_,rfl⟩
  rw [hr]
  have HR:=Lib.hid hr
  clear hr
  go_enter Tryd.func22,Tryd.ntmps22
  go_wp2_with fail
  refine (Ze5 s hs _ HL.out).mono ?_
  rintro e w1 ⟨h,hb⟩
  rcases h with ⟨n,hn,h1,h2,rfl⟩ | ⟨hp,n,t,v,rfl⟩
  · have HN:=Lib.hid hn
    clear hn
    have HL1:=Lib.hid (HL.out.below hb)
    by_cases hi:inB n=true
    · by_cases ht:(Lib.itoa n == s.data.toList)=true
      · have hq:(Lib.itoa n == s.toList)=true:=by rw [← Lib.toList_data] at ht; exact ht
        have hres:Hid (r=(n,true)):=by unfold Hid; rw [← HR.out,parseI,HN.out]; simp [hi,ht]
        clear ht
        go_wp2_with (first | (go_at_call 28; refine (Zgn _ _).mono ?_; rintro e w' ⟨rfl,rfl⟩) | (go_at_call 32; refine (c_text _ h1 h2 _ HL1.out).mono ?_; rintro e w2 ⟨rfl,hb2⟩))
        go_ret2
        exact ⟨ZcL hres.out,hb.trans (hb2.mono hb.size)⟩
      · have hq:(Lib.itoa n == s.toList)=false:=by rw [← Lib.toList_data] at ht; simpa using ht
        have hres:Hid (r=(0,false)):=by unfold Hid; rw [← HR.out,parseI,HN.out]; simp [hi,ht]
        clear ht
        go_wp2_with (first | (go_at_call 28; refine (Zgn _ _).mono ?_; rintro e w' ⟨rfl,rfl⟩) | (go_at_call 32; refine (c_text _ h1 h2 _ HL1.out).mono ?_; rintro e w2 ⟨rfl,hb2⟩))
        go_ret2
        exact ⟨ZcL hres.out,hb.trans (hb2.mono hb.size)⟩
    · have hi':inB n=false:=by simpa using hi
      have hres:Hid (r=(0,false)):=by unfold Hid; rw [← HR.out,parseI,HN.out]; simp [hi]
      clear hi
      go_wp2_with (first | (go_at_call 28; refine (Zgn _ _).mono ?_; rintro e w' ⟨rfl,rfl⟩) | (go_at_call 32; refine (c_text _ h1 h2 _ HL1.out).mono ?_; rintro e w2 ⟨rfl,hb2⟩))
      go_ret2
      exact ⟨ZcL hres.out,hb⟩
  · have hres:Hid (r=(0,false)):=by unfold Hid; rw [← HR.out,hp]
    clear hp
    go_wp2
    go_ret2
    exact ⟨ZcL hres.out,hb⟩
section
open Lib
theorem decDigits_small (u:Nat)(h:u < 10):decDigits u=[UInt8.ofNat (48 + u)]:=by rw [decDigits,dif_pos h]
theorem decDigits_big (u:Nat)(h:¬ u < 10):decDigits u=decDigits (u / 10) ++ [UInt8.ofNat (48 + u % 10)]:=by rw [decDigits,dif_neg h]
theorem itoa_pos (n:Int)(h:0≤n):itoa n=decDigits n.natAbs:=by rw [itoa,if_neg (by omega),show n.toNat=n.natAbs from by omega]
theorem itoa_minus (n:Int)(h:n < 0):itoa n=45 :: decDigits n.natAbs:=by rw [itoa,if_pos h]
theorem digit_toNat (d:Nat)(h:d < 10):(UInt8.ofNat (48 + d)).toNat=48 + d:=by rw [UInt8.toNat_ofNat']; omega
theorem Zb3 (n:Int)(h:10≤n):itoa n=itoa (n / 10) ++ itoa (n % 10):=by
  rw [itoa_pos n (by omega),itoa_pos (n / 10) (by omega),itoa_pos (n % 10) (by omega),decDigits_big _ (by omega),decDigits_small (n % 10).natAbs (by omega)]
  congr 2
  · congr 1; omega
  · congr 2; omega
theorem Pz (n:Int)(h:n≤-10):itoa n=itoa (n.tdiv 10) ++ itoa (-(n.tmod 10)):=by
  have e:n=-(-n):=by omega
  have h1:n.tdiv 10=-((-n) / 10):=by rw [e,Int.neg_tdiv,Int.tdiv_eq_ediv_of_nonneg (by omega)]; omega
  have h2:n.tmod 10=-((-n) % 10):=by rw [e,Int.neg_tmod,Int.tmod_eq_emod_of_nonneg (by omega)]; omega
  rw [itoa_minus n (by omega),h1,h2,itoa_minus (-(-n / 10)) (by omega),itoa_pos (-(-(-n % 10))) (by omega),decDigits_big _ (by omega),decDigits_small (-(-(-n % 10))).natAbs (by omega),List.cons_append]
  congr 3
  · congr 1; omega
  · congr 2; omega
theorem Py (n:Int)(h:n < 0):itoa n=45 :: itoa (-n):=by rw [itoa_minus n h,itoa_pos _ (by omega),show (-n).natAbs=n.natAbs from by omega]
theorem VB:∀ (l r:List UInt8) (acc a:Nat),parseUint10 acc l=.ok a→parseUint10 acc (l ++ r)=parseUint10 a r
  | [],r,acc,a,h=>by simp only [parseUint10] at h; injection h with h; subst h; rfl
  | c :: l,r,acc,a,h=>by
    simp only [parseUint10] at h
    simp only [List.cons_append,parseUint10]
    split at h
    · rename_i h1
      rw [if_pos h1]
      split at h
      · cases h
      · rename_i h2
        rw [if_neg h2]
        split at h
        · cases h
        · rename_i h3
          rw [if_neg h3]
          exact VB l r _ a h
    · cases h
theorem PO (k:Nat):∀ u:Nat,u≤k→u < 18446744073709551616→parseUint10 0 (decDigits u)=.ok u:=by
  induction k with
  | zero =>
    intro u hu _
    obtain rfl:u=0:=by omega
    rw [decDigits_small 0 (by omega)]; rfl
  | succ k ih =>
    intro u hu hlt
    by_cases h:u < 10
    · rw [decDigits_small u h]
      simp only [parseUint10,digit_toNat u h]
      rw [if_pos (by omega),if_neg (by omega),if_neg (by omega)]
      congr 1; omega
    · rw [decDigits_big u h,VB _ _ _ _ (ih (u / 10) (by omega) (by omega))]
      simp only [parseUint10,digit_toNat (u % 10) (by omega)]
      rw [if_pos (by omega),if_neg (by omega),if_neg (by omega)]
      congr 1; omega
theorem DI (u:Nat):decDigits u≠[]:=by
  rw [decDigits]; split
  · simp
  · simp
theorem U6 (u:Nat)(h:u < 18446744073709551616):parseMag (decDigits u)=.ok u:=by
  rw [parseMag,if_neg (DI u)]; exact PO u u (Nat.le_refl _) h
theorem NJ (k:Nat):∀ u:Nat,u≤k→∃ c r,decDigits u=c :: r∧48≤c.toNat:=by
  induction k with
  | zero=>intro u hu; exact ⟨_,[],decDigits_small u (by omega),by rw [digit_toNat u (by omega)]; omega⟩
  | succ k ih =>
    intro u hu
    by_cases h:u < 10
    · exact ⟨_,[],decDigits_small u h,by rw [digit_toNat u h]; omega⟩
    · obtain ⟨c,r,e,hc⟩:=ih (u / 10) (by omega)
      exact ⟨c,r ++ [UInt8.ofNat (48 + u % 10)],by rw [decDigits_big u h,e]; rfl,hc⟩
theorem Fp (n:Int)(h0:-9223372036854775808≤n)(h1:n≤9223372036854775807):atoiAll (itoa n)=.ok n:=by
  by_cases h:n < 0
  · rw [itoa_minus n h,atoiAll_minus,U6 _ (by omega),signed,if_neg (by omega)]
    congr 1; omega
  · rw [itoa_pos n (by omega)]
    obtain ⟨c,r,e,hc⟩:=NJ n.natAbs n.natAbs (Nat.le_refl _)
    have hp:=U6 n.natAbs (by omega)
    rw [e] at hp ⊢
    rw [atoiAll_plain c r (by omega) (by omega),hp,signless,if_neg (by omega)]
    congr 1; omega
def Vp (acc:Nat):List UInt8→Nat
  | []=>acc
  | c :: r=>Vp (if 48≤c.toNat∧c.toNat≤57 then 10 * acc + (c.toNat - 48) else acc) r
theorem I9:∀ (l r:List UInt8) (acc:Nat),Vp acc (l ++ r)=Vp (Vp acc l) r
  | [],_,_=>rfl
  | c :: l,r,acc=>by simp only [List.cons_append,Vp]; exact I9 l r _
theorem Em:∀ (l:List UInt8) (acc:Nat),Vp acc l < (acc + 1) * 10 ^ l.length
  | [],acc=>by simp [Vp]
  | c :: r,acc=>by
    simp only [Vp,List.length_cons]
    refine Nat.lt_of_lt_of_le (Em r _) ?_
    rw [Nat.pow_succ,Nat.mul_comm (10 ^ r.length) 10,← Nat.mul_assoc]
    refine Nat.mul_le_mul_right _ ?_
    split <;> omega
def Hr (l:List UInt8):Int:=if l.head?.map (·.toNat)=some 45 then -(Vp 0 l:Int) else Vp 0 l
def parseR (l:List UInt8):Int×Bool:=if 14 < l.length then (0,false) else if inB (Hr l) && (itoa (Hr l) == l) then (Hr l,true) else (0,false)
theorem ZaD (r:List UInt8):Hr (45 :: r)=-(Vp 0 r:Int):=by simp [Hr,Vp]
theorem SE (c:UInt8)(r:List UInt8)(h:c.toNat≠45):Hr (c :: r)=(Vp 0 (c :: r):Int):=by simp [Hr,h]
theorem parseI_itoa (n:Int)(h0:-9223372036854775808≤n)(h1:n≤9223372036854775807):parseI (itoa n)=if inB n then (n,true) else (0,false):=by
  rw [parseI,Fp n h0 h1]; simp
end
theorem TW {a:ByteArray}{l:List UInt8}(h:a.data.toList=l):Ending.returned (.string a)=.returned (.string ⟨l.toArray⟩):=by
  subst h; cases a; simp
set_option maxHeartbeats 1000000 in
theorem c_rtext (k:Nat):∀ (n:Int) (w:World),2 * n.natAbs + (if n < 0 then 1 else 0)≤k→-9223372036854775808≤n→n≤9223372036854775807 →
    Calls Tryd.prog 33 #[.int .i64 n] w fun e w'=>e=.returned (.string ⟨(Lib.itoa n).toArray⟩)∧w=w':=by
  induction k with
  | zero =>
    intro n w hk _ _
    have h0:n=0:=by split at hk <;> omega
    subst h0
    go_enter Tryd.func33,Tryd.ntmps33
    go_wp2_with fail
    go_ret
    exact ⟨TW (by decide +kernel),rfl⟩
  | succ k ih =>
    intro n w hk hlo hhi
    have IH:=Lib.hid ih
    clear ih
    by_cases h1:10≤n
    · have HE:=Lib.hid (Zb3 n h1)
      have k1:2 * (n / 10).natAbs + (if n / 10 < 0 then 1 else 0)≤k:=by rw [if_neg (by omega)]; split at hk <;> omega
      have k2:2 * (n % 10).natAbs + (if n % 10 < 0 then 1 else 0)≤k:=by rw [if_neg (by omega)]; split at hk <;> omega
      have K1:=Lib.hid k1
      have K2:=Lib.hid k2
      have l1:=Lib.itoa_length_le (n / 10) (by omega) (by omega)
      have l2:=Lib.itoa_length_le (n % 10) (by omega) (by omega)
      clear hk k1 k2
      go_enter Tryd.func33,Tryd.ntmps33
      go_wp2_with fail
      refine (IH.out (n / 10) _ K1.out (by omega) (by omega)).mono ?_
      rintro e w' ⟨rfl,rfl⟩
      go_wp2_with fail
      refine (IH.out (n % 10) _ K2.out (by omega) (by omega)).mono ?_
      rintro e w' ⟨rfl,rfl⟩
      go_wp2
      go_ret
      exact ⟨TW (by rw [HE.out]; simp),rfl⟩
    · by_cases h2:0≤n
      · have:n=0∨n=1∨n=2∨n=3∨n=4∨n=5∨n=6∨n=7∨n=8∨n=9:=by omega
        clear IH hk hlo hhi h1 h2
        rcases this with rfl | rfl | rfl | rfl | rfl | rfl | rfl | rfl | rfl | rfl
        all_goals
          go_enter Tryd.func33,Tryd.ntmps33
          go_wp2
          go_ret
          exact ⟨TW (by decide +kernel),rfl⟩
      · by_cases h3:-10 < n
        · have HE:=Lib.hid (Py n (by omega))
          have k1:2 * (-n).natAbs + (if -n < 0 then 1 else 0)≤k:=by rw [if_neg (by omega)]; rw [if_pos (by omega)] at hk; omega
          have K1:=Lib.hid k1
          have l1:=Lib.itoa_length_le (-n) (by omega) (by omega)
          clear hk k1
          go_enter Tryd.func33,Tryd.ntmps33
          go_wp2_with fail
          refine (IH.out (-n) _ K1.out (by omega) (by omega)).mono ?_
          rintro e w' ⟨rfl,rfl⟩
          go_wp2
          go_ret
          exact ⟨TW (by rw [HE.out]; simp),rfl⟩
        · have HE:=Lib.hid (Pz n (by omega))
          have e1:n.tdiv 10=-((-n) / 10):=by
            have e:n=-(-n):=by omega
            rw [e,Int.neg_tdiv,Int.tdiv_eq_ediv_of_nonneg (by omega)]; omega
          have e2:n.tmod 10=-((-n) % 10):=by
            have e:n=-(-n):=by omega
            rw [e,Int.neg_tmod,Int.tmod_eq_emod_of_nonneg (by omega)]; omega
          have k1:2 * (n.tdiv 10).natAbs + (if n.tdiv 10 < 0 then 1 else 0)≤k:=by rw [if_pos (by omega)] at hk; split <;> omega
          have k2:2 * (-(n.tmod 10)).natAbs + (if -(n.tmod 10) < 0 then 1 else 0)≤k:=by rw [if_pos (by omega)] at hk; split <;> omega
          have K1:=Lib.hid k1
          have K2:=Lib.hid k2
          have b1:-922337203685477581≤n.tdiv 10∧n.tdiv 10≤0:=by omega
          have b2:-9≤n.tmod 10∧n.tmod 10≤0:=by omega
          have l1:=Lib.itoa_length_le (n.tdiv 10) (by omega) (by omega)
          have l2:=Lib.itoa_length_le (-(n.tmod 10)) (by omega) (by omega)
          clear hk k1 k2 e1 e2
          go_enter Tryd.func33,Tryd.ntmps33
          go_wp2_with fail
          refine (IH.out (n.tdiv 10) _ K1.out (by omega) (by omega)).mono ?_
          rintro e w' ⟨rfl,rfl⟩
          go_wp2_with fail
          refine (IH.out (-(n.tmod 10)) _ K2.out (by omega) (by omega)).mono ?_
          rintro e w' ⟨rfl,rfl⟩
          go_wp2
          go_ret
          exact ⟨TW (by rw [HE.out]; simp),rfl⟩
theorem take_snoc (s:ByteArray)(k:Nat)(h:k < s.size):s.data.toList.take (k + 1)=s.data.toList.take k ++ [s[k]]:=by
  rw [List.take_succ_eq_append_getElem (by simpa using h)]; rfl
theorem Ah (l:List UInt8)(c:UInt8):(Vp 0 (l ++ [c]):Int)=if 48≤(c.toNat:Int)∧(c.toNat:Int)≤57 then 10 * (Vp 0 l:Int) + ((c.toNat:Int) - 48) else (Vp 0 l:Int):=by
  rw [I9]
  by_cases h:48≤c.toNat∧c.toNat≤57
  · rw [if_pos (by omega)]; simp only [Vp]; rw [if_pos h]; omega
  · rw [if_neg (by omega)]; simp only [Vp]; rw [if_neg h]
theorem Zbt (s:ByteArray)(k:Nat)(h:k≤s.size)(hs:s.size≤14):(Vp 0 (s.data.toList.take k):Int) < 100000000000000:=by
  have h1:=Em (s.data.toList.take k) 0
  have h2:(s.data.toList.take k).length≤14:=by have:=List.length_take_le k s.data.toList; omega
  have h3:(10:Nat) ^ (s.data.toList.take k).length≤10 ^ 14:=Nat.pow_le_pow_right (by omega) h2
  have h4:(10:Nat) ^ 14=100000000000000:=by decide
  omega
theorem head_eq (s:ByteArray)(h:0 < s.size):∃ r,s.data.toList=s[0] :: r:=by
  have h1:=take_snoc s 0 h
  refine ⟨s.data.toList.drop 1,?_⟩
  rw [← List.take_append_drop 1 s.data.toList,h1]; simp
theorem AQ (s:ByteArray)(m:Int)(hm:m=(Vp 0 s.data.toList:Int)) :
    (s.size=0∧Hr s.data.toList=m)∨(∃ h:0 < s.size,((s[0].toNat:Int) == 45)=false∧Hr s.data.toList=m)∨(∃ h:0 < s.size,((s[0].toNat:Int) == 45)=true∧Hr s.data.toList=-m):=by
  by_cases h:0 < s.size
  · obtain ⟨r,hr⟩:=head_eq s h
    by_cases hc:s[0].toNat=45
    · have hc':s[0]=45:=UInt8.toNat_inj.1 hc
      refine .inr (.inr ⟨h,by rw [hc]; rfl,?_⟩)
      rw [hm,hr,hc',ZaD]
      simp [Vp]
    · refine .inr (.inl ⟨h,by rw [beq_eq_false_iff_ne]; omega,?_⟩)
      rw [hm,hr,SE _ _ hc]
  · have e:s.data.toList=[]:=List.eq_nil_of_length_eq_zero (by have:s.data.toList.length=s.size:=Array.length_toList; omega)
    exact .inl ⟨by omega,by rw [hm,e]; rfl⟩
set_option maxHeartbeats 2000000 in
theorem c_rparse (s:ByteArray)(hs:s.size≤281474976710656)(w:World) :
    Calls Tryd.prog 25 #[.string s] w fun e w'=>e=.returned (.tuple #[.int .i64 (parseR s.data.toList).1,.bool (parseR s.data.toList).2])∧w=w':=by
  obtain ⟨r,hr⟩:∃ r,parseR s.data.toList=r:=⟨_,rfl⟩
  rw [hr]
  have hlen:s.data.toList.length=s.size:=Array.length_toList
  by_cases hl:14 < s.size
  · have HR:Hid (r=(0,false)):=by unfold Hid; rw [← hr,parseR,if_pos (by omega)]
    clear hr hlen
    go_enter Tryd.func25,Tryd.ntmps25
    go_wp2
    go_ret2
    exact ⟨ZcL HR.out,rfl⟩
  · have HR:Hid (r=if inB (Hr s.data.toList) && (Lib.itoa (Hr s.data.toList) == s.data.toList) then (Hr s.data.toList,true) else (0,false)):=by unfold Hid; rw [← hr,parseR,if_neg (by omega)]
    have hl':s.size≤14:=by omega
    have HL:=Lib.hid hlen
    clear hr hl hlen hs
    go_enter Tryd.func25,Tryd.ntmps25
    go_wp2
    go_loop [4,5] (fun n i=>∃ (k:Nat) (m:Int),k≤s.size∧i=.int .i64 k∧n=.int .i64 m∧0≤m∧m < 100000000000000∧Hid (m=(Vp 0 (s.data.toList.take k):Int))) (fun _ i=>s.size - (intOf i).toNat)
    case atStart=>exact ⟨0,0,Nat.zero_le _,rfl,rfl,by omega,by omega,rfl⟩
    case round =>
      obtain ⟨k,m,hk,rfl,rfl,m0,m1,HM⟩:=hrel
      by_cases hlt:k < s.size
      · have hb:=Zbt s (k + 1) (by omega) hl'
        have hsn:=Ah (s.data.toList.take k) s[k]
        rw [← take_snoc s k hlt,← HM.out] at hsn
        by_cases hd:48≤(s[k].toNat:Int)∧(s[k].toNat:Int)≤57
        · rw [if_pos hd] at hsn
          have hb2:10 * m + ((s[k].toNat:Int) - 48) < 100000000000000:=by omega
          have HS:=Lib.hid hsn
          obtain ⟨d1,d2⟩:=hd
          clear hsn hb HM
          go_wp2
          go_round
          case rel=>exact ⟨k + 1,_,by omega,by go_num,rfl,by omega,by omega,HS.out.symm⟩
          case measure=>simp [intOf]; omega
        · rw [if_neg hd] at hsn
          have HS:=Lib.hid hsn
          have hd':¬ 48≤(s[k].toNat:Int)∨(48≤(s[k].toNat:Int)∧¬ (s[k].toNat:Int)≤57):=by omega
          clear hsn hb HM hd
          rcases hd' with d1 | ⟨d1,d2⟩
          all_goals
            go_wp2
            go_round
            case rel=>exact ⟨k + 1,_,by omega,by go_num,rfl,by omega,by omega,HS.out.symm⟩
            case measure=>simp [intOf]; omega
      · have hk':k=s.size:=by omega
        have hm:m=(Vp 0 s.data.toList:Int):=by rw [HM.out,hk',List.take_of_length_le (by have:=HL.out; omega)]
        clear HM
        have hsg:=AQ s m hm
        clear hm
        obtain ⟨v,hv⟩:∃ v,Hr s.data.toList=v:=⟨_,rfl⟩
        rw [hv] at hsg HR
        have hrest:(inB v=true∧(Lib.itoa v == s.toList)=true∧Hid (r=(v,true)))∨(inB v=true∧(Lib.itoa v == s.toList)=false∧Hid (r=(0,false)))∨(inB v=false∧Hid (r=(0,false))):=by
          rw [Lib.toList_data]
          unfold Hid
          by_cases hi:inB v=true
          · by_cases ht:(Lib.itoa v == s.data.toList)=true
            · exact .inl ⟨hi,ht,by rw [HR.out]; simp [hi,ht]⟩
            · exact .inr (.inl ⟨hi,by simpa using ht,by rw [HR.out]; simp [hi,ht]⟩)
          · exact .inr (.inr ⟨by simpa using hi,by rw [HR.out]; simp [hi]⟩)
        clear HR hv
        have hvb:-100000000000000 < v∧v < 100000000000000:=by
          rcases hsg with ⟨_,h⟩ | ⟨_,_,h⟩ | ⟨_,_,h⟩ <;> omega
        have hlv:=Lib.itoa_length_le v (by omega) (by omega)
        obtain rfl:k=s.size:=hk'
        rcases hsg with ⟨h0,hv⟩ | ⟨h0,h45,hv⟩ | ⟨h0,h45,hv⟩
        · have hz:¬ 0 < s.size:=by omega
          clear h0
          obtain rfl:m=v:=hv.symm
          rcases hrest with ⟨hi,ht,HRR⟩ | ⟨hi,ht,HRR⟩ | ⟨hi,HRR⟩
          all_goals
            go_wp2_with (first | (go_at_call 30; refine (Zdc _ _).mono ?_; rintro e w' ⟨rfl,rfl⟩) | (go_at_call 33; refine (c_rtext (2 * m.natAbs + 1) m _ (by split <;> omega) (by omega) (by omega)).mono ?_; rintro e w' ⟨rfl,rfl⟩))
            go_ret2
            exact ⟨ZcL HRR.out,rfl⟩
        · clear hlt
          obtain rfl:m=v:=hv.symm
          rcases hrest with ⟨hi,ht,HRR⟩ | ⟨hi,ht,HRR⟩ | ⟨hi,HRR⟩
          all_goals
            go_wp2_with (first | (go_at_call 30; refine (Zdc _ _).mono ?_; rintro e w' ⟨rfl,rfl⟩) | (go_at_call 33; refine (c_rtext (2 * m.natAbs + 1) m _ (by split <;> omega) (by omega) (by omega)).mono ?_; rintro e w' ⟨rfl,rfl⟩))
            go_ret2
            exact ⟨ZcL HRR.out,rfl⟩
        · clear hlt
          subst hv
          rcases hrest with ⟨hi,ht,HRR⟩ | ⟨hi,ht,HRR⟩ | ⟨hi,HRR⟩
          all_goals
            go_wp2_with (first | (go_at_call 30; refine (Zdc _ _).mono ?_; rintro e w' ⟨rfl,rfl⟩) | (go_at_call 33; refine (c_rtext (2 * (-m).natAbs + 1) (-m) _ (by split <;> omega) (by omega) (by omega)).mono ?_; rintro e w' ⟨rfl,rfl⟩))
            go_ret2
            exact ⟨ZcL HRR.out,rfl⟩
theorem parseI_ok (l:List UInt8):(∃ n,parseI l=(n,true)∧Lib.itoa n=l∧-1000000000000≤n∧n≤1000000000000)∨parseI l=(0,false):=by
  unfold parseI
  split
  · rename_i n _
    by_cases h:(inB n && (Lib.itoa n == l))=true
    · rw [if_pos h]
      simp only [Bool.and_eq_true,beq_iff_eq] at h
      have:=(inB_iff n).1 h.1
      exact .inl ⟨n,rfl,h.2,this.1,this.2⟩
    · rw [if_neg h]; exact .inr rfl
  · exact .inr rfl
end Go.Proofs.YtdchnngpjjcchaaDoor.Num
end
