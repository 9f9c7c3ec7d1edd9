import Derived.Shelf.Strings.Builder1
import Derived.Shelf.Strings.Builder2
import Derived.Shelf.Strings.OnBuilder
import Derived.Shelf.Strings.BuilderF
import Derived.Shelf.Strings.BuilderK
import Derived.Shelf.Strconv.Itoa0
import Derived.Shelf.Strconv.Itoa1
import Derived.Shelf.LaysM
import Derived.Shelf.Strconv.Itoa2
import Derived.Shelf.Strconv.Itoa3
import Derived.Test.YtleomfgijkapfaaGreatDoorProg
import Derived.Test.YtleomfgijkapfaaGreatDoorU3
set_option linter.all false
section
namespace Go.Proofs
open Go.Shelf
def Tryz.lays156_ren:Go.Shelf.Ren:=⟨fun | 156=>88 | 165=>168 | 166=>38 | 169=>45 | 240=>87 | 241=>208 | 276=>167 | 277=>239 | n=>n,fun | 31=>50 | 9=>9 | 3=>3 | 4=>4 | 0=>0 | 20=>20 | 72=>93 | 76=>101 | 70=>90 | 37=>91 | 75=>100 | 127=>150 | 164=>223 | 5=>5 | 80=>109 | n=>n,fun | n=>n⟩
theorem Tryz.lays156:Go.Proofs.Lays.n156 Tryz.prog Tryz.lays156_ren:={
 mixed := by kernel_rfl
 f156:=Tryz.func88.trans (congrArg some (by kernel_rfl))
 f165:=Tryz.func168.trans (congrArg some (by kernel_rfl))
 f166:=Tryz.func38.trans (congrArg some (by kernel_rfl))
 f169:=Tryz.func45.trans (congrArg some (by kernel_rfl))
 f240:=Tryz.func87.trans (congrArg some (by kernel_rfl))
 f241:=Tryz.func208.trans (congrArg some (by kernel_rfl))
 f276:=Tryz.func167.trans (congrArg some (by kernel_rfl))
 f277:=Tryz.func239.trans (congrArg some (by kernel_rfl))
 t0:=Tryz.underlying0
 a0:=Tryz.isAgg0
 z0:=Tryz.sizeOf0
 v0:=Tryz.zeroValue0
 t3:=Tryz.underlying3
 a3:=Tryz.isAgg3
 z3:=Tryz.sizeOf3
 v3:=Tryz.zeroValue3
 t4:=Tryz.underlying4
 a4:=Tryz.isAgg4
 z4:=Tryz.sizeOf4
 v4:=Tryz.zeroValue4
 t9:=Tryz.underlying9
 a9:=Tryz.isAgg9
 z9:=Tryz.sizeOf9
 v9:=Tryz.zeroValue9
 t20:=Tryz.underlying20
 a20:=Tryz.isAgg20
 z20:=Tryz.sizeOf20
 v20:=Tryz.zeroValue20
 t31:=Tryz.underlying50
 a31:=Tryz.isAgg50
 z31:=Tryz.sizeOf50
 v31:=Tryz.zeroValue50
 t37:=Tryz.underlying91
 a37:=Tryz.isAgg91
 z37:=Tryz.sizeOf91
 v37:=Tryz.zeroValue91
 t70:=Tryz.underlying90
 a70:=Tryz.isAgg90
 z70:=Tryz.sizeOf90
 v70:=Tryz.zeroValue90
 t72:=Tryz.underlying93
 a72:=Tryz.isAgg93
 z72:=Tryz.sizeOf93
 v72:=Tryz.zeroValue93
 t75:=Tryz.underlying100
 a75:=Tryz.isAgg100
 z75:=Tryz.sizeOf100
 v75:=Tryz.zeroValue100
 t76:=Tryz.underlying101
 a76:=Tryz.isAgg101
 z76:=Tryz.sizeOf101
 v76:=Tryz.zeroValue101
 t127:=Tryz.underlying150
 a127:=Tryz.isAgg150
 z127:=Tryz.sizeOf150
 v127:=Tryz.zeroValue150
 t164:=Tryz.underlying223
 a164:=Tryz.isAgg223
 z164:=Tryz.sizeOf223
 v164:=Tryz.zeroValue223 }
theorem Tryz.Builder_Extra_156:Builder.Extra Tryz.prog Tryz.lays156_ren:={
 sizeBuilder := by kernel_rfl
 liesBuilder:=by kernel_rfl
 t5:=Tryz.underlying5
 a5:=Tryz.isAgg5
 z5:=Tryz.sizeOf5
 v5:=Tryz.zeroValue5
 infoByte:=by kernel_rfl
 cellsByte:=by kernel_rfl
 sizeByte:=by kernel_rfl
 neB5:=by decide }
open Go.RowKit in
theorem Tryz.strings_Join_none (a:Option Addr) (c:Nat) (sep:ByteArray) (w:World) :
  Calls Tryz.prog 88 #[.slice a 0 c,.string sep] w fun e w'=>e=.returned (.string ⟨#[]⟩)∧w'=w:=Any.strings_Join_none Tryz.lays156 Tryz.Builder_Extra_156 a c sep w
open Go.RowKit in
theorem Tryz.strings_Join (bk o c:Nat) (xs:List ByteArray) (sep:ByteArray) (w:World) (hcells:∀ (j:Nat) x,xs[j]? = some x→w.cell? ⟨bk,o + j,none⟩=some (.string x)) (hbk:bk < w.heap.size) (hN:xs.length≤140737488355328) (hcap:xs.length≤c) (hlen:(Lib.join (xs.map (·.data.toList)) sep.data.toList).length≤140737488355328) :
  Calls Tryz.prog 88 #[.slice (some ⟨bk,o,none⟩) xs.length c,.string sep] w fun e w'=>e=.returned (.string ⟨(Lib.join (xs.map (·.data.toList)) sep.data.toList).toArray⟩)∧Below w.heap.size w w':=Any.strings_Join Tryz.lays156 Tryz.Builder_Extra_156 bk o c xs sep w hcells hbk hN hcap hlen
def Tryz.laysM171_ren:Go.Shelf.Ren:=⟨fun | 171=>89 | 243=>169 | 246=>209 | 283=>240 | 284=>241 | 285=>242 | 286=>243 | 129=>259 | 317=>258 | 318=>260 | 319=>261 | 320=>262 | 337=>269 | 338=>270 | n=>n,fun | 3=>3 | 9=>9 | 2=>2 | 4=>4 | 171=>273 | 0=>0 | 53=>274 | 37=>91 | 5=>5 | 173=>277 | 212=>292 | 51=>293 | 20=>20 | 213=>294 | 46=>295 | 232=>311 | 233=>312 | n=>n,fun | 17=>2 | 18=>3 | 19=>4 | n=>n⟩
theorem Tryz.laysM171:Go.Proofs.LaysM.n171 Tryz.prog Tryz.laysM171_ren:={
 mixed := by kernel_rfl
 f129:=Tryz.func259.trans (congrArg some (by kernel_rfl))
 f171:=Tryz.func89.trans (congrArg some (by kernel_rfl))
 f243:=Tryz.func169.trans (congrArg some (by kernel_rfl))
 f246:=Tryz.func209.trans (congrArg some (by kernel_rfl))
 f283:=Tryz.func240.trans (congrArg some (by kernel_rfl))
 f284:=Tryz.func241.trans (congrArg some (by kernel_rfl))
 f285:=Tryz.func242.trans (congrArg some (by kernel_rfl))
 f286:=Tryz.func243.trans (congrArg some (by kernel_rfl))
 f317:=Tryz.func258.trans (congrArg some (by kernel_rfl))
 f318:=Tryz.func260.trans (congrArg some (by kernel_rfl))
 f319:=Tryz.func261.trans (congrArg some (by kernel_rfl))
 f320:=Tryz.func262.trans (congrArg some (by kernel_rfl))
 f337:=Tryz.func269.trans (congrArg some (by kernel_rfl))
 f338:=Tryz.func270.trans (congrArg some (by kernel_rfl))
 t0:=Tryz.underlying0
 a0:=Tryz.isAgg0
 z0:=Tryz.sizeOf0
 v0:=Tryz.zeroValue0
 t2:=Tryz.underlying2
 a2:=Tryz.isAgg2
 z2:=Tryz.sizeOf2
 v2:=Tryz.zeroValue2
 t3:=Tryz.underlying3
 a3:=Tryz.isAgg3
 z3:=Tryz.sizeOf3
 v3:=Tryz.zeroValue3
 t4:=Tryz.underlying4
 a4:=Tryz.isAgg4
 z4:=Tryz.sizeOf4
 v4:=Tryz.zeroValue4
 t5:=Tryz.underlying5
 a5:=Tryz.isAgg5
 z5:=Tryz.sizeOf5
 v5:=Tryz.zeroValue5
 t9:=Tryz.underlying9
 a9:=Tryz.isAgg9
 z9:=Tryz.sizeOf9
 v9:=Tryz.zeroValue9
 t20:=Tryz.underlying20
 a20:=Tryz.isAgg20
 z20:=Tryz.sizeOf20
 v20:=Tryz.zeroValue20
 t37:=Tryz.underlying91
 a37:=Tryz.isAgg91
 z37:=Tryz.sizeOf91
 v37:=Tryz.zeroValue91
 t46:=Tryz.underlying295
 a46:=Tryz.isAgg295
 z46:=Tryz.sizeOf295
 v46:=Tryz.zeroValue295
 t51:=Tryz.underlying293
 a51:=Tryz.isAgg293
 z51:=Tryz.sizeOf293
 v51:=Tryz.zeroValue293
 t53:=Tryz.underlying274
 a53:=Tryz.isAgg274
 z53:=Tryz.sizeOf274
 v53:=Tryz.zeroValue274
 t171:=Tryz.underlying273
 a171:=Tryz.isAgg273
 z171:=Tryz.sizeOf273
 v171:=Tryz.zeroValue273
 t173:=Tryz.underlying277
 a173:=Tryz.isAgg277
 z173:=Tryz.sizeOf277
 v173:=Tryz.zeroValue277
 t212:=Tryz.underlying292
 a212:=Tryz.isAgg292
 z212:=Tryz.sizeOf292
 v212:=Tryz.zeroValue292
 t213:=Tryz.underlying294
 a213:=Tryz.isAgg294
 z213:=Tryz.sizeOf294
 t232:=Tryz.underlying311
 a232:=Tryz.isAgg311
 z232:=Tryz.sizeOf311
 v232:=Tryz.zeroValue311
 t233:=Tryz.underlying312
 a233:=Tryz.isAgg312
 z233:=Tryz.sizeOf312
 v233:=Tryz.zeroValue312
 g17:=by kernel_rfl
 g18:=by kernel_rfl
 g19:=by kernel_rfl
 i0:=by kernel_rfl
 i2:=by kernel_rfl
 i3:=by kernel_rfl
 i4:=by kernel_rfl
 i5:=by kernel_rfl
 i9:=by kernel_rfl
 i20:=by kernel_rfl
 i37:=by kernel_rfl
 i46:=by kernel_rfl
 i51:=by kernel_rfl
 i53:=by kernel_rfl
 i171:=by kernel_rfl
 i173:=by kernel_rfl
 i212:=by kernel_rfl
 i232:=by kernel_rfl
 i233:=by kernel_rfl
 m17:=by kernel_rfl
 m18:=by kernel_rfl
 m19:=by kernel_rfl }
open Go.RowKit Go.Sort Go.Lib in
theorem Tryz.strconv_Itoa (n:Int) (h0:-9223372036854775808≤n) (h1:n≤9223372036854775807) (w:World) (htab:Lib.TabIs Tryz.prog w "internal/strconv.uint64pow10" .u64 Lib.pow10Tab) :
  Calls Tryz.prog 89 #[.int .i64 n] w fun e w'=>e=.returned (.string ⟨(Lib.itoa n).toArray⟩)∧∃ k os,w'=grow (w.drewN k) os:=Any.strconv_Itoa Tryz.laysM171 n h0 h1 w htab
def Tryz.lays171_ren:Go.Shelf.Ren:=⟨fun | 171=>89 | 243=>169 | 246=>209 | 283=>240 | 284=>241 | 285=>242 | 286=>243 | 129=>259 | 317=>258 | 318=>260 | 319=>261 | 320=>262 | 337=>269 | 338=>270 | n=>n,fun | 3=>3 | 9=>9 | 2=>2 | 4=>4 | 171=>273 | 0=>0 | 53=>274 | 37=>91 | 5=>5 | 173=>277 | 212=>292 | 51=>293 | 20=>20 | 213=>294 | 46=>295 | 232=>311 | 233=>312 | n=>n,fun | 17=>2 | 18=>3 | 19=>4 | n=>n⟩
theorem Tryz.lays171:Go.Proofs.Lays.n171 Tryz.prog Tryz.lays171_ren:={
 mixed := by kernel_rfl
 f129:=Tryz.func259.trans (congrArg some (by kernel_rfl))
 f171:=Tryz.func89.trans (congrArg some (by kernel_rfl))
 f243:=Tryz.func169.trans (congrArg some (by kernel_rfl))
 f246:=Tryz.func209.trans (congrArg some (by kernel_rfl))
 f283:=Tryz.func240.trans (congrArg some (by kernel_rfl))
 f284:=Tryz.func241.trans (congrArg some (by kernel_rfl))
 f285:=Tryz.func242.trans (congrArg some (by kernel_rfl))
 f286:=Tryz.func243.trans (congrArg some (by kernel_rfl))
 f317:=Tryz.func258.trans (congrArg some (by kernel_rfl))
 f318:=Tryz.func260.trans (congrArg some (by kernel_rfl))
 f319:=Tryz.func261.trans (congrArg some (by kernel_rfl))
 f320:=Tryz.func262.trans (congrArg some (by kernel_rfl))
 f337:=Tryz.func269.trans (congrArg some (by kernel_rfl))
 f338:=Tryz.func270.trans (congrArg some (by kernel_rfl))
 t0:=Tryz.underlying0
 a0:=Tryz.isAgg0
 z0:=Tryz.sizeOf0
 v0:=Tryz.zeroValue0
 t2:=Tryz.underlying2
 a2:=Tryz.isAgg2
 z2:=Tryz.sizeOf2
 v2:=Tryz.zeroValue2
 t3:=Tryz.underlying3
 a3:=Tryz.isAgg3
 z3:=Tryz.sizeOf3
 v3:=Tryz.zeroValue3
 t4:=Tryz.underlying4
 a4:=Tryz.isAgg4
 z4:=Tryz.sizeOf4
 v4:=Tryz.zeroValue4
 t5:=Tryz.underlying5
 a5:=Tryz.isAgg5
 z5:=Tryz.sizeOf5
 v5:=Tryz.zeroValue5
 t9:=Tryz.underlying9
 a9:=Tryz.isAgg9
 z9:=Tryz.sizeOf9
 v9:=Tryz.zeroValue9
 t20:=Tryz.underlying20
 a20:=Tryz.isAgg20
 z20:=Tryz.sizeOf20
 v20:=Tryz.zeroValue20
 t37:=Tryz.underlying91
 a37:=Tryz.isAgg91
 z37:=Tryz.sizeOf91
 v37:=Tryz.zeroValue91
 t46:=Tryz.underlying295
 a46:=Tryz.isAgg295
 z46:=Tryz.sizeOf295
 v46:=Tryz.zeroValue295
 t51:=Tryz.underlying293
 a51:=Tryz.isAgg293
 z51:=Tryz.sizeOf293
 v51:=Tryz.zeroValue293
 t53:=Tryz.underlying274
 a53:=Tryz.isAgg274
 z53:=Tryz.sizeOf274
 v53:=Tryz.zeroValue274
 t171:=Tryz.underlying273
 a171:=Tryz.isAgg273
 z171:=Tryz.sizeOf273
 v171:=Tryz.zeroValue273
 t173:=Tryz.underlying277
 a173:=Tryz.isAgg277
 z173:=Tryz.sizeOf277
 v173:=Tryz.zeroValue277
 t212:=Tryz.underlying292
 a212:=Tryz.isAgg292
 z212:=Tryz.sizeOf292
 v212:=Tryz.zeroValue292
 t213:=Tryz.underlying294
 a213:=Tryz.isAgg294
 z213:=Tryz.sizeOf294
 t232:=Tryz.underlying311
 a232:=Tryz.isAgg311
 z232:=Tryz.sizeOf311
 v232:=Tryz.zeroValue311
 t233:=Tryz.underlying312
 a233:=Tryz.isAgg312
 z233:=Tryz.sizeOf312
 v233:=Tryz.zeroValue312
 g17:=by kernel_rfl
 g18:=by kernel_rfl
 g19:=by kernel_rfl }
open Go.RowKit Go.Sort Go.Lib in
theorem Tryz.strconv_Itoa_small (i:Nat) (hi:i < 100) (w:World) :
  Calls Tryz.prog 89 #[.int .i64 i] w fun e w'=>e=.returned (.string ⟨(Lib.decDigits i).toArray⟩)∧w'=w:=Any.strconv_Itoa_small Tryz.lays171 i hi w
end Go.Proofs
end
section
namespace Go.Proofs.YtleomfgijkapfaaGreatDoor
open Go Go.RowKit Go.Proofs.YtleomfgijkapfaaGreatDoor.Abs
set_option maxRecDepth 100000
def VA:List (List AV)→Option (List (List UInt8))
 | []=>some []
 | [.str s] :: r=>match VA r with
  | some l=>some (s :: l)
  | none=>none
 | _=>none
theorem FK:∀ {rows:List (List AV)} {l:List (List UInt8)},VA rows=some l→rows=l.map fun x=>[.str x]
 | [],l,h=>by cases h; rfl
 | [.str s] :: r,l,h=>by
  simp only [VA] at h
  split at h
  ·rename_i l' h1
   cases h
   rw [FK h1]; rfl
  ·cases h
 | [] :: r,l,h=>by simp [VA] at h
 | (_ :: _ :: _) :: r,l,h=>by simp [VA] at h
 | [.undef] :: r,l,h=>by simp [VA] at h
 | [.bool _] :: r,l,h=>by simp [VA] at h
 | [.int _ _] :: r,l,h=>by simp [VA] at h
 | [.nilp] :: r,l,h=>by simp [VA] at h
 | [.nilf] :: r,l,h=>by simp [VA] at h
 | [.nilm] :: r,l,h=>by simp [VA] at h
 | [.nili] :: r,l,h=>by simp [VA] at h
 | [.nils _] :: r,l,h=>by simp [VA] at h
 | [.lst _ _] :: r,l,h=>by simp [VA] at h
 | [.own _ _] :: r,l,h=>by simp [VA] at h
 | [.arr _ _ _ _] :: r,l,h=>by simp [VA] at h
 | [.ref _] :: r,l,h=>by simp [VA] at h
 | [.ptr _ _] :: r,l,h=>by simp [VA] at h
 | [.map _] :: r,l,h=>by simp [VA] at h
 | [.fn _ _ _] :: r,l,h=>by simp [VA] at h
 | [.agg _] :: r,l,h=>by simp [VA] at h
 | [.tup _] :: r,l,h=>by simp [VA] at h
theorem Zgd:∀ l:List (List UInt8),VA (l.map fun x=>[.str x])=some l
 | []=>rfl
 | x :: l=>by rw [List.map_cons,VA,Zgd l]
def orJ (f:FuncId)(args:List AV):Option AV:=if f=88 then (match args with
 | [a,.str s]=>match a.ro with
  | .lst 1 rows=>match VA rows with
   | some l=>if l.length≤140737488355328∧(Lib.join l s).length≤140737488355328 then some (.str (Lib.join l s)) else none
   | none=>none
  | _=>none
 | _=>none) else none
theorem bytes_eq (s:List UInt8):(⟨s.toArray⟩:ByteArray).data.toList=s:=by simp
theorem xs1 {xs:Array Value}(h:xs.size=1):∃ x,xs=#[x]:=by
 cases xs with | mk l=>match l,h with | [x],_=>exact ⟨x,rfl⟩
theorem xs2 {xs:Array Value}(h:xs.size=2):∃ x y,xs=#[x,y]:=by
 cases xs with | mk l=>match l,h with | [x,y],_=>exact ⟨x,y,rfl⟩
theorem Zok {Γ:Zo}{w:World}{k:IntKind}{n:Int}{x:Value}(h:Rep Γ w (.int k n) x):x=.int k n:=by cases h; rfl
theorem Zol {Γ:Zo}{w:World}{s:List UInt8}{x:Value}(h:Rep Γ w (.str s) x):x=.string ⟨s.toArray⟩:=by cases h; rfl
theorem Zl2 {Γ:Zo}{w:World}{xs:List (List UInt8)}{x:Value}(h:Rep Γ w (.lst 1 (xs.map fun s=>[.str s])) x):(xs=[]∧∃ A cap,x=.slice A 0 cap)∨∃ b o cap,x=.slice (some ⟨b,o,none⟩) xs.length cap∧xs.length≤cap∧∀ (j:Nat) (s:List UInt8),xs[j]? = some s→w.cell? ⟨b,o + j,none⟩=some (.string ⟨s.toArray⟩):=by
 generalize hq:xs.map (fun s=>[AV.str s])=rows at h
 cases h with
 | lstNil=>cases xs with | nil=>exact .inl ⟨rfl,_,_,rfl⟩ | cons c l=>cases hq
 | lstE=>cases xs with | nil=>exact .inl ⟨rfl,_,_,rfl⟩ | cons c l=>cases hq
 | lst _ _ b o cap cv hlen hk hc hr =>
  subst hq
  have hl:(xs.map fun s=>[AV.str s]).length=xs.length:=by simp
  rw [hl] at hlen
  refine .inr ⟨b,o,cap,by rw [hl],hlen,fun j s hj=>?_⟩
  have h1:(xs.map fun s=>[AV.str s])[j]? = some [.str s]:=by rw [List.getElem?_map,hj]; rfl
  have h2:=hc j 0 _ _ h1 rfl
  have h3:=hr j 0 _ _ h1 rfl
  generalize cv j 0=u at h2 h3
  cases h3
  simpa using h2.1
theorem Zmo (W0:World):∀ f args v,orJ f args=some v→U6 Tryz.prog W0 f args v:=by
 intro f args v h
 unfold orJ at h
 split at h
 ·rename_i e; subst e
  split at h
  ·rename_i a s
   split at h
   ·rename_i rows ha
    split at h
    ·rename_i l hrows
     split at h
     ·rename_i ho
      cases h
      obtain rfl:=FK hrows
      refine ⟨fun k r h=>(by cases h),fun Γ w xs hb hΓ hsz hx=>?_⟩
      obtain ⟨x,y,rfl⟩:=xs2 hsz
      have h0:=(hx 0 _ rfl).ro
      rw [ha] at h0
      obtain rfl:y=_:=Zol (hx 1 _ rfl)
      rcases Zl2 h0 with ⟨rfl,A,cap,e1⟩ | ⟨b,o,cap,e1,hcap,hcell⟩
      ·have e1:x=.slice A 0 cap:=e1
       subst e1
       refine YG Tryz.func88 (by kernel_rfl) rfl ((Tryz.strings_Join_none A cap ⟨s.toArray⟩ w).mono ?_)
       rintro e w' ⟨rfl,rfl⟩
       exact ⟨_,rfl,Below.refl _ _,.str []⟩
      ·have e1:x=.slice (some ⟨b,o,none⟩) l.length cap:=e1
       subst e1
       by_cases hl:l=[]
       ·subst hl
        refine YG Tryz.func88 (by kernel_rfl) rfl ((Tryz.strings_Join_none (some ⟨b,o,none⟩) cap ⟨s.toArray⟩ w).mono ?_)
        rintro e w' ⟨rfl,rfl⟩
        exact ⟨_,rfl,Below.refl _ _,.str []⟩
       have hm:(l.map fun s=>(⟨s.toArray⟩:ByteArray)).map (·.data.toList)=l:=by rw [List.map_map]; exact (List.map_congr_left fun a _=>bytes_eq a).trans (List.map_id' l)
       have hJ:=Tryz.strings_Join b o cap (l.map fun s=>⟨s.toArray⟩) ⟨s.toArray⟩ w (fun j x hj=>by
        rw [List.getElem?_map] at hj
        obtain ⟨s,hs,rfl⟩:=Option.map_eq_some_iff.1 hj
        exact hcell j s hs) (by
        cases l with
        | nil=>exact absurd rfl hl
        | cons s l=>exact World.block_lt_of_cell? w _ (hcell 0 s rfl)) (by simpa using ho.1) (by simpa using hcap) (by rw [hm,bytes_eq]; exact ho.2)
       rw [hm,bytes_eq,List.length_map] at hJ
       refine YG Tryz.func88 (by kernel_rfl) rfl (hJ.mono ?_)
       rintro e w' ⟨rfl,hb'⟩
       exact ⟨_,rfl,hb',.str _⟩
     ·cases h
    ·cases h
   ·cases h
  ·cases h
 ·cases h
end Go.Proofs.YtleomfgijkapfaaGreatDoor
end
