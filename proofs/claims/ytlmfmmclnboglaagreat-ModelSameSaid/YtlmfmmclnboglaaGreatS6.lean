import Derived.Test.YtlmfmmclnboglaaGreatS5
set_option linter.all false
section
namespace Go.Proofs.YtlmfmmclnboglaaGreat
open Go Go.RowKit Go.Shelf Go.Proofs.YtlmfmmclnboglaaGreat.Abs
open Nat (reduceAdd reduceLeDiff)
set_option maxRecDepth 100000
set_option maxHeartbeats 0
abbrev Tryz.grow_ren:Ren:=⟨fun | 4=>153 | n=>n,fun | 22=>76 | 25=>103 | n=>n,fun | n=>n⟩
theorem Tryz.grow_lays:Lays8.n4 Tryz.prog Tryz.grow_ren where
 mixed:=by kernel_rfl
 f4:=⟨ "slices.Grow[[]simulator/api.Field,simulator/api.Field]",by decide,Tryz.func153.trans (congrArg some (by kernel_rfl))⟩
 t0:=Tryz.underlying0
 a0:=Tryz.isAgg0
 z0:=Tryz.sizeOf0
 v0:=Tryz.zeroValue0
 t3:=Tryz.underlying3
 a3:=Tryz.isAgg3
 z3:=Tryz.sizeOf3
 v3:=Tryz.zeroValue3
 t4:=Tryz.underlying4
 a4:=Tryz.isAgg4
 z4:=Tryz.sizeOf4
 v4:=Tryz.zeroValue4
 t9:=Tryz.underlying9
 a9:=Tryz.isAgg9
 z9:=Tryz.sizeOf9
 v9:=Tryz.zeroValue9
 t20:=Tryz.underlying20
 a20:=Tryz.isAgg20
 z20:=Tryz.sizeOf20
 v20:=Tryz.zeroValue20
 t22:=Tryz.underlying76
 a22:=Tryz.isAgg76
 z22:=Tryz.sizeOf76
 v22:=Tryz.zeroValue76
theorem Z4d (W0:World):Uf Tryz.prog W0 (Zz2 153 2 24):=by
 obtain ⟨i,h1,h2⟩:∃ i:TypeInfo,Tryz.prog.info? 103=some i∧i.size=2∧i.bytes=24∧∃ z,i.zero=some z∧z.cells.size=2:=⟨_,rfl,rfl,rfl,_,rfl,rfl⟩
 obtain ⟨h2,h3,z,h4,h5⟩:=h2
 have:=Z0K (W0 := W0) Tryz.grow_lays (i0 := i) (z := z) h1 h4 (by rw [h5,h2]) (by omega)
 rw [h2,h3] at this
 exact this
def Z7L:List Nat:=[12,18,20,23,40,41,47,48,49,50,51,99,100,101,102,104,105,106,108,109,110,111,112,113,114,115,116,117,118,143,144,145,147,162,163,178]
noncomputable def fnW (f:Nat):Option AFn:=match Tryz.prog.funcs[f]? with
 | some fn=>if (fn.name == "runtime.NumGoroutine")=true then none else cFn Tryz.prog (fun _=>[]) fn
 | none=>none
theorem Z3H {f:Nat}{a:AFn}(h:fnW f=some a):∃ fn takes,Tryz.prog.funcs[f]? = some fn∧(fn.name == "runtime.NumGoroutine")=false∧cFn Tryz.prog takes fn=some a:=by
 unfold fnW at h
 split at h
 ·rename_i fn e
  split at h
  ·cases h
  ·rename_i e2
   exact ⟨fn,fun _=>[],e,by simpa using e2,h⟩
 ·cases h
noncomputable def Z7D (f:Nat):Option AFn:=match (Z7P.find? (·.1 == f)).map (·.2) with
 | some a=>if Z7L.contains f=true then fnW f else some a
 | none=>if Z7L.contains f=true then fnW f else none
theorem Z55 {f:Nat}{af:AFn}(h:Z7D f=some af):∃ fn takes,Tryz.prog.funcs[f]? = some fn∧(fn.name == "runtime.NumGoroutine")=false∧cFn Tryz.prog takes fn=some af:=by
 unfold Z7D at h
 split at h
 ·rename_i a e
  split at h
  ·exact Z3H h
  ·cases h
   obtain ⟨p,hp,rfl⟩:=Option.map_eq_some_iff.1 e
   have hf:=List.find?_some hp
   have:p.1=f:=by simpa using hf
   subst this
   exact Z54 p (List.mem_of_find?_eq_some hp)
 ·split at h
  ·exact Z3H h
  ·cases h
noncomputable def CW:Cfg:=⟨fun _=>none,Z7D,Zz2 153 2 24,9223372036854775808⟩
theorem Z7j (W0:World):Zzi Tryz.prog W0 CW where
 mixed:=by kernel_rfl
 globals:=fun g cells h=>by cases h
 table:=fun f af h=>Z55 h
 oracle:=Z4d W0
def isT:Option (AV×List Z5×Eff)→Bool
 | some (.bool true,_,_)=>true
 | _=>false
theorem Z2J {r:Option (AV×List Z5×Eff)}(h:isT r=true):∃ hp e,r=some (.bool true,hp,e):=by
 unfold isT at h
 split at h
 ·exact ⟨_,_,rfl⟩
 ·cases h
theorem Zzk:isT (Zqv CW [] 40 ZkU [] [])=true:=by kernel_rfl
theorem Z4B (w:World):Calls Tryz.prog P5 #[] w fun e w'=>e=.returned (.bool true)∧Below w.heap.size w w':=by
 obtain ⟨hp,e,h⟩:=Z2J Zzk
 exact Z6U (Z7j w) Tryz.func9 Zu1 ZuY h
end Go.Proofs.YtlmfmmclnboglaaGreat
end
