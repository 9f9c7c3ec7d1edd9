import Derived.Test.YtcfjcimhjmpkiaaGreatDoorRows
import Derived.ProofKit
import Derived.Test.YtcfjcimhjmpkiaaGreatDoorHDe14
set_option linter.all false
section
namespace Go.Proofs.YtcfjcimhjmpkiaaGreatDoor
open Go Go.Proofs.YtcfjcimhjmpkiaaGreatDoor.Abs
set_option maxRecDepth 100000
set_option maxHeartbeats 0
abbrev HP:=List AObj
abbrev GT:=Nat→Option (List AV)
abbrev KT:=FuncId→List AV→HP→KR
def cF (x:Option AFn):AFn:=x.getD ⟨0,[],.bad,false⟩
theorem Zp {x:Option AFn}(h:x.isSome=true):x=some (cF x):=by cases x with | none=>cases h | some v=>rfl
def takes:FuncId→List Nat:=fun _=>[]
abbrev WE:FuncId:=3
abbrev Qo:FuncId:=4
abbrev We:FuncId:=12
abbrev YR:FuncId:=89
abbrev U1:FuncId:=94
abbrev YF:FuncId:=136
abbrev Zr:TypeId:=74
noncomputable def cG (f:Func):AFn:=cF (cFn Tryz.prog takes f)
noncomputable def Yk:AFn:=cG Tryz.f3
noncomputable def Y2:AFn:=cG Tryz.f4
noncomputable def WB:AFn:=cG Tryz.f10
noncomputable def Xh:AFn:=cG Tryz.f11
noncomputable def Vu:AFn:=cG Tryz.f13
noncomputable def Hl:AFn:=cG Tryz.f14
noncomputable def U4:AFn:=cG Tryz.f15
noncomputable def VW:AFn:=cG Tryz.f17
noncomputable def XG:AFn:=cG Tryz.f25
noncomputable def Vo:AFn:=cG Tryz.f28
noncomputable def Jz:AFn:=cG Tryz.f32
noncomputable def Jw:AFn:=cG Tryz.f31
noncomputable def Vt:AFn:=cG Tryz.f33
noncomputable def Xg:AFn:=cG Tryz.f35
noncomputable def Ju:AFn:=cG Tryz.f34
noncomputable def VX:AFn:=cG Tryz.f36
noncomputable def QJ:AFn:=cG Tryz.f38
noncomputable def XH:AFn:=cG Tryz.f49
noncomputable def Vm:AFn:=cG Tryz.f51
noncomputable def XI:AFn:=cG Tryz.f50
noncomputable def YI:AFn:=cG Tryz.f52
noncomputable def YS:AFn:=cG Tryz.f53
noncomputable def Vs:AFn:=cG Tryz.f59
noncomputable def Vr:AFn:=cG Tryz.f61
noncomputable def XL:AFn:=cG Tryz.f60
noncomputable def Jy:AFn:=cG Tryz.f62
noncomputable def XM:AFn:=cG Tryz.f63
noncomputable def Jv:AFn:=cG Tryz.f64
noncomputable def Vp:AFn:=cG Tryz.f65
noncomputable def JL:AFn:=cG Tryz.f66
noncomputable def Wh:AFn:=cG Tryz.f68
noncomputable def Jt:AFn:=cG Tryz.f87
noncomputable def YT:AFn:=cG Tryz.f89
noncomputable def Vq:AFn:=cG Tryz.f95
noncomputable def U5:AFn:=cG Tryz.f94
noncomputable def tab:List (Nat×AFn):=[(3,Yk),(4,Y2),(10,WB),(11,Xh),(13,Vu),(14,Hl),(15,U4),(17,VW),(25,XG),(28,Vo),(32,Jz),(31,Jw),(33,Vt),(35,Xg),(34,Ju),(36,VX),(38,QJ),(49,XH),(51,Vm),(50,XI),(52,YI),(53,YS),(59,Vs),(61,Vr),(60,XL),(62,Jy),(63,XM),(64,Jv),(65,Vp),(66,JL),(68,Wh),(87,Jt),(89,YT),(95,Vq),(94,U5)]
abbrev T9 (p:Nat×AFn):Prop:=∃ fn takes,Tryz.prog.funcs[p.1]? = some fn∧(fn.name == "runtime.NumGoroutine")=false∧cFn Tryz.prog takes fn=some p.2
theorem T0:∀ p ∈ ([]:List (Nat×AFn)),T9 p:=fun _ h=>by cases h
theorem T1 {f:Nat}{fn:Func}{l:List (Nat×AFn)}(h:Tryz.prog.funcs[f]? = some fn)(k:(!(fn.name == "runtime.NumGoroutine")&&(cFn Tryz.prog takes fn).isSome)=true)(r:∀ p ∈ l,T9 p):∀ p ∈ (f,cG fn)::l,T9 p:=fun p hp=>by
  rw [Bool.and_eq_true,Bool.not_eq_true'] at k
  rcases List.mem_cons.1 hp with rfl | hp
  · refine ⟨fn,takes,h,k.1,?_⟩
    show _=some (cG fn)
    unfold cG cF
    cases e:cFn Tryz.prog takes fn with
    | none=>rw [e] at k;cases k.2
    | some v=>rfl
  · exact r p hp
theorem BQ:∀ p ∈ tab,T9 p:=T1 Tryz.func3 (by kernel_rfl)<|
 T1 Tryz.func4 (by kernel_rfl)<|
 T1 Tryz.func10 (by kernel_rfl)<|
 T1 Tryz.func11 (by kernel_rfl)<|
 T1 Tryz.func13 (by kernel_rfl)<|
 T1 Tryz.func14 (by kernel_rfl)<|
 T1 Tryz.func15 (by kernel_rfl)<|
 T1 Tryz.func17 (by kernel_rfl)<|
 T1 Tryz.func25 (by kernel_rfl)<|
 T1 Tryz.func28 (by kernel_rfl)<|
 T1 Tryz.func32 (by kernel_rfl)<|
 T1 Tryz.func31 (by kernel_rfl)<|
 T1 Tryz.func33 (by kernel_rfl)<|
 T1 Tryz.func35 (by kernel_rfl)<|
 T1 Tryz.func34 (by kernel_rfl)<|
 T1 Tryz.func36 (by kernel_rfl)<|
 T1 Tryz.func38 (by kernel_rfl)<|
 T1 Tryz.func49 (by kernel_rfl)<|
 T1 Tryz.func51 (by kernel_rfl)<|
 T1 Tryz.func50 (by kernel_rfl)<|
 T1 Tryz.func52 (by kernel_rfl)<|
 T1 Tryz.func53 (by kernel_rfl)<|
 T1 Tryz.func59 (by kernel_rfl)<|
 T1 Tryz.func61 (by kernel_rfl)<|
 T1 Tryz.func60 (by kernel_rfl)<|
 T1 Tryz.func62 (by kernel_rfl)<|
 T1 Tryz.func63 (by kernel_rfl)<|
 T1 Tryz.func64 (by kernel_rfl)<|
 T1 Tryz.func65 (by kernel_rfl)<|
 T1 Tryz.func66 (by kernel_rfl)<|
 T1 Tryz.func68 (by kernel_rfl)<|
 T1 Tryz.func87 (by kernel_rfl)<|
 T1 Tryz.func89 (by kernel_rfl)<|
 T1 Tryz.func95 (by kernel_rfl)<|
 T1 Tryz.func94 (by kernel_rfl)<|T0
end Go.Proofs.YtcfjcimhjmpkiaaGreatDoor
end
