import Derived.Test.YtcfjcimhjmpkiaaGreatDoorRows
import Derived.ProofKit
import Derived.Test.YtcfjcimhjmpkiaaGreatDoorHTb14
set_option linter.all false
section
namespace Go.Proofs.YtcfjcimhjmpkiaaGreatDoor
open Go Go.Proofs.YtcfjcimhjmpkiaaGreatDoor.Abs
set_option maxRecDepth 100000
set_option maxHeartbeats 0
abbrev HP:=List AObj
abbrev GT:=Nat→Option (List AV)
abbrev KT:=FuncId→List AV→HP→KR
def cF (x:Option AFn):AFn:=x.getD ⟨0,[],.bad,false⟩
theorem Zr {x:Option AFn}(h:x.isSome=true):x=some (cF x):=by cases x with | none=>cases h | some v=>rfl
def takes:FuncId→List Nat:=fun _=>[]
abbrev Ql:FuncId:=5
abbrev QW:FuncId:=6
abbrev WC:FuncId:=12
abbrev YY:FuncId:=17
abbrev WL:FuncId:=27
abbrev Q9:FuncId:=36
abbrev Z7:FuncId:=37
abbrev ZI:FuncId:=38
abbrev ZR:FuncId:=39
abbrev Zu:FuncId:=68
abbrev WN:FuncId:=69
abbrev Wn:FuncId:=70
abbrev YN:FuncId:=71
abbrev XP:TypeId:=81
abbrev XD:TypeId:=85
abbrev Xh:TypeId:=133
noncomputable def cG (f:Func):AFn:=cF (cFn Tryz.prog takes f)
noncomputable def YE:AFn:=cG Tryz.f5
noncomputable def YI:AFn:=cG Tryz.f6
noncomputable def Va:AFn:=cG Tryz.f10
noncomputable def Xq:AFn:=cG Tryz.f16
noncomputable def QN:AFn:=cG Tryz.f17
noncomputable def Vr:AFn:=cG Tryz.f18
noncomputable def Vs:AFn:=cG Tryz.f19
noncomputable def Ut:AFn:=cG Tryz.f25
noncomputable def QP:AFn:=cG Tryz.f36
noncomputable def YJ:AFn:=cG Tryz.f38
noncomputable def Vt:AFn:=cG Tryz.f40
noncomputable def Uw:AFn:=cG Tryz.f49
noncomputable def Kq:AFn:=cG Tryz.f51
noncomputable def Ux:AFn:=cG Tryz.f50
noncomputable def Xn:AFn:=cG Tryz.f52
noncomputable def XG:AFn:=cG Tryz.f53
noncomputable def Xx:AFn:=cG Tryz.f66
noncomputable def Yo:AFn:=cG Tryz.f68
noncomputable def Jp:AFn:=cG Tryz.f72
noncomputable def H8:AFn:=cG Tryz.f87
noncomputable def XH:AFn:=cG Tryz.f89
noncomputable def tab:List (Nat×AFn):=[(5,YE),(6,YI),(10,Va),(16,Xq),(17,QN),(18,Vr),(19,Vs),(25,Ut),(36,QP),(38,YJ),(40,Vt),(49,Uw),(51,Kq),(50,Ux),(52,Xn),(53,XG),(66,Xx),(68,Yo),(72,Jp),(87,H8),(89,XH)]
abbrev T9 (p:Nat×AFn):Prop:=∃ fn takes,Tryz.prog.funcs[p.1]? = some fn∧(fn.name == "runtime.NumGoroutine")=false∧cFn Tryz.prog takes fn=some p.2
theorem T0:∀ p ∈ ([]:List (Nat×AFn)),T9 p:=fun _ h=>by cases h
theorem T1 {f:Nat}{fn:Func}{l:List (Nat×AFn)}(h:Tryz.prog.funcs[f]? = some fn)(k:(!(fn.name == "runtime.NumGoroutine")&&(cFn Tryz.prog takes fn).isSome)=true)(r:∀ p ∈ l,T9 p):∀ p ∈ (f,cG fn)::l,T9 p:=fun p hp=>by
  rw [Bool.and_eq_true,Bool.not_eq_true'] at k
  rcases List.mem_cons.1 hp with rfl | hp
  · refine ⟨fn,takes,h,k.1,?_⟩
    show _=some (cG fn)
    unfold cG cF
    cases e:cFn Tryz.prog takes fn with
    | none=>rw [e] at k;cases k.2
    | some v=>rfl
  · exact r p hp
theorem Lp:∀ p ∈ tab,T9 p:=T1 Tryz.func5 (by kernel_rfl)<|
 T1 Tryz.func6 (by kernel_rfl)<|
 T1 Tryz.func10 (by kernel_rfl)<|
 T1 Tryz.func16 (by kernel_rfl)<|
 T1 Tryz.func17 (by kernel_rfl)<|
 T1 Tryz.func18 (by kernel_rfl)<|
 T1 Tryz.func19 (by kernel_rfl)<|
 T1 Tryz.func25 (by kernel_rfl)<|
 T1 Tryz.func36 (by kernel_rfl)<|
 T1 Tryz.func38 (by kernel_rfl)<|
 T1 Tryz.func40 (by kernel_rfl)<|
 T1 Tryz.func49 (by kernel_rfl)<|
 T1 Tryz.func51 (by kernel_rfl)<|
 T1 Tryz.func50 (by kernel_rfl)<|
 T1 Tryz.func52 (by kernel_rfl)<|
 T1 Tryz.func53 (by kernel_rfl)<|
 T1 Tryz.func66 (by kernel_rfl)<|
 T1 Tryz.func68 (by kernel_rfl)<|
 T1 Tryz.func72 (by kernel_rfl)<|
 T1 Tryz.func87 (by kernel_rfl)<|
 T1 Tryz.func89 (by kernel_rfl)<|T0
end Go.Proofs.YtcfjcimhjmpkiaaGreatDoor
end
