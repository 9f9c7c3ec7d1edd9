import Derived.Test.YtgjcjbhhhlelnaaGreatDoorHAh10
set_option linter.all false
section
namespace Go.Proofs.YtgjcjbhhhlelnaaGreatDoor
open Go Go.Proofs.YtgjcjbhhhlelnaaGreatDoor.Abs
set_option maxRecDepth 100000
set_option maxHeartbeats 0
def Iq:FuncId→List Nat:=fun _=>[]
def ZkG:FuncId→List Nat:=fun x=>if x=Ee then [1001000] else []
noncomputable def Aq:AFn:=cF (cFn Tryz.prog Iq Tryz.f10)
theorem Zh9:cFn Tryz.prog Iq Tryz.f10=some Aq:=Zo0 (by kernel_rfl)
noncomputable def Ar:AFn:=cF (cFn Tryz.prog ZkG Tryz.f24)
theorem ZhA:cFn Tryz.prog ZkG Tryz.f24=some Ar:=Zo0 (by kernel_rfl)
noncomputable def Zbg:AFn:=cF (cFn Tryz.prog Iq Tryz.f32)
theorem Zjw:cFn Tryz.prog Iq Tryz.f32=some Zbg:=Zo0 (by kernel_rfl)
def WR:YE :=
 .seq (.seq (.region false [⟨(some 34),.mv (.tmp 8),none⟩,
   ⟨(some 35),.mv (.tmp 7),none⟩,
   ⟨(some 36),.len .slice (.tmp 35),none⟩,
   ⟨(some 37),.bin .lss .prim (.tmp 34) (.tmp 36),none⟩])
  (.cond (.tmp 37) (.skip)
  (.exit 0)))
 (.block 1 (.region true [⟨(some 38),.mv (.tmp 8),none⟩,
   ⟨(some 39),.mv (.tmp 7),none⟩,
   ⟨(some 40),.mv (.tmp 8),none⟩,
   ⟨(some 41),.slice (.slice 1) (.tmp 39) (some (.tmp 40)) none,none⟩,
   ⟨(some 42),.mv (.tmp 7),none⟩,
   ⟨(some 43),.mv (.tmp 8),none⟩,
   ⟨(some 44),.slice (.slice 1) (.tmp 42) none (some (.tmp 43)),none⟩,
   ⟨(some 45),.copy 1 (.tmp 41) (.tmp 44),none⟩,
   ⟨(some 46),.bin .add .prim (.tmp 38) (.tmp 45),none⟩,
   ⟨(some 8),.take 46,none⟩]))
def XE:YE:=.loop WR
def XD:YE :=
 .seq (.region false [⟨(some 47),.take 7,none⟩,
   ⟨(some 4),.take 47,none⟩])
 (.ret)
def Qb:YE :=
 .seq (.region false [⟨(some 28),.mv (.tmp 6),none⟩,
   ⟨(some 29),.conv (.int .i64) (.tmp 28),none⟩,
   ⟨(some 30),.mksl 3 [(.int .i64 0)] (.tmp 29),none⟩,
   ⟨(some 7),.take 30,none⟩])
 (.seq (.region false [⟨(some 31),.mv (.tmp 7),none⟩,
   ⟨(some 32),.mv (.tmp 0),none⟩,
   ⟨(some 33),.copy 1 (.tmp 31) (.tmp 32),none⟩,
   ⟨(some 8),.take 33,none⟩])
  (.seq (.block 0 (XE))
  XD))
def Qa:YE :=
 .seq (.region false [⟨(some 13),.mv (.tmp 0),none⟩,
   ⟨(some 14),.len .slice (.tmp 13),none⟩,
   ⟨(some 15),.conv (.int .u64) (.tmp 14),none⟩,
   ⟨(some 16),.mv (.tmp 1),none⟩,
   ⟨(some 17),.conv (.int .u64) (.tmp 16),none⟩,
   ⟨(some 18),.call (.const (.fn 44 [] [])) [(.inr (.tmp 15)),(.inr (.tmp 17))],none⟩,
   ⟨(some 12),.mv (.tmp 18),none⟩,
   ⟨(some 19),.extract (.tmp 12) 0,none⟩,
   ⟨(some 20),.extract (.tmp 12) 1,none⟩,
   ⟨(some 5),.take 19,none⟩,
   ⟨(some 6),.take 20,none⟩])
 (.seq (.seq (.region false [⟨(some 21),.mv (.tmp 5),none⟩,
    ⟨(some 22),.bin .gtr .prim (.tmp 21) (.const (.int .u64 0)),none⟩,
    ⟨(some 23),.mv (.tmp 22),none⟩,
    ⟨(some 24),.mv (.tmp 6),(some (23,false))⟩,
    ⟨(some 25),.bin .gtr .prim (.tmp 24) (.const (.int .u64 9223372036854775807)),(some (23,false))⟩,
    ⟨(some 26),.pick (.tmp 23) (.const (.bool true)) (.tmp 25),none⟩])
  (.cond (.tmp 26) (.region false [⟨(some 27),.bad,none⟩,
    ⟨none,.bad,none⟩])
   (.skip)))
  Qb)
def QK:YE :=
 .seq (.region false [⟨(some 4),.mv (.const (.own 1 [])),none⟩])
 (.seq (.seq (.region false [⟨(some 9),.mv (.tmp 1),none⟩,
    ⟨(some 10),.bin .lss .prim (.tmp 9) (.const (.int .i64 0)),none⟩])
  (.cond (.tmp 10) (.region false [⟨(some 11),.bad,none⟩,
    ⟨none,.bad,none⟩])
   (.skip)))
  Qa)
def Zy:AFn:=⟨48,[.tmp 4],QK,true⟩
theorem O4:cFn Tryz.prog ZkG Tryz.f28=some Zy:=by kernel_rfl
noncomputable def Ba:AFn:=cF (cFn Tryz.prog Iq Tryz.f44)
theorem ZdO:cFn Tryz.prog Iq Tryz.f44=some Ba:=Zo0 (by kernel_rfl)
noncomputable def OC:AFn:=cF (cFn Tryz.prog Iq Tryz.f67)
theorem ZaC:cFn Tryz.prog Iq Tryz.f67=some OC:=Zo0 (by kernel_rfl)
noncomputable def OD:AFn:=cF (cFn Tryz.prog Iq Tryz.f68)
theorem ZaD:cFn Tryz.prog Iq Tryz.f68=some OD:=Zo0 (by kernel_rfl)
noncomputable def Zx7:List (Nat×AFn):=[(10,Aq),(24,Ar),(32,Zbg),(28,Zy),(44,Ba),(67,OC),(68,OD)] ++ tab
theorem ZmY:∀ p ∈ Zx7,∃ fn takes,Tryz.prog.funcs[p.1]? = some fn∧(fn.name == "runtime.NumGoroutine")=false∧cFn Tryz.prog takes fn=some p.2:=by
 intro p hp
 rcases List.mem_append.1 hp with hp | hp
 ·simp only [List.mem_cons,List.not_mem_nil,or_false] at hp
  rcases hp with rfl | rfl | rfl | rfl | rfl | rfl | rfl
  ·exact ⟨Tryz.f10,Iq,Tryz.func10,by kernel_rfl,Zh9⟩
  ·exact ⟨Tryz.f24,ZkG,Tryz.func24,by kernel_rfl,ZhA⟩
  ·exact ⟨Tryz.f32,Iq,Tryz.func32,by kernel_rfl,Zjw⟩
  ·exact ⟨Tryz.f28,ZkG,Tryz.func28,by kernel_rfl,O4⟩
  ·exact ⟨Tryz.f44,Iq,Tryz.func44,by kernel_rfl,ZdO⟩
  ·exact ⟨Tryz.f67,Iq,Tryz.func67,by kernel_rfl,ZaC⟩
  ·exact ⟨Tryz.f68,Iq,Tryz.func68,by kernel_rfl,ZaD⟩
 ·exact Zv5 p hp
end Go.Proofs.YtgjcjbhhhlelnaaGreatDoor
end
