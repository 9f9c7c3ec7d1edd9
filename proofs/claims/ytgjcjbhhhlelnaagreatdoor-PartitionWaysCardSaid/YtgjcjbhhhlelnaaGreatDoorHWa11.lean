import Derived.Test.YtgjcjbhhhlelnaaGreatDoorHWa10
set_option linter.all false
section
namespace Go.Proofs.YtgjcjbhhhlelnaaGreatDoor
open Go Go.Proofs.YtgjcjbhhhlelnaaGreatDoor.Abs
set_option maxRecDepth 100000
set_option maxHeartbeats 0
def Hf:FuncId→List Nat:=fun _=>[]
def Zi9:FuncId→List Nat:=fun x=>if x=Nh then [1001000] else []
noncomputable def SA:AFn:=cF (cFn Tryz.prog Hf Tryz.f10)
theorem ZfA:cFn Tryz.prog Hf Tryz.f10=some SA:=Zmp (by kernel_rfl)
noncomputable def SB:AFn:=cF (cFn Tryz.prog Zi9 Tryz.f24)
theorem ZfB:cFn Tryz.prog Zi9 Tryz.f24=some SB:=Zmp (by kernel_rfl)
noncomputable def FX:AFn:=cF (cFn Tryz.prog Hf Tryz.f32)
theorem Zhv:cFn Tryz.prog Hf Tryz.f32=some FX:=Zmp (by kernel_rfl)
def WH:WP :=
 .seq (.seq (.region false [⟨(some 34),.mv (.tmp 8),none⟩,
   ⟨(some 35),.mv (.tmp 7),none⟩,
   ⟨(some 36),.len .slice (.tmp 35),none⟩,
   ⟨(some 37),.bin .lss .prim (.tmp 34) (.tmp 36),none⟩])
  (.cond (.tmp 37) (.skip)
  (.exit 0)))
 (.block 1 (.region true [⟨(some 38),.mv (.tmp 8),none⟩,
   ⟨(some 39),.mv (.tmp 7),none⟩,
   ⟨(some 40),.mv (.tmp 8),none⟩,
   ⟨(some 41),.slice (.slice 1) (.tmp 39) (some (.tmp 40)) none,none⟩,
   ⟨(some 42),.mv (.tmp 7),none⟩,
   ⟨(some 43),.mv (.tmp 8),none⟩,
   ⟨(some 44),.slice (.slice 1) (.tmp 42) none (some (.tmp 43)),none⟩,
   ⟨(some 45),.copy 1 (.tmp 41) (.tmp 44),none⟩,
   ⟨(some 46),.bin .add .prim (.tmp 38) (.tmp 45),none⟩,
   ⟨(some 8),.take 46,none⟩]))
def Xr:WP:=.loop WH
def Xq:WP :=
 .seq (.region false [⟨(some 47),.take 7,none⟩,
   ⟨(some 4),.take 47,none⟩])
 (.ret)
def WS:WP :=
 .seq (.region false [⟨(some 28),.mv (.tmp 6),none⟩,
   ⟨(some 29),.conv (.int .i64) (.tmp 28),none⟩,
   ⟨(some 30),.mksl 3 [(.int .i64 0)] (.tmp 29),none⟩,
   ⟨(some 7),.take 30,none⟩])
 (.seq (.region false [⟨(some 31),.mv (.tmp 7),none⟩,
   ⟨(some 32),.mv (.tmp 0),none⟩,
   ⟨(some 33),.copy 1 (.tmp 31) (.tmp 32),none⟩,
   ⟨(some 8),.take 33,none⟩])
  (.seq (.block 0 (Xr))
  Xq))
def WR:WP :=
 .seq (.region false [⟨(some 13),.mv (.tmp 0),none⟩,
   ⟨(some 14),.len .slice (.tmp 13),none⟩,
   ⟨(some 15),.conv (.int .u64) (.tmp 14),none⟩,
   ⟨(some 16),.mv (.tmp 1),none⟩,
   ⟨(some 17),.conv (.int .u64) (.tmp 16),none⟩,
   ⟨(some 18),.call (.const (.fn 44 [] [])) [(.inr (.tmp 15)),(.inr (.tmp 17))],none⟩,
   ⟨(some 12),.mv (.tmp 18),none⟩,
   ⟨(some 19),.extract (.tmp 12) 0,none⟩,
   ⟨(some 20),.extract (.tmp 12) 1,none⟩,
   ⟨(some 5),.take 19,none⟩,
   ⟨(some 6),.take 20,none⟩])
 (.seq (.seq (.region false [⟨(some 21),.mv (.tmp 5),none⟩,
    ⟨(some 22),.bin .gtr .prim (.tmp 21) (.const (.int .u64 0)),none⟩,
    ⟨(some 23),.mv (.tmp 22),none⟩,
    ⟨(some 24),.mv (.tmp 6),(some (23,false))⟩,
    ⟨(some 25),.bin .gtr .prim (.tmp 24) (.const (.int .u64 9223372036854775807)),(some (23,false))⟩,
    ⟨(some 26),.pick (.tmp 23) (.const (.bool true)) (.tmp 25),none⟩])
  (.cond (.tmp 26) (.region false [⟨(some 27),.bad,none⟩,
    ⟨none,.bad,none⟩])
   (.skip)))
  WS)
def Qz:WP :=
 .seq (.region false [⟨(some 4),.mv (.const (.own 1 [])),none⟩])
 (.seq (.seq (.region false [⟨(some 9),.mv (.tmp 1),none⟩,
    ⟨(some 10),.bin .lss .prim (.tmp 9) (.const (.int .i64 0)),none⟩])
  (.cond (.tmp 10) (.region false [⟨(some 11),.bad,none⟩,
    ⟨none,.bad,none⟩])
   (.skip)))
  WR)
def Zw:AFn:=⟨48,[.tmp 4],Qz,true⟩
theorem IP:cFn Tryz.prog Zi9 Tryz.f28=some Zw:=by kernel_rfl
noncomputable def LK:AFn:=cF (cFn Tryz.prog Hf Tryz.f44)
theorem Zco:cFn Tryz.prog Hf Tryz.f44=some LK:=Zmp (by kernel_rfl)
noncomputable def IZ:AFn:=cF (cFn Tryz.prog Hf Tryz.f67)
theorem Fe:cFn Tryz.prog Hf Tryz.f67=some IZ:=Zmp (by kernel_rfl)
noncomputable def Oa:AFn:=cF (cFn Tryz.prog Hf Tryz.f68)
theorem Ff:cFn Tryz.prog Hf Tryz.f68=some Oa:=Zmp (by kernel_rfl)
noncomputable def Zvw:List (Nat×AFn):=[(10,SA),(24,SB),(32,FX),(28,Zw),(44,LK),(67,IZ),(68,Oa)] ++ tab
theorem Zk8:∀ p ∈ Zvw,∃ fn takes,Tryz.prog.funcs[p.1]? = some fn∧(fn.name == "runtime.NumGoroutine")=false∧cFn Tryz.prog takes fn=some p.2:=by
 intro p hp
 rcases List.mem_append.1 hp with hp | hp
 ·simp only [List.mem_cons,List.not_mem_nil,or_false] at hp
  rcases hp with rfl | rfl | rfl | rfl | rfl | rfl | rfl
  ·exact ⟨Tryz.f10,Hf,Tryz.func10,by kernel_rfl,ZfA⟩
  ·exact ⟨Tryz.f24,Zi9,Tryz.func24,by kernel_rfl,ZfB⟩
  ·exact ⟨Tryz.f32,Hf,Tryz.func32,by kernel_rfl,Zhv⟩
  ·exact ⟨Tryz.f28,Zi9,Tryz.func28,by kernel_rfl,IP⟩
  ·exact ⟨Tryz.f44,Hf,Tryz.func44,by kernel_rfl,Zco⟩
  ·exact ⟨Tryz.f67,Hf,Tryz.func67,by kernel_rfl,Fe⟩
  ·exact ⟨Tryz.f68,Hf,Tryz.func68,by kernel_rfl,Ff⟩
 ·exact Zts p hp
end Go.Proofs.YtgjcjbhhhlelnaaGreatDoor
end
