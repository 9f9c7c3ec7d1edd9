import Derived.Test.YtcfjcimhjmpkiaaGreatDoorHTb16
set_option linter.all false
section
namespace Go.Proofs.YtcfjcimhjmpkiaaGreatDoor
open Go Go.Proofs.YtcfjcimhjmpkiaaGreatDoor.Abs Go.Proofs.YtcfjcimhjmpkiaaGreatDoor.Tl
set_option maxRecDepth 100000
set_option maxHeartbeats 0
noncomputable def Yw (L:Nat)(x:(List UInt8)×PUnit):Option Int:=fT [] L Xx [.rnd [.slot 9 (.int .i64)]] (.one (.int .i64)) [.str] x
noncomputable def XE (L:Nat):Sum tT:=mU 66 [.str] (.one (.int .i64)) (Yw L)
theorem Ul:SX XE:=fun h=>sT h Ue rfl (by kernel_rfl) fun _=>rfl
noncomputable def ZL:List UInt8→(Int×PUnit→Option Int)→Int×PUnit→Option Int:=fun x0 self acc=>bif decide (acc.1 < (↑x0.length:Int)) then bT (Z9 x0 acc.1) fun y=>bT (bif decide ((↑y.toNat:Int) < 32) == false then bT (Z9 x0 acc.1) fun y=>some (decide ((↑y.toNat:Int) > 126)) else some true) fun y=>bif y then some 3 else self (Go.IntKind.i64.wrap (acc.1 + 1),()) else some 0
theorem X9 (L:Nat)(x0:(List UInt8)):Yw L (x0,())=bif decide ((↑x0.length:Int) > 40) then some 6 else Zj (ZL x0) L (0,()):=by kernel_rfl
noncomputable def Wl (L:Nat)(x:(List (List (List UInt8)))×PUnit):Option Int:=fT [XE L] L QP [.rnd [.slot 2 (.int .i64),.slot 13 (.int .i64)],.rnd [.slot 2 (.int .i64),.slot 36 (.int .i64)]] (.one (.int .i64)) [.lst 1 (.lst 1 .str)] x
noncomputable def Jm (L:Nat):Sum tT:=mU 36 [.lst 1 (.lst 1 .str)] (.one (.int .i64)) (Wl L)
theorem Jl:SX Jm:=fun h=>sT h (WM (Ul h) Ue) rfl (by kernel_rfl) fun _=>rfl
noncomputable def Yt:Nat→(Int×Int×PUnit→Option Int)→Int×Int×PUnit→List (List UInt8)→(Int×Int×PUnit→Option Int)→Int×Int×PUnit→Option Int:=fun L self acc y self_1 acc_1=>bif decide (acc_1.2.1 < (↑y.length:Int)) then bT (Z9 y acc_1.2.1) fun y=>bT (Yw L (y,())) fun y=>bif y != 0 then some y else self_1 (acc_1.1,Go.IntKind.i64.wrap (acc_1.2.1 + 1),()) else self (acc_1.1,Go.IntKind.i64.wrap (acc.2.1 + 1),())
noncomputable def Yu:List (List (List UInt8))→Nat→(Int×Int×PUnit→Option Int)→Int×Int×PUnit→Option Int:=fun x0 L self acc=>bif decide (acc.2.1 < (↑x0.length:Int)) then bT (Z9 x0 acc.2.1) fun y=>bT (bif (decide ((↑y.length:Int) < 1) || decide ((↑y.length:Int) > 20)) == false then bT (Z9 x0 0) fun y_1=>some ((↑y.length:Int) != (↑y_1.length:Int)) else some true) fun y_1=>bif y_1 then some 8 else Zj (Yt L self acc y) L (acc.1,0,()) else some 0
theorem Jk (L:Nat)(x0:(List (List (List UInt8)))):Wl L (x0,())=bif decide ((↑x0.length:Int) > 500) then some 6 else Zj (Yu x0 L) L (0,0,()):=by kernel_rfl
noncomputable def WA (L:Nat)(x:(List UInt8)×PUnit):Option Int:=fT [] L Jp [.rnd [.slot 3 (.int .i64)]] (.one (.int .i64)) [.str] x
noncomputable def JA (L:Nat):Sum tT:=mU 72 [.str] (.one (.int .i64)) (WA L)
theorem Ik:SX JA:=fun h=>sT h Ue rfl (by kernel_rfl) fun _=>rfl
noncomputable def KZ:List UInt8→(Int×PUnit→Option Int)→Int×PUnit→Option Int:=fun x0 self acc=>bif decide (acc.1 < (↑x0.length:Int)) then bT (Z9 x0 acc.1) fun y=>bT (bif decide ((↑y.toNat:Int) < 32) == false then bT (Z9 x0 acc.1) fun y=>some (decide ((↑y.toNat:Int) > 126)) else some true) fun y=>bif y then some 3 else self (Go.IntKind.i64.wrap (acc.1 + 1),()) else some 0
theorem Ii (L:Nat)(x0:(List UInt8)):WA L (x0,())=bif decide ((↑x0.length:Int) > 40) then some 6 else Zj (KZ x0) L (0,()):=by kernel_rfl
noncomputable def WJ (L:Nat)(x:(List (List (List UInt8)))×PUnit):Option Int:=fT [JA L] L Vt [.rnd [.slot 2 (.int .i64),.slot 3 (.int .i64)],.rnd [.slot 2 (.int .i64),.slot 4 (.int .i64)]] (.one (.int .i64)) [.lst 1 (.lst 1 .str)] x
noncomputable def VL (L:Nat):Sum tT:=mU 40 [.lst 1 (.lst 1 .str)] (.one (.int .i64)) (WJ L)
theorem Gi:SX VL:=fun h=>sT h (WM (Ik h) Ue) rfl (by kernel_rfl) fun _=>rfl
noncomputable def YW:List (List (List UInt8))→Nat→(Int×Int×PUnit→Option Int)→Int×Int×PUnit→(Int×Int×PUnit→Option Int)→Int×Int×PUnit→Option Int:=fun x0 L self acc self_1 acc_1=>bT (Z9 x0 acc.2.1) fun y=>bif decide (acc_1.2.1 < (↑y.length:Int)) then bT (Z9 x0 acc.2.1) fun y=>bT (Z9 y acc_1.2.1) fun y=>bT (WA L (y,())) fun y=>bif y != 0 then some y else self_1 (acc_1.1,Go.IntKind.i64.wrap (acc_1.2.1 + 1),()) else self (acc_1.1,Go.IntKind.i64.wrap (acc.2.1 + 1),())
noncomputable def YX:List (List (List UInt8))→Nat→(Int×Int×PUnit→Option Int)→Int×Int×PUnit→Option Int:=fun x0 L self acc=>bif decide (acc.2.1 < (↑x0.length:Int)) then bT (Z9 x0 acc.2.1) fun y=>bT (bif decide ((↑y.length:Int) < 1) == false then bT (Z9 x0 acc.2.1) fun y=>some (decide ((↑y.length:Int) > 20)) else some true) fun y=>bT (bif y == false then bT (Z9 x0 acc.2.1) fun y=>bT (Z9 x0 0) fun y_1=>some ((↑y.length:Int) != (↑y_1.length:Int)) else some true) fun y=>bif y then some 8 else Zj (YW x0 L self acc) L (acc.1,0,()) else some 0
theorem KY (L:Nat)(x0:(List (List (List UInt8)))):WJ L (x0,())=bif decide ((↑x0.length:Int) > 500) then some 6 else Zj (YX x0 L) L (0,0,()):=by kernel_rfl
noncomputable def Z5 (L:Nat)(x:(List (List (List UInt8)))×Int×PUnit):Option Int:=fT [] L Vs [.rnd [.slot 5 (.int .i64),.slot 6 (.int .i64)]] (.one (.int .i64)) [.lst 1 (.lst 1 .str),.int .i64] x
noncomputable def Xj (L:Nat):Sum tT:=mU 19 [.lst 1 (.lst 1 .str),.int .i64] (.one (.int .i64)) (Z5 L)
theorem VF:SX Xj:=fun h=>sT h Ue rfl (by kernel_rfl) fun _=>rfl
noncomputable def Qb:List (List (List UInt8))→Int→(Int×Int×PUnit→Option Int)→Int×Int×PUnit→Option Int:=fun x0 x1 self acc=>bif decide (acc.2.1 < (↑x0.length:Int)) then bT (Z9 x0 acc.2.1) fun y=>bT (Z9 y x1) fun y=>self (if (↑y.length:Int) > acc.1 then (↑y.length:Int) else acc.1,Go.IntKind.i64.wrap (acc.2.1 + 1),()) else some acc.1
theorem KX (L:Nat)(x0:(List (List (List UInt8))))(x1:Int):Z5 L (x0,x1,())=Zj (Qb x0 x1) L (0,0,()):=by kernel_rfl
noncomputable def Yv (L:Nat)(x:(List (List (List UInt8)))×PUnit):Option Bool:=fT [] L Xq [.rnd [.slot 2 .bool,.slot 3 (.int .i64),.slot 4 (.int .i64)],.rnd [.slot 2 .bool,.slot 5 (.int .i64)]] (.one .bool) [.lst 1 (.lst 1 .str)] x
noncomputable def WH (L:Nat):Sum tT:=mU 16 [.lst 1 (.lst 1 .str)] (.one .bool) (Yv L)
theorem XB:SX WH:=fun h=>sT h Ue rfl (by kernel_rfl) fun _=>rfl
noncomputable def Y4:List (List (List UInt8))→(Bool×Int×Int×PUnit→Option Bool)→Bool×Int×Int×PUnit→List (List UInt8)→(Bool×Int×PUnit→Option Bool)→Bool×Int×PUnit→Option Bool:=fun x0 self acc y self_1 acc_1=>bT (Z9 x0 acc.2.2.1) fun y_1=>bif decide (acc_1.2.1 < (↑y_1.length:Int)) then bT (Z9 x0 acc.2.2.1) fun y=>bT (Z9 y acc_1.2.1) fun y=>bif decide ((↑y.length:Int) > 100) then some false else self_1 (acc_1.1,Go.IntKind.i64.wrap (acc_1.2.1 + 1),()) else self (acc_1.1,Go.IntKind.i64.wrap (acc.2.1 + (↑y.length:Int)),Go.IntKind.i64.wrap (acc.2.2.1 + 1),())
noncomputable def Wh:List (List (List UInt8))→Nat→(Bool×Int×Int×PUnit→Option Bool)→Bool×Int×Int×PUnit→Option Bool:=fun x0 L self acc=>bif decide (acc.2.2.1 < (↑x0.length:Int)) then bT (Z9 x0 acc.2.2.1) fun y=>bif decide ((↑y.length:Int) > 100) then some false else bT (Z9 x0 acc.2.2.1) fun y=>Zj (Y4 x0 self acc y) L (acc.1,0,()) else some (decide (acc.2.1≤5000))
theorem Ui (L:Nat)(x0:(List (List (List UInt8)))):Yv L (x0,())=bif decide ((↑x0.length:Int) > 600) then some false else Zj (Wh x0 L) L (false,0,0,()):=by kernel_rfl
end Go.Proofs.YtcfjcimhjmpkiaaGreatDoor
end
