import Derived.Test.YtcfjcimhjmpkiaaGreatDoorHDe16
set_option linter.all false
noncomputable section
namespace Go.Proofs.YtcfjcimhjmpkiaaGreatDoor
open Go Go.Proofs.YtcfjcimhjmpkiaaGreatDoor.Abs Go.Proofs.YtcfjcimhjmpkiaaGreatDoor.Tl
set_option maxRecDepth 100000
set_option maxHeartbeats 0
def ZB (L:Nat)(x:Ze×Ze×PUnit):Option Ze:=fT [] L Jy [] (.one (.row 2)) [.row 2,.row 2] x
def YW (L:Nat):Sum tT:=mU 62 [.row 2,.row 2] (.one (.row 2)) (ZB L)
theorem Qi:SX YW:=fun h=>sT h Yi rfl (by kernel_rfl) fun _=>rfl
theorem IW (L:Nat)(x0:Ze)(x1:Ze):ZB L (x0,x1,())=bif decide (Go.IntKind.u64.wrap (x0.2 + x1.2) < x0.2) then some (Ze.mk (Go.IntKind.u64.wrap (Go.IntKind.u64.wrap (x0.1 + x1.1) + 1)) (Go.IntKind.u64.wrap (x0.2 + x1.2))) else some (Ze.mk (Go.IntKind.u64.wrap (x0.1 + x1.1)) (Go.IntKind.u64.wrap (x0.2 + x1.2))):=by kernel_rfl
def Yt (L:Nat)(x:Ze×Ze×PUnit):Option Ze:=fT [] L Vp [] (.one (.row 2)) [.row 2,.row 2] x
def QT (L:Nat):Sum tT:=mU 65 [.row 2,.row 2] (.one (.row 2)) (Yt L)
theorem VJ:SX QT:=fun h=>sT h Yi rfl (by kernel_rfl) fun _=>rfl
theorem G5 (L:Nat)(x0:Ze)(x1:Ze):Yt L (x0,x1,())=bif decide (x0.2 < x1.2) then some (Ze.mk (Go.IntKind.u64.wrap (Go.IntKind.u64.wrap (x0.1 - x1.1) - 1)) (Go.IntKind.u64.wrap (x0.2 - x1.2))) else some (Ze.mk (Go.IntKind.u64.wrap (x0.1 - x1.1)) (Go.IntKind.u64.wrap (x0.2 - x1.2))):=by kernel_rfl
def YY (L:Nat)(x:Ze×Ze×PUnit):Option Bool:=fT [] L Jv [] (.one .bool) [.row 2,.row 2] x
def XE (L:Nat):Sum tT:=mU 64 [.row 2,.row 2] (.one .bool) (YY L)
theorem JE:SX XE:=fun h=>sT h Yi rfl (by kernel_rfl) fun _=>rfl
theorem IU (L:Nat)(x0:Ze)(x1:Ze):YY L (x0,x1,())=some (decide (x0.1 < x1.1) || x0.1 == x1.1 && decide (x0.2 < x1.2)):=by kernel_rfl
def ZL (L:Nat)(x:Ze×Ze×PUnit):Option (Ze×Ze×PUnit):=fT [PK,QT L,XE L,YW L] L XL [.rnd [.slot 8 (.int .i64),.cell 4 0 (.row 2),.cell 5 0 (.row 2)]] (.tup [.row 2,.row 2]) [.row 2,.row 2] x
def YL (L:Nat):Sum tT:=mU 60 [.row 2,.row 2] (.tup [.row 2,.row 2]) (ZL L)
theorem Qb:SX YL:=fun h=>sT h (Zj (Sr h) (Zj (VJ h) (Zj (JE h) (Zj (Qi h) Yi)))) rfl (by kernel_rfl) fun _=>rfl
def ZN:Ze→Ze→Nat→(Int×Ze×Ze×PUnit→Option (Ze×Ze×PUnit))→Int×Ze×Ze×PUnit→Option (Ze×Ze×PUnit):=fun x0 x1 L self acc=>bif decide (acc.1 ≥ 0) then bT (ZB L (acc.2.1,acc.2.1,())) fun y=>bT (bT (ZB L (acc.2.2.1,acc.2.2.1,())) fun y=>some y) fun y_1=>bT (bT (Oy x0 acc.1) fun y=>some y) fun y_2=>bT (bT (ZB L (y_1,Ze.mk 0 y_2,())) fun y=>some y) fun y_3=>bT (YY L (y_3,x1,())) fun y_4=>bif !y_4 then bT (Yt L (y_3,x1,())) fun y_5=>self (Go.IntKind.i64.wrap (acc.1 - 1),Ze.mk y.1 (Go.IntKind.u64.wrap (y.2 + 1)),y_5,()) else self (Go.IntKind.i64.wrap (acc.1 - 1),y,y_3,()) else some (acc.2.1,acc.2.2.1,())
theorem Kt (L:Nat)(x0:Ze)(x1:Ze):ZL L (x0,x1,())=Zx (ZN x0 x1 L) L (127,Ze.mk 0 0,Ze.mk 0 0,()):=by kernel_rfl
def WA (L:Nat)(x:Ze×Int×PUnit):Option Ze:=fT [PK,YW L] L Vq [.rnd [.slot 6 (.int .i64),.cell 2 0 (.row 2)]] (.one (.row 2)) [.row 2,.int .u64] x
def VS (L:Nat):Sum tT:=mU 95 [.row 2,.int .u64] (.one (.row 2)) (WA L)
theorem GU:SX VS:=fun h=>sT h (Zj (Sr h) (Zj (Qi h) Yi)) rfl (by kernel_rfl) fun _=>rfl
def Yc:Ze→Int→Nat→(Int×Ze×PUnit→Option Ze)→Int×Ze×PUnit→Option Ze:=fun x0 x1 L self acc=>bif decide (acc.1 ≥ 0) then bT (ZB L (acc.2.1,acc.2.1,())) fun y=>bT (Oy (Ze.mk 0 x1) acc.1) fun y_1=>bif y_1 == 1 then bT (ZB L (y,x0,())) fun y=>self (Go.IntKind.i64.wrap (acc.1 - 1),y,()) else self (Go.IntKind.i64.wrap (acc.1 - 1),y,()) else some acc.2.1
theorem G6 (L:Nat)(x0:Ze)(x1:Int):WA L (x0,x1,())=Zx (Yc x0 x1 L) L (63,Ze.mk 0 0,()):=by kernel_rfl
def YC (L:Nat)(x:Int×Int×PUnit):Option Ze:=fT [VS L] L Vr [] (.one (.row 2)) [.int .u64,.int .u64] x
def QU (L:Nat):Sum tT:=mU 61 [.int .u64,.int .u64] (.one (.row 2)) (YC L)
theorem VK:SX QU:=fun h=>sT h (Zj (GU h) Yi) rfl (by kernel_rfl) fun _=>rfl
theorem G7 (L:Nat)(x0:Int)(x1:Int):YC L (x0,x1,())=bT (WA L (Ze.mk 0 x0,x1,())) fun y=>some y:=by kernel_rfl
def Zy (L:Nat)(x:Int×PUnit):Option Int:=fT [] L Jz [] (.one (.int .u64)) [.int .i64] x
def YX (L:Nat):Sum tT:=mU 32 [.int .i64] (.one (.int .u64)) (Zy L)
theorem Qj:SX YX:=fun h=>sT h Yi rfl (by kernel_rfl) fun _=>rfl
theorem IX (L:Nat)(x0:Int):Zy L (x0,())=bif decide (x0 < 0) then some (Go.IntKind.u64.wrap (Go.IntKind.u64.wrap (Go.IntKind.i64.wrap (0 - Go.IntKind.i64.wrap (x0 + 1))) + 1)) else some (Go.IntKind.u64.wrap x0):=by kernel_rfl
def Yz (L:Nat)(x:Ze×Ze×PUnit):Option Ze:=fT [YL L] L XM [.rnd [.cell 0 0 (.row 2),.cell 1 0 (.row 2)]] (.one (.row 2)) [.row 2,.row 2] x
def Qc (L:Nat):Sum tT:=mU 63 [.row 2,.row 2] (.one (.row 2)) (Yz L)
theorem XR:SX Qc:=fun h=>sT h (Zj (Qb h) Yi) rfl (by kernel_rfl) fun _=>rfl
def Yf:Nat→(Ze×Ze×PUnit→Option Ze)→Ze×Ze×PUnit→Option Ze:=fun L self acc=>bif !(acc.2.1.1 == 0 && (acc.2.1.2 == 0 && true)) then bT (ZL L (acc.1,acc.2.1,())) fun y=>self (acc.2.1,y.2.1,()) else some acc.1
theorem Ku (L:Nat)(x0:Ze)(x1:Ze):Yz L (x0,x1,())=Zx (Yf L) L (x0,x1,()):=by kernel_rfl
def YD (L:Nat)(x:Zl×PUnit):Option Bool:=fT [Qc L,YX L] L Vs [] (.one .bool) [.row 0] x
def QV (L:Nat):Sum tT:=mU 59 [.row 0] (.one .bool) (YD L)
theorem VL:SX QV:=fun h=>sT h (Zj (XR h) (Zj (Qj h) Yi)) rfl (by kernel_rfl) fun _=>rfl
theorem G8 (L:Nat)(x0:Zl):YD L (x0,())=bif decide (x0.2 < 1) || decide (x0.2 > 1000000000000000) || decide (x0.1 < (-4611686018427387904)) || decide (x0.1 > 4611686018427387904) then some false else bT (bT (Zy L (x0.1,())) fun y=>some y) fun y=>bT (bT (Zy L (x0.2,())) fun y=>some y) fun y_1=>bT (bT (Yz L (Ze.mk 0 y,Ze.mk 0 y_1,())) fun y=>some y) fun y=>some (y.1 == 0 && (y.2 == 1 && true)):=by kernel_rfl
def W9 (L:Nat)(x:Zl×Int×PUnit):Option (Int×Bool×PUnit):=fT [YW L,YL L,QU L,YX L,QV L] L Vo [] (.tup [.int .i64,.bool]) [.row 0,.int .i64] x
def VQ (L:Nat):Sum tT:=mU 28 [.row 0,.int .i64] (.tup [.int .i64,.bool]) (W9 L)
theorem GN:SX VQ:=fun h=>sT h (Zj (Qi h) (Zj (Qb h) (Zj (VK h) (Zj (Qj h) (Zj (VL h) Yi))))) rfl (by kernel_rfl) fun _=>rfl
theorem Gz (L:Nat)(x0:Zl)(x1:Int):W9 L (x0,x1,())=bT (YD L (x0,())) fun y=>bif !y || decide (x1 < 0) || decide (x1 > 1000000000000) then some (0,false,()) else bT (bT (Zy L (x0.1,())) fun y=>some y) fun y=>bT (bT (Zy L (x1,())) fun y=>some y) fun y_1=>bT (bT (YC L (y,y_1,())) fun y=>some y) fun y=>bT (bT (Zy L (x0.2,())) fun y=>some y) fun y_2=>bT (bT (ZL L (y,Ze.mk 0 y_2,())) fun y=>some y) fun y=>bif decide (x0.1 < 0) && !(y.2.1.1 == 0 && (y.2.1.2 == 0 && true)) then bT (ZB L (y.1,Ze.mk 0 1,())) fun y=>bif y.1 != 0 || decide (y.2 > 4611686018427387904) then some (0,false,()) else bif decide (x0.1 < 0) then some (Go.IntKind.i64.wrap (0 - Go.IntKind.i64.wrap y.2),true,()) else some (Go.IntKind.i64.wrap y.2,true,()) else bif y.1.1 != 0 || decide (y.1.2 > 4611686018427387904) then some (0,false,()) else bif decide (x0.1 < 0) then some (Go.IntKind.i64.wrap (0 - Go.IntKind.i64.wrap y.1.2),true,()) else some (Go.IntKind.i64.wrap y.1.2,true,()):=by kernel_rfl
def Yb (L:Nat)(x:Int×PUnit):Option Int:=fT [] L Vu [.rnd [.slot 3 (.int .i64),.slot 4 (.int .i64)]] (.one (.int .i64)) [.int .i64] x
def QW (L:Nat):Sum tT:=mU 13 [.int .i64] (.one (.int .i64)) (Yb L)
theorem VM:SX QW:=fun h=>sT h Yi rfl (by kernel_rfl) fun _=>rfl
def Yy:Int→(Int×Int×PUnit→Option Int)→Int×Int×PUnit→Option Int:=fun x0 self acc=>bif decide (acc.2.1 < x0) then self (Go.IntKind.i64.wrap (10 * acc.1),Go.IntKind.i64.wrap (acc.2.1 + 1),()) else some acc.1
theorem GG (L:Nat)(x0:Int):Yb L (x0,())=Zx (Yy x0) L (1,0,()):=by kernel_rfl
def Y9 (L:Nat)(x:Zl×Int×PUnit):Option ((List UInt8)×Bool×PUnit):=fT [Lc,VQ L,QW L] L Xh [.rnd [.slot 11 .str]] (.tup [.str,.bool]) [.row 0,.int .i64] x
def Xz (L:Nat):Sum tT:=mU 11 [.row 0,.int .i64] (.tup [.str,.bool]) (Y9 L)
theorem Uz:SX Xz:=fun h=>sT h (Zj (P7 h) (Zj (GN h) (Zj (VM h) Yi))) rfl (by kernel_rfl) fun _=>rfl
def Zt:Int→List UInt8→(List UInt8×PUnit→Option (List UInt8×Bool×PUnit))→List UInt8×PUnit→Option (List UInt8×Bool×PUnit):=fun x1 y self acc=>bif decide ((↑acc.1.length:Int) < x1) then bT (X4 [48] acc.1) fun y=>self (y,()) else bT (X4 y [46]) fun y=>bT (X4 y acc.1) fun y=>some (y,true,())
def QI:Int→List UInt8→(List UInt8×PUnit→Option (List UInt8×Bool×PUnit))→List UInt8×PUnit→Option (List UInt8×Bool×PUnit):=fun x1 y self acc=>bif decide ((↑acc.1.length:Int) < x1) then bT (X4 [48] acc.1) fun y=>self (y,()) else bT (X4 y [46]) fun y=>bT (X4 y acc.1) fun y=>some (y,true,())
theorem Xu (L:Nat)(x0:Zl)(x1:Int):Y9 L (x0,x1,())=bif decide (x1 < 0) || decide (x1 > 6) then some ([],false,()) else bT (Yb L (x1,())) fun y=>bT (W9 L (x0,y,())) fun y_1=>bif !y_1.2.1 then some ([],false,()) else bif decide (y_1.1 < 0) then if y=0 then none else bT (WW (Go.IntKind.i64.wrap ((Go.IntKind.i64.wrap (0 - y_1.1)).tdiv y))) fun y_2=>bT (X4 [45] y_2) fun y_3=>bif x1 == 0 then some (y_3,true,()) else if y=0 then none else bT (WW ((Go.IntKind.i64.wrap (0 - y_1.1)).tmod y)) fun y=>Zx (Zt x1 y_3) L (y,()) else if y=0 then none else bT (WW (Go.IntKind.i64.wrap (y_1.1.tdiv y))) fun y_2=>bT (X4 [] y_2) fun y_3=>bif x1 == 0 then some (y_3,true,()) else if y=0 then none else bT (WW (y_1.1.tmod y)) fun y=>Zx (QI x1 y_3) L (y,()):=by kernel_rfl
def ZO (L:Nat)(x:WL×Int×PUnit):Option Int:=fT [Ha] L YS [] (.one (.int .u64)) [.row 1,.int .u64] x
def YV (L:Nat):Sum tT:=mU 53 [.row 1,.int .u64] (.one (.int .u64)) (ZO L)
theorem XB:SX YV:=fun h=>sT h (Zj (MR h) Yi) rfl (by kernel_rfl) fun _=>rfl
theorem X9 (L:Nat)(x0:WL)(x1:Int):ZO L (x0,x1,())=if x1=0 then none else bT (bT (Vz (x0.1.tmod x1) x0.2 x1) fun y=>some y) fun y=>some y.2.1:=by kernel_rfl
def ZE (L:Nat)(x:WL×Int×PUnit):Option (Int×Bool×PUnit):=fT [Ha] L YI [] (.tup [.int .u64,.bool]) [.row 1,.int .u64] x
def YK (L:Nat):Sum tT:=mU 52 [.row 1,.int .u64] (.tup [.int .u64,.bool]) (ZE L)
theorem Xw:SX YK:=fun h=>sT h (Zj (MR h) Yi) rfl (by kernel_rfl) fun _=>rfl
theorem Xt (L:Nat)(x0:WL)(x1:Int):ZE L (x0,x1,())=bif decide (x0.1 ≥ x1) then some (0,false,()) else bT (Vz x0.1 x0.2 x1) fun y=>some (y.1,true,()):=by kernel_rfl
def YO (L:Nat)(x:Int×Int×PUnit):Option WL:=fT [La] L XI [] (.one (.row 1)) [.int .u64,.int .u64] x
def XV (L:Nat):Sum tT:=mU 50 [.int .u64,.int .u64] (.one (.row 1)) (YO L)
theorem KD:SX XV:=fun h=>sT h (Zj (P6 h) Yi) rfl (by kernel_rfl) fun _=>rfl
theorem Kr (L:Nat)(x0:Int)(x1:Int):YO L (x0,x1,())=bT (J7 x0 x1) fun y=>some (WL.mk y.1 y.2.1):=by kernel_rfl
def Yr (L:Nat)(x:Int×PUnit):Option Int:=fT [] L Vm [] (.one (.int .u64)) [.int .i64] x
def QR (L:Nat):Sum tT:=mU 51 [.int .i64] (.one (.int .u64)) (Yr L)
theorem VI:SX QR:=fun h=>sT h Yi rfl (by kernel_rfl) fun _=>rfl
theorem Gy (L:Nat)(x0:Int):Yr L (x0,())=bif decide (x0 < 0) then some (Go.IntKind.u64.wrap (0 - Go.IntKind.u64.wrap x0)) else some (Go.IntKind.u64.wrap x0):=by kernel_rfl
def Ql (L:Nat)(x:Int×Int×PUnit):Option Int:=fT [] L Jt [.rnd [.slot 0 (.int .u64),.slot 1 (.int .u64)]] (.one (.int .u64)) [.int .u64,.int .u64] x
def JH (L:Nat):Sum tT:=mU 87 [.int .u64,.int .u64] (.one (.int .u64)) (Ql L)
theorem Ob:SX JH:=fun h=>sT h Yi rfl (by kernel_rfl) fun _=>rfl
def Wv:(Int×Int×PUnit→Option Int)→Int×Int×PUnit→Option Int:=fun self acc=>bif acc.2.1 != 0 then if acc.2.1=0 then none else self (acc.2.1,acc.1.tmod acc.2.1,()) else some acc.1
theorem IQ (L:Nat)(x0:Int)(x1:Int):Ql L (x0,x1,())=Zx Wv L (x0,x1,()):=by kernel_rfl
def YN (L:Nat)(x:Zl×PUnit):Option Bool:=fT [JH L,QR L] L XH [] (.one .bool) [.row 0] x
def XU (L:Nat):Sum tT:=mU 49 [.row 0] (.one .bool) (YN L)
theorem KC:SX XU:=fun h=>sT h (Zj (Ob h) (Zj (VI h) Yi)) rfl (by kernel_rfl) fun _=>rfl
theorem Kq (L:Nat)(x0:Zl):YN L (x0,())=bT (bif (decide (x0.2 ≥ 1) && decide (x0.2≤1000000000000000)) == true then bT (bT (Yr L (x0.1,())) fun y=>some y) fun y=>some (decide (y≤4611686018427387904)) else some false) fun y=>bT (bif y == true then bT (bT (Yr L (x0.1,())) fun y=>some y) fun y=>bT (bT (Ql L (y,Go.IntKind.u64.wrap x0.2,())) fun y=>some y) fun y=>some (y == 1) else some false) fun y=>some y:=by kernel_rfl
def YM (L:Nat)(x:Zl×Int×PUnit):Option (Int×Bool×PUnit):=fT [YV L,YK L,XV L,QR L,XU L] L XG [] (.tup [.int .i64,.bool]) [.row 0,.int .i64] x
def XT (L:Nat):Sum tT:=mU 25 [.row 0,.int .i64] (.tup [.int .i64,.bool]) (YM L)
theorem KA:SX XT:=fun h=>sT h (Zj (XB h) (Zj (Xw h) (Zj (KD h) (Zj (VI h) (Zj (KC h) Yi))))) rfl (by kernel_rfl) fun _=>rfl
theorem Ko (L:Nat)(x0:Zl)(x1:Int):YM L (x0,x1,())=bT (YN L (x0,())) fun y=>bif !y || decide (x1 < 0) || decide (x1 > 1000000000000) then some (0,false,()) else bT (Yr L (x0.1,())) fun y=>bT (YO L (y,Go.IntKind.u64.wrap x1,())) fun y=>bT (ZE L (y,Go.IntKind.u64.wrap x0.2,())) fun y_1=>bif !y_1.2.1 || decide (y_1.1 > 4611686018427387904) then some (0,false,()) else bT (bif decide (x0.1 < 0) == true then bT (ZO L (y,Go.IntKind.u64.wrap x0.2,())) fun y=>some (decide (y > 0)) else some false) fun y=>bif y then bif decide (Go.IntKind.u64.wrap (y_1.1 + 1) > 4611686018427387904) then some (0,false,()) else bif decide (x0.1 < 0) then some (Go.IntKind.i64.wrap (0 - Go.IntKind.i64.wrap (Go.IntKind.u64.wrap (y_1.1 + 1))),true,()) else some (Go.IntKind.i64.wrap (Go.IntKind.u64.wrap (y_1.1 + 1)),true,()) else bif decide (y_1.1 > 4611686018427387904) then some (0,false,()) else bif decide (x0.1 < 0) then some (Go.IntKind.i64.wrap (0 - Go.IntKind.i64.wrap y_1.1),true,()) else some (Go.IntKind.i64.wrap y_1.1,true,()):=by kernel_rfl
def ZA (L:Nat)(x:Zl×Int×PUnit):Option ((List UInt8)×Bool×PUnit):=fT [BU,SC,XT L] L WB [.rnd [.slot 6 (.int .i64),.slot 19 (.int .i64)]] (.tup [.str,.bool]) [.row 0,.int .i64] x
def Y1 (L:Nat):Sum tT:=mU 10 [.row 0,.int .i64] (.tup [.str,.bool]) (ZA L)
theorem WC:SX Y1:=fun h=>sT h (Zj (Su h) (Zj (ES h) (Zj (KA h) Yi))) rfl (by kernel_rfl) fun _=>rfl
def Zk:Zl→Int→Nat→(Int×Int×PUnit→Option (List UInt8×Bool×PUnit))→Int×Int×PUnit→Option (List UInt8×Bool×PUnit):=fun x0 x1 L self acc=>bif decide (acc.2.1 < x1) then self (Go.IntKind.i64.wrap (acc.1 * 10),Go.IntKind.i64.wrap (acc.2.1 + 1),()) else bT (YM L (x0,acc.1,())) fun y=>bif !y.2.1 then some ([],false,()) else bif decide (y.1 < 0) then if acc.1=0 then none else bT (WW (Go.IntKind.i64.wrap ((Go.IntKind.i64.wrap (0 - y.1)).tdiv acc.1))) fun y_1=>bT (X4 [45] y_1) fun y_2=>bif x1 == 0 then some (y_2,true,()) else if acc.1=0 then none else bT (WW ((Go.IntKind.i64.wrap (0 - y.1)).tmod acc.1)) fun y=>bT (X4 y_2 [46]) fun y_3=>bT (Px [48] (Go.IntKind.i64.wrap (x1 - (↑y.length:Int)))) fun y_4=>bT (X4 y_3 y_4) fun y_5=>bT (X4 y_5 y) fun y=>some (y,true,()) else if acc.1=0 then none else bT (WW (Go.IntKind.i64.wrap (y.1.tdiv acc.1))) fun y_1=>bT (X4 [] y_1) fun y_2=>bif x1 == 0 then some (y_2,true,()) else if acc.1=0 then none else bT (WW (y.1.tmod acc.1)) fun y=>bT (X4 y_2 [46]) fun y_3=>bT (Px [48] (Go.IntKind.i64.wrap (x1 - (↑y.length:Int)))) fun y_4=>bT (X4 y_3 y_4) fun y_5=>bT (X4 y_5 y) fun y=>some (y,true,())
theorem Y0 (L:Nat)(x0:Zl)(x1:Int):ZA L (x0,x1,())=bif decide (x1 < 0) || decide (x1 > 6) then some ([],false,()) else Zx (Zk x0 x1 L) L (1,0,()):=by kernel_rfl
def ZC (L:Nat)(x:Zl×Int×PUnit):Option Bool:=fT [GZ,Xz L,Y1 L] L Yk [] (.one .bool) [.row 0,.int .i64] x
def WJ (L:Nat):Sum tT:=mU 3 [.row 0,.int .i64] (.one .bool) (ZC L)
theorem WI:SX WJ:=fun h=>sT h (Zj (MQ h) (Zj (Uz h) (Zj (WC h) Yi))) rfl (by kernel_rfl) fun _=>rfl
theorem WH (L:Nat)(x0:Zl)(x1:Int):ZC L (x0,x1,())=bT (ZA L (x0,x1,())) fun y=>bT (Y9 L (x0,x1,())) fun y_1=>some (y.1 == y_1.1 && y.2.1 == y_1.2.1 && true):=by kernel_rfl
def Qm (L:Nat)(x:Zw×Zw×PUnit):Option Zw:=fT [QT L,XE L,YW L] L Ju [] (.one (.row 3)) [.row 3,.row 3] x
def JI (L:Nat):Sum tT:=mU 34 [.row 3,.row 3] (.one (.row 3)) (Qm L)
theorem Oc:SX JI:=fun h=>sT h (Zj (VJ h) (Zj (JE h) (Zj (Qi h) Yi))) rfl (by kernel_rfl) fun _=>rfl
theorem IR (L:Nat)(x0:Zw)(x1:Zw):Qm L (x0,x1,())=bif x0.1 == x1.1 then bT (bT (ZB L (x0.2,x1.2,())) fun y=>some y) fun y=>some (Zw.mk x0.1 y) else bT (YY L (x0.2,x1.2,())) fun y=>bif y then bT (bT (Yt L (x1.2,x0.2,())) fun y=>some y) fun y=>some (Zw.mk x1.1 y) else bT (bT (Yt L (x0.2,x1.2,())) fun y=>some y) fun y=>some (Zw.mk x0.1 y):=by kernel_rfl
def Yh (L:Nat)(x:Int×Int×PUnit):Option Zw:=fT [QU L,YX L] L Xg [] (.one (.row 3)) [.int .i64,.int .i64] x
def Xy (L:Nat):Sum tT:=mU 35 [.int .i64,.int .i64] (.one (.row 3)) (Yh L)
theorem Uy:SX Xy:=fun h=>sT h (Zj (VK h) (Zj (Qj h) Yi)) rfl (by kernel_rfl) fun _=>rfl
theorem Ut (L:Nat)(x0:Int)(x1:Int):Yh L (x0,x1,())=bT (Zy L (x0,())) fun y=>bT (Zy L (x1,())) fun y_1=>bT (YC L (y,y_1,())) fun y=>some (Zw.mk (!decide (x0 < 0) == decide (x1 < 0)) y):=by kernel_rfl
def YE (L:Nat)(x:Zl×PUnit):Option Zl:=fT [QV L] L Vt [] (.one (.row 0)) [.row 0] x
def VT (L:Nat):Sum tT:=mU 33 [.row 0] (.one (.row 0)) (YE L)
theorem GV:SX VT:=fun h=>sT h (Zj (VL h) Yi) rfl (by kernel_rfl) fun _=>rfl
theorem G9 (L:Nat)(x0:Zl):YE L (x0,())=bT (YD L (x0,())) fun y=>bif y then some x0 else some (Zl.mk 0 1):=by kernel_rfl
def Yg (L:Nat)(x:Zl×Zl×PUnit):Option Int:=fT [JI L,Xy L,VT L] L U4 [] (.one (.int .i64)) [.row 0,.row 0] x
def KF (L:Nat):Sum tT:=mU 15 [.row 0,.row 0] (.one (.int .i64)) (Yg L)
theorem MS:SX KF:=fun h=>sT h (Zj (Oc h) (Zj (Uy h) (Zj (GV h) Yi))) rfl (by kernel_rfl) fun _=>rfl
theorem TW (L:Nat)(x0:Zl)(x1:Zl):Yg L (x0,x1,())=bT (YE L (x0,())) fun y=>bT (YE L (x1,())) fun y_1=>bT (bT (Yh L (y.1,y_1.2,())) fun y=>some y) fun y_2=>bT (bT (Yh L (Go.IntKind.i64.wrap (0 - y_1.1),y.2,())) fun y=>some y) fun y=>bT (bT (Qm L (y_2,y,())) fun y=>some y) fun y=>bif y.Abs.1 == 0 && (y.Abs.2 == 0 && true) then some 0 else bif y.1 then some (-1) else some 1:=by kernel_rfl
def Qn (L:Nat)(x:Zw×Ze×PUnit):Option (Zl×Bool×PUnit):=fT [YL L,Qc L] L Jw [] (.tup [.row 0,.bool]) [.row 3,.row 2] x
def JJ (L:Nat):Sum tT:=mU 31 [.row 3,.row 2] (.tup [.row 0,.bool]) (Qn L)
theorem Oe:SX JJ:=fun h=>sT h (Zj (Qb h) (Zj (XR h) Yi)) rfl (by kernel_rfl) fun _=>rfl
theorem IV (L:Nat)(x0:Zw)(x1:Ze):Qn L (x0,x1,())=bT (Yz L (x0.2,x1,())) fun y=>bT (ZL L (x0.2,y,())) fun y_1=>bT (ZL L (x1,y,())) fun y=>bif y_1.1.1 != 0 || decide (y_1.1.2 > 4611686018427387904) || y.1.1 != 0 || decide (y.1.2 > 1000000000000000) then some (Zl.mk 0 0,false,()) else bif x0.1 then some (Zl.mk (Go.IntKind.i64.wrap (0 - Go.IntKind.i64.wrap y_1.1.2)) (Go.IntKind.i64.wrap y.1.2),true,()) else some (Zl.mk (Go.IntKind.i64.wrap y_1.1.2) (Go.IntKind.i64.wrap y.1.2),true,()):=by kernel_rfl
def Yu (L:Nat)(x:Int×Int×PUnit):Option (Zl×Bool×PUnit):=fT [JJ L,YX L] L Hl [] (.tup [.row 0,.bool]) [.int .i64,.int .i64] x
def I9 (L:Nat):Sum tT:=mU 14 [.int .i64,.int .i64] (.tup [.row 0,.bool]) (Yu L)
theorem RU:SX I9:=fun h=>sT h (Zj (Oe h) (Zj (Qj h) Yi)) rfl (by kernel_rfl) fun _=>rfl
theorem RJ (L:Nat)(x0:Int)(x1:Int):Yu L (x0,x1,())=bif x1 == 0 then some (Zl.mk 0 0,false,()) else bT (Zy L (x0,())) fun y=>bT (Zy L (x1,())) fun y_1=>bT (Qn L (Zw.mk (!decide (x0 < 0) == decide (x1 < 0)) (Ze.mk 0 y),Ze.mk 0 y_1,())) fun y=>some (y.1,y.2.1,()):=by kernel_rfl
def ZX (L:Nat)(x:Zl×Int×PUnit):Option Bool:=fT [GZ,KF L,I9 L,QW L,Y1 L] L Y2 [.rnd [.slot 9 (.int .i64),.slot 7 (.int .i64),.slot 8 (.int .i64),.slot 10 (.int .i64)]] (.one .bool) [.row 0,.int .i64] x
def Qu (L:Nat):Sum tT:=mU 4 [.row 0,.int .i64] (.one .bool) (ZX L)
theorem Qs:SX Qu:=fun h=>sT h (Zj (MQ h) (Zj (MS h) (Zj (RU h) (Zj (VM h) (Zj (WC h) Yi))))) rfl (by kernel_rfl) fun _=>rfl
def Zf:Zl→Int→Nat→List UInt8×Bool×PUnit→(Int×Int×Int×Int×PUnit→Option Bool)→Int×Int×Int×Int×PUnit→Option Bool:=fun x0 x1 L y self acc=>bif decide (acc.2.2.2.1 < (↑y.1.length:Int)) then bT (UO y.1 acc.2.2.2.1) fun y_1=>bif (↑y_1.toNat:Int) == 45 && acc.2.2.2.1 == 0 then self (acc.1,acc.2.1,acc.2.2.1,Go.IntKind.i64.wrap (acc.2.2.2.1 + 1),()) else bT (UO y.1 acc.2.2.2.1) fun y_2=>bif (↑y_2.toNat:Int) == 46 && decide (acc.1 < 0) && decide (acc.2.2.1 > 0) then self (0,acc.2.1,acc.2.2.1,Go.IntKind.i64.wrap (acc.2.2.2.1 + 1),()) else bT (UO y.1 acc.2.2.2.1) fun y_3=>bT (bif decide ((↑y_3.toNat:Int) ≥ 48) == true then bT (UO y.1 acc.2.2.2.1) fun y=>some (decide ((↑y.toNat:Int)≤57)) else some false) fun y_4=>bif y_4 && decide (acc.2.2.1 < 19) then bT (UO y.1 acc.2.2.2.1) fun y=>bif decide (acc.1 ≥ 0) then self (Go.IntKind.i64.wrap (acc.1 + 1),Go.IntKind.i64.wrap (Go.IntKind.i64.wrap (10 * acc.2.1) + Go.IntKind.i64.wrap (Go.IntKind.u8.wrap ((↑y.toNat:Int) - 48))),Go.IntKind.i64.wrap (acc.2.2.1 + 1),Go.IntKind.i64.wrap (acc.2.2.2.1 + 1),()) else self (acc.1,Go.IntKind.i64.wrap (Go.IntKind.i64.wrap (10 * acc.2.1) + Go.IntKind.i64.wrap (Go.IntKind.u8.wrap ((↑y.toNat:Int) - 48))),Go.IntKind.i64.wrap (acc.2.2.1 + 1),Go.IntKind.i64.wrap (acc.2.2.2.1 + 1),()) else some false else bif acc.2.2.1 == 0 || x1 == 0 && acc.1 != (-1) || decide (x1 > 0) && acc.1 != x1 then some false else bT (UO y.1 0) fun y=>bif (↑y.toNat:Int) == 45 then bT (Yb L (x1,())) fun y=>bT (Yu L (Go.IntKind.i64.wrap (0 - acc.2.1),y,())) fun y_1=>bT (bif (!y_1.2.1) == false then bT (Yg L (y_1.1,x0,())) fun y=>some (decide (y > 0)) else some true) fun y_2=>bif y_2 then some false else bT (Yu L (Go.IntKind.i64.wrap (Go.IntKind.i64.wrap (0 - acc.2.1) + 1),y,())) fun y=>bT (bif (!y.2.1) == false then bT (Yg L (y.1,x0,())) fun y=>some (decide (y > 0)) else some true) fun y=>some (y && true) else bT (Yb L (x1,())) fun y=>bT (Yu L (acc.2.1,y,())) fun y_1=>bT (bif (!y_1.2.1) == false then bT (Yg L (y_1.1,x0,())) fun y=>some (decide (y > 0)) else some true) fun y_2=>bif y_2 then some false else bT (Yu L (Go.IntKind.i64.wrap (acc.2.1 + 1),y,())) fun y=>bT (bif (!y.2.1) == false then bT (Yg L (y.1,x0,())) fun y=>some (decide (y > 0)) else some true) fun y=>some (y && true)
theorem Qr (L:Nat)(x0:Zl)(x1:Int):ZX L (x0,x1,())=bT (ZA L (x0,x1,())) fun y=>bif !y.2.1 then some (y.1 == [] && true) else bif decide (x1 < 0) || decide (x1 > 6) || decide ((↑y.1.length:Int) > 30) then some false else Zx (Zf x0 x1 L y) L ((-1),0,0,0,()):=by kernel_rfl
end Go.Proofs.YtcfjcimhjmpkiaaGreatDoor
end
