import Derived.Test.YtleomfgijkapfaaGreatDoorT15
set_option linter.all false
noncomputable section
namespace Go.Proofs.YtleomfgijkapfaaGreatDoor
open Go Go.Proofs.YtleomfgijkapfaaGreatDoor.Abs Go.Proofs.YtleomfgijkapfaaGreatDoor.Tl
set_option maxRecDepth 100000
set_option maxHeartbeats 0
def Yg (L:Nat)(x:Int×Int×Int×PUnit):Option Bool:=fT [] L KW [] (.one .bool) [.int .i64,.int .i64,.int .i64] x
def Jh (L:Nat):Sum tT:=mU 165 [.int .i64,.int .i64,.int .i64] (.one .bool) (Yg L)
theorem G9:SX Jh:=fun h=>sT h Qa rfl (by kernel_rfl) fun _=>rfl
theorem Sz (L:Nat)(x0:Int)(x1:Int)(x2:Int):Yg L (x0,x1,x2,())=some (decide (x0 ≥ x1) && decide (x0≤x2)):=by kernel_rfl
def Jl (L:Nat)(x:Ya×PUnit):Option Int:=fT [Jh L] L TR [.rnd [.slot 3 (.int .i64)]] (.one (.int .i64)) [.row 2] x
def Be (L:Nat):Sum tT:=mU 166 [.row 2] (.one (.int .i64)) (Jl L)
theorem Zb0:SX Be:=fun h=>sT h (ZJ (G9 h) Qa) rfl (by kernel_rfl) fun _=>rfl
def JK:Ya→Nat→(Int×PUnit→Option Int)→Int×PUnit→Option Int:=fun x0 L self acc=>bif decide (acc.1 < (↑x0.5.length:Int)) then bT (Y1 x0.5 acc.1) fun y=>bT (Yg L (y,0,1000000000,())) fun y=>bT (bif (!y) == false then bT (Y1 x0.6 acc.1) fun y=>bT (Yg L (y,1,1000,())) fun y=>some !y else some true) fun y=>bif y then some 2 else self (Go.IntKind.i64.wrap (acc.1 + 1),()) else some 0
theorem ZaZ (L:Nat)(x0:Ya):Jl L (x0,())=bif (↑x0.5.length:Int) != (↑x0.6.length:Int) then some 8 else bif (↑x0.5.length:Int) == 0 then some 7 else bif decide ((↑x0.5.length:Int) > 20) then some 6 else Zw (JK x0 L) L (0,()):=by kernel_rfl
def Vr (L:Nat)(x:Ya×PUnit):Option Bool:=fT [] L IC [] (.one .bool) [.row 2] x
def Oy (L:Nat):Sum tT:=mU 164 [.row 2] (.one .bool) (Vr L)
theorem Ce:SX Oy:=fun h=>sT h Qa rfl (by kernel_rfl) fun _=>rfl
theorem FN (L:Nat)(x0:Ya):Vr L (x0,())=bif x0.1 == 1 then some (x0.3 == 0 && x0.4 == 0 && ((↑x0.5.length:Int) == 0 && (↑x0.6.length:Int) == 0)) else bif x0.1 == 2 then some (x0.4 == 0 && ((↑x0.5.length:Int) == 0 && (↑x0.6.length:Int) == 0)) else bif x0.1 == 5 then some (x0.4 == 0 && ((↑x0.5.length:Int) == 0 && (↑x0.6.length:Int) == 0)) else bif x0.1 == 3 then some (x0.2 == 0 && x0.3 == 0 && x0.4 == 0) else bif x0.1 == 4 then some ((↑x0.5.length:Int) == 0 && (↑x0.6.length:Int) == 0) else some false:=by kernel_rfl
def Qo (L:Nat)(x:Ya×PUnit):Option Int:=fT [Be L,Jh L,Oy L] L TQ [] (.one (.int .i64)) [.row 2] x
def Jg (L:Nat):Sum tT:=mU 86 [.row 2] (.one (.int .i64)) (Qo L)
theorem Zbz:SX Jg:=fun h=>sT h (ZJ (Zb0 h) (ZJ (G9 h) (ZJ (Ce h) Qa))) rfl (by kernel_rfl) fun _=>rfl
theorem ZaY (L:Nat)(x0:Ya):Qo L (x0,())=bT (Vr L (x0,())) fun y=>bif !y then some 1 else bif x0.1 == 1 then bT (Yg L (x0.2,0,1000000000,())) fun y=>bif !y then some 2 else some 0 else bif x0.1 == 2 then bT (Yg L (x0.2,0,x0.3,())) fun y=>bif !(y && decide (x0.3≤1000000000)) then some 2 else some 0 else bif x0.1 == 3 then bT (Jl L (x0,())) fun y=>some y else bif x0.1 == 4 then bT (Yg L (x0.4,1,20,())) fun y=>bT (bif y == true then bT (Yg L (x0.2,0,x0.3,())) fun y=>some y else some false) fun y=>bif !(y && decide (x0.3≤1000000)) then some 2 else some 0 else bif x0.1 == 5 then bT (Yg L (x0.2,1,1000,())) fun y=>bT (bif y == true then bT (Yg L (x0.3,1,1000,())) fun y=>some y else some false) fun y=>bif !y then some 2 else some 0 else some 0:=by kernel_rfl
def XI (L:Nat)(x:(List (List UInt8))×(List UInt8)×PUnit):Option Int:=fT [] L DD [.rnd [.slot 5 (.int .i64)]] (.one (.int .i64)) [.lst 1 .str,.str] x
def VP (L:Nat):Sum tT:=mU 143 [.lst 1 .str,.str] (.one (.int .i64)) (XI L)
def Kr:List (List UInt8)→List UInt8→(Int×PUnit→Option Int)→Int×PUnit→Option Int:=fun x0 x1 self acc=>bif decide (acc.1 < (↑x0.length:Int)) then bT (Y1 x0 acc.1) fun y=>bif y == x1 then some acc.1 else self (Go.IntKind.i64.wrap (acc.1 + 1),()) else some (-1)
theorem Zd2 (L:Nat)(x0:(List (List UInt8)))(x1:(List UInt8)):XI L (x0,x1,())=Zw (Kr x0 x1) L (0,()):=by kernel_rfl
def Xe (L:Nat)(x:PUnit):Option ((List (List UInt8))):=fT [] L Uw [] (.one (.lst 1 .str)) [] x
def D5 (L:Nat):Sum tT:=mU 144 [] (.one (.lst 1 .str)) (Xe L)
theorem Dq (L:Nat)  : Xe L ()=some [[97,100,100],[97,102,116,101,114],[97,110,100],[97,116],[98,101,108,116],[98,111,111,108],[99,111,110,115,101,114,118,101],[99,111,110,115,116],[99,111,117,110,116],[99,121,99,108,101],[100,111,119,110],[100,114,97,119],[100,117,114],[101,108,115,101],[101,110,100],[101,118,101,114,121],[102,97,108,115,101],[102,97,117,108,116],[102,105,102,111],[102,114,101,101],[102,114,111,109],[103,101,111,109],[103,101,116],[104,111,108,100],[105,102],[105,110,116],[105,110,116,111],[108,101,97,115,116],[108,101,118,101,108],[108,105,102,111],[108,105,110,107],[108,111,99,97,108],[109,97,120],[109,105,110],[109,111,100,101,108],[110,111,116],[110,111,119],[111,98,115,101,114,118,101],[111,114],[112,97,114,97,109],[112,114,101,101,109,112,116],[112,114,105,111],[112,117,116],[113,117,101,117,101],[114,101,108,101,97,115,101],[114,101,115,111,117,114,99,101],[114,105,100,101],[114,111,117,116,105,110,101],[115,101,105,122,101],[115,101,110,100],[115,101,116],[115,104,105,102,116],[115,105,103,110,97,108],[115,105,116,101],[115,105,122,101],[115,112,97,119,110],[115,116,97,114,116],[115,116,111,112],[115,116,111,114,101],[115,116,114,101,97,109],[115,117,109],[116,97,98,108,101],[116,97,108,108,121],[116,105,99,107,115],[116,105,109,101],[116,114,117,101],[117,110,105,102,111,114,109],[117,110,116,105,108],[117,112],[118,97,114],[119,97,105,116],[119,97,105,116,105,110,103],[119,104,105,108,101]]:=by kernel_rfl
def XB (L:Nat)(x:(List UInt8)×PUnit):Option Bool:=fT [VP L,D5 L] L KX [] (.one .bool) [.str] x
def Eg (L:Nat):Sum tT:=mU 68 [.str] (.one .bool) (XB L)
theorem S9 (L:Nat)(x0:(List UInt8)):XB L (x0,())=bT (Xe L ()) fun y=>bT (XI L (y,x0,())) fun y=>some (decide (y ≥ 0)):=by kernel_rfl
def Xq (L:Nat)(x:Int×PUnit):Option Bool:=fT [] L IE [] (.one .bool) [.int .u8] x
def CG (L:Nat):Sum tT:=mU 67 [.int .u8] (.one .bool) (Xq L)
theorem FO (L:Nat)(x0:Int):Xq L (x0,())=some (decide (x0 ≥ 97) && decide (x0≤122)):=by kernel_rfl
def WL (L:Nat)(x:(List UInt8)×PUnit):Option Int:=fT [Eg L,CG L] L TS [.rnd [.slot 3 (.int .i64)]] (.one (.int .i64)) [.str] x
def Ji (L:Nat):Sum tT:=mU 31 [.str] (.one (.int .i64)) (WL L)
def Vl:List UInt8→Nat→(Int×PUnit→Option Int)→Int×PUnit→Option Int:=fun x0 L self acc=>bif decide (acc.1 < (↑x0.length:Int)) then bT (Y1 x0 acc.1) fun y=>bT (Xq L ((↑y.toNat:Int),())) fun y=>bT (bif (!y) == true then bT (Y1 x0 acc.1) fun y=>some ((↑y.toNat:Int) != 95) else some false) fun y=>bT (bif y == true then bT (Y1 x0 acc.1) fun y=>bif decide ((↑y.toNat:Int) < 48) == false then bT (Y1 x0 acc.1) fun y=>some (decide ((↑y.toNat:Int) > 57)) else some true else some false) fun y=>bif y then some 3 else self (Go.IntKind.i64.wrap (acc.1 + 1),()) else some 0
theorem Zba (L:Nat)(x0:(List UInt8)):WL L (x0,())=bT (bif (decide ((↑x0.length:Int) < 1) || decide ((↑x0.length:Int) > 24)) == false then bT (Y1 x0 0) fun y=>bT (Xq L ((↑y.toNat:Int),())) fun y=>some !y else some true) fun y=>bT (bif y == false then bT (XB L (x0,())) fun y=>some y else some true) fun y=>bif y then some 3 else Zw (Vl x0 L) L (0,()):=by kernel_rfl
end Go.Proofs.YtleomfgijkapfaaGreatDoor
end
noncomputable section
namespace Go.Proofs.YtleomfgijkapfaaGreatDoor
open Go Go.Proofs.YtleomfgijkapfaaGreatDoor.Abs Go.Proofs.YtleomfgijkapfaaGreatDoor.Tl
set_option maxRecDepth 100000
set_option maxHeartbeats 0
def Ug (L:Nat)(x:Int×PUnit):Option Int:=fT [] L DF [] (.one (.int .i64)) [.int .i64] x
def PL (L:Nat):Sum tT:=mU 238 [.int .i64] (.one (.int .i64)) (Ug L)
theorem Zd3 (L:Nat)(x0:Int):Ug L (x0,())=bif x0 == 25 then some 15 else bif x0 == 26 then some 31 else some 63:=by kernel_rfl
def GY (L:Nat)(x:Int×PUnit):Option Bool:=fT [] L ZbJ [] (.one .bool) [.int .i64] x
def Tc (L:Nat):Sum tT:=mU 191 [.int .i64] (.one .bool) (GY L)
theorem Zhn (L:Nat)(x0:Int):GY L (x0,())=some (decide (x0 ≥ (-1000000000000)) && decide (x0≤1000000000000)):=by kernel_rfl
def Xr (L:Nat)(x:Int×PUnit):Option Bool:=fT [] L IG [] (.one .bool) [.int .i64] x
def Oz (L:Nat):Sum tT:=mU 237 [.int .i64] (.one .bool) (Xr L)
theorem FP (L:Nat)(x0:Int):Xr L (x0,())=some (decide (x0 ≥ 22) && decide (x0≤24)):=by kernel_rfl
def Jm (L:Nat)(x:Int×PUnit):Option Int:=fT [] L TU [] (.one (.int .i64)) [.int .i64] x
def Bf (L:Nat):Sum tT:=mU 236 [.int .i64] (.one (.int .i64)) (Jm L)
theorem Zbb (L:Nat)(x0:Int):Jm L (x0,())=bif decide (x0 < 1) || decide (x0 > 26) then some (-1) else bif decide (x0 ≥ 5) && decide (x0≤8) then some 1 else bif decide (x0 ≥ 9) && decide (x0≤21) then some 2 else some 0:=by kernel_rfl
def RQ (L:Nat):Nat→List (Sum tT)
 | 0=>[⟨207,[.row 8,.bool],fun _=>.par _ none ((.one (.int .i64):RD).tv tT)⟩]
 | m + 1=>[⟨207,[.row 8,.bool],fun x=>.par _ (fnT tF tG (qOf tF (RQ L m ++ [Ji L,PL L,Tc L,Oz L,Bf L])) 0 L Ht [.rnd [.slot 10 (.int .i64)]] (.one (.int .i64)) (tvL tT [.row 8,.bool] x) []) ((.one (.int .i64):RD).tv tT)⟩]
def Jr (L m:Nat)(x:Zq×Bool×PUnit):Option (Int):=fnT tF tG (qOf tF (RQ L m ++ [Ji L,PL L,Tc L,Oz L,Bf L])) 0 L Ht [.rnd [.slot 10 (.int .i64)]] (.one (.int .i64)) (tvL tT [.row 8,.bool] x) []
def I5 (L:Nat)(x:Zq×Bool×PUnit):Option (Int):=Jr L L x
def ZdI (L:Nat):Sum tT:=⟨207,[.row 8,.bool],fun x=>.par ((.one (.int .i64):RD).Ty tT) (I5 L x) ((.one (.int .i64):RD).tv tT)⟩
def Jb:Nat→Zq→Bool→Nat→(Int×PUnit→Option Int)→Int×PUnit→Option Int:=fun (m:Nat)=>fun x0 x1 L self acc=>bif decide (acc.1 < (↑x0.4.length:Int)) then bT (Y1 x0.4 acc.1) fun y=>bT (Jr L m (y,x1,())) fun y=>bif y != 0 then some y else self (Go.IntKind.i64.wrap (acc.1 + 1),()) else some 0
theorem Zd4 (L m:Nat)(x0:Zq)(x1:Bool):Jr L (m + 1) (x0,x1,())=bT (Jm L (x0.1,())) fun y=>bT (bif (!x1) == true then bif (x0.1 == 3) == false then bT (Xr L (x0.1,())) fun y=>some y else some true else some false) fun y_1=>bT (bif x1 == true then bT (Xr L (x0.1,())) fun y=>some (y || x0.1 == 25 || x0.1 == 26) else some false) fun y_2=>bif !(decide (y ≥ 0) && (x1 && x0.1 != 3 || !x1 && decide (x0.1≤24))) || !y_1 && !x0.2 == [] || !(x0.1 == 1 || x0.1 == 2 || y_2) && x0.3 != 0 || (↑x0.4.length:Int) != y then some 1 else bT (bif (x0.1 == 1) == true then bT (bT (GY L (x0.3,())) fun y=>some y) fun y=>some !y else some false) fun y=>bT (bif (y || x0.1 == 2 && x0.3 != 0 && x0.3 != 1) == false then bif y_2 == true then bif decide (x0.3 < 0) == false then bT (bT (Ug L (x0.1,())) fun y=>some y) fun y=>some (decide (x0.3 > y)) else some true else some false else some true) fun y=>bif y then some 2 else bT (bif y_1 == true then bT (WL L (x0.2,())) fun y=>some (y != 0) else some false) fun y=>bif y then bT (WL L (x0.2,())) fun y=>some y else Zw (Jb m x0 x1 L) L (0,()):=by kernel_rfl
def Om (L:Nat):Nat→List (Sum tT)
 | 0=>[⟨206,[.row 8],fun _=>.par _ none ((.one (.int .i64):RD).tv tT)⟩]
 | m + 1=>[⟨206,[.row 8],fun x=>.par _ (fnT tF tG (qOf tF (Om L m ++ [])) 0 L UD [.rnd [.slot 3 (.int .i64),.slot 4 (.int .i64)]] (.one (.int .i64)) (tvL tT [.row 8] x) []) ((.one (.int .i64):RD).tv tT)⟩]
def Vt (L m:Nat)(x:Zq×PUnit):Option (Int):=fnT tF tG (qOf tF (Om L m ++ [])) 0 L UD [.rnd [.slot 3 (.int .i64),.slot 4 (.int .i64)]] (.one (.int .i64)) (tvL tT [.row 8] x) []
def Kz (L:Nat)(x:Zq×PUnit):Option (Int):=Vt L L x
def Zb8 (L:Nat):Sum tT:=⟨206,[.row 8],fun x=>.par ((.one (.int .i64):RD).Ty tT) (Kz L x) ((.one (.int .i64):RD).tv tT)⟩
def JL:Nat→Zq→Nat→(Int×Int×PUnit→Option Int)→Int×Int×PUnit→Option Int:=fun (m:Nat)=>fun x0 L self acc=>bif decide (acc.2.1 < (↑x0.4.length:Int)) then bT (Y1 x0.4 acc.2.1) fun y=>bT (Vt L m (y,())) fun y=>self (if y > acc.1 then y else acc.1,Go.IntKind.i64.wrap (acc.2.1 + 1),()) else some (Go.IntKind.i64.wrap (acc.1 + 1))
theorem Zbd (L m:Nat)(x0:Zq):Vt L (m + 1) (x0,())=Zw (JL m x0 L) L (0,0,()):=by kernel_rfl
def Oo (L:Nat):Nat→List (Sum tT)
 | 0=>[⟨205,[.row 8],fun _=>.par _ none ((.one (.int .i64):RD).tv tT)⟩]
 | m + 1=>[⟨205,[.row 8],fun x=>.par _ (fnT tF tG (qOf tF (Oo L m ++ [])) 0 L UE [.rnd [.slot 3 (.int .i64),.slot 4 (.int .i64)]] (.one (.int .i64)) (tvL tT [.row 8] x) []) ((.one (.int .i64):RD).tv tT)⟩]
def Vu (L m:Nat)(x:Zq×PUnit):Option (Int):=fnT tF tG (qOf tF (Oo L m ++ [])) 0 L UE [.rnd [.slot 3 (.int .i64),.slot 4 (.int .i64)]] (.one (.int .i64)) (tvL tT [.row 8] x) []
def KA (L:Nat)(x:Zq×PUnit):Option (Int):=Vu L L x
def Zb9 (L:Nat):Sum tT:=⟨205,[.row 8],fun x=>.par ((.one (.int .i64):RD).Ty tT) (KA L x) ((.one (.int .i64):RD).tv tT)⟩
def JM:Nat→Zq→Nat→(Int×Int×PUnit→Option Int)→Int×Int×PUnit→Option Int:=fun (m:Nat)=>fun x0 L self acc=>bif decide (acc.2.1 < (↑x0.4.length:Int)) then bT (Y1 x0.4 acc.2.1) fun y=>bT (Vu L m (y,())) fun y=>self (Go.IntKind.i64.wrap (acc.1 + y),Go.IntKind.i64.wrap (acc.2.1 + 1),()) else some acc.1
theorem Zbe (L m:Nat)(x0:Zq):Vu L (m + 1) (x0,())=Zw (JM m x0 L) L (1,0,()):=by kernel_rfl
def Jn (L:Nat)(x:Zq×Bool×PUnit):Option Int:=fT [ZdI L,Zb8 L,Zb9 L] L TY [] (.one (.int .i64)) [.row 8,.bool] x
def ZbA (L:Nat):Sum tT:=mU 163 [.row 8,.bool] (.one (.int .i64)) (Jn L)
theorem Zbf (L:Nat)(x0:Zq)(x1:Bool):Jn L (x0,x1,())=bT (KA L (x0,())) fun y=>bif decide (y > 60) then some 6 else bT (Kz L (x0,())) fun y=>bif decide (y > 12) then some 11 else bT (I5 L (x0,x1,())) fun y=>some y:=by kernel_rfl
def QY (L:Nat)(x:PUnit):Option (List Q3):=fT [] L MH [] (.one (.lst 9 (.row 23))) [] x
def Kv (L:Nat):Sum tT:=mU 91 [] (.one (.lst 9 (.row 23))) (QY L)
theorem RI:SX Kv:=fun h=>sT h Qa rfl (by kernel_rfl) fun _=>rfl
theorem Zbn (L:Nat)  : QY L ()=some [Q3.mk [] [] [] false false false false false false,Q3.mk [115,108,111,116] [115,108,111,116] [] false true false false false false,Q3.mk [118,97,114] [118,97,114] [] false true false false false false,Q3.mk [100,114,97,119] [115,108,111,116] [115,116,114,101,97,109] false false false false false true,Q3.mk [106,117,109,112] [105,110,115,116,114] [] false false false false false false,Q3.mk [98,114,97,110,99,104] [105,110,115,116,114] [] false true false false false false,Q3.mk [104,111,108,100] [] [] false true false false false false,Q3.mk [115,101,105,122,101] [114,101,115,111,117,114,99,101] [] false true true true false false,Q3.mk [114,101,108,101,97,115,101] [114,101,115,111,117,114,99,101] [] false true false false false false,Q3.mk [112,117,116] [115,116,111,114,101] [] false true false false false false,Q3.mk [103,101,116] [115,116,111,114,101] [115,108,111,116] false false false false false false,Q3.mk [114,105,100,101] [98,101,108,116] [] false false false false false false,Q3.mk [119,97,105,116] [113,117,101,117,101] [] false false false false false false,Q3.mk [115,105,103,110,97,108] [113,117,101,117,101] [] false true false false false false,Q3.mk [115,101,110,100] [115,105,116,101] [114,111,117,116,105,110,101] true true false false true false,Q3.mk [115,112,97,119,110] [] [114,111,117,116,105,110,101] false true false false true false,Q3.mk [111,98,115,101,114,118,101] [116,97,108,108,121] [] false true false false false false,Q3.mk [108,101,118,101,108] [108,101,118,101,108] [] false true false false false false,Q3.mk [99,111,117,110,116] [99,111,117,110,116] [] false true false false false false,Q3.mk [101,110,100] [] [] false false false false false false]:=by kernel_rfl
end Go.Proofs.YtleomfgijkapfaaGreatDoor
end
noncomputable section
namespace Go.Proofs.YtleomfgijkapfaaGreatDoor
open Go Go.Proofs.YtleomfgijkapfaaGreatDoor.Abs Go.Proofs.YtleomfgijkapfaaGreatDoor.Tl
set_option maxRecDepth 100000
set_option maxHeartbeats 0
def Va (L:Nat)(x:Int×PUnit):Option Bool:=fT [] L MJ [] (.one .bool) [.int .i64] x
def Kw (L:Nat):Sum tT:=mU 80 [.int .i64] (.one .bool) (Va L)
theorem RJ:SX Kw:=fun h=>sT h Qa rfl (by kernel_rfl) fun _=>rfl
theorem Zbp (L:Nat)(x0:Int):Va L (x0,())=some (decide (x0 ≥ 1) && decide (x0≤19)):=by kernel_rfl
def Wi (L:Nat)(x:ZF×PUnit):Option (List Zq):=fT [Kv L,Kw L] L MG [] (.one (.lst 4 (.row 8))) [.row 15] x
def Bj (L:Nat):Sum tT:=mU 83 [.row 15] (.one (.lst 4 (.row 8))) (Wi L)
theorem Zb1:SX Bj:=fun h=>sT h (ZJ (RI h) (ZJ (RJ h) Qa)) rfl (by kernel_rfl) fun _=>rfl
theorem Rk (L:Nat)(x0:ZF):Wi L (x0,())=bT (Va L (x0.1,())) fun y=>bif !y then some [] else bT (bT (QY L ()) fun y=>some y) fun y=>bT (Y1 y x0.1) fun y=>bif y.5 then bT (apT 56 [] [x0.5]) fun y_1=>bif y.6 then bT (apT 56 y_1 [x0.6]) fun y_2=>bif y.8 then bT (apT 56 y_2 x0.7) fun y=>some y else some y_2 else bif y.8 then bT (apT 56 y_1 x0.7) fun y=>some y else some y_1 else bif y.6 then bT (apT 56 [] [x0.6]) fun y_1=>bif y.8 then bT (apT 56 y_1 x0.7) fun y=>some y else some y_1 else bif y.8 then bT (apT 56 [] x0.7) fun y=>some y else some []:=by kernel_rfl
def Qd (L:Nat)(x:(List Int)×(List Int)×PUnit):Option Bool:=fT [] L Uu [.rnd [.slot 5 (.int .i64)]] (.one .bool) [.lst 1 (.int .i64),.lst 1 (.int .i64)] x
def Dz (L:Nat):Sum tT:=mU 96 [.lst 1 (.int .i64),.lst 1 (.int .i64)] (.one .bool) (Qd L)
def XT:List Int→List Int→(Int×PUnit→Option Bool)→Int×PUnit→Option Bool:=fun x0 x1 self acc=>bif decide (acc.1 < (↑x0.length:Int)) then bT (Y1 x0 acc.1) fun y=>bT (Y1 x1 acc.1) fun y_1=>bif y != y_1 then some false else self (Go.IntKind.i64.wrap (acc.1 + 1),()) else some true
theorem Dp (L:Nat)(x0:(List Int))(x1:(List Int)):Qd L (x0,x1,())=bif (↑x0.length:Int) != (↑x1.length:Int) then some false else Zw (XT x0 x1) L (0,()):=by kernel_rfl
def XH (L:Nat)(x:Ya×Ya×PUnit):Option Bool:=fT [Dz L] L D9 [] (.one .bool) [.row 2,.row 2] x
def PI (L:Nat):Sum tT:=mU 48 [.row 2,.row 2] (.one .bool) (XH L)
theorem Zd0 (L:Nat)(x0:Ya)(x1:Ya):XH L (x0,x1,())=bT (bif (x0.1 == x1.1 && x0.2 == x1.2 && x0.3 == x1.3 && x0.4 == x1.4) == true then bT (Qd L (x0.5,x1.5,())) fun y=>some y else some false) fun y=>bT (bif y == true then bT (Qd L (x0.6,x1.6,())) fun y=>some y else some false) fun y=>some y:=by kernel_rfl
end Go.Proofs.YtleomfgijkapfaaGreatDoor
end
noncomputable section
namespace Go.Proofs.YtleomfgijkapfaaGreatDoor
open Go Go.Proofs.YtleomfgijkapfaaGreatDoor.Abs Go.Proofs.YtleomfgijkapfaaGreatDoor.Tl
set_option maxRecDepth 100000
set_option maxHeartbeats 0
def Yw (L:Nat)(x:Int×Int×Int×PUnit):Option Bool:=fT [] L IK [] (.one .bool) [.int .i64,.int .i64,.int .i64] x
def Qw (L:Nat):Sum tT:=mU 152 [.int .i64,.int .i64,.int .i64] (.one .bool) (Yw L)
theorem FU (L:Nat)(x0:Int)(x1:Int)(x2:Int):Yw L (x0,x1,x2,())=some (decide (x0 ≥ x1) && decide (x0≤x2)):=by kernel_rfl
def YJ (L:Nat)(x:Int×Int×PUnit):Option Int:=fT [] L MB [] (.one (.int .i64)) [.int .i64,.int .i64] x
def QU (L:Nat):Sum tT:=mU 69 [.int .i64,.int .i64] (.one (.int .i64)) (YJ L)
theorem Zbl (L:Nat)(x0:Int)(x1:Int):YJ L (x0,x1,())=bif x0 != 0 then some x0 else some x1:=by kernel_rfl
def ZbH (L:Nat)(x:Zj×PUnit):Option ((List (List (List UInt8)))):=fT [] L Md [.rnd [.slot 4 (.int .i64),.cell 1 0 (.own 1 .str),.cell 1 1 (.own 1 .str),.cell 1 2 (.own 1 .str),.cell 1 3 (.own 1 .str),.cell 1 4 (.lst 1 .str),.cell 1 5 (.lst 1 .str),.cell 1 6 (.lst 1 .str),.cell 1 7 (.lst 1 .str),.cell 1 8 (.lst 1 .str),.cell 1 9 (.own 1 .str)],.rnd [.slot 5 (.int .i64),.cell 1 0 (.own 1 .str),.cell 1 1 (.own 1 .str),.cell 1 2 (.own 1 .str),.cell 1 3 (.own 1 .str),.cell 1 4 (.lst 1 .str),.cell 1 5 (.lst 1 .str),.cell 1 6 (.lst 1 .str),.cell 1 7 (.lst 1 .str),.cell 1 8 (.lst 1 .str),.cell 1 9 (.own 1 .str)],.rnd [.slot 6 (.int .i64),.cell 1 0 (.own 1 .str),.cell 1 1 (.own 1 .str),.cell 1 2 (.own 1 .str),.cell 1 3 (.own 1 .str),.cell 1 4 (.lst 1 .str),.cell 1 5 (.lst 1 .str),.cell 1 6 (.lst 1 .str),.cell 1 7 (.lst 1 .str),.cell 1 8 (.lst 1 .str),.cell 1 9 (.own 1 .str)],.rnd [.slot 7 (.int .i64),.cell 1 0 (.own 1 .str),.cell 1 1 (.own 1 .str),.cell 1 2 (.own 1 .str),.cell 1 3 (.own 1 .str),.cell 1 4 (.lst 1 .str),.cell 1 5 (.lst 1 .str),.cell 1 6 (.lst 1 .str),.cell 1 7 (.lst 1 .str),.cell 1 8 (.lst 1 .str),.cell 1 9 (.own 1 .str)],.rnd [.slot 8 (.int .i64),.cell 1 0 (.own 1 .str),.cell 1 1 (.own 1 .str),.cell 1 2 (.own 1 .str),.cell 1 3 (.own 1 .str),.cell 1 4 (.lst 1 .str),.cell 1 5 (.lst 1 .str),.cell 1 6 (.lst 1 .str),.cell 1 7 (.lst 1 .str),.cell 1 8 (.lst 1 .str),.cell 1 9 (.own 1 .str)]] (.one (.lst 1 (.lst 1 .str))) [.row 14] x
def Bg (L:Nat):Sum tT:=mU 147 [.row 14] (.one (.lst 1 (.lst 1 .str))) (ZbH L)
end Go.Proofs.YtleomfgijkapfaaGreatDoor
end
noncomputable section
namespace Go.Proofs.YtleomfgijkapfaaGreatDoor
open Go Go.Proofs.YtleomfgijkapfaaGreatDoor.Abs Go.Proofs.YtleomfgijkapfaaGreatDoor.Tl
set_option maxRecDepth 100000
set_option maxHeartbeats 0
def ZdN (L:Nat)(x:Zj×(List UInt8)×PUnit):Option (List UInt8):=fT [VP L,Bg L] L DL [.rnd [.slot 7 (.int .i64)]] (.one .str) [.row 14,.str] x
def ZdL (L:Nat):Sum tT:=mU 233 [.row 14,.str] (.one .str) (ZdN L)
def ZZ (L:Nat)(x:Bool×Int×PUnit):Option Int:=fT [] L IJ [] (.one (.int .i64)) [.bool,.int .i64] x
def YZ (L:Nat):Sum tT:=mU 70 [.bool,.int .i64] (.one (.int .i64)) (ZZ L)
theorem FT (L:Nat)(x0:Bool)(x1:Int):ZZ L (x0,x1,())=bif x0 then some 0 else some x1:=by kernel_rfl
def ZdO (L:Nat)(x:Zj×E8×PUnit):Option Int:=fT [Qw L,QU L,ZdL L,YZ L] L DN [] (.one (.int .i64)) [.row 14,.row 12] x
def ZdM (L:Nat):Sum tT:=mU 195 [.row 14,.row 12] (.one (.int .i64)) (ZdO L)
def XZ (L:Nat)(x:(List UInt8)×(List (List UInt8))×PUnit):Option Int:=fT [QU L,YZ L,VP L,Ji L] L MC [] (.one (.int .i64)) [.str,.lst 1 .str] x
def Bi (L:Nat):Sum tT:=mU 72 [.str,.lst 1 .str] (.one (.int .i64)) (XZ L)
theorem Zbm (L:Nat)(x0:(List UInt8))(x1:(List (List UInt8))):XZ L (x0,x1,())=bT (WL L (x0,())) fun y=>bT (XI L (x1,x0,())) fun y_1=>bT (ZZ L (decide (y_1 < 0),4,())) fun y_2=>bT (YJ L (y,y_2,())) fun y=>some y:=by kernel_rfl
def ZfL (L:Nat)(x:Zj×ZfU×(List (List UInt8))×PUnit):Option Int:=fT [Tc L,ZdM L,QU L,YZ L,Bi L] L EP [.rnd [.slot 7 (.int .i64),.slot 8 (.int .i64)]] (.one (.int .i64)) [.row 14,.row 13,.lst 1 .str] x
def Uh (L:Nat)(x:Int×Int×PUnit):Option Bool:=fT [Qw L,Tc L] L DJ [] (.one .bool) [.int .i64,.int .i64] x
def PM (L:Nat):Sum tT:=mU 146 [.int .i64,.int .i64] (.one .bool) (Uh L)
theorem Zd7 (L:Nat)(x0:Int)(x1:Int):Uh L (x0,x1,())=bif x0 == 1 then bT (GY L (x1,())) fun y=>some y else bif x0 == 2 then some (x1 == 0 || x1 == 1) else bif x0 == 3 then bT (Yw L (x1,0,1000000000,())) fun y=>some y else some false:=by kernel_rfl
def Ej (L:Nat)(x:Zj×(List UInt8)×PUnit):Option Int:=fT [VP L,Bg L] L KY [] (.one (.int .i64)) [.row 14,.str] x
def Eh (L:Nat):Sum tT:=mU 194 [.row 14,.str] (.one (.int .i64)) (Ej L)
def ZbI (L:Nat)(x:Zj×KI×PUnit):Option Int:=fT [YZ L,Qw L,PM L,Eh L] L MF [.rnd [.slot 7 (.int .i64)]] (.one (.int .i64)) [.row 14,.row 11] x
def Yh (L:Nat)(x:Zq×PUnit):Option Int:=fT [ZbA L] L TW [] (.one (.int .i64)) [.row 8] x
def Zb7 (L:Nat):Sum tT:=mU 275 [.row 8] (.one (.int .i64)) (Yh L)
theorem Zbc (L:Nat)(x0:Zq):Yh L (x0,())=bT (Jn L (x0,false,())) fun y=>some y:=by kernel_rfl
def Jp (L:Nat)(x:Zt×Yb×PUnit):Option Int:=fT [Zb7 L] L Mc [.rnd [.slot 5 (.int .i64),.slot 6 (.int .i64)]] (.one (.int .i64)) [.row 9,.row 27] x
def ZbE (L:Nat):Sum tT:=mU 273 [.row 9,.row 27] (.one (.int .i64)) (Jp L)
def Yu:Zt→Nat→(Int×Int×PUnit→Option Int)→Int×Int×PUnit→Option Int:=fun x0 L self acc=>bif acc.1 == 0 && decide (acc.2.1 < (↑x0.6.length:Int)) then bT (Y1 x0.6 acc.2.1) fun y=>bT (Yh L (y,())) fun y=>self (y,Go.IntKind.i64.wrap (acc.2.1 + 1),()) else some acc.1
def Ob:Zt→Nat→(Int×Int×PUnit→Option Int)→Int×Int×PUnit→Option Int:=fun x0 L self acc=>bif acc.1 == 0 && decide (acc.2.1 < (↑x0.6.length:Int)) then bT (Y1 x0.6 acc.2.1) fun y=>bT (Yh L (y,())) fun y=>self (y,Go.IntKind.i64.wrap (acc.2.1 + 1),()) else some acc.1
def Oc:Zt→Nat→(Int×Int×PUnit→Option Int)→Int×Int×PUnit→Option Int:=fun x0 L self acc=>bif acc.1 == 0 && decide (acc.2.1 < (↑x0.6.length:Int)) then bT (Y1 x0.6 acc.2.1) fun y=>bT (Yh L (y,())) fun y=>self (y,Go.IntKind.i64.wrap (acc.2.1 + 1),()) else some acc.1
def Oe:Zt→Nat→(Int×Int×PUnit→Option Int)→Int×Int×PUnit→Option Int:=fun x0 L self acc=>bif acc.1 == 0 && decide (acc.2.1 < (↑x0.6.length:Int)) then bT (Y1 x0.6 acc.2.1) fun y=>bT (Yh L (y,())) fun y=>self (y,Go.IntKind.i64.wrap (acc.2.1 + 1),()) else some acc.1
def Og:Zt→Nat→(Int×Int×PUnit→Option Int)→Int×Int×PUnit→Option Int:=fun x0 L self acc=>bif acc.1 == 0 && decide (acc.2.1 < (↑x0.6.length:Int)) then bT (Y1 x0.6 acc.2.1) fun y=>bT (Yh L (y,())) fun y=>self (y,Go.IntKind.i64.wrap (acc.2.1 + 1),()) else some acc.1
def Oh:Zt→Nat→(Int×Int×PUnit→Option Int)→Int×Int×PUnit→Option Int:=fun x0 L self acc=>bif acc.1 == 0 && decide (acc.2.1 < (↑x0.6.length:Int)) then bT (Y1 x0.6 acc.2.1) fun y=>bT (Yh L (y,())) fun y=>self (y,Go.IntKind.i64.wrap (acc.2.1 + 1),()) else some acc.1
def Oi:Zt→Nat→(Int×Int×PUnit→Option Int)→Int×Int×PUnit→Option Int:=fun x0 L self acc=>bif acc.1 == 0 && decide (acc.2.1 < (↑x0.6.length:Int)) then bT (Y1 x0.6 acc.2.1) fun y=>bT (Yh L (y,())) fun y=>self (y,Go.IntKind.i64.wrap (acc.2.1 + 1),()) else some acc.1
def Oj:Zt→Nat→(Int×Int×PUnit→Option Int)→Int×Int×PUnit→Option Int:=fun x0 L self acc=>bif acc.1 == 0 && decide (acc.2.1 < (↑x0.6.length:Int)) then bT (Y1 x0.6 acc.2.1) fun y=>bT (Yh L (y,())) fun y=>self (y,Go.IntKind.i64.wrap (acc.2.1 + 1),()) else some acc.1
theorem Zbj (L:Nat)(x0:Zt)(x1:Yb):Jp L (x0,x1,())=bif x1.3 then bT (Yh L (x0.4,())) fun y=>bif y == 0 && x1.4 then bT (Yh L (x0.5,())) fun y=>bif y == 0 && decide ((↑x0.6.length:Int) > 6) then Zw (Yu x0 L) L (6,0,()) else Zw (Ob x0 L) L (y,0,()) else bif y == 0 && decide ((↑x0.6.length:Int) > 6) then Zw (Oc x0 L) L (6,0,()) else Zw (Oe x0 L) L (y,0,()) else bif 0 == 0 && x1.4 then bT (Yh L (x0.5,())) fun y=>bif y == 0 && decide ((↑x0.6.length:Int) > 6) then Zw (Og x0 L) L (6,0,()) else Zw (Oh x0 L) L (y,0,()) else bif 0 == 0 && decide ((↑x0.6.length:Int) > 6) then Zw (Oi x0 L) L (6,0,()) else Zw (Oj x0 L) L (0,0,()):=by kernel_rfl
end Go.Proofs.YtleomfgijkapfaaGreatDoor
end
noncomputable section
namespace Go.Proofs.YtleomfgijkapfaaGreatDoor
open Go Go.Proofs.YtleomfgijkapfaaGreatDoor.Abs Go.Proofs.YtleomfgijkapfaaGreatDoor.Tl
set_option maxRecDepth 100000
set_option maxHeartbeats 0
def VQ (L:Nat)(x:Zq×PUnit):Option Bool:=fT [] L DI [] (.one .bool) [.row 8] x
def ZdK (L:Nat):Sum tT:=mU 274 [.row 8] (.one .bool) (VQ L)
theorem Zd6 (L:Nat)(x0:Zq):VQ L (x0,())=some (x0.1 == 0 && x0.2 == [] && x0.3 == 0 && (↑x0.4.length:Int) == 0):=by kernel_rfl
def GZ (L:Nat)(x:Int×PUnit):Option (Yb×Bool×PUnit):=fT [] L ZbK [] (.tup [.row 27,.bool]) [.int .i64] x
def ZcN (L:Nat):Sum tT:=mU 271 [.int .i64] (.tup [.row 27,.bool]) (GZ L)
theorem Zho (L:Nat)(x0:Int):GZ L (x0,())=bif x0 == 1 then some (Yb.mk true false true false false false false false false,true,()) else bif x0 == 7 then some (Yb.mk true false true false false false false false false,true,()) else bif x0 == 8 then some (Yb.mk true false true false false false false false false,true,()) else bif x0 == 12 then some (Yb.mk true false true false false false false false false,true,()) else bif x0 == 15 then some (Yb.mk true false true false false false false false false,true,()) else bif x0 == 16 then some (Yb.mk true false true false false false false false false,true,()) else bif x0 == 17 then some (Yb.mk true false true false false false false false false,true,()) else bif x0 == 2 then some (Yb.mk true true false false false true false false false,true,()) else bif x0 == 3 then some (Yb.mk false false true false false false false true true,true,()) else bif x0 == 4 then some (Yb.mk false false true false false false false true false,true,()) else bif x0 == 5 then some (Yb.mk false false true false false false false false false,true,()) else bif x0 == 6 then some (Yb.mk true false true true false false true false false,true,()) else bif x0 == 9 then some (Yb.mk true true false false false false false false false,true,()) else bif x0 == 10 then some (Yb.mk true false false false false false false false false,true,()) else bif x0 == 11 then some (Yb.mk true false false false false false false false false,true,()) else bif x0 == 13 then some (Yb.mk true true true false true false false false false,true,()) else bif x0 == 14 then some (Yb.mk true false true false true false false false false,true,()) else bif x0 == 18 then some (Yb.mk false false false false false false false false false,true,()) else some (Yb.mk false false false false false false false false false,false,()):=by kernel_rfl
def Vs (L:Nat)(x:Zt×PUnit):Option Bool:=fT [PI L,ZdK L,ZcN L] L II [] (.one .bool) [.row 9] x
def CJ (L:Nat):Sum tT:=mU 272 [.row 9] (.one .bool) (Vs L)
theorem FQ (L:Nat)(x0:Zt):Vs L (x0,())=bT (GZ L (x0.1,())) fun y=>bT (bif y.1.3 == false then bT (VQ L (x0.4,())) fun y=>some y else some true) fun y_1=>bT (bif y_1 == true then bif y.1.4 == false then bT (VQ L (x0.5,())) fun y=>some y else some true else some false) fun y_2=>bT (bif (y.2.1 && ((y.1.1 || x0.2 == []) && (y.1.2 || x0.3 == [])) && (y_2 && (y.1.5 || (↑x0.6.length:Int) == 0)) && ((y.1.8 || (↑x0.9.length:Int) == 0) && (y.1.9 || (↑x0.10.length:Int) == 0))) == true then bif y.1.6 == false then bT (XH L (x0.7,Ya.mk 0 0 0 0 [] [],())) fun y=>some y else some true else some false) fun y_3=>some (y_3 && (y.1.7 || !x0.8)):=by kernel_rfl
def Ha (L:Nat)(x:Zt×PUnit):Option Int:=fT [Jg L,ZbE L,Ji L,CJ L,ZcN L] L EO [] (.one (.int .i64)) [.row 9] x
def CP (L:Nat):Sum tT:=mU 267 [.row 9] (.one (.int .i64)) (Ha L)
theorem Zfv (L:Nat)(x0:Zt):Ha L (x0,())=bT (GZ L (x0.1,())) fun y=>bT (Vs L (x0,())) fun y_1=>bif !y_1 then some 1 else bT (bif y.1.1 == true then bT (WL L (x0.2,())) fun y=>some (y != 0) else some false) fun y_2=>bT (bif y_2 == false then bif y.1.2 == true then bT (WL L (x0.3,())) fun y=>some (y != 0) else some false else some true) fun y_3=>bif y_3 then some 3 else bT (Jp L (x0,y.1,())) fun y_4=>bif y_4 == 0 && y.1.6 then bT (Qo L (x0.7,())) fun y=>some y else some y_4:=by kernel_rfl
def RS (L:Nat):Nat→List (Sum tT)
 | 0=>[⟨253,[.lst 21 (.row 9)],fun _=>.par _ none ((.one (.int .i64):RD).tv tT)⟩]
 | m + 1=>[⟨253,[.lst 21 (.row 9)],fun x=>.par _ (fnT tF tG (qOf tF (RS L m ++ [CP L])) 0 L Hu [.rnd [.slot 3 (.int .i64)]] (.one (.int .i64)) (tvL tT [.lst 21 (.row 9)] x) []) ((.one (.int .i64):RD).tv tT)⟩]
def QZ (L m:Nat)(x:(List Zt)×PUnit):Option (Int):=fnT tF tG (qOf tF (RS L m ++ [CP L])) 0 L Hu [.rnd [.slot 3 (.int .i64)]] (.one (.int .i64)) (tvL tT [.lst 21 (.row 9)] x) []
def I7 (L:Nat)(x:(List Zt)×PUnit):Option (Int):=QZ L L x
def ZdJ (L:Nat):Sum tT:=⟨253,[.lst 21 (.row 9)],fun x=>.par ((.one (.int .i64):RD).Ty tT) (I7 L x) ((.one (.int .i64):RD).tv tT)⟩
def Kt:Nat→List Zt→Nat→(Int×PUnit→Option Int)→Int×PUnit→Option Int:=fun (m:Nat)=>fun x0 L self acc=>bif decide (acc.1 < (↑x0.length:Int)) then bT (Y1 x0 acc.1) fun y=>bT (Ha L (y,())) fun y=>bif y == 0 then bT (Y1 x0 acc.1) fun y=>bT (QZ L m (y.9,())) fun y=>bif y == 0 then bT (Y1 x0 acc.1) fun y=>bT (QZ L m (y.10,())) fun y=>bif y != 0 then some y else self (Go.IntKind.i64.wrap (acc.1 + 1),()) else bif y != 0 then some y else self (Go.IntKind.i64.wrap (acc.1 + 1),()) else bif y == 0 then bT (Y1 x0 acc.1) fun y=>bT (QZ L m (y.10,())) fun y=>bif y != 0 then some y else self (Go.IntKind.i64.wrap (acc.1 + 1),()) else bif y != 0 then some y else self (Go.IntKind.i64.wrap (acc.1 + 1),()) else some 0
theorem Zd5 (L m:Nat)(x0:(List Zt)):QZ L (m + 1) (x0,())=Zw (Kt m x0 L) L (0,()):=by kernel_rfl
def Ot (L:Nat):Nat→List (Sum tT)
 | 0=>[⟨252,[.lst 21 (.row 9)],fun _=>.par _ none ((.one (.int .i64):RD).tv tT)⟩]
 | m + 1=>[⟨252,[.lst 21 (.row 9)],fun x=>.par _ (fnT tF tG (qOf tF (Ot L m ++ [])) 0 L UG [.rnd [.slot 3 (.int .i64),.slot 4 (.int .i64)]] (.one (.int .i64)) (tvL tT [.lst 21 (.row 9)] x) []) ((.one (.int .i64):RD).tv tT)⟩]
def Xu (L m:Nat)(x:(List Zt)×PUnit):Option (Int):=fnT tF tG (qOf tF (Ot L m ++ [])) 0 L UG [.rnd [.slot 3 (.int .i64),.slot 4 (.int .i64)]] (.one (.int .i64)) (tvL tT [.lst 21 (.row 9)] x) []
def KD (L:Nat)(x:(List Zt)×PUnit):Option (Int):=Xu L L x
def ZbD (L:Nat):Sum tT:=⟨252,[.lst 21 (.row 9)],fun x=>.par ((.one (.int .i64):RD).Ty tT) (KD L x) ((.one (.int .i64):RD).tv tT)⟩
def JP:Nat→List Zt→Nat→(Int×Int×PUnit→Option Int)→Int×Int×PUnit→Option Int:=fun (m:Nat)=>fun x0 L self acc=>bif decide (acc.2.1 < (↑x0.length:Int)) then bT (Y1 x0 acc.2.1) fun y=>bT (bT (Xu L m (y.9,())) fun y=>some y) fun y=>bT (Y1 x0 acc.2.1) fun y_1=>bT (bT (Xu L m (y_1.10,())) fun y=>some y) fun y_2=>self (if Go.IntKind.i64.wrap (1 + y_2) > if Go.IntKind.i64.wrap (1 + y) > acc.1 then Go.IntKind.i64.wrap (1 + y) else acc.1 then Go.IntKind.i64.wrap (1 + y_2) else if Go.IntKind.i64.wrap (1 + y) > acc.1 then Go.IntKind.i64.wrap (1 + y) else acc.1,Go.IntKind.i64.wrap (acc.2.1 + 1),()) else some acc.1
theorem Zbi (L m:Nat)(x0:(List Zt)):Xu L (m + 1) (x0,())=Zw (JP m x0 L) L (0,0,()):=by kernel_rfl
def Oq (L:Nat):Nat→List (Sum tT)
 | 0=>[⟨25,[.lst 21 (.row 9)],fun _=>.par _ none ((.one (.int .i64):RD).tv tT)⟩]
 | m + 1=>[⟨25,[.lst 21 (.row 9)],fun x=>.par _ (fnT tF tG (qOf tF (Oq L m ++ [])) 0 L UF [.rnd [.slot 3 (.int .i64),.slot 4 (.int .i64)]] (.one (.int .i64)) (tvL tT [.lst 21 (.row 9)] x) []) ((.one (.int .i64):RD).tv tT)⟩]
def Xt (L m:Nat)(x:(List Zt)×PUnit):Option (Int):=fnT tF tG (qOf tF (Oq L m ++ [])) 0 L UF [.rnd [.slot 3 (.int .i64),.slot 4 (.int .i64)]] (.one (.int .i64)) (tvL tT [.lst 21 (.row 9)] x) []
def KC (L:Nat)(x:(List Zt)×PUnit):Option (Int):=Xt L L x
def ZbC (L:Nat):Sum tT:=⟨25,[.lst 21 (.row 9)],fun x=>.par ((.one (.int .i64):RD).Ty tT) (KC L x) ((.one (.int .i64):RD).tv tT)⟩
def JO:Nat→List Zt→Nat→(Int×Int×PUnit→Option Int)→Int×Int×PUnit→Option Int:=fun (m:Nat)=>fun x0 L self acc=>bif decide (acc.2.1 < (↑x0.length:Int)) then bT (Y1 x0 acc.2.1) fun y=>bT (bT (Xt L m (y.9,())) fun y=>some y) fun y=>bT (Y1 x0 acc.2.1) fun y_1=>bT (bT (Xt L m (y_1.10,())) fun y=>some y) fun y_2=>self (Go.IntKind.i64.wrap (Go.IntKind.i64.wrap (Go.IntKind.i64.wrap (acc.1 + 1) + y) + y_2),Go.IntKind.i64.wrap (acc.2.1 + 1),()) else some acc.1
theorem Zbh (L m:Nat)(x0:(List Zt)):Xt L (m + 1) (x0,())=Zw (JO m x0 L) L (0,0,()):=by kernel_rfl
def Jo (L:Nat)(x:(List Zt)×PUnit):Option Int:=fT [ZdJ L,ZbD L,ZbC L] L TZ [] (.one (.int .i64)) [.lst 21 (.row 9)] x
def ZbB (L:Nat):Sum tT:=mU 232 [.lst 21 (.row 9)] (.one (.int .i64)) (Jo L)
theorem Zbg (L:Nat)(x0:(List Zt)):Jo L (x0,())=bT (KC L (x0,())) fun y=>bif decide (y > 200) then some 6 else bT (KD L (x0,())) fun y=>bif decide (y > 12) then some 11 else bT (I7 L (x0,())) fun y=>some y:=by kernel_rfl
def XY (L:Nat)(x:Int×PUnit):Option Bool:=fT [] L Me [] (.one .bool) [.int .i64] x
def Bh (L:Nat):Sum tT:=mU 145 [.int .i64] (.one .bool) (XY L)
theorem Zbk (L:Nat)(x0:Int):XY L (x0,())=some (x0 == 1 || x0 == 2 || x0 == 3):=by kernel_rfl
def XC (L:Nat)(x:YL×PUnit):Option Int:=fT [ZbB L,QU L,YZ L,Bh L,Bi L] L KZ [.rnd [.slot 3 (.own 1 .str),.slot 5 (.int .i64)]] (.one (.int .i64)) [.row 10] x
def Ei (L:Nat):Sum tT:=mU 193 [.row 10] (.one (.int .i64)) (XC L)
def Xd:YL→Nat→List Xh→(List (List UInt8)×Int×PUnit→Option Int)→List (List UInt8)×Int×PUnit→Option Int:=fun x0 L y self acc=>bif decide (acc.2.1 < (↑y.length:Int)) then bT (Y1 y acc.2.1) fun y_1=>bT (bT (XZ L (y_1.1,acc.1,())) fun y=>some y) fun y_2=>bT (Y1 y acc.2.1) fun y_3=>bT (bT (XY L (y_3.2,())) fun y=>some y) fun y_4=>bT (bT (ZZ L (y_4,1,())) fun y=>some y) fun y_5=>bT (bT (YJ L (y_2,y_5,())) fun y=>some y) fun y_6=>bif y_6 != 0 then some y_6 else bT (Y1 y acc.2.1) fun y=>bT (apT 16 acc.1 [y.1]) fun y=>self (y,Go.IntKind.i64.wrap (acc.2.1 + 1),()) else bT (Jo L (x0.4,())) fun y=>some y
theorem SA (L:Nat)(x0:YL):XC L (x0,())=bif decide ((↑x0.2.length:Int) > 6) || decide (Go.IntKind.i64.wrap ((↑x0.2.length:Int) + (↑x0.3.length:Int)) > 16) then some 6 else bT (apT 24 [] x0.2) fun y=>bT (apT 24 y x0.3) fun y=>Zw (Xd x0 L y) L ([],0,()):=by kernel_rfl
end Go.Proofs.YtleomfgijkapfaaGreatDoor
end
noncomputable section
namespace Go.Proofs.YtleomfgijkapfaaGreatDoor
open Go Go.Proofs.YtleomfgijkapfaaGreatDoor.Abs Go.Proofs.YtleomfgijkapfaaGreatDoor.Tl
set_option maxRecDepth 100000
set_option maxHeartbeats 0
def Xf (L:Nat)(x:Zp×PUnit):Option Int:=fT [Qw L,YZ L] L Ux [.rnd [.slot 3 (.int .i64)]] (.one (.int .i64)) [.row 4] x
def D6 (L:Nat):Sum tT:=mU 231 [.row 4] (.one (.int .i64)) (Xf L)
def WH:Zp→Nat→(Int×PUnit→Option Int)→Int×PUnit→Option Int:=fun x0 L self acc=>bif decide (acc.1 < (↑x0.3.length:Int)) then bT (Y1 x0.3 acc.1) fun y=>bT (Yw L (y.1,0,Go.IntKind.i64.wrap (x0.4 - 1),())) fun y_1=>bT (bif (!y_1) == false then bT (Yw L (y.2,0,1000,())) fun y=>some !y else some true) fun y_2=>bif y_2 then some 2 else bT (bif decide (acc.1 > 0) == true then bT (Y1 x0.3 (Go.IntKind.i64.wrap (acc.1 - 1))) fun y_3=>some (decide (y.1≤y_3.1)) else some false) fun y=>bif y then some 12 else self (Go.IntKind.i64.wrap (acc.1 + 1),()) else some 0
theorem Dt (L:Nat)(x0:Zp):Xf L (x0,())=bif (↑x0.3.length:Int) == 0 then bT (ZZ L (x0.4 == 0,1,())) fun y=>some y else bif decide ((↑x0.3.length:Int) > 20) then some 6 else bT (Yw L (x0.4,1,1000000000,())) fun y=>bif !y then some 2 else Zw (WH x0 L) L (0,()):=by kernel_rfl
def Xg (L:Nat)(x:Zj×Zp×PUnit):Option Int:=fT [Jg L,VP L,PI L,QU L,D6 L,YZ L,Qw L] L Uz [] (.one (.int .i64)) [.row 14,.row 4] x
def D7 (L:Nat):Sum tT:=mU 192 [.row 14,.row 4] (.one (.int .i64)) (Xg L)
theorem Du (L:Nat)(x0:Zj)(x1:Zp):Xg L (x0,x1,())=bT (bT (Yw L (x1.2,0,1000,())) fun y=>some y) fun y=>bT (bT (ZZ L (y,2,())) fun y=>some y) fun y=>bT (bT (Xf L (x1,())) fun y=>some y) fun y_1=>bT (bT (YJ L (y,y_1,())) fun y=>some y) fun y=>bif y != 0 then some y else bif x1.Fault.1 == [] then bT (XH L (x1.Fault.2,Ya.mk 0 0 0 0 [] [],())) fun y=>bT (bif y == true then bT (XH L (x1.Fault.3,Ya.mk 0 0 0 0 [] [],())) fun y=>some y else some false) fun y=>bT (ZZ L (y,1,())) fun y=>some y else bT (XI L (x0.7,x1.Fault.1,())) fun y=>bif decide (y < 0) then some 5 else bT (bT (Qo L (x1.Fault.2,())) fun y=>some y) fun y=>bT (bT (Qo L (x1.Fault.3,())) fun y=>some y) fun y_2=>bT (bT (YJ L (y,y_2,())) fun y=>some y) fun y=>some y:=by kernel_rfl
def Yn (L:Nat)(x:Zj×Int×Int×PUnit):Option Int:=fT [Ei L,Qw L,D7 L,QU L,PM L,YZ L,Bh L] L Uy [] (.one (.int .i64)) [.row 14,.int .i64,.int .i64] x
theorem Wu (L:Nat)(x0:Zj)(x1:Int)(x2:Int):Yn L (x0,x1,x2,())=bif x1 == 0 then bT (Y1 x0.2 x2) fun y=>bT (bT (XY L (y.2,())) fun y=>some y) fun y=>bT (bT (ZZ L (y,1,())) fun y=>some y) fun y=>bT (Y1 x0.2 x2) fun y_1=>bT (Y1 x0.2 x2) fun y_2=>bT (bT (Uh L (y_1.2,y_2.3,())) fun y=>some y) fun y_3=>bT (bT (ZZ L (y_3,2,())) fun y=>some y) fun y_4=>bT (bT (YJ L (y,y_4,())) fun y=>some y) fun y=>some y else bif x1 == 1 then bT (Y1 x0.3 x2) fun y=>bT (bT (Xg L (x0,y,())) fun y=>some y) fun y=>some y else bif x1 == 2 then bT (Y1 x0.4 x2) fun y=>bT (Y1 x0.4 x2) fun y_1=>bT (Yw L (y_1.2,1,1000,())) fun y_2=>bT (ZZ L (y_2,2,())) fun y_3=>bT (ZZ L (decide (y.3 ≥ 1) && decide (y.3≤3),1,())) fun y=>bT (YJ L (y_3,y,())) fun y=>some y else bif x1 == 3 then bT (Y1 x0.5 x2) fun y=>bT (Yw L (y.2,1,1000,())) fun y=>bT (bif y == true then bT (Y1 x0.5 x2) fun y=>bT (Yw L (y.3,1,1000,())) fun y=>some y else some false) fun y=>bT (ZZ L (y,2,())) fun y=>some y else bif x1 == 9 then bT (Y1 x0.11 x2) fun y=>bT (XC L (y,())) fun y=>some y else some 0:=by kernel_rfl
def XU:Zj→Nat→List (List (List UInt8))→(Int×List (List UInt8)×Int×PUnit→Option Int)→Int×List (List UInt8)×Int×PUnit→(Int×List (List UInt8)×Int×PUnit→Option Int)→Int×List (List UInt8)×Int×PUnit→Option Int:=fun x0 L y self acc self_1 acc_1=>bT (Y1 y acc.2.2.1) fun y_1=>bif decide (acc_1.2.2.1 < (↑y_1.length:Int)) then bT (Y1 y acc.2.2.1) fun y_2=>bT (Y1 y_2 acc_1.2.2.1) fun y_3=>bT (bT (XZ L (y_3,acc_1.2.1,())) fun y=>some y) fun y_4=>bT (bT (Yn L (x0,acc.2.2.1,acc_1.2.2.1,())) fun y=>some y) fun y_5=>bT (bT (YJ L (y_4,y_5,())) fun y=>some y) fun y_6=>bif y_6 != 0 then some y_6 else bT (Y1 y acc.2.2.1) fun y=>bT (Y1 y acc_1.2.2.1) fun y=>bT (apT 16 acc_1.2.1 [y]) fun y=>self_1 (acc_1.1,y,Go.IntKind.i64.wrap (acc_1.2.2.1 + 1),()) else self (acc_1.1,acc_1.2.1,Go.IntKind.i64.wrap (acc.2.2.1 + 1),())
def Zbq:Zj→Nat→(List (List UInt8)×Int×PUnit→Option Int)→List (List UInt8)×Int×PUnit→Option Int:=fun x0 L self acc=>bif decide (acc.2.1 < (↑x0.13.length:Int)) then bT (Y1 x0.13 acc.2.1) fun y=>bT (bT (ZfL L (x0,y,acc.1,())) fun y=>some y) fun y=>bif y != 0 then some y else bT (Y1 x0.13 acc.2.1) fun y=>bT (apT 16 acc.1 [y.1]) fun y=>self (y,Go.IntKind.i64.wrap (acc.2.1 + 1),()) else some 0
def Rn:Zj→Nat→(Int×Int×PUnit→Option Int)→Int×Int×PUnit→Option Int:=fun x0 L self acc=>bif decide (acc.2.1 < (↑x0.12.length:Int)) then bT (Y1 x0.12 acc.2.1) fun y=>bT (bT (ZbI L (x0,y,())) fun y=>some y) fun y=>bif y != 0 then some y else self (acc.1,Go.IntKind.i64.wrap (acc.2.1 + 1),()) else bif decide ((↑x0.13.length:Int) > 32) then some 6 else Zw (Zbq x0 L) L ([],0,())
def XV:Zj→Nat→List (List (List UInt8))→(Int×List (List UInt8)×Int×PUnit→Option Int)→Int×List (List UInt8)×Int×PUnit→Option Int:=fun x0 L y self acc=>bif decide (acc.2.2.1 < (↑y.length:Int)) then bT (Y1 y acc.2.2.1) fun y_1=>bT (bif decide ((↑y_1.length:Int) > 32) == false then bif (acc.2.2.1 == 9) == true then bT (Y1 y acc.2.2.1) fun y=>some (decide ((↑y.length:Int) > 16)) else some false else some true) fun y_2=>bif y_2 then some 6 else Zw (XU x0 L y self acc) L (acc.1,acc.2.1,0,()) else bif decide ((↑x0.12.length:Int) > 32) then some 6 else Zw (Rn x0 L) L (acc.1,0,())
def Dk:List (Inl tT):=[⟨202,YO,[],.one (.bool),[]⟩,⟨235,Wy,[.rnd [.slot 8 (.int .i64)]],.one (.int .i64),[]⟩,⟨203,JD,[],.one (.bool),[]⟩]
def ZV (L:Nat)(x:Int×Int×(List Int)×PUnit):Option Bool:=fI [] L Dk KQ [] (.one .bool) [.int .i64,.int .i64,.lst 1 (.int .i64)] x
def GN (L:Nat):Sum tT:=mU 160 [.int .i64,.int .i64,.lst 1 (.int .i64)] (.one .bool) (ZV L)
theorem SS:SX GN:=fun h=>sI h Qa (ZJ ⟨h.T _ _ rfl,by kernel_rfl⟩ (ZJ ⟨h.T _ _ rfl,by kernel_rfl⟩ (ZJ ⟨h.T _ _ rfl,by kernel_rfl⟩ Qa))) rfl (by kernel_rfl) fun _=>rfl
def Xb:Int→Int→List Int→(Int×PUnit→Option Int)→Int×PUnit→Option Int:=fun x0 x1 x2 self acc=>bif decide (acc.1 < (↑x2.length:Int)) then bT (Y1 x2 acc.1) fun y=>bif decide (y < x0) || decide (y > x1) then some acc.1 else self (Go.IntKind.i64.wrap (acc.1 + 1),()) else some (-1)
theorem Su (L:Nat)(x0:Int)(x1:Int)(x2:(List Int)):ZV L (x0,x1,x2,())=bT (bT (Zw (Xb x0 x1 x2) L (0,())) fun y=>some (decide (y ≥ 0))) fun y=>some !y:=by kernel_rfl
def X9 (L:Nat)(x:Ya×PUnit):Option Bool:=fT [] L KP [] (.one .bool) [.row 2] x
def GM (L:Nat):Sum tT:=mU 159 [.row 2] (.one .bool) (X9 L)
theorem SQ:SX GM:=fun h=>sT h Qa rfl (by kernel_rfl) fun _=>rfl
theorem Sr (L:Nat)(x0:Ya):X9 L (x0,())=bif x0.1 == 1 then some (Go.IntKind.i64.wrap ((↑x0.5.length:Int) + (↑x0.6.length:Int)) == 0 && x0.3 == 0 && x0.4 == 0) else bif x0.1 == 2 then some (Go.IntKind.i64.wrap ((↑x0.5.length:Int) + (↑x0.6.length:Int)) == 0 && x0.4 == 0) else bif x0.1 == 5 then some (Go.IntKind.i64.wrap ((↑x0.5.length:Int) + (↑x0.6.length:Int)) == 0 && x0.4 == 0) else bif x0.1 == 4 then some (Go.IntKind.i64.wrap ((↑x0.5.length:Int) + (↑x0.6.length:Int)) == 0) else bif x0.1 == 3 then some (x0.2 == 0 && x0.3 == 0 && x0.4 == 0) else some false:=by kernel_rfl
def Vq (L:Nat)(x:Ya×PUnit):Option Int:=fT [GN L,GM L] L IB [] (.one (.int .i64)) [.row 2] x
def Ox (L:Nat):Sum tT:=mU 79 [.row 2] (.one (.int .i64)) (Vq L)
theorem Cc:SX Ox:=fun h=>sT h (ZJ (SS h) (ZJ (SQ h) Qa)) rfl (by kernel_rfl) fun _=>rfl
theorem FM (L:Nat)(x0:Ya):Vq L (x0,())=bT (X9 L (x0,())) fun y=>bif !y then some 1 else bif x0.1 == 1 then bT (ZV L (0,1000000000,[x0.2],())) fun y=>bif !y then some 2 else some 0 else bif x0.1 == 2 then bT (ZV L (0,1000000000,[x0.2,x0.3],())) fun y=>bif !(y && decide (x0.2≤x0.3)) then some 2 else some 0 else bif x0.1 == 4 then bT (ZV L (1,20,[x0.4],())) fun y=>bT (bif y == true then bT (ZV L (0,1000000,[x0.2,x0.3],())) fun y=>some y else some false) fun y=>bif !(y && decide (x0.2≤x0.3)) then some 2 else some 0 else bif x0.1 == 5 then bT (ZV L (1,1000,[x0.2,x0.3],())) fun y=>bif !y then some 2 else some 0 else bif x0.1 == 3 then bif (↑x0.5.length:Int) != (↑x0.6.length:Int) then some 8 else bif (↑x0.5.length:Int) == 0 then some 7 else bif decide ((↑x0.5.length:Int) > 20) then some 6 else bT (ZV L (0,1000000000,x0.5,())) fun y=>bT (bif y == true then bT (ZV L (1,1000,x0.6,())) fun y=>some y else some false) fun y=>bif !y then some 2 else some 0 else some 2:=by kernel_rfl
end Go.Proofs.YtleomfgijkapfaaGreatDoor
end
noncomputable section
namespace Go.Proofs.YtleomfgijkapfaaGreatDoor
open Go Go.Proofs.YtleomfgijkapfaaGreatDoor.Abs Go.Proofs.YtleomfgijkapfaaGreatDoor.Tl
set_option maxRecDepth 100000
set_option maxHeartbeats 0
def Xp (L:Nat)(x:Int×PUnit):Option Bool:=fT [] L IA [] (.one .bool) [.int .i64] x
def JU (L:Nat):Sum tT:=mU 37 [.int .i64] (.one .bool) (Xp L)
theorem Ol:SX JU:=fun h=>sT h Qa rfl (by kernel_rfl) fun _=>rfl
theorem FK (L:Nat)(x0:Int):Xp L (x0,())=some (decide (x0 ≥ 1) && decide (x0≤19)):=by kernel_rfl
def ZI (L:Nat)(x:ZF×PUnit):Option (List Zq):=fT [JU L] L Vg [] (.one (.lst 4 (.row 8))) [.row 15] x
def Vo (L:Nat):Sum tT:=mU 41 [.row 15] (.one (.lst 4 (.row 8))) (ZI L)
theorem G8:SX Vo:=fun h=>sT h (ZJ (Ol h) Qa) rfl (by kernel_rfl) fun _=>rfl
theorem Vk (L:Nat)(x0:ZF):ZI L (x0,())=bT (Xp L (x0.1,())) fun y=>bif !y then some [] else bT (Y1 XQ x0.1) fun y=>bif y.5 then bT (apT 56 [] [x0.5]) fun y_1=>bif y.6 then bT (apT 56 y_1 [x0.6]) fun y_2=>bif y.7 then bT (apT 56 y_2 x0.7) fun y=>some y else some y_2 else bif y.7 then bT (apT 56 y_1 x0.7) fun y=>some y else some y_1 else bif y.6 then bT (apT 56 [] [x0.6]) fun y_1=>bif y.7 then bT (apT 56 y_1 x0.7) fun y=>some y else some y_1 else bif y.7 then bT (apT 56 [] x0.7) fun y=>some y else some []:=by kernel_rfl
end Go.Proofs.YtleomfgijkapfaaGreatDoor
end
noncomputable section
namespace Go.Proofs.YtleomfgijkapfaaGreatDoor
open Go Go.Proofs.YtleomfgijkapfaaGreatDoor.Abs Go.Proofs.YtleomfgijkapfaaGreatDoor.Tl
set_option maxRecDepth 100000
set_option maxHeartbeats 0
def XA (L:Nat)(x:WN×PUnit):Option Bool:=fT [] L KU [.rnd [.slot 3 (.int .i64)]] (.one .bool) [.row 16] x
def GU (L:Nat):Sum tT:=mU 13 [.row 16] (.one .bool) (XA L)
theorem SV:SX GU:=fun h=>sT h Qa rfl (by kernel_rfl) fun _=>rfl
def Xc:WN→(Int×PUnit→Option Bool)→Int×PUnit→Option Bool:=fun x0 self acc=>bif decide (acc.1 < (↑x0.4.length:Int)) then bT (Y1 x0.4 acc.1) fun y=>bif decide ((↑y.7.length:Int) > 10) then some false else self (Go.IntKind.i64.wrap (acc.1 + 1),()) else some (decide ((↑x0.4.length:Int)≤60))
theorem Sv (L:Nat)(x0:WN):XA L (x0,())=Zw (Xc x0) L (0,()):=by kernel_rfl
end Go.Proofs.YtleomfgijkapfaaGreatDoor
end
section
namespace Go.Proofs.YtleomfgijkapfaaGreatDoor
open Go Go.Proofs.YtleomfgijkapfaaGreatDoor.Abs Go.Proofs.YtleomfgijkapfaaGreatDoor.Tl
set_option maxRecDepth 100000
theorem ZP {α:Type}(c:Bool)(a b:α):(bif c then some a else some b)=some (bif c then a else b):=by cases c <;> rfl
theorem ZU (c:Bool)(x:Option Bool):(bif c == true then x else some false)=bif c then x else some false:=by cases c <;> rfl
theorem condC (c:Bool)(x:Option Bool):(bif c == false then x else some true)=bif c then some true else x:=by cases c <;> rfl
theorem Zz (c x:Bool):(bif c == true then x else false)=(c && x):=by cases c <;> rfl
theorem Zy (c x:Bool):(bif c == false then x else true)=(c || x):=by cases c <;> rfl
theorem Ia {α:Type}(c:Prop)[Decidable c](a b:α):(if c then some a else some b)=some (if c then a else b):=by split <;> rfl
theorem Xl {α:Type}(c:Bool)(a b:α):(bif c then a else b)=if c=true then a else b:=by cases c <;> rfl
theorem Ze {α:Type}(o:Option α):bT o (fun y=>some y)=o:=by cases o <;> rfl
theorem WM {α:Type}[DecidableEq α](a b:α):(a != b)=!decide (a=b):=by
 by_cases h:a=b <;> simp [bne,h]
theorem We (a b:Int):(a == b)=decide (a=b):=by
 by_cases h:a=b <;> simp [h]
theorem Qe (a b:List UInt8):(a == b)=decide (a=b):=by
 by_cases h:a=b <;> simp [h]
abbrev Len {α:Type}(l:List α):Prop:=l.length≤4611686018427387
theorem ZgF {τ ρ:Type}{f:(τ→Option ρ)→τ→Option ρ}(n:Nat)(pk:Int→τ)(R:Nat→Option ρ)
  (h1:∀ self (i:Nat),i < n→self (pk ((i:Int) + 1))=R (i + 1)→f self (pk i)=R i)
  (h2:∀ self,f self (pk n)=R n):∀ (m i:Nat),i≤n→n - i < m→Zw f m (pk i)=R i
 | 0,_,_,h=>absurd h (Nat.not_lt_zero _)
 | m + 1,i,hi,hm=>by
  show f (Zw f m) (pk i)=_
  rcases Nat.lt_or_ge i n with hlt | hge
  ·exact h1 _ i hlt (ZgF n pk R h1 h2 m (i + 1) hlt (by omega))
  ·have:i=n:=by omega
   subst this
   exact h2 _
theorem Zjj {τ α σ ρ:Type}{f:(τ→Option ρ)→τ→Option ρ}(l:List α)(pk:σ→Int→τ)(R:List α→σ→Option ρ)
  (h1:∀ self s (i:Nat) x r,l[i]? = some x→i < l.length→x ∈ l→(∀ s',self (pk s' ((i:Int) + 1))=R r s')→f self (pk s i)=R (x :: r) s)
  (h2:∀ self s,f self (pk s (l.length:Nat))=R [] s):∀ (m i:Nat) (s:σ),i≤l.length→l.length - i < m→Zw f m (pk s i)=R (l.drop i) s
 | 0,_,_,_,h=>absurd h (Nat.not_lt_zero _)
 | m + 1,i,s,hi,hm=>by
  show f (Zw f m) (pk s i)=_
  rcases Nat.lt_or_ge i l.length with hlt | hge
  ·have hx:=List.getElem?_eq_getElem hlt
   rw [List.drop_eq_getElem_cons hlt]
   exact h1 _ s i _ _ hx hlt (List.getElem_mem hlt) fun s'=>Zjj l pk R h1 h2 m (i + 1) s' hlt (by omega)
  ·have:i=l.length:=by omega
   subst this
   rw [h2,List.drop_length]
theorem ZgE {α ρ:Type}{f:(Int×PUnit→Option ρ)→Int×PUnit→Option ρ}(l:List α)(R:List α→Option ρ){m:Nat}(hm:l.length < m)
  (h1:∀ self (i:Nat) x r,l[i]? = some x→i < l.length→x ∈ l→self ((i:Int) + 1,())=R r→f self ((i:Int),())=R (x :: r))
  (h2:∀ self,f self ((l.length:Int),())=R []):Zw f m (0,())=R l :=
 Zjj (σ := Unit) l (fun _ i=>(i,())) (fun l _=>R l) (fun self _ i x r a b c d=>h1 self i x r a b c (d ())) (fun self _=>h2 self) m 0 () (Nat.zero_le _) (by omega)
theorem Zlb {α ρ:Type}{f:(Int×PUnit→Option ρ)→Int×PUnit→Option ρ}(l:List α)(R:List α→Int→Option ρ){m:Nat}(hm:l.length < m)
  (h1:∀ self (i:Nat) x r,l[i]? = some x→i < l.length→x ∈ l→self ((i:Int) + 1,())=R r ((i:Int) + 1)→f self ((i:Int),())=R (x :: r) i)
  (h2:∀ self,f self ((l.length:Int),())=R [] l.length):Zw f m (0,())=R l 0:=by
 have:=ZgF (f := f) l.length (fun i=>(i,())) (fun i=>R (l.drop i) i) (fun self i hi e=>by
  have hx:=List.getElem?_eq_getElem hi
  rw [List.drop_eq_getElem_cons hi]
  exact h1 self i _ _ hx hi (List.getElem_mem hi) e) (fun self=>by rw [List.drop_length]; exact h2 self) m 0 (Nat.zero_le _) (by omega)
 exact this
theorem ZeM {α σ ρ:Type}{f:(σ×Int×PUnit→Option ρ)→σ×Int×PUnit→Option ρ}(l:List α)(R:List α→σ→Option ρ){m:Nat}(hm:l.length < m)(s:σ)
  (h1:∀ self s (i:Nat) x r,l[i]? = some x→i < l.length→x ∈ l→(∀ s',self (s',(i:Int) + 1,())=R r s')→f self (s,(i:Int),())=R (x :: r) s)
  (h2:∀ self s,f self (s,(l.length:Int),())=R [] s):Zw f m (s,0,())=R l s :=
 Zjj l (fun s i=>(s,i,())) R h1 h2 m 0 s (Nat.zero_le _) (by omega)
theorem Zle {α β ρ:Type}{f:(Int×PUnit→Option ρ)→Int×PUnit→Option ρ}(l:List α)(l':List β)(hl:l.length=l'.length)(R:List α→List β→Option ρ){m:Nat}(hm:l.length < m)
  (h1:∀ self (i:Nat) x y r r',l[i]? = some x→l'[i]? = some y→i < l.length→x ∈ l→self ((i:Int) + 1,())=R r r'→f self ((i:Int),())=R (x :: r) (y :: r'))
  (h2:∀ self,f self ((l.length:Int),())=R [] []):Zw f m (0,())=R l l':=by
 have:=ZgF (f := f) l.length (fun i=>(i,())) (fun i=>R (l.drop i) (l'.drop i)) (fun self i hi e=>by
  have hx:=List.getElem?_eq_getElem hi
  have hy:=List.getElem?_eq_getElem (show i < l'.length by omega)
  rw [List.drop_eq_getElem_cons hi,List.drop_eq_getElem_cons (show i < l'.length by omega)]
  exact h1 self i _ _ _ _ hx hy hi (List.getElem_mem hi) e) (fun self=>by rw [List.drop_length,hl,List.drop_length]; rw [← hl]; exact h2 self) m 0 (Nat.zero_le _) (by omega)
 exact this
end Go.Proofs.YtleomfgijkapfaaGreatDoor
end
section
namespace Go.Proofs.YtleomfgijkapfaaGreatDoor
open Go Go.Proofs.YtleomfgijkapfaaGreatDoor.Abs Go.Proofs.YtleomfgijkapfaaGreatDoor.Tl
set_option maxRecDepth 100000
theorem LZ (L:Nat)(n:Int):Xq L (n,())=some (Zku n):=FO L n
theorem Zfj (L:Nat)(l:List (List UInt8))(s:List UInt8)(hl:Len l)(hL:l.length < L):XI L (l,s,())=some (Ep (fun k=>decide (k=s)) l 0):=by
 rw [Zd2]
 refine Zlb l (fun l i=>some (Ep (fun k=>decide (k=s)) l i)) hL (fun self i x r hx hi _ e=>?_) (fun self=>?_)
 ·rw [Kr]; simp only [Zo,Zf,cond_true,cond_false,Zm,Yk,Ze,ZU,condC,Zz,Zy,ZP,We,Qe,WM,hi,hx,wrap_succ hi (by omega),e,Ep]; simp only [Xl,Ia,if_true,if_false,Bool.false_eq_true,ne_eq,decide_not,gt_iff_lt,ge_iff_le]
 ·rw [Kr]; simp only [Zo,Zf,cond_true,cond_false,Zm,Yk,Ze,ZU,condC,Zz,Zy,ZP,We,Qe,WM,Ep]
theorem FB (L:Nat)(s:List UInt8)(hL:100≤L):XB L (s,())=some (kwB s):=by
 rw [S9,show Xe L ()=some kws from Dq L,Yk,Zfj L kws s (by decide) (by have:kws.length=73:=rfl; omega),Yk]
 have:=NF (fun k=>decide (k=s)) kws 0 (Int.le_refl _)
 rw [show decide (Ep (fun k=>decide (k=s)) kws 0 ≥ 0)=_ from this]
 unfold kwB
 congr 2; funext k; exact decide_eq_decide.2 ⟨Eq.symm,Eq.symm⟩
theorem ZgJ (s:List UInt8):Ve s=bif (decide (s=[]) || decide ((s.length:Int) > 24)) || (!Zku ((s.headD 0).toNat)) || kwB s then 3 else bif s.all (fun x=>Zde x.toNat) then 0 else 3:=by
 cases s with
 | nil=>simp [Ve]
 | cons c r =>
  simp only [Ve,List.headD_cons,reduceCtorEq,decide_false,Bool.false_or]
  rw [show (decide ((((c :: r).length:Nat):Int) > 24))=decide (24 < (c :: r).length) from decide_eq_decide.2 (by omega)]
  by_cases h1:24 < (c :: r).length <;> cases Zku (c.toNat:Int) <;> cases kwB (c :: r) <;> cases (c :: r).all (fun x=>Zde x.toNat) <;> simp [h1]
theorem Zhq (L:Nat)(s:List UInt8)(h:Len s)(hL:s.length < L):Zw (Vl s L) L (0,())=some (bif s.all (fun x=>Zde x.toNat) then 0 else 3):=by
 refine ZgE s (fun s=>some (bif s.all (fun x=>Zde x.toNat) then 0 else 3)) hL (fun self i x r hx hi _ e=>?_) (fun self=>?_)
 ·rw [Vl]
  simp only [Zo,Zf,cond_true,cond_false,Zm,Yk,Ze,ZU,condC,Zz,Zy,ZP,We,Qe,WM,hi,hx,LZ,wrap_succ hi (by omega),e,WM,List.all_cons,Zde,ZU,condC,ZP]
  rw [show decide (48≤(x.toNat:Int))=!decide ((x.toNat:Int) < 48) by rw [← decide_not]; congr 1; exact propext Int.not_lt.symm,show decide ((x.toNat:Int)≤57)=!decide ((x.toNat:Int) > 57) by rw [← decide_not]; congr 1; exact propext Int.not_lt.symm]
  cases Zku (x.toNat:Int) <;> cases decide ((x.toNat:Int)=95) <;> cases decide ((x.toNat:Int) < 48) <;> cases decide ((x.toNat:Int) > 57) <;> rfl
 ·rw [Vl]; simp only [Zo,Zf,cond_true,cond_false,Zm,Yk,Ze,ZU,condC,Zz,Zy,ZP,We,Qe,WM,List.all_nil]
theorem Ua (L:Nat)(s:List UInt8)(h:Len s)(hL:s.length < L)(h1:100≤L):WL L (s,())=some (Ve s):=by
 rw [Zba,Zhq L s h hL,ZgJ,ZkH]
 cases s with
 | nil=>rfl
 | cons c r =>
  have:decide ((((c :: r).length:Nat):Int) < 1)=false:=by simp only [List.length_cons,decide_eq_false_iff_not]; omega
  simp only [Zo,Zf,cond_true,cond_false,Zm,Yk,Ze,ZU,condC,Zz,Zy,ZP,We,Qe,WM,List.getElem?_cons_zero,LZ,FB L _ h1,List.headD_cons,this,reduceCtorEq,decide_false,Bool.false_or,Bool.or_assoc]
theorem ZK {α:Type}[SizeOf α]:∀ l:List α,l.length < SizeOf.sizeOf l
 | []=>by simp
 | x :: l=>by have:=ZK l; simp only [List.length_cons,List.cons.sizeOf_spec]; omega
theorem Zke (d:Ya):SizeOf.sizeOf d.Values < SizeOf.sizeOf d∧SizeOf.sizeOf d.Weights < SizeOf.sizeOf d:=by cases d; simp; omega
theorem F8 (L:Nat)(a b c:Int):Yg L (a,b,c,())=some (btw a b c):=Sz L a b c
theorem OU (L:Nat)(lo hi:Int)(l:List Int)(h:Len l)(hL:l.length < L):ZV L (lo,hi,l,())=some (Y8 lo hi l):=by
 have:=Zlb (f := Xb lo hi l) l (fun l i=>some (Ep (ZhZ lo hi) l i)) hL (fun self i x r hx hi' _ e=>by
  rw [Xb]; simp only [Zo,Zf,cond_true,cond_false,Zm,Yk,Ze,ZU,condC,Zz,Zy,ZP,We,Qe,WM,hi',hx,wrap_succ hi' (by omega),e,Ep]; simp only [Xl,Ia,if_true,if_false,Bool.false_eq_true,ne_eq,decide_not,gt_iff_lt,ge_iff_le]; rfl) (fun self=>by rw [Xb]; simp only [Zo,Zf,cond_true,cond_false,Zm,Yk,Ze,ZU,condC,Zz,Zy,ZP,We,Qe,WM,Ep])
 have h2:decide (Ep (ZhZ lo hi) l 0 ≥ 0)=l.any (ZhZ lo hi):=NF (ZhZ lo hi) l 0 (Int.le_refl _)
 simp only [Su,this,Yk,h2,Y8]
theorem Zfn (L:Nat)(h:2 < L)(lo hi a:Int):ZV L (lo,hi,[a],())=some (Y8 lo hi [a]):=OU L lo hi [a] (by simp [Len]) (by simp; omega)
theorem Zfo (L:Nat)(h:2 < L)(lo hi a b:Int):ZV L (lo,hi,[a,b],())=some (Y8 lo hi [a,b]):=OU L lo hi [a,b] (by simp [Len]) (by simpa using h)
theorem Zhj (L:Nat)(d:Ya)(h:Qq d):X9 L (d,())=some (Ky d):=by
 simp only [Zo,Zf,cond_true,cond_false,Zm,Yk,Ze,ZU,condC,Zz,Zy,ZP,We,Qe,WM,Sr,h.wr,Ky]; simp only [Xl,Ia,if_true,if_false,Bool.false_eq_true,ne_eq,decide_not,gt_iff_lt,ge_iff_le]
theorem ZaN (L:Nat)(d:Ya)(h:Qq d)(hL:SizeOf.sizeOf d < L)(h1:100≤L):Vq L (d,())=some (VY d):=by
 have hs:d.Values.length < L∧d.Weights.length < L:=by
  have:=ZK d.Values; have:=ZK d.Weights; have:=Zke d; omega
 simp only [Zo,Zf,cond_true,cond_false,Zm,Yk,Ze,ZU,condC,Zz,Zy,ZP,We,Qe,WM,FM,Zhj L d h,VY,OU L _ _ _ h.v hs.1,OU L _ _ _ h.w hs.2,Zfn L (by omega),Zfo L (by omega)]
 simp only [Xl,Ia,if_true,if_false,Bool.false_eq_true,ne_eq,decide_not,gt_iff_lt,ge_iff_le]
theorem ZaO (L:Nat)(d:Ya):Vr L (d,())=some (Bv d):=by
 simp only [Zo,Zf,cond_true,cond_false,Zm,Yk,Ze,ZU,condC,Zz,Zy,ZP,We,Qe,WM,FN,Bv]; simp only [Xl,Ia,if_true,if_false,Bool.false_eq_true,ne_eq,decide_not,gt_iff_lt,ge_iff_le]
theorem ZjK (L:Nat)(d:Ya)(h:Qq d)(hL:SizeOf.sizeOf d < L):Jl L (d,())=some (ZcL d):=by
 have hs:d.Values.length < L∧d.Weights.length < L:=by
  have:=ZK d.Values; have:=ZK d.Weights; have:=Zke d; omega
 rw [ZaZ,ZcL]
 by_cases hl:d.Values.length=d.Weights.length
 ·rw [Zle d.Values d.Weights hl (fun l m=>some (Zii l m)) hs.1 (fun self i x y r r' hx hy hi _ e=>by
   have hv:=h.v
   rw [JK]; simp only [Zo,Zf,cond_true,cond_false,Zm,Yk,Ze,ZU,condC,Zz,Zy,ZP,We,Qe,WM,hi,hx,hy,F8,wrap_succ hi (by omega),e,Zii]; simp only [Xl,Ia,if_true,if_false,Bool.false_eq_true,ne_eq,decide_not,gt_iff_lt,ge_iff_le]) (fun self=>by rw [JK]; simp only [Zo,Zf,cond_true,cond_false,Zm,Yk,Ze,ZU,condC,Zz,Zy,ZP,We,Qe,WM,Zii])]
  simp only [Zo,Zf,cond_true,cond_false,Zm,Yk,Ze,ZU,condC,Zz,Zy,ZP,We,Qe,WM]; simp only [Xl,Ia,if_true,if_false,Bool.false_eq_true,ne_eq,decide_not,gt_iff_lt,ge_iff_le]
 ·simp only [Xl,Ia,if_true,if_false,Bool.false_eq_true,ne_eq,decide_not,gt_iff_lt,ge_iff_le,We,WM,Bool.not_false,show decide ((d.Values.length:Int)=d.Weights.length)=false by simp only [decide_eq_false_iff_not]; omega]
theorem JZ (L:Nat)(d:Ya)(h:Qq d)(hL:SizeOf.sizeOf d < L):Qo L (d,())=some (VY d):=by
 rw [← Nw]
 simp only [Zo,Zf,cond_true,cond_false,Zm,Yk,Ze,ZU,condC,Zz,Zy,ZP,We,Qe,WM,ZaY,ZaO,Zgo,F8,ZjK L d h hL]; simp only [Xl,Ia,if_true,if_false,Bool.false_eq_true,ne_eq,decide_not,gt_iff_lt,ge_iff_le]
end Go.Proofs.YtleomfgijkapfaaGreatDoor
end
section
namespace Go.Proofs.YtleomfgijkapfaaGreatDoor
open Go Go.Proofs.YtleomfgijkapfaaGreatDoor.Abs Go.Proofs.YtleomfgijkapfaaGreatDoor.Tl
set_option maxRecDepth 100000
theorem ZlN (e:Zq):SizeOf.sizeOf e.Kids < SizeOf.sizeOf e∧SizeOf.sizeOf e.Name < SizeOf.sizeOf e:=by cases e; simp; omega
theorem ZW.nl {e:Zq}(h:ZW e):Len e.Name:=by have:=h.n; unfold Len; omega
theorem FD (L:Nat):∀ (m:Nat) (e:Zq),ZW e→SizeOf.sizeOf e≤m→m≤L→Vu L m (e,())=some (ZhF e)
 | 0,e,h,hs,_=>absurd hs (by have:=CB e; omega)
 | m + 1,e,h,hs,hm=>by
  have hk:=ZK e.Kids; have hz:=ZlN e; have hl:=h.k
  rw [Zbe,Zi9]
  refine ZeM e.Kids (fun l s=>some (sumW ZhF l s)) (by omega) 1 (fun self s i x r hx hi mem e'=>?_) (fun self s=>?_)
  ·have ih:=FD L m x (h.Kids.2 x mem) (by have:=Fg mem; omega) (by omega)
   rw [JM]; simp only [Zo,Zf,cond_true,cond_false,Zm,Yk,Ze,ZU,condC,Zz,Zy,ZP,We,Qe,WM,hi,hx,ih,wrap_succ hi (by omega),e',sumW]
  ·rw [JM]; simp only [Zo,Zf,cond_true,cond_false,Zm,Yk,Ze,ZU,condC,Zz,Zy,ZP,We,Qe,WM,sumW]
theorem FC (L:Nat):∀ (m:Nat) (e:Zq),ZW e→SizeOf.sizeOf e≤m→m≤L→Vt L m (e,())=some (Zgn e)
 | 0,e,h,hs,_=>absurd hs (by have:=CB e; omega)
 | m + 1,e,h,hs,hm=>by
  have hk:=ZK e.Kids; have hz:=ZlN e; have hl:=h.k
  rw [Zbd,ZiI]
  refine ZeM e.Kids (fun l s=>some (IntKind.i64.wrap (Zkv Zgn l s + 1))) (by omega) 0 (fun self s i x r hx hi mem e'=>?_) (fun self s=>?_)
  ·have ih:=FC L m x (h.Kids.2 x mem) (by have:=Fg mem; omega) (by omega)
   rw [JL]; simp only [Zo,Zf,cond_true,cond_false,Zm,Yk,Ze,ZU,condC,Zz,Zy,ZP,We,Qe,WM,hi,hx,ih,wrap_succ hi (by omega),e',Zkv]
  ·rw [JL]; simp only [Zo,Zf,cond_true,cond_false,Zm,Yk,Ze,ZU,condC,Zz,Zy,ZP,We,Qe,WM,Zkv]
theorem Zl7 (L:Nat)(n:Int):GY L (n,())=some (inB n):=Zhn L n
theorem Zfl (L:Nat)(n:Int):Xr L (n,())=some (ZhT n):=FP L n
theorem ZjB (L:Nat)(n:Int):Jm L (n,())=some (MN n):=by
 simp only [Zo,Zf,cond_true,cond_false,Zm,Yk,Ze,ZU,condC,Zz,Zy,ZP,We,Qe,WM,Zbb,MN]; simp only [Xl,Ia,if_true,if_false,Bool.false_eq_true,ne_eq,decide_not,gt_iff_lt,ge_iff_le]
theorem Zl6 (L:Nat)(n:Int):Ug L (n,())=some (ZgI n):=by
 simp only [Zo,Zf,cond_true,cond_false,Zm,Yk,Ze,ZU,condC,Zz,Zy,ZP,We,Qe,WM,Zd3,ZgI]; simp only [Xl,Ia,if_true,if_false,Bool.false_eq_true,ne_eq,decide_not,gt_iff_lt,ge_iff_le]
theorem Zk9 (a b d:Bool)(n r:Int):(if a=true then 1 else if b=true then 2 else if (d && !decide (n=0))=true then n else r) =
  if (!decide ((if a=true then 1 else if b=true then 2 else if (d && !decide (n=0))=true then n else 0)=0))=true then (if a=true then 1 else if b=true then 2 else if (d && !decide (n=0))=true then n else 0) else r:=by
 cases a <;> cases b <;> cases d <;> by_cases h:n=0 <;> simp [h]
theorem Zc6 (L:Nat)(c:Bool)(h1:100≤L):∀ (m:Nat) (e:Zq),ZW e→SizeOf.sizeOf e≤m→m≤L→Jr L m (e,c,())=some (Jy c e)
 | 0,e,h,hs,_=>absurd hs (by have:=CB e; omega)
 | m + 1,e,h,hs,hm=>by
  have hk:=ZK e.Kids; have hz:=ZlN e; have hl:=h.k
  have lp:Zw (Jb m e c L) L (0,())=some (IW (Jy c) e.Kids):=by
   refine ZgE e.Kids (fun l=>some (IW (Jy c) l)) (by omega) (fun self i x r hx hi mem e'=>?_) (fun self=>?_)
   ·have ih:=Zc6 L c h1 m x (h.Kids.2 x mem) (by have:=Fg mem; omega) (by omega)
    rw [Jb]; simp only [Zo,Zf,cond_true,cond_false,Zm,Yk,Ze,ZU,condC,Zz,Zy,ZP,We,Qe,WM,hi,hx,ih,wrap_succ hi (by omega),e',IW]; simp only [Xl,Ia,if_true,if_false,Bool.false_eq_true,ne_eq,decide_not,gt_iff_lt,ge_iff_le]
   ·rw [Jb]; simp only [Zo,Zf,cond_true,cond_false,Zm,Yk,Ze,ZU,condC,Zz,Zy,ZP,We,Qe,WM,IW]
  have hn:=Ua L e.Name h.nl (by have:=ZK e.Name; omega) h1
  rw [← ZeV]
  simp only [Zo,Zf,cond_true,cond_false,Zm,Yk,Ze,ZU,condC,Zz,Zy,ZP,We,Qe,WM,Zd4,lp,ZjB,Zfl,Zl7,Zl6,hn,Zdn]; simp only [Xl,Ia,if_true,if_false,Bool.false_eq_true,ne_eq,decide_not,gt_iff_lt,ge_iff_le,Bool.or_assoc]
  exact congrArg some (Zk9 _ _ _ _ _)
theorem Zhh (L:Nat)(c:Bool)(h1:100≤L)(e:Zq)(h:ZW e)(hL:SizeOf.sizeOf e≤L):Jn L (e,c,())=some (Q7 c e):=by
 simp only [Zo,Zf,cond_true,cond_false,Zm,Yk,Ze,ZU,condC,Zz,Zy,ZP,We,Qe,WM,Zbf,show KA L (e,())=_ from FD L L e h hL (Nat.le_refl _),show Kz L (e,())=_ from FC L L e h hL (Nat.le_refl _),show I5 L (e,c,())=_ from Zc6 L c h1 L e h hL (Nat.le_refl _),Q7]; simp only [Xl,Ia,if_true,if_false,Bool.false_eq_true,ne_eq,decide_not,gt_iff_lt,ge_iff_le]
theorem NW (L:Nat)(h1:100≤L)(e:Zq)(h:ZW e)(hL:SizeOf.sizeOf e≤L):Yh L (e,())=some (Q7 false e):=by
 simp only [Zo,Zf,cond_true,cond_false,Zm,Yk,Ze,ZU,condC,Zz,Zy,ZP,We,Qe,WM,Zbc,Zhh L _ h1 e h hL]
theorem P5 (L:Nat)(a b:List Int)(h:Len a)(hL:a.length < L):Qd L (a,b,())=some (decide (a=b)):=by
 rw [Dp]
 by_cases hl:a.length=b.length
 ·rw [Zle a b hl (fun l m=>some (decide (l=m))) hL (fun self i x y r r' hx hy hi _ e=>by
   rw [XT]; simp only [Zo,Zf,cond_true,cond_false,Zm,Yk,Ze,ZU,condC,Zz,Zy,ZP,We,Qe,WM,hi,hx,hy,wrap_succ hi (by omega),e,List.cons.injEq,Bool.decide_and]; cases decide (x=y) <;> rfl) (fun self=>by rw [XT]; simp only [Zo,Zf,cond_true,cond_false,Zm,Yk,Ze,ZU,condC,Zz,Zy,ZP,We,Qe,WM,decide_true])]
  rw [WM,show decide ((a.length:Int)=b.length)=true by simp only [decide_eq_true_eq]; omega]; rfl
 ·rw [WM,show decide ((a.length:Int)=b.length)=false by simp only [decide_eq_false_iff_not]; omega]
  have:a≠b:=fun e=>hl (by rw [e])
  simp [this]
theorem NY (L:Nat)(a b:Ya)(h:Qq a)(hL:SizeOf.sizeOf a≤L):XH L (a,b,())=some (ZiK a b):=by
 have h1:=ZK a.Values; have h2:=ZK a.Weights; have h3:=Zke a
 simp only [Zo,Zf,cond_true,cond_false,Zm,Yk,Ze,ZU,condC,Zz,Zy,ZP,We,Qe,WM,Zd0,P5 L a.Values _ h.v (by omega),P5 L a.Weights _ h.w (by omega),ZiK]
end Go.Proofs.YtleomfgijkapfaaGreatDoor
end
