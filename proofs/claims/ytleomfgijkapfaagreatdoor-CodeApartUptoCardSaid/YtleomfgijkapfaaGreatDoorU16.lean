import Derived.Test.YtleomfgijkapfaaGreatDoorU15
set_option linter.all false
noncomputable section
namespace Go.Proofs.YtleomfgijkapfaaGreatDoor
open Go Go.Proofs.YtleomfgijkapfaaGreatDoor.Abs Go.Proofs.YtleomfgijkapfaaGreatDoor.Tl
set_option maxRecDepth 100000
set_option maxHeartbeats 0
def Yw (L:Nat)(x:Int×Int×Int×PUnit):Option Bool:=fT [] L OD [] (.one .bool) [.int .i64,.int .i64,.int .i64] x
def TY (L:Nat):Sum tT:=mU 165 [.int .i64,.int .i64,.int .i64] (.one .bool) (Yw L)
theorem Za1 (L:Nat)(x0:Int)(x1:Int)(x2:Int):Yw L (x0,x1,x2,())=some (decide (x0 ≥ x1) && decide (x0≤x2)):=by kernel_rfl
def UY (L:Nat)(x:ZX×PUnit):Option Int:=fT [TY L] L DT [.rnd [.slot 3 (.int .i64)]] (.one (.int .i64)) [.row 2] x
def Ze7 (L:Nat):Sum tT:=mU 166 [.row 2] (.one (.int .i64)) (UY L)
def Gt:ZX→Nat→(Int×PUnit→Option Int)→Int×PUnit→Option Int:=fun x0 L self acc=>bif decide (acc.1 < (↑x0.5.length:Int)) then bT (ZP x0.5 acc.1) fun y=>bT (Yw L (y,0,1000000000,())) fun y=>bT (bif (!y) == false then bT (ZP x0.6 acc.1) fun y=>bT (Yw L (y,1,1000,())) fun y=>some !y else some true) fun y=>bif y then some 2 else self (Go.IntKind.i64.wrap (acc.1 + 1),()) else some 0
theorem Zea (L:Nat)(x0:ZX):UY L (x0,())=bif (↑x0.5.length:Int) != (↑x0.6.length:Int) then some 8 else bif (↑x0.5.length:Int) == 0 then some 7 else bif decide ((↑x0.5.length:Int) > 20) then some 6 else Zw (Gt x0 L) L (0,()):=by kernel_rfl
def JV (L:Nat)(x:ZX×PUnit):Option Bool:=fT [] L Rh [] (.one .bool) [.row 2] x
def ZcF (L:Nat):Sum tT:=mU 164 [.row 2] (.one .bool) (JV L)
theorem Zcs (L:Nat)(x0:ZX):JV L (x0,())=bif x0.1 == 1 then some (x0.3 == 0 && x0.4 == 0 && ((↑x0.5.length:Int) == 0 && (↑x0.6.length:Int) == 0)) else bif x0.1 == 2 then some (x0.4 == 0 && ((↑x0.5.length:Int) == 0 && (↑x0.6.length:Int) == 0)) else bif x0.1 == 5 then some (x0.4 == 0 && ((↑x0.5.length:Int) == 0 && (↑x0.6.length:Int) == 0)) else bif x0.1 == 3 then some (x0.2 == 0 && x0.3 == 0 && x0.4 == 0) else bif x0.1 == 4 then some ((↑x0.5.length:Int) == 0 && (↑x0.6.length:Int) == 0) else some false:=by kernel_rfl
def XT (L:Nat)(x:ZX×PUnit):Option Int:=fT [Ze7 L,TY L,ZcF L] L DR [] (.one (.int .i64)) [.row 2] x
def SL (L:Nat):Sum tT:=mU 86 [.row 2] (.one (.int .i64)) (XT L)
theorem ZdZ (L:Nat)(x0:ZX):XT L (x0,())=bT (JV L (x0,())) fun y=>bif !y then some 1 else bif x0.1 == 1 then bT (Yw L (x0.2,0,1000000000,())) fun y=>bif !y then some 2 else some 0 else bif x0.1 == 2 then bT (Yw L (x0.2,0,x0.3,())) fun y=>bif !(y && decide (x0.3≤1000000000)) then some 2 else some 0 else bif x0.1 == 3 then bT (UY L (x0,())) fun y=>some y else bif x0.1 == 4 then bT (Yw L (x0.4,1,20,())) fun y=>bT (bif y == true then bT (Yw L (x0.2,0,x0.3,())) fun y=>some y else some false) fun y=>bif !(y && decide (x0.3≤1000000)) then some 2 else some 0 else bif x0.1 == 5 then bT (Yw L (x0.2,1,1000,())) fun y=>bT (bif y == true then bT (Yw L (x0.3,1,1000,())) fun y=>some y else some false) fun y=>bif !y then some 2 else some 0 else some 0:=by kernel_rfl
def Jd (L:Nat)(x:(List (List UInt8))×(List UInt8)×PUnit):Option Int:=fT [] L Af [.rnd [.slot 5 (.int .i64)]] (.one (.int .i64)) [.lst 1 .str,.str] x
def U3 (L:Nat):Sum tT:=mU 143 [.lst 1 .str,.str] (.one (.int .i64)) (Jd L)
def Oe:List (List UInt8)→List UInt8→(Int×PUnit→Option Int)→Int×PUnit→Option Int:=fun x0 x1 self acc=>bif decide (acc.1 < (↑x0.length:Int)) then bT (ZP x0 acc.1) fun y=>bif y == x1 then some acc.1 else self (Go.IntKind.i64.wrap (acc.1 + 1),()) else some (-1)
theorem ZgP (L:Nat)(x0:(List (List UInt8)))(x1:(List UInt8)):Jd L (x0,x1,())=Zw (Oe x0 x1) L (0,()):=by kernel_rfl
def Vd (L:Nat)(x:PUnit):Option ((List (List UInt8))):=fT [] L HY [] (.one (.lst 1 .str)) [] x
def EW (L:Nat):Sum tT:=mU 144 [] (.one (.lst 1 .str)) (Vd L)
theorem EN (L:Nat)  : Vd L ()=some [[97,100,100],[97,102,116,101,114],[97,110,100],[97,116],[98,101,108,116],[98,111,111,108],[99,111,110,115,101,114,118,101],[99,111,110,115,116],[99,111,117,110,116],[99,121,99,108,101],[100,111,119,110],[100,114,97,119],[100,117,114],[101,108,115,101],[101,110,100],[101,118,101,114,121],[102,97,108,115,101],[102,97,117,108,116],[102,105,102,111],[102,114,101,101],[102,114,111,109],[103,101,111,109],[103,101,116],[104,111,108,100],[105,102],[105,110,116],[105,110,116,111],[108,101,97,115,116],[108,101,118,101,108],[108,105,102,111],[108,105,110,107],[108,111,99,97,108],[109,97,120],[109,105,110],[109,111,100,101,108],[110,111,116],[110,111,119],[111,98,115,101,114,118,101],[111,114],[112,97,114,97,109],[112,114,101,101,109,112,116],[112,114,105,111],[112,117,116],[113,117,101,117,101],[114,101,108,101,97,115,101],[114,101,115,111,117,114,99,101],[114,105,100,101],[114,111,117,116,105,110,101],[115,101,105,122,101],[115,101,110,100],[115,101,116],[115,104,105,102,116],[115,105,103,110,97,108],[115,105,116,101],[115,105,122,101],[115,112,97,119,110],[115,116,97,114,116],[115,116,111,112],[115,116,111,114,101],[115,116,114,101,97,109],[115,117,109],[116,97,98,108,101],[116,97,108,108,121],[116,105,99,107,115],[116,105,109,101],[116,114,117,101],[117,110,105,102,111,114,109],[117,110,116,105,108],[117,112],[118,97,114],[119,97,105,116],[119,97,105,116,105,110,103],[119,104,105,108,101]]:=by kernel_rfl
def VU (L:Nat)(x:(List UInt8)×PUnit):Option Bool:=fT [U3 L,EW L] L OE [] (.one .bool) [.str] x
def ZaJ (L:Nat):Sum tT:=mU 68 [.str] (.one .bool) (VU L)
theorem Za2 (L:Nat)(x0:(List UInt8)):VU L (x0,())=bT (Vd L ()) fun y=>bT (Jd L (y,x0,())) fun y=>some (decide (y ≥ 0)):=by kernel_rfl
def Vx (L:Nat)(x:Int×PUnit):Option Bool:=fT [] L Ri [] (.one .bool) [.int .u8] x
def ZcG (L:Nat):Sum tT:=mU 67 [.int .u8] (.one .bool) (Vx L)
theorem Zct (L:Nat)(x0:Int):Vx L (x0,())=some (decide (x0 ≥ 97) && decide (x0≤122)):=by kernel_rfl
def Qw (L:Nat)(x:(List UInt8)×PUnit):Option Int:=fT [ZaJ L,ZcG L] L DU [.rnd [.slot 3 (.int .i64)]] (.one (.int .i64)) [.str] x
def UU (L:Nat):Sum tT:=mU 31 [.str] (.one (.int .i64)) (Qw L)
def JO:List UInt8→Nat→(Int×PUnit→Option Int)→Int×PUnit→Option Int:=fun x0 L self acc=>bif decide (acc.1 < (↑x0.length:Int)) then bT (ZP x0 acc.1) fun y=>bT (Vx L ((↑y.toNat:Int),())) fun y=>bT (bif (!y) == true then bT (ZP x0 acc.1) fun y=>some ((↑y.toNat:Int) != 95) else some false) fun y=>bT (bif y == true then bT (ZP x0 acc.1) fun y=>bif decide ((↑y.toNat:Int) < 48) == false then bT (ZP x0 acc.1) fun y=>some (decide ((↑y.toNat:Int) > 57)) else some true else some false) fun y=>bif y then some 3 else self (Go.IntKind.i64.wrap (acc.1 + 1),()) else some 0
theorem Zeb (L:Nat)(x0:(List UInt8)):Qw L (x0,())=bT (bif (decide ((↑x0.length:Int) < 1) || decide ((↑x0.length:Int) > 24)) == false then bT (ZP x0 0) fun y=>bT (Vx L ((↑y.toNat:Int),())) fun y=>some !y else some true) fun y=>bT (bif y == false then bT (VU L (x0,())) fun y=>some y else some true) fun y=>bif y then some 3 else Zw (JO x0 L) L (0,()):=by kernel_rfl
end Go.Proofs.YtleomfgijkapfaaGreatDoor
end
noncomputable section
namespace Go.Proofs.YtleomfgijkapfaaGreatDoor
open Go Go.Proofs.YtleomfgijkapfaaGreatDoor.Abs Go.Proofs.YtleomfgijkapfaaGreatDoor.Tl
set_option maxRecDepth 100000
set_option maxHeartbeats 0
def Hm (L:Nat)(x:Int×PUnit):Option Int:=fT [] L Ag [] (.one (.int .i64)) [.int .i64] x
def FD (L:Nat):Sum tT:=mU 238 [.int .i64] (.one (.int .i64)) (Hm L)
theorem ZgR (L:Nat)(x0:Int):Hm L (x0,())=bif x0 == 25 then some 15 else bif x0 == 26 then some 31 else some 63:=by kernel_rfl
def Me (L:Nat)(x:Int×PUnit):Option Bool:=fT [] L ZeL [] (.one .bool) [.int .i64] x
def Di (L:Nat):Sum tT:=mU 191 [.int .i64] (.one .bool) (Me L)
theorem Zlx (L:Nat)(x0:Int):Me L (x0,())=some (decide (x0 ≥ (-1000000000000)) && decide (x0≤1000000000000)):=by kernel_rfl
def Vy (L:Nat)(x:Int×PUnit):Option Bool:=fT [] L Rj [] (.one .bool) [.int .i64] x
def Bh (L:Nat):Sum tT:=mU 237 [.int .i64] (.one .bool) (Vy L)
theorem Zcu (L:Nat)(x0:Int):Vy L (x0,())=some (decide (x0 ≥ 22) && decide (x0≤24)):=by kernel_rfl
def UZ (L:Nat)(x:Int×PUnit):Option Int:=fT [] L DV [] (.one (.int .i64)) [.int .i64] x
def SN (L:Nat):Sum tT:=mU 236 [.int .i64] (.one (.int .i64)) (UZ L)
theorem Zec (L:Nat)(x0:Int):UZ L (x0,())=bif decide (x0 < 1) || decide (x0 > 26) then some (-1) else bif decide (x0 ≥ 5) && decide (x0≤8) then some 1 else bif decide (x0 ≥ 9) && decide (x0≤21) then some 2 else some 0:=by kernel_rfl
def Sm (L:Nat):Nat→List (Sum tT)
 | 0=>[⟨207,[.row 8,.bool],fun _=>.par _ none ((.one (.int .i64):RD).tv tT)⟩]
 | m + 1=>[⟨207,[.row 8,.bool],fun x=>.par _ (fnT tF tG (qOf tF (Sm L m ++ [UU L,FD L,Di L,Bh L,SN L])) 0 L MP [.rnd [.slot 10 (.int .i64)]] (.one (.int .i64)) (tvL tT [.row 8,.bool] x) []) ((.one (.int .i64):RD).tv tT)⟩]
def Ku (L m:Nat)(x:Zg×Bool×PUnit):Option (Int):=fnT tF tG (qOf tF (Sm L m ++ [UU L,FD L,Di L,Bh L,SN L])) 0 L MP [.rnd [.slot 10 (.int .i64)]] (.one (.int .i64)) (tvL tT [.row 8,.bool] x) []
def LP (L:Nat)(x:Zg×Bool×PUnit):Option (Int):=Ku L L x
def Zhh (L:Nat):Sum tT:=⟨207,[.row 8,.bool],fun x=>.par ((.one (.int .i64):RD).Ty tT) (LP L x) ((.one (.int .i64):RD).tv tT)⟩
def UI:Nat→Zg→Bool→Nat→(Int×PUnit→Option Int)→Int×PUnit→Option Int:=fun (m:Nat)=>fun x0 x1 L self acc=>bif decide (acc.1 < (↑x0.4.length:Int)) then bT (ZP x0.4 acc.1) fun y=>bT (Ku L m (y,x1,())) fun y=>bif y != 0 then some y else self (Go.IntKind.i64.wrap (acc.1 + 1),()) else some 0
theorem ZgS (L m:Nat)(x0:Zg)(x1:Bool):Ku L (m + 1) (x0,x1,())=bT (UZ L (x0.1,())) fun y=>bT (bif (!x1) == true then bif (x0.1 == 3) == false then bT (Vy L (x0.1,())) fun y=>some y else some true else some false) fun y_1=>bT (bif x1 == true then bT (Vy L (x0.1,())) fun y=>some (y || x0.1 == 25 || x0.1 == 26) else some false) fun y_2=>bif !(decide (y ≥ 0) && (x1 && x0.1 != 3 || !x1 && decide (x0.1≤24))) || !y_1 && !x0.2 == [] || !(x0.1 == 1 || x0.1 == 2 || y_2) && x0.3 != 0 || (↑x0.4.length:Int) != y then some 1 else bT (bif (x0.1 == 1) == true then bT (bT (Me L (x0.3,())) fun y=>some y) fun y=>some !y else some false) fun y=>bT (bif (y || x0.1 == 2 && x0.3 != 0 && x0.3 != 1) == false then bif y_2 == true then bif decide (x0.3 < 0) == false then bT (bT (Hm L (x0.1,())) fun y=>some y) fun y=>some (decide (x0.3 > y)) else some true else some false else some true) fun y=>bif y then some 2 else bT (bif y_1 == true then bT (Qw L (x0.2,())) fun y=>some (y != 0) else some false) fun y=>bif y then bT (Qw L (x0.2,())) fun y=>some y else Zw (UI m x0 x1 L) L (0,()):=by kernel_rfl
def RY (L:Nat):Nat→List (Sum tT)
 | 0=>[⟨206,[.row 8],fun _=>.par _ none ((.one (.int .i64):RD).tv tT)⟩]
 | m + 1=>[⟨206,[.row 8],fun x=>.par _ (fnT tF tG (qOf tF (RY L m ++ [])) 0 L Iw [.rnd [.slot 3 (.int .i64),.slot 4 (.int .i64)]] (.one (.int .i64)) (tvL tT [.row 8] x) []) ((.one (.int .i64):RD).tv tT)⟩]
def JY (L m:Nat)(x:Zg×PUnit):Option (Int):=fnT tF tG (qOf tF (RY L m ++ [])) 0 L Iw [.rnd [.slot 3 (.int .i64),.slot 4 (.int .i64)]] (.one (.int .i64)) (tvL tT [.row 8] x) []
def Ou (L:Nat)(x:Zg×PUnit):Option (Int):=JY L L x
def Ze9 (L:Nat):Sum tT:=⟨206,[.row 8],fun x=>.par ((.one (.int .i64):RD).Ty tT) (Ou L x) ((.one (.int .i64):RD).tv tT)⟩
def Gu:Nat→Zg→Nat→(Int×Int×PUnit→Option Int)→Int×Int×PUnit→Option Int:=fun (m:Nat)=>fun x0 L self acc=>bif decide (acc.2.1 < (↑x0.4.length:Int)) then bT (ZP x0.4 acc.2.1) fun y=>bT (JY L m (y,())) fun y=>self (if y > acc.1 then y else acc.1,Go.IntKind.i64.wrap (acc.2.1 + 1),()) else some (Go.IntKind.i64.wrap (acc.1 + 1))
theorem Zee (L m:Nat)(x0:Zg):JY L (m + 1) (x0,())=Zw (Gu m x0 L) L (0,0,()):=by kernel_rfl
def RZ (L:Nat):Nat→List (Sum tT)
 | 0=>[⟨205,[.row 8],fun _=>.par _ none ((.one (.int .i64):RD).tv tT)⟩]
 | m + 1=>[⟨205,[.row 8],fun x=>.par _ (fnT tF tG (qOf tF (RZ L m ++ [])) 0 L Iy [.rnd [.slot 3 (.int .i64),.slot 4 (.int .i64)]] (.one (.int .i64)) (tvL tT [.row 8] x) []) ((.one (.int .i64):RD).tv tT)⟩]
def JZ (L m:Nat)(x:Zg×PUnit):Option (Int):=fnT tF tG (qOf tF (RZ L m ++ [])) 0 L Iy [.rnd [.slot 3 (.int .i64),.slot 4 (.int .i64)]] (.one (.int .i64)) (tvL tT [.row 8] x) []
def Ov (L:Nat)(x:Zg×PUnit):Option (Int):=JZ L L x
def ZeA (L:Nat):Sum tT:=⟨205,[.row 8],fun x=>.par ((.one (.int .i64):RD).Ty tT) (Ov L x) ((.one (.int .i64):RD).tv tT)⟩
def Gv:Nat→Zg→Nat→(Int×Int×PUnit→Option Int)→Int×Int×PUnit→Option Int:=fun (m:Nat)=>fun x0 L self acc=>bif decide (acc.2.1 < (↑x0.4.length:Int)) then bT (ZP x0.4 acc.2.1) fun y=>bT (JZ L m (y,())) fun y=>self (Go.IntKind.i64.wrap (acc.1 + y),Go.IntKind.i64.wrap (acc.2.1 + 1),()) else some acc.1
theorem Zef (L m:Nat)(x0:Zg):JZ L (m + 1) (x0,())=Zw (Gv m x0 L) L (1,0,()):=by kernel_rfl
def Ko (L:Nat)(x:Zg×Bool×PUnit):Option Int:=fT [Zhh L,Ze9 L,ZeA L] L DX [] (.one (.int .i64)) [.row 8,.bool] x
def ZeB (L:Nat):Sum tT:=mU 163 [.row 8,.bool] (.one (.int .i64)) (Ko L)
theorem Zeg (L:Nat)(x0:Zg)(x1:Bool):Ko L (x0,x1,())=bT (Ov L (x0,())) fun y=>bif decide (y > 60) then some 6 else bT (Ou L (x0,())) fun y=>bif decide (y > 12) then some 11 else bT (LP L (x0,x1,())) fun y=>some y:=by kernel_rfl
def Oy (L:Nat)(x:PUnit):Option (List XH):=fT [] L Pm [] (.one (.lst 9 (.row 23))) [] x
theorem NJ (L:Nat)  : Oy L ()=some [XH.mk [] [] [] false false false false false false,XH.mk [115,108,111,116] [115,108,111,116] [] false true false false false false,XH.mk [118,97,114] [118,97,114] [] false true false false false false,XH.mk [100,114,97,119] [115,108,111,116] [115,116,114,101,97,109] false false false false false true,XH.mk [106,117,109,112] [105,110,115,116,114] [] false false false false false false,XH.mk [98,114,97,110,99,104] [105,110,115,116,114] [] false true false false false false,XH.mk [104,111,108,100] [] [] false true false false false false,XH.mk [115,101,105,122,101] [114,101,115,111,117,114,99,101] [] false true true true false false,XH.mk [114,101,108,101,97,115,101] [114,101,115,111,117,114,99,101] [] false true false false false false,XH.mk [112,117,116] [115,116,111,114,101] [] false true false false false false,XH.mk [103,101,116] [115,116,111,114,101] [115,108,111,116] false false false false false false,XH.mk [114,105,100,101] [98,101,108,116] [] false false false false false false,XH.mk [119,97,105,116] [113,117,101,117,101] [] false false false false false false,XH.mk [115,105,103,110,97,108] [113,117,101,117,101] [] false true false false false false,XH.mk [115,101,110,100] [115,105,116,101] [114,111,117,116,105,110,101] true true false false true false,XH.mk [115,112,97,119,110] [] [114,111,117,116,105,110,101] false true false false true false,XH.mk [111,98,115,101,114,118,101] [116,97,108,108,121] [] false true false false false false,XH.mk [108,101,118,101,108] [108,101,118,101,108] [] false true false false false false,XH.mk [99,111,117,110,116] [99,111,117,110,116] [] false true false false false false,XH.mk [101,110,100] [] [] false false false false false false]:=by kernel_rfl
end Go.Proofs.YtleomfgijkapfaaGreatDoor
end
noncomputable section
namespace Go.Proofs.YtleomfgijkapfaaGreatDoor
open Go Go.Proofs.YtleomfgijkapfaaGreatDoor.Abs Go.Proofs.YtleomfgijkapfaaGreatDoor.Tl
set_option maxRecDepth 100000
set_option maxHeartbeats 0
def Oz (L:Nat)(x:Z9×Int×Zx×PUnit):Option Int:=fT [] L Pn [] (.one (.int .i64)) [.row 19,.int .i64,.row 15] x
theorem Zeo (L:Nat)(x0:Z9)(x1:Int)(x2:Zx):Oz L (x0,x1,x2,())=bT (ZP x0.2 x1) fun y=>bif decide (x2.3 < 0) || decide (x2.3 ≥ (↑y.2.length:Int)) then some 2 else bT (ZP y.2 x2.3) fun y=>bif (↑x2.7.length:Int) != y.2 then some 8 else some 0:=by kernel_rfl
def QM (L:Nat)(x:(List Int)×(List Int)×PUnit):Option Bool:=fT [] L H9 [.rnd [.slot 5 (.int .i64)]] (.one .bool) [.lst 1 (.int .i64),.lst 1 (.int .i64)] x
def Ip (L:Nat):Sum tT:=mU 96 [.lst 1 (.int .i64),.lst 1 (.int .i64)] (.one .bool) (QM L)
theorem ES:SX Ip:=fun h=>sT h ZU rfl (by kernel_rfl) fun _=>rfl
def Jr:List Int→List Int→(Int×PUnit→Option Bool)→Int×PUnit→Option Bool:=fun x0 x1 self acc=>bif decide (acc.1 < (↑x0.length:Int)) then bT (ZP x0 acc.1) fun y=>bT (ZP x1 acc.1) fun y_1=>bif y != y_1 then some false else self (Go.IntKind.i64.wrap (acc.1 + 1),()) else some true
theorem EM (L:Nat)(x0:(List Int))(x1:(List Int)):QM L (x0,x1,())=bif (↑x0.length:Int) != (↑x1.length:Int) then some false else Zw (Jr x0 x1) L (0,()):=by kernel_rfl
def Xl (L:Nat)(x:ZX×ZX×PUnit):Option Bool:=fT [Ip L] L Ae [] (.one .bool) [.row 2,.row 2] x
def Hg (L:Nat):Sum tT:=mU 48 [.row 2,.row 2] (.one .bool) (Xl L)
theorem Zhb:SX Hg:=fun h=>sT h (Zn (ES h) ZU) rfl (by kernel_rfl) fun _=>rfl
theorem ZgO (L:Nat)(x0:ZX)(x1:ZX):Xl L (x0,x1,())=bT (bif (x0.1 == x1.1 && x0.2 == x1.2 && x0.3 == x1.3 && x0.4 == x1.4) == true then bT (QM L (x0.5,x1.5,())) fun y=>some y else some false) fun y=>bT (bif y == true then bT (QM L (x0.6,x1.6,())) fun y=>some y else some false) fun y=>some y:=by kernel_rfl
def Yt (L:Nat):Nat→List (Sum tT)
 | 0=>[⟨95,[.lst 4 (.row 8),.lst 4 (.row 8)],fun _=>.par _ none ((.one (.bool):RD).tv tT)⟩,⟨47,[.row 8,.row 8],fun _=>.par _ none ((.one (.bool):RD).tv tT)⟩]
 | m + 1=>[⟨95,[.lst 4 (.row 8),.lst 4 (.row 8)],fun x=>.par _ (fnT tF tG (qOf tF (Yt L m ++ [])) 0 L U9 [.rnd [.slot 5 (.int .i64)]] (.one (.bool)) (tvL tT [.lst 4 (.row 8),.lst 4 (.row 8)] x) []) ((.one (.bool):RD).tv tT)⟩,⟨47,[.row 8,.row 8],fun x=>.par _ (fnT tF tG (qOf tF (Yt L m ++ [])) 0 L MO [] (.one (.bool)) (tvL tT [.row 8,.row 8] x) []) ((.one (.bool):RD).tv tT)⟩]
theorem Q8 {C:Cfg}{L:Nat}(h:St C L):∀ m,∀ s ∈ Yt L m,QR C s
 | 0=>(Zn (VP _ _ _) (Zn (VP _ _ _) ZU))
 | m + 1=>have ih:=Q8 h m
  (Zn (WH Wh h.L h.G (QH Wh (Gj ih ZU)) [.rnd [.slot 5 (.int .i64)]] (h.T _ _ rfl) (by kernel_rfl) fun _=>rfl) (Zn (WH Wh h.L h.G (QH Wh (Gj ih ZU)) [] (h.T _ _ rfl) (by kernel_rfl) fun _=>rfl) ZU))
def Ui (L m:Nat)(x:(List Zg)×(List Zg)×PUnit):Option (Bool):=fnT tF tG (qOf tF (Yt L m ++ [])) 0 L U9 [.rnd [.slot 5 (.int .i64)]] (.one (.bool)) (tvL tT [.lst 4 (.row 8),.lst 4 (.row 8)] x) []
def Kt (L m:Nat)(x:Zg×Zg×PUnit):Option (Bool):=fnT tF tG (qOf tF (Yt L m ++ [])) 0 L MO [] (.one (.bool)) (tvL tT [.row 8,.row 8] x) []
def Je (L:Nat)(x:Zg×Zg×PUnit):Option (Bool):=Kt L L x
def FC (L:Nat):Sum tT:=⟨47,[.row 8,.row 8],fun x=>.par ((.one (.bool):RD).Ty tT) (Je L x) ((.one (.bool):RD).tv tT)⟩
theorem Zhc {C:Cfg}{L:Nat}(h:St C L):QR C (FC L):=have ih:=Q8 h L
 WH Wh h.L h.G (QH Wh (Gj ih ZU)) [] (h.T _ _ rfl) (by kernel_rfl) fun _=>rfl
def Va:Nat→List Zg→List Zg→Nat→(Int×PUnit→Option Bool)→Int×PUnit→Option Bool:=fun (m:Nat)=>fun x0 x1 L self acc=>bif decide (acc.1 < (↑x0.length:Int)) then bT (ZP x0 acc.1) fun y=>bT (ZP x1 acc.1) fun y_1=>bT (bT (Kt L m (y,y_1,())) fun y=>some y) fun y=>bif !y then some false else self (Go.IntKind.i64.wrap (acc.1 + 1),()) else some true
theorem Tz (L m:Nat)(x0:(List Zg))(x1:(List Zg)):Ui L (m + 1) (x0,x1,())=bif (↑x0.length:Int) != (↑x1.length:Int) then some false else Zw (Va m x0 x1 L) L (0,()):=by kernel_rfl
theorem ZgQ (L m:Nat)(x0:Zg)(x1:Zg):Kt L (m + 1) (x0,x1,())=bif x0.1 != x1.1 || !x0.2 == x1.2 || x0.3 != x1.3 then some false else bT (Ui L m (x0.4,x1.4,())) fun y=>some y:=by kernel_rfl
end Go.Proofs.YtleomfgijkapfaaGreatDoor
end
noncomputable section
namespace Go.Proofs.YtleomfgijkapfaaGreatDoor
open Go Go.Proofs.YtleomfgijkapfaaGreatDoor.Abs Go.Proofs.YtleomfgijkapfaaGreatDoor.Tl
set_option maxRecDepth 100000
set_option maxHeartbeats 0
def YA (L:Nat)(x:Int×Int×Int×PUnit):Option Bool:=fT [] L Rn [] (.one .bool) [.int .i64,.int .i64,.int .i64] x
def Xi (L:Nat):Sum tT:=mU 152 [.int .i64,.int .i64,.int .i64] (.one .bool) (YA L)
theorem Zcx (L:Nat)(x0:Int)(x1:Int)(x2:Int):YA L (x0,x1,x2,())=some (decide (x0 ≥ x1) && decide (x0≤x2)):=by kernel_rfl
def Wq (L:Nat)(x:Int×Int×PUnit):Option Int:=fT [] L Ph [] (.one (.int .i64)) [.int .i64,.int .i64] x
def XP (L:Nat):Sum tT:=mU 69 [.int .i64,.int .i64] (.one (.int .i64)) (Wq L)
theorem Zem (L:Nat)(x0:Int)(x1:Int):Wq L (x0,x1,())=bif x0 != 0 then some x0 else some x1:=by kernel_rfl
def ZeH (L:Nat)(x:Zm×PUnit):Option ((List (List (List UInt8)))):=fT [] L Pe [.rnd [.slot 4 (.int .i64),.cell 1 0 (.own 1 .str),.cell 1 1 (.own 1 .str),.cell 1 2 (.own 1 .str),.cell 1 3 (.own 1 .str),.cell 1 4 (.lst 1 .str),.cell 1 5 (.lst 1 .str),.cell 1 6 (.lst 1 .str),.cell 1 7 (.lst 1 .str),.cell 1 8 (.lst 1 .str),.cell 1 9 (.own 1 .str)],.rnd [.slot 5 (.int .i64),.cell 1 0 (.own 1 .str),.cell 1 1 (.own 1 .str),.cell 1 2 (.own 1 .str),.cell 1 3 (.own 1 .str),.cell 1 4 (.lst 1 .str),.cell 1 5 (.lst 1 .str),.cell 1 6 (.lst 1 .str),.cell 1 7 (.lst 1 .str),.cell 1 8 (.lst 1 .str),.cell 1 9 (.own 1 .str)],.rnd [.slot 6 (.int .i64),.cell 1 0 (.own 1 .str),.cell 1 1 (.own 1 .str),.cell 1 2 (.own 1 .str),.cell 1 3 (.own 1 .str),.cell 1 4 (.lst 1 .str),.cell 1 5 (.lst 1 .str),.cell 1 6 (.lst 1 .str),.cell 1 7 (.lst 1 .str),.cell 1 8 (.lst 1 .str),.cell 1 9 (.own 1 .str)],.rnd [.slot 7 (.int .i64),.cell 1 0 (.own 1 .str),.cell 1 1 (.own 1 .str),.cell 1 2 (.own 1 .str),.cell 1 3 (.own 1 .str),.cell 1 4 (.lst 1 .str),.cell 1 5 (.lst 1 .str),.cell 1 6 (.lst 1 .str),.cell 1 7 (.lst 1 .str),.cell 1 8 (.lst 1 .str),.cell 1 9 (.own 1 .str)],.rnd [.slot 8 (.int .i64),.cell 1 0 (.own 1 .str),.cell 1 1 (.own 1 .str),.cell 1 2 (.own 1 .str),.cell 1 3 (.own 1 .str),.cell 1 4 (.lst 1 .str),.cell 1 5 (.lst 1 .str),.cell 1 6 (.lst 1 .str),.cell 1 7 (.lst 1 .str),.cell 1 8 (.lst 1 .str),.cell 1 9 (.own 1 .str)]] (.one (.lst 1 (.lst 1 .str))) [.row 14] x
def SQ (L:Nat):Sum tT:=mU 147 [.row 14] (.one (.lst 1 (.lst 1 .str))) (ZeH L)
end Go.Proofs.YtleomfgijkapfaaGreatDoor
end
noncomputable section
namespace Go.Proofs.YtleomfgijkapfaaGreatDoor
open Go Go.Proofs.YtleomfgijkapfaaGreatDoor.Abs Go.Proofs.YtleomfgijkapfaaGreatDoor.Tl
set_option maxRecDepth 100000
set_option maxHeartbeats 0
def Zhm (L:Nat)(x:Zm×(List UInt8)×PUnit):Option (List UInt8):=fT [U3 L,SQ L] L Aj [.rnd [.slot 7 (.int .i64)]] (.one .str) [.row 14,.str] x
def Zhk (L:Nat):Sum tT:=mU 233 [.row 14,.str] (.one .str) (Zhm L)
def Yl (L:Nat)(x:Bool×Int×PUnit):Option Int:=fT [] L Rl [] (.one (.int .i64)) [.bool,.int .i64] x
def WR (L:Nat):Sum tT:=mU 70 [.bool,.int .i64] (.one (.int .i64)) (Yl L)
theorem Zcw (L:Nat)(x0:Bool)(x1:Int):Yl L (x0,x1,())=bif x0 then some 0 else some x1:=by kernel_rfl
def Zhn (L:Nat)(x:Zm×ZaY×PUnit):Option Int:=fT [Xi L,XP L,Zhk L,WR L] L Ak [] (.one (.int .i64)) [.row 14,.row 12] x
def Zhl (L:Nat):Sum tT:=mU 195 [.row 14,.row 12] (.one (.int .i64)) (Zhn L)
def J9 (L:Nat)(x:(List UInt8)×(List (List UInt8))×PUnit):Option Int:=fT [XP L,WR L,U3 L,UU L] L Pi [] (.one (.int .i64)) [.str,.lst 1 .str] x
def SV (L:Nat):Sum tT:=mU 72 [.str,.lst 1 .str] (.one (.int .i64)) (J9 L)
theorem Zen (L:Nat)(x0:(List UInt8))(x1:(List (List UInt8))):J9 L (x0,x1,())=bT (Qw L (x0,())) fun y=>bT (Jd L (x1,x0,())) fun y_1=>bT (Yl L (decide (y_1 < 0),4,())) fun y_2=>bT (Wq L (y,y_2,())) fun y=>some y:=by kernel_rfl
def ZjH (L:Nat)(x:Zm×ZjS×(List (List UInt8))×PUnit):Option Int:=fT [Di L,Zhl L,XP L,WR L,SV L] L Zbi [.rnd [.slot 7 (.int .i64),.slot 8 (.int .i64)]] (.one (.int .i64)) [.row 14,.row 13,.lst 1 .str] x
def Ho (L:Nat)(x:Int×Int×PUnit):Option Bool:=fT [Xi L,Di L] L Ai [] (.one .bool) [.int .i64,.int .i64] x
def FH (L:Nat):Sum tT:=mU 146 [.int .i64,.int .i64] (.one .bool) (Ho L)
theorem ZgV (L:Nat)(x0:Int)(x1:Int):Ho L (x0,x1,())=bif x0 == 1 then bT (Me L (x1,())) fun y=>some y else bif x0 == 2 then some (x1 == 0 || x1 == 1) else bif x0 == 3 then bT (YA L (x1,0,1000000000,())) fun y=>some y else some false:=by kernel_rfl
def ZaM (L:Nat)(x:Zm×(List UInt8)×PUnit):Option Int:=fT [U3 L,SQ L] L OG [] (.one (.int .i64)) [.row 14,.str] x
def ZaK (L:Nat):Sum tT:=mU 194 [.row 14,.str] (.one (.int .i64)) (ZaM L)
def ZeI (L:Nat)(x:Zm×O4×PUnit):Option Int:=fT [WR L,Xi L,FH L,ZaK L] L Pj [.rnd [.slot 7 (.int .i64)]] (.one (.int .i64)) [.row 14,.row 11] x
def Yx (L:Nat)(x:Zg×PUnit):Option Int:=fT [ZeB L] L DW [] (.one (.int .i64)) [.row 8] x
def Ze8 (L:Nat):Sum tT:=mU 275 [.row 8] (.one (.int .i64)) (Yx L)
theorem Zed (L:Nat)(x0:Zg):Yx L (x0,())=bT (Ko L (x0,false,())) fun y=>some y:=by kernel_rfl
def Kr (L:Nat)(x:Zz×Yp×PUnit):Option Int:=fT [Ze8 L] L DZ [.rnd [.slot 5 (.int .i64),.slot 6 (.int .i64)]] (.one (.int .i64)) [.row 9,.row 27] x
def ZeE (L:Nat):Sum tT:=mU 273 [.row 9,.row 27] (.one (.int .i64)) (Kr L)
def Y8:Zz→Nat→(Int×Int×PUnit→Option Int)→Int×Int×PUnit→Option Int:=fun x0 L self acc=>bif acc.1 == 0 && decide (acc.2.1 < (↑x0.6.length:Int)) then bT (ZP x0.6 acc.2.1) fun y=>bT (Yx L (y,())) fun y=>self (y,Go.IntKind.i64.wrap (acc.2.1 + 1),()) else some acc.1
def RI:Zz→Nat→(Int×Int×PUnit→Option Int)→Int×Int×PUnit→Option Int:=fun x0 L self acc=>bif acc.1 == 0 && decide (acc.2.1 < (↑x0.6.length:Int)) then bT (ZP x0.6 acc.2.1) fun y=>bT (Yx L (y,())) fun y=>self (y,Go.IntKind.i64.wrap (acc.2.1 + 1),()) else some acc.1
def RJ:Zz→Nat→(Int×Int×PUnit→Option Int)→Int×Int×PUnit→Option Int:=fun x0 L self acc=>bif acc.1 == 0 && decide (acc.2.1 < (↑x0.6.length:Int)) then bT (ZP x0.6 acc.2.1) fun y=>bT (Yx L (y,())) fun y=>self (y,Go.IntKind.i64.wrap (acc.2.1 + 1),()) else some acc.1
def RN:Zz→Nat→(Int×Int×PUnit→Option Int)→Int×Int×PUnit→Option Int:=fun x0 L self acc=>bif acc.1 == 0 && decide (acc.2.1 < (↑x0.6.length:Int)) then bT (ZP x0.6 acc.2.1) fun y=>bT (Yx L (y,())) fun y=>self (y,Go.IntKind.i64.wrap (acc.2.1 + 1),()) else some acc.1
def RP:Zz→Nat→(Int×Int×PUnit→Option Int)→Int×Int×PUnit→Option Int:=fun x0 L self acc=>bif acc.1 == 0 && decide (acc.2.1 < (↑x0.6.length:Int)) then bT (ZP x0.6 acc.2.1) fun y=>bT (Yx L (y,())) fun y=>self (y,Go.IntKind.i64.wrap (acc.2.1 + 1),()) else some acc.1
def RQ:Zz→Nat→(Int×Int×PUnit→Option Int)→Int×Int×PUnit→Option Int:=fun x0 L self acc=>bif acc.1 == 0 && decide (acc.2.1 < (↑x0.6.length:Int)) then bT (ZP x0.6 acc.2.1) fun y=>bT (Yx L (y,())) fun y=>self (y,Go.IntKind.i64.wrap (acc.2.1 + 1),()) else some acc.1
def RS:Zz→Nat→(Int×Int×PUnit→Option Int)→Int×Int×PUnit→Option Int:=fun x0 L self acc=>bif acc.1 == 0 && decide (acc.2.1 < (↑x0.6.length:Int)) then bT (ZP x0.6 acc.2.1) fun y=>bT (Yx L (y,())) fun y=>self (y,Go.IntKind.i64.wrap (acc.2.1 + 1),()) else some acc.1
def RU:Zz→Nat→(Int×Int×PUnit→Option Int)→Int×Int×PUnit→Option Int:=fun x0 L self acc=>bif acc.1 == 0 && decide (acc.2.1 < (↑x0.6.length:Int)) then bT (ZP x0.6 acc.2.1) fun y=>bT (Yx L (y,())) fun y=>self (y,Go.IntKind.i64.wrap (acc.2.1 + 1),()) else some acc.1
theorem Zek (L:Nat)(x0:Zz)(x1:Yp):Kr L (x0,x1,())=bif x1.3 then bT (Yx L (x0.4,())) fun y=>bif y == 0 && x1.4 then bT (Yx L (x0.5,())) fun y=>bif y == 0 && decide ((↑x0.6.length:Int) > 6) then Zw (Y8 x0 L) L (6,0,()) else Zw (RI x0 L) L (y,0,()) else bif y == 0 && decide ((↑x0.6.length:Int) > 6) then Zw (RJ x0 L) L (6,0,()) else Zw (RN x0 L) L (y,0,()) else bif 0 == 0 && x1.4 then bT (Yx L (x0.5,())) fun y=>bif y == 0 && decide ((↑x0.6.length:Int) > 6) then Zw (RP x0 L) L (6,0,()) else Zw (RQ x0 L) L (y,0,()) else bif 0 == 0 && decide ((↑x0.6.length:Int) > 6) then Zw (RS x0 L) L (6,0,()) else Zw (RU x0 L) L (0,0,()):=by kernel_rfl
end Go.Proofs.YtleomfgijkapfaaGreatDoor
end
noncomputable section
namespace Go.Proofs.YtleomfgijkapfaaGreatDoor
open Go Go.Proofs.YtleomfgijkapfaaGreatDoor.Abs Go.Proofs.YtleomfgijkapfaaGreatDoor.Tl
set_option maxRecDepth 100000
set_option maxHeartbeats 0
def U4 (L:Nat)(x:Zg×PUnit):Option Bool:=fT [] L Ah [] (.one .bool) [.row 8] x
def Zhj (L:Nat):Sum tT:=mU 274 [.row 8] (.one .bool) (U4 L)
theorem ZgU (L:Nat)(x0:Zg):U4 L (x0,())=some (x0.1 == 0 && x0.2 == [] && x0.3 == 0 && (↑x0.4.length:Int) == 0):=by kernel_rfl
def MB (L:Nat)(x:Int×PUnit):Option (Yp×Bool×PUnit):=fT [] L ZeM [] (.tup [.row 27,.bool]) [.int .i64] x
def Zgc (L:Nat):Sum tT:=mU 271 [.int .i64] (.tup [.row 27,.bool]) (MB L)
theorem Zly (L:Nat)(x0:Int):MB L (x0,())=bif x0 == 1 then some (Yp.mk true false true false false false false false false,true,()) else bif x0 == 7 then some (Yp.mk true false true false false false false false false,true,()) else bif x0 == 8 then some (Yp.mk true false true false false false false false false,true,()) else bif x0 == 12 then some (Yp.mk true false true false false false false false false,true,()) else bif x0 == 15 then some (Yp.mk true false true false false false false false false,true,()) else bif x0 == 16 then some (Yp.mk true false true false false false false false false,true,()) else bif x0 == 17 then some (Yp.mk true false true false false false false false false,true,()) else bif x0 == 2 then some (Yp.mk true true false false false true false false false,true,()) else bif x0 == 3 then some (Yp.mk false false true false false false false true true,true,()) else bif x0 == 4 then some (Yp.mk false false true false false false false true false,true,()) else bif x0 == 5 then some (Yp.mk false false true false false false false false false,true,()) else bif x0 == 6 then some (Yp.mk true false true true false false true false false,true,()) else bif x0 == 9 then some (Yp.mk true true false false false false false false false,true,()) else bif x0 == 10 then some (Yp.mk true false false false false false false false false,true,()) else bif x0 == 11 then some (Yp.mk true false false false false false false false false,true,()) else bif x0 == 13 then some (Yp.mk true true true false true false false false false,true,()) else bif x0 == 14 then some (Yp.mk true false true false true false false false false,true,()) else bif x0 == 18 then some (Yp.mk false false false false false false false false false,true,()) else some (Yp.mk false false false false false false false false false,false,()):=by kernel_rfl
def JW (L:Nat)(x:Zz×PUnit):Option Bool:=fT [Hg L,Zhj L,Zgc L] L Rk [] (.one .bool) [.row 9] x
def ZcH (L:Nat):Sum tT:=mU 272 [.row 9] (.one .bool) (JW L)
theorem Zcv (L:Nat)(x0:Zz):JW L (x0,())=bT (MB L (x0.1,())) fun y=>bT (bif y.1.3 == false then bT (U4 L (x0.4,())) fun y=>some y else some true) fun y_1=>bT (bif y_1 == true then bif y.1.4 == false then bT (U4 L (x0.5,())) fun y=>some y else some true else some false) fun y_2=>bT (bif (y.2.1 && ((y.1.1 || x0.2 == []) && (y.1.2 || x0.3 == [])) && (y_2 && (y.1.5 || (↑x0.6.length:Int) == 0)) && ((y.1.8 || (↑x0.9.length:Int) == 0) && (y.1.9 || (↑x0.10.length:Int) == 0))) == true then bif y.1.6 == false then bT (Xl L (x0.7,ZX.mk 0 0 0 0 [] [],())) fun y=>some y else some true else some false) fun y_3=>some (y_3 && (y.1.7 || !x0.8)):=by kernel_rfl
def MC (L:Nat)(x:Zz×PUnit):Option Int:=fT [SL L,ZeE L,UU L,ZcH L,Zgc L] L Zbh [] (.one (.int .i64)) [.row 9] x
def ZcI (L:Nat):Sum tT:=mU 267 [.row 9] (.one (.int .i64)) (MC L)
theorem Zjq (L:Nat)(x0:Zz):MC L (x0,())=bT (MB L (x0.1,())) fun y=>bT (JW L (x0,())) fun y_1=>bif !y_1 then some 1 else bT (bif y.1.1 == true then bT (Qw L (x0.2,())) fun y=>some (y != 0) else some false) fun y_2=>bT (bif y_2 == false then bif y.1.2 == true then bT (Qw L (x0.3,())) fun y=>some (y != 0) else some false else some true) fun y_3=>bif y_3 then some 3 else bT (Kr L (x0,y.1,())) fun y_4=>bif y_4 == 0 && y.1.6 then bT (XT L (x0.7,())) fun y=>some y else some y_4:=by kernel_rfl
def Sr (L:Nat):Nat→List (Sum tT)
 | 0=>[⟨253,[.lst 21 (.row 9)],fun _=>.par _ none ((.one (.int .i64):RD).tv tT)⟩]
 | m + 1=>[⟨253,[.lst 21 (.row 9)],fun x=>.par _ (fnT tF tG (qOf tF (Sr L m ++ [ZcI L])) 0 L MQ [.rnd [.slot 3 (.int .i64)]] (.one (.int .i64)) (tvL tT [.lst 21 (.row 9)] x) []) ((.one (.int .i64):RD).tv tT)⟩]
def XV (L m:Nat)(x:(List Zz)×PUnit):Option (Int):=fnT tF tG (qOf tF (Sr L m ++ [ZcI L])) 0 L MQ [.rnd [.slot 3 (.int .i64)]] (.one (.int .i64)) (tvL tT [.lst 21 (.row 9)] x) []
def LQ (L:Nat)(x:(List Zz)×PUnit):Option (Int):=XV L L x
def Zhi (L:Nat):Sum tT:=⟨253,[.lst 21 (.row 9)],fun x=>.par ((.one (.int .i64):RD).Ty tT) (LQ L x) ((.one (.int .i64):RD).tv tT)⟩
def Og:Nat→List Zz→Nat→(Int×PUnit→Option Int)→Int×PUnit→Option Int:=fun (m:Nat)=>fun x0 L self acc=>bif decide (acc.1 < (↑x0.length:Int)) then bT (ZP x0 acc.1) fun y=>bT (MC L (y,())) fun y=>bif y == 0 then bT (ZP x0 acc.1) fun y=>bT (XV L m (y.9,())) fun y=>bif y == 0 then bT (ZP x0 acc.1) fun y=>bT (XV L m (y.10,())) fun y=>bif y != 0 then some y else self (Go.IntKind.i64.wrap (acc.1 + 1),()) else bif y != 0 then some y else self (Go.IntKind.i64.wrap (acc.1 + 1),()) else bif y == 0 then bT (ZP x0 acc.1) fun y=>bT (XV L m (y.10,())) fun y=>bif y != 0 then some y else self (Go.IntKind.i64.wrap (acc.1 + 1),()) else bif y != 0 then some y else self (Go.IntKind.i64.wrap (acc.1 + 1),()) else some 0
theorem ZgT (L m:Nat)(x0:(List Zz)):XV L (m + 1) (x0,())=Zw (Og m x0 L) L (0,()):=by kernel_rfl
def Ba (L:Nat):Nat→List (Sum tT)
 | 0=>[⟨252,[.lst 21 (.row 9)],fun _=>.par _ none ((.one (.int .i64):RD).tv tT)⟩]
 | m + 1=>[⟨252,[.lst 21 (.row 9)],fun x=>.par _ (fnT tF tG (qOf tF (Ba L m ++ [])) 0 L I4 [.rnd [.slot 3 (.int .i64),.slot 4 (.int .i64)]] (.one (.int .i64)) (tvL tT [.lst 21 (.row 9)] x) []) ((.one (.int .i64):RD).tv tT)⟩]
def V3 (L m:Nat)(x:(List Zz)×PUnit):Option (Int):=fnT tF tG (qOf tF (Ba L m ++ [])) 0 L I4 [.rnd [.slot 3 (.int .i64),.slot 4 (.int .i64)]] (.one (.int .i64)) (tvL tT [.lst 21 (.row 9)] x) []
def Ox (L:Nat)(x:(List Zz)×PUnit):Option (Int):=V3 L L x
def ZeD (L:Nat):Sum tT:=⟨252,[.lst 21 (.row 9)],fun x=>.par ((.one (.int .i64):RD).Ty tT) (Ox L x) ((.one (.int .i64):RD).tv tT)⟩
def Gx:Nat→List Zz→Nat→(Int×Int×PUnit→Option Int)→Int×Int×PUnit→Option Int:=fun (m:Nat)=>fun x0 L self acc=>bif decide (acc.2.1 < (↑x0.length:Int)) then bT (ZP x0 acc.2.1) fun y=>bT (bT (V3 L m (y.9,())) fun y=>some y) fun y=>bT (ZP x0 acc.2.1) fun y_1=>bT (bT (V3 L m (y_1.10,())) fun y=>some y) fun y_2=>self (if Go.IntKind.i64.wrap (1 + y_2) > if Go.IntKind.i64.wrap (1 + y) > acc.1 then Go.IntKind.i64.wrap (1 + y) else acc.1 then Go.IntKind.i64.wrap (1 + y_2) else if Go.IntKind.i64.wrap (1 + y) > acc.1 then Go.IntKind.i64.wrap (1 + y) else acc.1,Go.IntKind.i64.wrap (acc.2.1 + 1),()) else some acc.1
theorem Zej (L m:Nat)(x0:(List Zz)):V3 L (m + 1) (x0,())=Zw (Gx m x0 L) L (0,0,()):=by kernel_rfl
def G9 (L:Nat):Nat→List (Sum tT)
 | 0=>[⟨25,[.lst 21 (.row 9)],fun _=>.par _ none ((.one (.int .i64):RD).tv tT)⟩]
 | m + 1=>[⟨25,[.lst 21 (.row 9)],fun x=>.par _ (fnT tF tG (qOf tF (G9 L m ++ [])) 0 L Iz [.rnd [.slot 3 (.int .i64),.slot 4 (.int .i64)]] (.one (.int .i64)) (tvL tT [.lst 21 (.row 9)] x) []) ((.one (.int .i64):RD).tv tT)⟩]
theorem GG {C:Cfg}{L:Nat}(h:St C L):∀ m,∀ s ∈ G9 L m,QR C s
 | 0=>(Zn (VP _ _ _) ZU)
 | m + 1=>have ih:=GG h m
  (Zn (WH Wh h.L h.G (QH Wh (Gj ih ZU)) [.rnd [.slot 3 (.int .i64),.slot 4 (.int .i64)]] (h.T _ _ rfl) (by kernel_rfl) fun _=>rfl) ZU)
def Vz (L m:Nat)(x:(List Zz)×PUnit):Option (Int):=fnT tF tG (qOf tF (G9 L m ++ [])) 0 L Iz [.rnd [.slot 3 (.int .i64),.slot 4 (.int .i64)]] (.one (.int .i64)) (tvL tT [.lst 21 (.row 9)] x) []
def XU (L:Nat)(x:(List Zz)×PUnit):Option (Int):=Vz L L x
def Oq (L:Nat):Sum tT:=⟨25,[.lst 21 (.row 9)],fun x=>.par ((.one (.int .i64):RD).Ty tT) (XU L x) ((.one (.int .i64):RD).tv tT)⟩
theorem Ze2 {C:Cfg}{L:Nat}(h:St C L):QR C (Oq L):=have ih:=GG h L
 WH Wh h.L h.G (QH Wh (Gj ih ZU)) [.rnd [.slot 3 (.int .i64),.slot 4 (.int .i64)]] (h.T _ _ rfl) (by kernel_rfl) fun _=>rfl
def Gw:Nat→List Zz→Nat→(Int×Int×PUnit→Option Int)→Int×Int×PUnit→Option Int:=fun (m:Nat)=>fun x0 L self acc=>bif decide (acc.2.1 < (↑x0.length:Int)) then bT (ZP x0 acc.2.1) fun y=>bT (bT (Vz L m (y.9,())) fun y=>some y) fun y=>bT (ZP x0 acc.2.1) fun y_1=>bT (bT (Vz L m (y_1.10,())) fun y=>some y) fun y_2=>self (Go.IntKind.i64.wrap (Go.IntKind.i64.wrap (Go.IntKind.i64.wrap (acc.1 + 1) + y) + y_2),Go.IntKind.i64.wrap (acc.2.1 + 1),()) else some acc.1
theorem Zei (L m:Nat)(x0:(List Zz)):Vz L (m + 1) (x0,())=Zw (Gw m x0 L) L (0,0,()):=by kernel_rfl
def Kq (L:Nat)(x:(List Zz)×PUnit):Option Int:=fT [Zhi L,ZeD L,Oq L] L DY [] (.one (.int .i64)) [.lst 21 (.row 9)] x
def ZeC (L:Nat):Sum tT:=mU 232 [.lst 21 (.row 9)] (.one (.int .i64)) (Kq L)
theorem Zeh (L:Nat)(x0:(List Zz)):Kq L (x0,())=bT (XU L (x0,())) fun y=>bif decide (y > 200) then some 6 else bT (Ox L (x0,())) fun y=>bif decide (y > 12) then some 11 else bT (LQ L (x0,())) fun y=>some y:=by kernel_rfl
def J8 (L:Nat)(x:Int×PUnit):Option Bool:=fT [] L Pg [] (.one .bool) [.int .i64] x
def SS (L:Nat):Sum tT:=mU 145 [.int .i64] (.one .bool) (J8 L)
theorem Zel (L:Nat)(x0:Int):J8 L (x0,())=some (x0 == 1 || x0 == 2 || x0 == 3):=by kernel_rfl
def VV (L:Nat)(x:Wu×PUnit):Option Int:=fT [ZeC L,XP L,WR L,SS L,SV L] L OH [.rnd [.slot 3 (.own 1 .str),.slot 5 (.int .i64)]] (.one (.int .i64)) [.row 10] x
def ZaL (L:Nat):Sum tT:=mU 193 [.row 10] (.one (.int .i64)) (VV L)
def Vb:Wu→Nat→List Vg→(List (List UInt8)×Int×PUnit→Option Int)→List (List UInt8)×Int×PUnit→Option Int:=fun x0 L y self acc=>bif decide (acc.2.1 < (↑y.length:Int)) then bT (ZP y acc.2.1) fun y_1=>bT (bT (J9 L (y_1.1,acc.1,())) fun y=>some y) fun y_2=>bT (ZP y acc.2.1) fun y_3=>bT (bT (J8 L (y_3.2,())) fun y=>some y) fun y_4=>bT (bT (Yl L (y_4,1,())) fun y=>some y) fun y_5=>bT (bT (Wq L (y_2,y_5,())) fun y=>some y) fun y_6=>bif y_6 != 0 then some y_6 else bT (ZP y acc.2.1) fun y=>bT (apT 16 acc.1 [y.1]) fun y=>self (y,Go.IntKind.i64.wrap (acc.2.1 + 1),()) else bT (Kq L (x0.4,())) fun y=>some y
theorem Za3 (L:Nat)(x0:Wu):VV L (x0,())=bif decide ((↑x0.2.length:Int) > 6) || decide (Go.IntKind.i64.wrap ((↑x0.2.length:Int) + (↑x0.3.length:Int)) > 16) then some 6 else bT (apT 24 [] x0.2) fun y=>bT (apT 24 y x0.3) fun y=>Zw (Vb x0 L y) L ([],0,()):=by kernel_rfl
end Go.Proofs.YtleomfgijkapfaaGreatDoor
end
noncomputable section
namespace Go.Proofs.YtleomfgijkapfaaGreatDoor
open Go Go.Proofs.YtleomfgijkapfaaGreatDoor.Abs Go.Proofs.YtleomfgijkapfaaGreatDoor.Tl
set_option maxRecDepth 100000
set_option maxHeartbeats 0
def Ve (L:Nat)(x:Zv×PUnit):Option Int:=fT [Xi L,WR L] L Ia [.rnd [.slot 3 (.int .i64)]] (.one (.int .i64)) [.row 4] x
def EX (L:Nat):Sum tT:=mU 231 [.row 4] (.one (.int .i64)) (Ve L)
def Qr:Zv→Nat→(Int×PUnit→Option Int)→Int×PUnit→Option Int:=fun x0 L self acc=>bif decide (acc.1 < (↑x0.3.length:Int)) then bT (ZP x0.3 acc.1) fun y=>bT (YA L (y.1,0,Go.IntKind.i64.wrap (x0.4 - 1),())) fun y_1=>bT (bif (!y_1) == false then bT (YA L (y.2,0,1000,())) fun y=>some !y else some true) fun y_2=>bif y_2 then some 2 else bT (bif decide (acc.1 > 0) == true then bT (ZP x0.3 (Go.IntKind.i64.wrap (acc.1 - 1))) fun y_3=>some (decide (y.1≤y_3.1)) else some false) fun y=>bif y then some 12 else self (Go.IntKind.i64.wrap (acc.1 + 1),()) else some 0
theorem EO (L:Nat)(x0:Zv):Ve L (x0,())=bif (↑x0.3.length:Int) == 0 then bT (Yl L (x0.4 == 0,1,())) fun y=>some y else bif decide ((↑x0.3.length:Int) > 20) then some 6 else bT (YA L (x0.4,1,1000000000,())) fun y=>bif !y then some 2 else Zw (Qr x0 L) L (0,()):=by kernel_rfl
def Vf (L:Nat)(x:Zm×Zv×PUnit):Option Int:=fT [SL L,U3 L,Hg L,XP L,EX L,WR L,Xi L] L Ic [] (.one (.int .i64)) [.row 14,.row 4] x
def EY (L:Nat):Sum tT:=mU 192 [.row 14,.row 4] (.one (.int .i64)) (Vf L)
theorem EP (L:Nat)(x0:Zm)(x1:Zv):Vf L (x0,x1,())=bT (bT (YA L (x1.2,0,1000,())) fun y=>some y) fun y=>bT (bT (Yl L (y,2,())) fun y=>some y) fun y=>bT (bT (Ve L (x1,())) fun y=>some y) fun y_1=>bT (bT (Wq L (y,y_1,())) fun y=>some y) fun y=>bif y != 0 then some y else bif x1.Fault.1 == [] then bT (Xl L (x1.Fault.2,ZX.mk 0 0 0 0 [] [],())) fun y=>bT (bif y == true then bT (Xl L (x1.Fault.3,ZX.mk 0 0 0 0 [] [],())) fun y=>some y else some false) fun y=>bT (Yl L (y,1,())) fun y=>some y else bT (Jd L (x0.7,x1.Fault.1,())) fun y=>bif decide (y < 0) then some 5 else bT (bT (XT L (x1.Fault.2,())) fun y=>some y) fun y=>bT (bT (XT L (x1.Fault.3,())) fun y=>some y) fun y_2=>bT (bT (Wq L (y,y_2,())) fun y=>some y) fun y=>some y:=by kernel_rfl
def Y3 (L:Nat)(x:Zm×Int×Int×PUnit):Option Int:=fT [ZaL L,Xi L,EY L,XP L,FH L,WR L,SS L] L Ib [] (.one (.int .i64)) [.row 14,.int .i64,.int .i64] x
theorem Qe (L:Nat)(x0:Zm)(x1:Int)(x2:Int):Y3 L (x0,x1,x2,())=bif x1 == 0 then bT (ZP x0.2 x2) fun y=>bT (bT (J8 L (y.2,())) fun y=>some y) fun y=>bT (bT (Yl L (y,1,())) fun y=>some y) fun y=>bT (ZP x0.2 x2) fun y_1=>bT (ZP x0.2 x2) fun y_2=>bT (bT (Ho L (y_1.2,y_2.3,())) fun y=>some y) fun y_3=>bT (bT (Yl L (y_3,2,())) fun y=>some y) fun y_4=>bT (bT (Wq L (y,y_4,())) fun y=>some y) fun y=>some y else bif x1 == 1 then bT (ZP x0.3 x2) fun y=>bT (bT (Vf L (x0,y,())) fun y=>some y) fun y=>some y else bif x1 == 2 then bT (ZP x0.4 x2) fun y=>bT (ZP x0.4 x2) fun y_1=>bT (YA L (y_1.2,1,1000,())) fun y_2=>bT (Yl L (y_2,2,())) fun y_3=>bT (Yl L (decide (y.3 ≥ 1) && decide (y.3≤3),1,())) fun y=>bT (Wq L (y_3,y,())) fun y=>some y else bif x1 == 3 then bT (ZP x0.5 x2) fun y=>bT (YA L (y.2,1,1000,())) fun y=>bT (bif y == true then bT (ZP x0.5 x2) fun y=>bT (YA L (y.3,1,1000,())) fun y=>some y else some false) fun y=>bT (Yl L (y,2,())) fun y=>some y else bif x1 == 9 then bT (ZP x0.11 x2) fun y=>bT (VV L (y,())) fun y=>some y else some 0:=by kernel_rfl
def Js:Zm→Nat→List (List (List UInt8))→(Int×List (List UInt8)×Int×PUnit→Option Int)→Int×List (List UInt8)×Int×PUnit→(Int×List (List UInt8)×Int×PUnit→Option Int)→Int×List (List UInt8)×Int×PUnit→Option Int:=fun x0 L y self acc self_1 acc_1=>bT (ZP y acc.2.2.1) fun y_1=>bif decide (acc_1.2.2.1 < (↑y_1.length:Int)) then bT (ZP y acc.2.2.1) fun y_2=>bT (ZP y_2 acc_1.2.2.1) fun y_3=>bT (bT (J9 L (y_3,acc_1.2.1,())) fun y=>some y) fun y_4=>bT (bT (Y3 L (x0,acc.2.2.1,acc_1.2.2.1,())) fun y=>some y) fun y_5=>bT (bT (Wq L (y_4,y_5,())) fun y=>some y) fun y_6=>bif y_6 != 0 then some y_6 else bT (ZP y acc.2.2.1) fun y=>bT (ZP y acc_1.2.2.1) fun y=>bT (apT 16 acc_1.2.1 [y]) fun y=>self_1 (acc_1.1,y,Go.IntKind.i64.wrap (acc_1.2.2.1 + 1),()) else self (acc_1.1,acc_1.2.1,Go.IntKind.i64.wrap (acc.2.2.1 + 1),())
def Zep:Zm→Nat→(List (List UInt8)×Int×PUnit→Option Int)→List (List UInt8)×Int×PUnit→Option Int:=fun x0 L self acc=>bif decide (acc.2.1 < (↑x0.13.length:Int)) then bT (ZP x0.13 acc.2.1) fun y=>bT (bT (ZjH L (x0,y,acc.1,())) fun y=>some y) fun y=>bif y != 0 then some y else bT (ZP x0.13 acc.2.1) fun y=>bT (apT 16 acc.1 [y.1]) fun y=>self (y,Go.IntKind.i64.wrap (acc.2.1 + 1),()) else some 0
def NL:Zm→Nat→(Int×Int×PUnit→Option Int)→Int×Int×PUnit→Option Int:=fun x0 L self acc=>bif decide (acc.2.1 < (↑x0.12.length:Int)) then bT (ZP x0.12 acc.2.1) fun y=>bT (bT (ZeI L (x0,y,())) fun y=>some y) fun y=>bif y != 0 then some y else self (acc.1,Go.IntKind.i64.wrap (acc.2.1 + 1),()) else bif decide ((↑x0.13.length:Int) > 32) then some 6 else Zw (Zep x0 L) L ([],0,())
def Jt:Zm→Nat→List (List (List UInt8))→(Int×List (List UInt8)×Int×PUnit→Option Int)→Int×List (List UInt8)×Int×PUnit→Option Int:=fun x0 L y self acc=>bif decide (acc.2.2.1 < (↑y.length:Int)) then bT (ZP y acc.2.2.1) fun y_1=>bT (bif decide ((↑y_1.length:Int) > 32) == false then bif (acc.2.2.1 == 9) == true then bT (ZP y acc.2.2.1) fun y=>some (decide ((↑y.length:Int) > 16)) else some false else some true) fun y_2=>bif y_2 then some 6 else Zw (Js x0 L y self acc) L (acc.1,acc.2.1,0,()) else bif decide ((↑x0.12.length:Int) > 32) then some 6 else Zw (NL x0 L) L (acc.1,0,())
def EH:List (Inl tT):=[⟨202,WB,[],.one (.bool),[]⟩,⟨235,Qg,[.rnd [.slot 8 (.int .i64)]],.one (.int .i64),[]⟩,⟨203,KZ,[],.one (.bool),[]⟩]
def Yg (L:Nat)(x:Int×Int×(List Int)×PUnit):Option Bool:=fI [] L EH O8 [] (.one .bool) [.int .i64,.int .i64,.lst 1 (.int .i64)] x
def TW (L:Nat):Sum tT:=mU 160 [.int .i64,.int .i64,.lst 1 (.int .i64)] (.one .bool) (Yg L)
theorem ZaC:SX TW:=fun h=>sI h ZU (Zn ⟨h.T _ _ rfl,by kernel_rfl⟩ (Zn ⟨h.T _ _ rfl,by kernel_rfl⟩ (Zn ⟨h.T _ _ rfl,by kernel_rfl⟩ ZU))) rfl (by kernel_rfl) fun _=>rfl
def XX:Int→Int→List Int→(Int×PUnit→Option Int)→Int×PUnit→Option Int:=fun x0 x1 x2 self acc=>bif decide (acc.1 < (↑x2.length:Int)) then bT (ZP x2 acc.1) fun y=>bif decide (y < x0) || decide (y > x1) then some acc.1 else self (Go.IntKind.i64.wrap (acc.1 + 1),()) else some (-1)
theorem Zax (L:Nat)(x0:Int)(x1:Int)(x2:(List Int)):Yg L (x0,x1,x2,())=bT (bT (Zw (XX x0 x1 x2) L (0,())) fun y=>some (decide (y ≥ 0))) fun y=>some !y:=by kernel_rfl
def VT (L:Nat)(x:ZX×PUnit):Option Bool:=fT [] L O7 [] (.one .bool) [.row 2] x
def TU (L:Nat):Sum tT:=mU 159 [.row 2] (.one .bool) (VT L)
theorem ZaB:SX TU:=fun h=>sT h ZU rfl (by kernel_rfl) fun _=>rfl
theorem Zaw (L:Nat)(x0:ZX):VT L (x0,())=bif x0.1 == 1 then some (Go.IntKind.i64.wrap ((↑x0.5.length:Int) + (↑x0.6.length:Int)) == 0 && x0.3 == 0 && x0.4 == 0) else bif x0.1 == 2 then some (Go.IntKind.i64.wrap ((↑x0.5.length:Int) + (↑x0.6.length:Int)) == 0 && x0.4 == 0) else bif x0.1 == 5 then some (Go.IntKind.i64.wrap ((↑x0.5.length:Int) + (↑x0.6.length:Int)) == 0 && x0.4 == 0) else bif x0.1 == 4 then some (Go.IntKind.i64.wrap ((↑x0.5.length:Int) + (↑x0.6.length:Int)) == 0) else bif x0.1 == 3 then some (x0.2 == 0 && x0.3 == 0 && x0.4 == 0) else some false:=by kernel_rfl
def Qv (L:Nat)(x:ZX×PUnit):Option Int:=fT [TW L,TU L] L Rf [] (.one (.int .i64)) [.row 2] x
def GI (L:Nat):Sum tT:=mU 79 [.row 2] (.one (.int .i64)) (Qv L)
theorem RX:SX GI:=fun h=>sT h (Zn (ZaC h) (Zn (ZaB h) ZU)) rfl (by kernel_rfl) fun _=>rfl
theorem Zcp (L:Nat)(x0:ZX):Qv L (x0,())=bT (VT L (x0,())) fun y=>bif !y then some 1 else bif x0.1 == 1 then bT (Yg L (0,1000000000,[x0.2],())) fun y=>bif !y then some 2 else some 0 else bif x0.1 == 2 then bT (Yg L (0,1000000000,[x0.2,x0.3],())) fun y=>bif !(y && decide (x0.2≤x0.3)) then some 2 else some 0 else bif x0.1 == 4 then bT (Yg L (1,20,[x0.4],())) fun y=>bT (bif y == true then bT (Yg L (0,1000000,[x0.2,x0.3],())) fun y=>some y else some false) fun y=>bif !(y && decide (x0.2≤x0.3)) then some 2 else some 0 else bif x0.1 == 5 then bT (Yg L (1,1000,[x0.2,x0.3],())) fun y=>bif !y then some 2 else some 0 else bif x0.1 == 3 then bif (↑x0.5.length:Int) != (↑x0.6.length:Int) then some 8 else bif (↑x0.5.length:Int) == 0 then some 7 else bif decide ((↑x0.5.length:Int) > 20) then some 6 else bT (Yg L (0,1000000000,x0.5,())) fun y=>bT (bif y == true then bT (Yg L (1,1000,x0.6,())) fun y=>some y else some false) fun y=>bif !y then some 2 else some 0 else some 2:=by kernel_rfl
end Go.Proofs.YtleomfgijkapfaaGreatDoor
end
noncomputable section
namespace Go.Proofs.YtleomfgijkapfaaGreatDoor
open Go Go.Proofs.YtleomfgijkapfaaGreatDoor.Abs Go.Proofs.YtleomfgijkapfaaGreatDoor.Tl
set_option maxRecDepth 100000
set_option maxHeartbeats 0
def ZV (L:Nat)(x:Qj×Int×Int×PUnit):Option Int:=fT [] L Jg [] (.one (.int .i64)) [.row 24,.int .i64,.int .i64] x
def WT (L:Nat):Sum tT:=mU 155 [.row 24,.int .i64,.int .i64] (.one (.int .i64)) (ZV L)
theorem QY:SX WT:=fun h=>sT h ZU rfl (by kernel_rfl) fun _=>rfl
theorem QX (L:Nat)(x0:Qj)(x1:Int)(x2:Int):ZV L (x0,x1,x2,())=bT (ZP x0.p.2 x0.2) fun y=>bif x1 == 1 then some x0.c.3 else bif x1 == 2 then some (↑y.Decl.2.length:Int) else bif x1 == 3 then some (↑y.Decl.7.length:Int) else bif x1 == 4 then some (↑x0.c.4.length:Int) else bif x1 == 5 then some (↑y.Decl.3.length:Int) else bif x1 == 6 then some (↑y.Decl.4.length:Int) else bif x1 == 7 then some (↑y.Decl.5.length:Int) else bif x1 == 8 then some (↑y.Decl.6.length:Int) else bif x1 == 9 then some (↑x0.p.2.length:Int) else bif x1 == 10 then bT (ZP x0.p.2 x2) fun y=>some (↑y.2.length:Int) else bif x1 == 11 then some (↑y.Decl.8.length:Int) else bif x1 == 12 then some (↑y.Decl.9.length:Int) else bif x1 == 13 then some (↑y.Decl.10.length:Int) else some 1:=by kernel_rfl
def ZA (L:Nat)(x:Qj×Int×Int×Int×PUnit):Option Bool:=fT [WT L] L JF [] (.one .bool) [.row 24,.int .i64,.int .i64,.int .i64] x
def Qk (L:Nat):Sum tT:=mU 76 [.row 24,.int .i64,.int .i64,.int .i64] (.one .bool) (ZA L)
theorem X3:SX Qk:=fun h=>sT h (Zn (QY h) ZU) rfl (by kernel_rfl) fun _=>rfl
theorem Xz (L:Nat)(x0:Qj)(x1:Int)(x2:Int)(x3:Int):ZA L (x0,x1,x2,x3,())=bT (bif decide (x2 ≥ 0) == true then bT (ZV L (x0,x1,x3,())) fun y=>some (decide (x2 < y)) else some false) fun y=>some y:=by kernel_rfl
def VJ:List (Inl tT):=[⟨157,Y1,[],.one (.bool),[]⟩,⟨201,YB,[.rnd [.slot 8 (.int .i64)]],.one (.int .i64),[]⟩,⟨158,Vk,[],.one (.bool),[]⟩]
def QC (L:Nat):Nat→List (Sum tT)
 | 0=>[⟨78,[.row 24,.row 8],fun _=>.par _ none ((.one (.bool):RD).tv tT)⟩]
 | m + 1=>[⟨78,[.row 24,.row 8],fun x=>.par _ (fnT tF tG (ZcA tF tG (qOf tF (QC L m ++ [WT L,Qk L])) L VJ 8) 0 L QU [] (.one (.bool)) (tvL tT [.row 24,.row 8] x) []) ((.one (.bool):RD).tv tT)⟩]
theorem X4 {C:Cfg}{L:Nat}(h:St C L):∀ m,∀ s ∈ QC L m,QR C s
 | 0=>(Zn (VP _ _ _) ZU)
 | m + 1=>have ih:=X4 h m
  (Zn (WH Wh h.L h.G (TP Wh h.L h.G (QH Wh (Gj ih (Zn (QY h) (Zn (X3 h) ZU)))) (Zn ⟨h.T _ _ rfl,by kernel_rfl⟩ (Zn ⟨h.T _ _ rfl,by kernel_rfl⟩ (Zn ⟨h.T _ _ rfl,by kernel_rfl⟩ ZU))) 8) [] (h.T _ _ rfl) (by kernel_rfl) fun _=>rfl) ZU)
def ZK (L m:Nat)(x:Qj×Zg×PUnit):Option (Bool):=fnT tF tG (ZcA tF tG (qOf tF (QC L m ++ [WT L,Qk L])) L VJ 8) 0 L QU [] (.one (.bool)) (tvL tT [.row 24,.row 8] x) []
def YM (L:Nat)(x:Qj×Zg×PUnit):Option (Bool):=ZK L L x
def Jw (L:Nat):Sum tT:=⟨78,[.row 24,.row 8],fun x=>.par ((.one (.bool):RD).Ty tT) (YM L x) ((.one (.bool):RD).tv tT)⟩
theorem Oh {C:Cfg}{L:Nat}(h:St C L):QR C (Jw L):=have ih:=X4 h L
 WH Wh h.L h.G (TP Wh h.L h.G (QH Wh (Gj ih (Zn (QY h) (Zn (X3 h) ZU)))) (Zn ⟨h.T _ _ rfl,by kernel_rfl⟩ (Zn ⟨h.T _ _ rfl,by kernel_rfl⟩ (Zn ⟨h.T _ _ rfl,by kernel_rfl⟩ ZU))) 8) [] (h.T _ _ rfl) (by kernel_rfl) fun _=>rfl
def ZJ:Nat→Qj→Zg→Nat→(Int×PUnit→Option Int)→Int×PUnit→Option Int:=fun (m:Nat)=>fun x0 x1 L self acc=>bif decide (acc.1 < (↑x1.4.length:Int)) then bT (ZP x1.4 acc.1) fun y=>bT (bT (ZK L m (x0,y,())) fun y=>some !y) fun y=>bif y then some acc.1 else self (Go.IntKind.i64.wrap (acc.1 + 1),()) else some (-1)
def VB:Nat→Qj→Zg→Nat→(Int×PUnit→Option Int)→Int×PUnit→Option Int:=fun (m:Nat)=>fun x0 x1 L self acc=>bif decide (acc.1 < (↑x1.4.length:Int)) then bT (ZP x1.4 acc.1) fun y=>bT (bT (ZK L m (x0,y,())) fun y=>some !y) fun y=>bif y then some acc.1 else self (Go.IntKind.i64.wrap (acc.1 + 1),()) else some (-1)
def VC:Nat→Qj→Zg→Nat→(Int×PUnit→Option Int)→Int×PUnit→Option Int:=fun (m:Nat)=>fun x0 x1 L self acc=>bif decide (acc.1 < (↑x1.4.length:Int)) then bT (ZP x1.4 acc.1) fun y=>bT (bT (ZK L m (x0,y,())) fun y=>some !y) fun y=>bif y then some acc.1 else self (Go.IntKind.i64.wrap (acc.1 + 1),()) else some (-1)
def VD:Nat→Qj→Zg→Nat→(Int×PUnit→Option Int)→Int×PUnit→Option Int:=fun (m:Nat)=>fun x0 x1 L self acc=>bif decide (acc.1 < (↑x1.4.length:Int)) then bT (ZP x1.4 acc.1) fun y=>bT (bT (ZK L m (x0,y,())) fun y=>some !y) fun y=>bif y then some acc.1 else self (Go.IntKind.i64.wrap (acc.1 + 1),()) else some (-1)
def VE:Nat→Qj→Zg→Nat→(Int×PUnit→Option Int)→Int×PUnit→Option Int:=fun (m:Nat)=>fun x0 x1 L self acc=>bif decide (acc.1 < (↑x1.4.length:Int)) then bT (ZP x1.4 acc.1) fun y=>bT (bT (ZK L m (x0,y,())) fun y=>some !y) fun y=>bif y then some acc.1 else self (Go.IntKind.i64.wrap (acc.1 + 1),()) else some (-1)
def VF:Nat→Qj→Zg→Nat→(Int×PUnit→Option Int)→Int×PUnit→Option Int:=fun (m:Nat)=>fun x0 x1 L self acc=>bif decide (acc.1 < (↑x1.4.length:Int)) then bT (ZP x1.4 acc.1) fun y=>bT (bT (ZK L m (x0,y,())) fun y=>some !y) fun y=>bif y then some acc.1 else self (Go.IntKind.i64.wrap (acc.1 + 1),()) else some (-1)
theorem IY (L m:Nat)(x0:Qj)(x1:Zg):ZK L (m + 1) (x0,x1,())=bif x1.1 == 25 then bT (ZA L (x0,1,x1.3,0,())) fun y=>bT (bif y == true then bT (bT (Zw (ZJ m x0 x1 L) L (0,())) fun y=>some (decide (y ≥ 0))) fun y=>some !y else some false) fun y=>some y else bif x1.1 == 26 then bT (ZA L (x0,2,x1.3,0,())) fun y=>bT (bif y == true then bT (bT (Zw (VB m x0 x1 L) L (0,())) fun y=>some (decide (y ≥ 0))) fun y=>some !y else some false) fun y=>some y else bif x1.1 == 22 then bT (ZA L (x0,5,x1.3,0,())) fun y=>bT (bif y == true then bT (bT (Zw (VC m x0 x1 L) L (0,())) fun y=>some (decide (y ≥ 0))) fun y=>some !y else some false) fun y=>some y else bif x1.1 == 23 then bT (ZA L (x0,6,x1.3,0,())) fun y=>bT (bif y == true then bT (bT (Zw (VD m x0 x1 L) L (0,())) fun y=>some (decide (y ≥ 0))) fun y=>some !y else some false) fun y=>some y else bif x1.1 == 24 then bT (bT (ZV L (x0,5,0,())) fun y=>some y) fun y=>bT (bT (ZV L (x0,8,0,())) fun y=>some y) fun y_1=>bT (bif decide (x1.3 < Go.IntKind.i64.wrap (y + y_1)) == true then bT (bT (Zw (VE m x0 x1 L) L (0,())) fun y=>some (decide (y ≥ 0))) fun y=>some !y else some false) fun y=>some y else bT (bT (bT (Zw (VF m x0 x1 L) L (0,())) fun y=>some (decide (y ≥ 0))) fun y=>some !y) fun y=>some y:=by kernel_rfl
def XA (L:Nat)(x:(List UInt8)×PUnit):Option Bool:=fT [] L Gi [] (.one .bool) [.str] x
def GK (L:Nat):Sum tT:=mU 58 [.str] (.one .bool) (XA L)
theorem Si:SX GK:=fun h=>sT h ZU rfl (by kernel_rfl) fun _=>rfl
theorem NI (L:Nat)(x0:(List UInt8)):XA L (x0,())=bif x0 == [97,100,100] then some true else bif x0 == [97,102,116,101,114] then some true else bif x0 == [97,110,100] then some true else bif x0 == [97,116] then some true else bif x0 == [98,101,108,116] then some true else bif x0 == [98,111,111,108] then some true else bif x0 == [99,111,110,115,101,114,118,101] then some true else bif x0 == [99,111,110,115,116] then some true else bif x0 == [99,111,117,110,116] then some true else bif x0 == [99,121,99,108,101] then some true else bif x0 == [100,111,119,110] then some true else bif x0 == [100,114,97,119] then some true else bif x0 == [100,117,114] then some true else bif x0 == [101,108,115,101] then some true else bif x0 == [101,110,100] then some true else bif x0 == [101,118,101,114,121] then some true else bif x0 == [102,97,108,115,101] then some true else bif x0 == [102,97,117,108,116] then some true else bif x0 == [102,105,102,111] then some true else bif x0 == [102,114,101,101] then some true else bif x0 == [102,114,111,109] then some true else bif x0 == [103,101,111,109] then some true else bif x0 == [103,101,116] then some true else bif x0 == [104,111,108,100] then some true else bif x0 == [105,102] then some true else bif x0 == [105,110,116] then some true else bif x0 == [105,110,116,111] then some true else bif x0 == [108,101,97,115,116] then some true else bif x0 == [108,101,118,101,108] then some true else bif x0 == [108,105,102,111] then some true else bif x0 == [108,105,110,107] then some true else bif x0 == [108,111,99,97,108] then some true else bif x0 == [109,97,120] then some true else bif x0 == [109,105,110] then some true else bif x0 == [109,111,100,101,108] then some true else bif x0 == [110,111,116] then some true else bif x0 == [110,111,119] then some true else bif x0 == [111,98,115,101,114,118,101] then some true else bif x0 == [111,114] then some true else bif x0 == [112,97,114,97,109] then some true else bif x0 == [112,114,101,101,109,112,116] then some true else bif x0 == [112,114,105,111] then some true else bif x0 == [112,117,116] then some true else bif x0 == [113,117,101,117,101] then some true else bif x0 == [114,101,108,101,97,115,101] then some true else bif x0 == [114,101,115,111,117,114,99,101] then some true else bif x0 == [114,105,100,101] then some true else bif x0 == [114,111,117,116,105,110,101] then some true else bif x0 == [115,101,105,122,101] then some true else bif x0 == [115,101,110,100] then some true else bif x0 == [115,101,116] then some true else bif x0 == [115,104,105,102,116] then some true else bif x0 == [115,105,103,110,97,108] then some true else bif x0 == [115,105,116,101] then some true else bif x0 == [115,105,122,101] then some true else bif x0 == [115,112,97,119,110] then some true else bif x0 == [115,116,97,114,116] then some true else bif x0 == [115,116,111,112] then some true else bif x0 == [115,116,111,114,101] then some true else bif x0 == [115,116,114,101,97,109] then some true else bif x0 == [115,117,109] then some true else bif x0 == [116,97,98,108,101] then some true else bif x0 == [116,97,108,108,121] then some true else bif x0 == [116,105,99,107,115] then some true else bif x0 == [116,105,109,101] then some true else bif x0 == [116,114,117,101] then some true else bif x0 == [117,110,105,102,111,114,109] then some true else bif x0 == [117,110,116,105,108] then some true else bif x0 == [117,112] then some true else bif x0 == [118,97,114] then some true else bif x0 == [119,97,105,116] then some true else bif x0 == [119,97,105,116,105,110,103] then some true else bif x0 == [119,104,105,108,101] then some true else some false:=by kernel_rfl
def QL (L:Nat)(x:Int×PUnit):Option Bool:=fT [] L H8 [] (.one .bool) [.int .u8] x
def Io (L:Nat):Sum tT:=mU 57 [.int .u8] (.one .bool) (QL L)
theorem ER:SX Io:=fun h=>sT h ZU rfl (by kernel_rfl) fun _=>rfl
theorem EL (L:Nat)(x0:Int):QL L (x0,())=some (decide (x0 ≥ 97) && decide (x0≤122)):=by kernel_rfl
def X9 (L:Nat)(x:(List UInt8)×PUnit):Option Int:=fT [GK L,Io L] L OC [.rnd [.slot 24 (.int .i64)]] (.one (.int .i64)) [.str] x
def UT (L:Nat):Sum tT:=mU 27 [.str] (.one (.int .i64)) (X9 L)
theorem TL:SX UT:=fun h=>sT h (Zn (Si h) (Zn (ER h) ZU)) rfl (by kernel_rfl) fun _=>rfl
def XZ:List UInt8→Nat→(Int×PUnit→Option Int)→Int×PUnit→Option Int:=fun x0 L self acc=>bif decide (acc.1 < (↑x0.length:Int)) then bT (ZP x0 acc.1) fun y=>bT (QL L ((↑y.toNat:Int),())) fun y_1=>bif !y_1 && (decide ((↑y.toNat:Int) < 48) || decide ((↑y.toNat:Int) > 57)) && (↑y.toNat:Int) != 95 then some 3 else self (Go.IntKind.i64.wrap (acc.1 + 1),()) else some 0
theorem Za0 (L:Nat)(x0:(List UInt8)):X9 L (x0,())=bT (bif (x0 == [] || decide ((↑x0.length:Int) > 24)) == false then bT (ZP x0 0) fun y=>bT (QL L ((↑y.toNat:Int),())) fun y=>some !y else some true) fun y=>bT (bif y == false then bT (XA L (x0,())) fun y=>some y else some true) fun y=>bif y then some 3 else Zw (XZ x0 L) L (0,()):=by kernel_rfl
def X8 (L:Nat)(x:Int×PUnit):Option Bool:=fT [] L O9 [] (.one .bool) [.int .i64] x
def UQ (L:Nat):Sum tT:=mU 268 [.int .i64] (.one .bool) (X8 L)
theorem TJ:SX UQ:=fun h=>sT h ZU rfl (by kernel_rfl) fun _=>rfl
theorem Zay (L:Nat)(x0:Int):X8 L (x0,())=some (decide (x0 ≥ 22) && decide (x0≤24)):=by kernel_rfl
def Wi (L:Nat)(x:WN×Int×PUnit):Option (Int×Int×Bool×PUnit):=fT [UQ L] L Vl [] (.tup [.int .i64,.int .i64,.bool]) [.row 25,.int .i64] x
def Vw (L:Nat):Sum tT:=mU 257 [.row 25,.int .i64] (.tup [.int .i64,.int .i64,.bool]) (Wi L)
theorem G5:SX Vw:=fun h=>sT h (Zn (TJ h) ZU) rfl (by kernel_rfl) fun _=>rfl
theorem Gs (L:Nat)(x0:WN)(x1:Int):Wi L (x0,x1,())=bif x1 == 2 then some (0,1,true,()) else bif x1 == 25 then some (0,15,true,()) else bif x1 == 26 then some (0,31,true,()) else bT (X8 L (x1,())) fun y=>bif y && x0.1 then some (0,63,true,()) else some (0,0,false,()):=by kernel_rfl
def Dj (L:Nat)(x:Int×PUnit):Option Bool:=fT [] L ZeK [] (.one .bool) [.int .i64] x
def Zgb (L:Nat):Sum tT:=mU 188 [.int .i64] (.one .bool) (Dj L)
theorem Zl4:SX Zgb:=fun h=>sT h ZU rfl (by kernel_rfl) fun _=>rfl
theorem Zlw (L:Nat)(x0:Int):Dj L (x0,())=some (decide (x0 ≥ (-1000000000000)) && decide (x0≤1000000000000)):=by kernel_rfl
def YN (L:Nat)(x:WN×Int×PUnit):Option Bool:=fT [UQ L] L Jj [] (.one .bool) [.row 25,.int .i64] x
def J3 (L:Nat):Sum tT:=mU 256 [.row 25,.int .i64] (.one .bool) (YN L)
theorem Ol:SX J3:=fun h=>sT h (Zn (TJ h) ZU) rfl (by kernel_rfl) fun _=>rfl
theorem Ob (L:Nat)(x0:WN)(x1:Int):YN L (x0,x1,())=bT (bif (x1 == 3) == false then bT (X8 L (x1,())) fun y=>some (y && !x0.1) else some true) fun y=>some y:=by kernel_rfl
end Go.Proofs.YtleomfgijkapfaaGreatDoor
end
noncomputable section
namespace Go.Proofs.YtleomfgijkapfaaGreatDoor
open Go Go.Proofs.YtleomfgijkapfaaGreatDoor.Abs Go.Proofs.YtleomfgijkapfaaGreatDoor.Tl
set_option maxRecDepth 100000
set_option maxHeartbeats 0
def J7 (L:Nat)(x:Int×PUnit):Option Int:=fT [] L D5 [] (.one (.int .i64)) [.int .i64] x
def Oo (L:Nat):Sum tT:=mU 255 [.int .i64] (.one (.int .i64)) (J7 L)
theorem NZ:SX Oo:=fun h=>sT h ZU rfl (by kernel_rfl) fun _=>rfl
theorem ZdX (L:Nat)(x0:Int):J7 L (x0,())=bif x0 == 1 || x0 == 2 || x0 == 3 || x0 == 4 then some 0 else bif decide (x0 ≥ 5) && decide (x0≤8) then some 1 else bif decide (x0 ≥ 9) && decide (x0≤21) then some 2 else bif decide (x0 ≥ 22) && decide (x0≤26) then some 0 else some (-1):=by kernel_rfl
def WV (L:Nat)(x:WN×Int×PUnit):Option Bool:=fT [Oo L] L Ji [] (.one .bool) [.row 25,.int .i64] x
def Jz (L:Nat):Sum tT:=mU 254 [.row 25,.int .i64] (.one .bool) (WV L)
theorem Oj:SX Jz:=fun h=>sT h (Zn (NZ h) ZU) rfl (by kernel_rfl) fun _=>rfl
theorem Oa (L:Nat)(x0:WN)(x1:Int):WV L (x0,x1,())=bif x1 == 3 then some !x0.1 else bif x1 == 25 then some x0.1 else bif x1 == 26 then some x0.1 else bT (J7 L (x1,())) fun y=>some (decide (y ≥ 0)):=by kernel_rfl
def Ql (L:Nat)(x:WN×Zg×PUnit):Option Int:=fT [UT L,Vw L,Zgb L,J3 L,Oo L,Jz L] L JG [] (.one (.int .i64)) [.row 25,.row 8] x
def X6 (L:Nat):Sum tT:=mU 234 [.row 25,.row 8] (.one (.int .i64)) (Ql L)
theorem JP:SX X6:=fun h=>sT h (Zn (TL h) (Zn (G5 h) (Zn (Zl4 h) (Zn (Ol h) (Zn (NZ h) (Zn (Oj h) ZU)))))) rfl (by kernel_rfl) fun _=>rfl
theorem Tv (L:Nat)(x0:WN)(x1:Zg):Ql L (x0,x1,())=bT (bT (WV L (x0,x1.1,())) fun y=>some y) fun y=>bT (bif (!y) == false then bT (bT (J7 L (x1.1,())) fun y=>some y) fun y=>some ((↑x1.4.length:Int) != y) else some true) fun y=>bT (bif y == false then bif (!x1.2 == []) == true then bT (bT (YN L (x0,x1.1,())) fun y=>some y) fun y=>some !y else some false else some true) fun y=>bif y then some 1 else bif x1.1 == 1 then bT (Dj L (x1.3,())) fun y=>bif !y then some 2 else some 0 else bT (Wi L (x0,x1.1,())) fun y=>bif !y.2.2.1 && x1.3 != 0 then some 1 else bif y.2.2.1 && (decide (x1.3 < y.1) || decide (x1.3 > y.2.1)) then some 2 else bT (YN L (x0,x1.1,())) fun y=>bif y then bT (X9 L (x1.2,())) fun y=>some y else some 0:=by kernel_rfl
def QD (L:Nat):Nat→List (Sum tT)
 | 0=>[⟨200,[.row 25,.row 8],fun _=>.par _ none ((.one (.int .i64):RD).tv tT)⟩]
 | m + 1=>[⟨200,[.row 25,.row 8],fun x=>.par _ (fnT tF tG (qOf tF (QD L m ++ [X6 L])) 0 L QV [.rnd [.slot 18 (.int .i64)]] (.one (.int .i64)) (tvL tT [.row 25,.row 8] x) []) ((.one (.int .i64):RD).tv tT)⟩]
theorem X5 {C:Cfg}{L:Nat}(h:St C L):∀ m,∀ s ∈ QD L m,QR C s
 | 0=>(Zn (VP _ _ _) ZU)
 | m + 1=>have ih:=X5 h m
  (Zn (WH Wh h.L h.G (QH Wh (Gj ih (Zn (JP h) ZU))) [.rnd [.slot 18 (.int .i64)]] (h.T _ _ rfl) (by kernel_rfl) fun _=>rfl) ZU)
def W9 (L m:Nat)(x:WN×Zg×PUnit):Option (Int):=fnT tF tG (qOf tF (QD L m ++ [X6 L])) 0 L QV [.rnd [.slot 18 (.int .i64)]] (.one (.int .i64)) (tvL tT [.row 25,.row 8] x) []
def QZ (L:Nat)(x:WN×Zg×PUnit):Option (Int):=W9 L L x
def J4 (L:Nat):Sum tT:=⟨200,[.row 25,.row 8],fun x=>.par ((.one (.int .i64):RD).Ty tT) (QZ L x) ((.one (.int .i64):RD).tv tT)⟩
theorem Om {C:Cfg}{L:Nat}(h:St C L):QR C (J4 L):=have ih:=X5 h L
 WH Wh h.L h.G (QH Wh (Gj ih (Zn (JP h) ZU))) [.rnd [.slot 18 (.int .i64)]] (h.T _ _ rfl) (by kernel_rfl) fun _=>rfl
def Wv:Nat→WN→Zg→Nat→(Int×PUnit→Option Int)→Int×PUnit→Option Int:=fun (m:Nat)=>fun x0 x1 L self acc=>bif decide (acc.1 < (↑x1.4.length:Int)) then bT (ZP x1.4 acc.1) fun y=>bT (W9 L m (x0,y,())) fun y=>bif y != 0 then some y else self (Go.IntKind.i64.wrap (acc.1 + 1),()) else some 0
theorem Oc (L m:Nat)(x0:WN)(x1:Zg):W9 L (m + 1) (x0,x1,())=bT (Ql L (x0,x1,())) fun y=>bif y != 0 then some y else Zw (Wv m x0 x1 L) L (0,()):=by kernel_rfl
def UN (L:Nat):Nat→List (Sum tT)
 | 0=>[⟨199,[.row 8],fun _=>.par _ none ((.one (.int .i64):RD).tv tT)⟩]
 | m + 1=>[⟨199,[.row 8],fun x=>.par _ (fnT tF tG (qOf tF (UN L m ++ [])) 0 L Gf [.rnd [.slot 3 (.int .i64),.slot 9 (.int .i64)]] (.one (.int .i64)) (tvL tT [.row 8] x) []) ((.one (.int .i64):RD).tv tT)⟩]
theorem KE {C:Cfg}{L:Nat}(h:St C L):∀ m,∀ s ∈ UN L m,QR C s
 | 0=>(Zn (VP _ _ _) ZU)
 | m + 1=>have ih:=KE h m
  (Zn (WH Wh h.L h.G (QH Wh (Gj ih ZU)) [.rnd [.slot 3 (.int .i64),.slot 9 (.int .i64)]] (h.T _ _ rfl) (by kernel_rfl) fun _=>rfl) ZU)
def VW (L m:Nat)(x:Zg×PUnit):Option (Int):=fnT tF tG (qOf tF (UN L m ++ [])) 0 L Gf [.rnd [.slot 3 (.int .i64),.slot 9 (.int .i64)]] (.one (.int .i64)) (tvL tT [.row 8] x) []
def GL (L:Nat)(x:Zg×PUnit):Option (Int):=VW L L x
def Bf (L:Nat):Sum tT:=⟨199,[.row 8],fun x=>.par ((.one (.int .i64):RD).Ty tT) (GL L x) ((.one (.int .i64):RD).tv tT)⟩
theorem Zc3 {C:Cfg}{L:Nat}(h:St C L):QR C (Bf L):=have ih:=KE h L
 WH Wh h.L h.G (QH Wh (Gj ih ZU)) [.rnd [.slot 3 (.int .i64),.slot 9 (.int .i64)]] (h.T _ _ rfl) (by kernel_rfl) fun _=>rfl
def UD:Nat→Zg→Nat→(Int×Int×PUnit→Option Int)→Int×Int×PUnit→Option Int:=fun (m:Nat)=>fun x0 L self acc=>bif decide (acc.2.1 < (↑x0.4.length:Int)) then bT (ZP x0.4 acc.2.1) fun y=>bT (VW L m (y,())) fun y=>self (if y > acc.1 then y else acc.1,Go.IntKind.i64.wrap (acc.2.1 + 1),()) else some (Go.IntKind.i64.wrap (acc.1 + 1))
theorem Zcq (L m:Nat)(x0:Zg):VW L (m + 1) (x0,())=Zw (UD m x0 L) L (0,0,()):=by kernel_rfl
def UO (L:Nat):Nat→List (Sum tT)
 | 0=>[⟨198,[.row 8],fun _=>.par _ none ((.one (.int .i64):RD).tv tT)⟩]
 | m + 1=>[⟨198,[.row 8],fun x=>.par _ (fnT tF tG (qOf tF (UO L m ++ [])) 0 L Gg [.rnd [.slot 3 (.int .i64),.slot 9 (.int .i64)]] (.one (.int .i64)) (tvL tT [.row 8] x) []) ((.one (.int .i64):RD).tv tT)⟩]
theorem KF {C:Cfg}{L:Nat}(h:St C L):∀ m,∀ s ∈ UO L m,QR C s
 | 0=>(Zn (VP _ _ _) ZU)
 | m + 1=>have ih:=KF h m
  (Zn (WH Wh h.L h.G (QH Wh (Gj ih ZU)) [.rnd [.slot 3 (.int .i64),.slot 9 (.int .i64)]] (h.T _ _ rfl) (by kernel_rfl) fun _=>rfl) ZU)
def VX (L m:Nat)(x:Zg×PUnit):Option (Int):=fnT tF tG (qOf tF (UO L m ++ [])) 0 L Gg [.rnd [.slot 3 (.int .i64),.slot 9 (.int .i64)]] (.one (.int .i64)) (tvL tT [.row 8] x) []
def GM (L:Nat)(x:Zg×PUnit):Option (Int):=VX L L x
def Bg (L:Nat):Sum tT:=⟨198,[.row 8],fun x=>.par ((.one (.int .i64):RD).Ty tT) (GM L x) ((.one (.int .i64):RD).tv tT)⟩
theorem Zc4 {C:Cfg}{L:Nat}(h:St C L):QR C (Bg L):=have ih:=KF h L
 WH Wh h.L h.G (QH Wh (Gj ih ZU)) [.rnd [.slot 3 (.int .i64),.slot 9 (.int .i64)]] (h.T _ _ rfl) (by kernel_rfl) fun _=>rfl
def UE:Nat→Zg→Nat→(Int×Int×PUnit→Option Int)→Int×Int×PUnit→Option Int:=fun (m:Nat)=>fun x0 L self acc=>bif decide (acc.2.1 < (↑x0.4.length:Int)) then bT (ZP x0.4 acc.2.1) fun y=>bT (VX L m (y,())) fun y=>self (Go.IntKind.i64.wrap (acc.1 + y),Go.IntKind.i64.wrap (acc.2.1 + 1),()) else some acc.1
theorem Zcr (L m:Nat)(x0:Zg):VX L (m + 1) (x0,())=Zw (UE m x0 L) L (1,0,()):=by kernel_rfl
def WU (L:Nat)(x:WN×Zg×PUnit):Option Int:=fT [J4 L,Bf L,Bg L] L Jh [] (.one (.int .i64)) [.row 25,.row 8] x
def Jy (L:Nat):Sum tT:=mU 156 [.row 25,.row 8] (.one (.int .i64)) (WU L)
theorem Oi:SX Jy:=fun h=>sT h (Zn (Om h) (Zn (Zc3 h) (Zn (Zc4 h) ZU))) rfl (by kernel_rfl) fun _=>rfl
theorem IZ (L:Nat)(x0:WN)(x1:Zg):WU L (x0,x1,())=bT (GM L (x1,())) fun y=>bif decide (y > 60) then some 6 else bT (GL L (x1,())) fun y=>bif decide (y > 12) then some 11 else bT (QZ L (x0,x1,())) fun y=>some y:=by kernel_rfl
def YU (L:Nat)(x:Zg×PUnit):Option Int:=fT [Jy L] L Ky [] (.one (.int .i64)) [.row 8] x
def KG (L:Nat):Sum tT:=mU 77 [.row 8] (.one (.int .i64)) (YU L)
theorem BK:SX KG:=fun h=>sT h (Zn (Oi h) ZU) rfl (by kernel_rfl) fun _=>rfl
theorem BH (L:Nat)(x0:Zg):YU L (x0,())=bT (WU L (WN.mk true,x0,())) fun y=>some y:=by kernel_rfl
def Xk (L:Nat)(x:Int×PUnit):Option Bool:=fT [] L LZ [] (.one .bool) [.int .i64] x
def JR (L:Nat):Sum tT:=mU 37 [.int .i64] (.one .bool) (Xk L)
theorem G6:SX JR:=fun h=>sT h ZU rfl (by kernel_rfl) fun _=>rfl
theorem Zco (L:Nat)(x0:Int):Xk L (x0,())=some (decide (x0 ≥ 1) && decide (x0≤19)):=by kernel_rfl
def ZB (L:Nat)(x:Zx×PUnit):Option (List Zg):=fT [JR L] L JH [] (.one (.lst 4 (.row 8))) [.row 15] x
def X7 (L:Nat):Sum tT:=mU 41 [.row 15] (.one (.lst 4 (.row 8))) (ZB L)
theorem JQ:SX X7:=fun h=>sT h (Zn (G6 h) ZU) rfl (by kernel_rfl) fun _=>rfl
theorem JM (L:Nat)(x0:Zx):ZB L (x0,())=bT (Xk L (x0.1,())) fun y=>bif !y then some [] else bT (ZP Qb x0.1) fun y=>bif y.5 then bT (apT 56 [] [x0.5]) fun y_1=>bif y.6 then bT (apT 56 y_1 [x0.6]) fun y_2=>bif y.7 then bT (apT 56 y_2 x0.7) fun y=>some y else some y_2 else bif y.7 then bT (apT 56 y_1 x0.7) fun y=>some y else some y_1 else bif y.6 then bT (apT 56 [] [x0.6]) fun y_1=>bif y.7 then bT (apT 56 y_1 x0.7) fun y=>some y else some y_1 else bif y.7 then bT (apT 56 [] x0.7) fun y=>some y else some []:=by kernel_rfl
def Zdu:List (Inl tT):=[⟨52,YI,[.rnd [.slot 8 (.int .i64)]],.one (.int .i64),[]⟩,⟨53,LW,[],.one (.bool),[]⟩]
end Go.Proofs.YtleomfgijkapfaaGreatDoor
end
noncomputable section
namespace Go.Proofs.YtleomfgijkapfaaGreatDoor
open Go Go.Proofs.YtleomfgijkapfaaGreatDoor.Abs Go.Proofs.YtleomfgijkapfaaGreatDoor.Tl
set_option maxRecDepth 100000
set_option maxHeartbeats 0
def Hl (L:Nat)(x:Z9×Int×Int×PUnit):Option (Int×Bool×PUnit):=fI [] L Zdu Ad [] (.tup [.int .i64,.bool]) [.row 19,.int .i64,.int .i64] x
def FB (L:Nat):Sum tT:=mU 22 [.row 19,.int .i64,.int .i64] (.tup [.int .i64,.bool]) (Hl L)
theorem Zha:SX FB:=fun h=>sI h ZU (Zn ⟨h.T _ _ rfl,by kernel_rfl⟩ (Zn ⟨h.T _ _ rfl,by kernel_rfl⟩ ZU)) rfl (by kernel_rfl) fun _=>rfl
def IA:Z9→Int→Int→(Int×PUnit→Option Int)→Int×PUnit→Option Int:=fun x0 x1 x2 self acc=>bif decide (acc.1 < (↑x0.3.length:Int)) then bT (ZP x0.3 acc.1) fun y=>bif y.1 == x1 && y.2 == x2 then some acc.1 else self (Go.IntKind.i64.wrap (acc.1 + 1),()) else some (-1)
theorem ZgN (L:Nat)(x0:Z9)(x1:Int)(x2:Int):Hl L (x0,x1,x2,())=bT (Zw (IA x0 x1 x2) L (0,())) fun y=>bif decide (y < 0) then some (0,false,()) else bT (ZP x0.3 y) fun y=>some (y.3,true,()):=by kernel_rfl
def Ym (L:Nat)(x:(List Int)×(List Int)×PUnit):Option Bool:=fT [] L Xc [.rnd [.slot 13 (.int .i64)]] (.one .bool) [.lst 1 (.int .i64),.lst 1 (.int .i64)] x
def Xj (L:Nat):Sum tT:=mU 197 [.lst 1 (.int .i64),.lst 1 (.int .i64)] (.one .bool) (Ym L)
theorem U1:SX Xj:=fun h=>sT h ZU rfl (by kernel_rfl) fun _=>rfl
def Wp:List Int→List Int→(Int×PUnit→Option Bool)→Int×PUnit→Option Bool:=fun x0 x1 self acc=>bif decide (acc.1 < (↑x0.length:Int)) then bT (ZP x0 acc.1) fun y=>bT (ZP x1 acc.1) fun y_1=>bif y != y_1 then some false else self (Go.IntKind.i64.wrap (acc.1 + 1),()) else some true
theorem Uu (L:Nat)(x0:(List Int))(x1:(List Int)):Ym L (x0,x1,())=bif (↑x0.length:Int) != (↑x1.length:Int) then some false else Zw (Wp x0 x1) L (0,()):=by kernel_rfl
def UW (L:Nat)(x:ZX×ZX×PUnit):Option Bool:=fT [Xj L] L Dy [] (.one .bool) [.row 2,.row 2] x
def SG (L:Nat):Sum tT:=mU 154 [.row 2,.row 2] (.one .bool) (UW L)
theorem Zey:SX SG:=fun h=>sT h (Zn (U1 h) ZU) rfl (by kernel_rfl) fun _=>rfl
theorem ZdV (L:Nat)(x0:ZX)(x1:ZX):UW L (x0,x1,())=bT (bif (x0.1 == x1.1 && x0.2 == x1.2 && x0.3 == x1.3 && x0.4 == x1.4) == true then bT (Ym L (x0.5,x1.5,())) fun y=>some y else some false) fun y=>bT (bif y == true then bT (Ym L (x0.6,x1.6,())) fun y=>some y else some false) fun y=>some y:=by kernel_rfl
def G7 (L:Nat):Nat→List (Sum tT)
 | 0=>[⟨196,[.row 8,.row 8],fun _=>.par _ none ((.one (.bool):RD).tv tT)⟩]
 | m + 1=>[⟨196,[.row 8,.row 8],fun x=>.par _ (fnT tF tG (qOf tF (G7 L m ++ [])) 0 L Ir [.rnd [.slot 38 (.int .i64)]] (.one (.bool)) (tvL tT [.row 8,.row 8] x) []) ((.one (.bool):RD).tv tT)⟩]
theorem G8 {C:Cfg}{L:Nat}(h:St C L):∀ m,∀ s ∈ G7 L m,QR C s
 | 0=>(Zn (VP _ _ _) ZU)
 | m + 1=>have ih:=G8 h m
  (Zn (WH Wh h.L h.G (QH Wh (Gj ih ZU)) [.rnd [.slot 38 (.int .i64)]] (h.T _ _ rfl) (by kernel_rfl) fun _=>rfl) ZU)
def JX (L m:Nat)(x:Zg×Zg×PUnit):Option (Bool):=fnT tF tG (qOf tF (G7 L m ++ [])) 0 L Ir [.rnd [.slot 38 (.int .i64)]] (.one (.bool)) (tvL tT [.row 8,.row 8] x) []
def Ot (L:Nat)(x:Zg×Zg×PUnit):Option (Bool):=JX L L x
def SI (L:Nat):Sum tT:=⟨196,[.row 8,.row 8],fun x=>.par ((.one (.bool):RD).Ty tT) (Ot L x) ((.one (.bool):RD).tv tT)⟩
theorem Ze0 {C:Cfg}{L:Nat}(h:St C L):QR C (SI L):=have ih:=G8 h L
 WH Wh h.L h.G (QH Wh (Gj ih ZU)) [.rnd [.slot 38 (.int .i64)]] (h.T _ _ rfl) (by kernel_rfl) fun _=>rfl
def JK:Nat→Zg→Zg→Nat→(Int×PUnit→Option Bool)→Int×PUnit→Option Bool:=fun (m:Nat)=>fun x0 x1 L self acc=>bif decide (acc.1 < (↑x0.4.length:Int)) then bT (ZP x0.4 acc.1) fun y=>bT (ZP x1.4 acc.1) fun y_1=>bT (bT (JX L m (y,y_1,())) fun y=>some y) fun y=>bif !y then some false else self (Go.IntKind.i64.wrap (acc.1 + 1),()) else some true
theorem NH (L m:Nat)(x0:Zg)(x1:Zg):JX L (m + 1) (x0,x1,())=bif x0.1 != x1.1 || !x0.2 == x1.2 || x0.3 != x1.3 || (↑x0.4.length:Int) != (↑x1.4.length:Int) then some false else Zw (JK m x0 x1 L) L (0,()):=by kernel_rfl
def J6 (L:Nat)(x:Zg×PUnit):Option Bool:=fT [SI L] L Dx [] (.one .bool) [.row 8] x
def SE (L:Nat):Sum tT:=mU 153 [.row 8] (.one .bool) (J6 L)
theorem Zex:SX SE:=fun h=>sT h (Zn (Ze0 h) ZU) rfl (by kernel_rfl) fun _=>rfl
theorem ZdU (L:Nat)(x0:Zg):J6 L (x0,())=bT (Ot L (x0,Zg.mk 0 [] 0 [],())) fun y=>some y:=by kernel_rfl
def JU (L:Nat)(x:Zx×PUnit):Option Bool:=fT [SG L,SE L] L LY [] (.one .bool) [.row 15] x
def Be (L:Nat):Sum tT:=mU 75 [.row 15] (.one .bool) (JU L)
theorem Zc2:SX Be:=fun h=>sT h (Zn (Zey h) (Zn (Zex h) ZU)) rfl (by kernel_rfl) fun _=>rfl
theorem Zcn (L:Nat)(x0:Zx):JU L (x0,())=bT (ZP Qb x0.1) fun y=>bT (bif ((y.2 != 0 || x0.2 == 0) && (y.3 != 0 || x0.3 == 0) && (y.4 || x0.4 == 0)) == true then bif y.5 == false then bT (J6 L (x0.5,())) fun y=>some y else some true else some false) fun y_1=>bT (bif y_1 == true then bif y.6 == false then bT (J6 L (x0.6,())) fun y=>some y else some true else some false) fun y_2=>bT (bif (y_2 && (y.7 || (↑x0.7.length:Int) == 0)) == true then bif y.8 == false then bT (UW L (x0.8,ZX.mk 0 0 0 0 [] [],())) fun y=>some y else some true else some false) fun y_3=>some (y_3 && (y.9 || !x0.9)):=by kernel_rfl
def ZQ (L:Nat)(x:Qj×Zx×PUnit):Option Int:=fT [GI L,Jw L,KG L,X7 L,FB L,Qk L,Be L,JR L] L VG [.rnd [.slot 103 (.int .i64)]] (.one (.int .i64)) [.row 24,.row 15] x
def VK (L:Nat):Sum tT:=mU 35 [.row 24,.row 15] (.one (.int .i64)) (ZQ L)
theorem Hz:SX VK:=fun h=>sT h (Zn (RX h) (Zn (Oh h) (Zn (BK h) (Zn (JQ h) (Zn (Zha h) (Zn (X3 h) (Zn (Zc2 h) (Zn (G6 h) ZU)))))))) rfl (by kernel_rfl) fun _=>rfl
def Yj:Qj→Zx→Nat→JD→List Zg→(Int×PUnit→Option Int)→Int×PUnit→Option Int:=fun x0 x1 L y y_1 self acc=>bif decide (acc.1 < (↑y_1.length:Int)) then bT (ZP y_1 acc.1) fun y=>bT (YU L (y,())) fun y_2=>bif y_2 != 0 then some y_2 else bT (YM L (x0,y,())) fun y=>bif !y then some 2 else self (Go.IntKind.i64.wrap (acc.1 + 1),()) else bif y.8 then bT (Qv L (x1.8,())) fun y=>some y else some 0
def Vh:Qj→Zx→Nat→JD→List Zg→(Int×PUnit→Option Int)→Int×PUnit→Option Int:=fun x0 x1 L y y_1 self acc=>bif decide (acc.1 < (↑y_1.length:Int)) then bT (ZP y_1 acc.1) fun y=>bT (YU L (y,())) fun y_2=>bif y_2 != 0 then some y_2 else bT (YM L (x0,y,())) fun y=>bif !y then some 2 else self (Go.IntKind.i64.wrap (acc.1 + 1),()) else bif y.8 then bT (Qv L (x1.8,())) fun y=>some y else some 0
def Vj:Qj→Zx→Nat→JD→List Zg→(Int×PUnit→Option Int)→Int×PUnit→Option Int:=fun x0 x1 L y y_1 self acc=>bif decide (acc.1 < (↑y_1.length:Int)) then bT (ZP y_1 acc.1) fun y=>bT (YU L (y,())) fun y_2=>bif y_2 != 0 then some y_2 else bT (YM L (x0,y,())) fun y=>bif !y then some 2 else self (Go.IntKind.i64.wrap (acc.1 + 1),()) else bif y.8 then bT (Qv L (x1.8,())) fun y=>some y else some 0
theorem Hy (L:Nat)(x0:Qj)(x1:Zx):ZQ L (x0,x1,())=bT (Xk L (x1.1,())) fun y=>bT (bif (!y) == false then bT (JU L (x1,())) fun y=>some !y else some true) fun y=>bif y then some 1 else bT (ZP Qb x1.1) fun y=>bT (ZA L (x0,y.2,x1.2,0,())) fun y_1=>bif !y_1 && y.2 != 0 then some 2 else bif x1.1 == 14 then bT (Hl L (x0.1,x0.2,x1.2,())) fun y_2=>bif !y_2.2.1 || y_2.1 != x1.4 then some 16 else bT (ZA L (x0,10,x1.3,x1.2,())) fun y_3=>bif !y_3 then some 2 else bT (ZP x0.p.2 x1.2) fun y_4=>bT (ZP y_4.2 x1.3) fun y_5=>bif (↑x1.7.length:Int) != y_5.2 then some 8 else bT (ZB L (x1,())) fun y_6=>Zw (Yj x0 x1 L y y_6) L (0,()) else bif x1.1 == 15 then bT (ZA L (x0,10,x1.3,x0.2,())) fun y_2=>bif !y_2 then some 2 else bT (ZP x0.p.2 x0.2) fun y_3=>bT (ZP y_3.2 x1.3) fun y_4=>bif (↑x1.7.length:Int) != y_4.2 then some 8 else bT (ZB L (x1,())) fun y_5=>Zw (Vh x0 x1 L y y_5) L (0,()) else bT (bif (y.3 != 0) == true then bT (ZA L (x0,y.3,x1.3,0,())) fun y=>some !y else some false) fun y_2=>bif y_2 then some 2 else bT (ZB L (x1,())) fun y_3=>Zw (Vj x0 x1 L y y_3) L (0,()):=by kernel_rfl
def QK (L:Nat)(x:Z9×Int×YO×PUnit):Option Int:=fT [VK L,UT L] L H6 [.rnd [.slot 66 (.int .i64)]] (.one (.int .i64)) [.row 19,.int .i64,.row 16] x
def Il (L:Nat):Sum tT:=mU 14 [.row 19,.int .i64,.row 16] (.one (.int .i64)) (QK L)
theorem EQ:SX Il:=fun h=>sT h (Zn (Hz h) (Zn (TL h) ZU)) rfl (by kernel_rfl) fun _=>rfl
def Xt:Z9→Int→YO→Nat→(Int×PUnit→Option Int)→Int×PUnit→Option Int:=fun x0 x1 x2 L self acc=>bif decide (acc.1 < (↑x2.4.length:Int)) then bT (ZP x2.4 acc.1) fun y=>bT (ZQ L (Qj.mk x0 x1 x2,y,())) fun y=>bif y != 0 then some y else self (Go.IntKind.i64.wrap (acc.1 + 1),()) else bT (ZP x2.4 (Go.IntKind.i64.wrap ((↑x2.4.length:Int) - 1))) fun y=>bif y.1 != 19 && y.1 != 4 then some 8 else some 0
theorem EK (L:Nat)(x0:Z9)(x1:Int)(x2:YO):QK L (x0,x1,x2,())=bif decide (x1 < 0) || decide (x1 ≥ (↑x0.2.length:Int)) then some 2 else bT (X9 L (x2.1,())) fun y=>bif y != 0 then some y else bif decide (x2.2 < 0) || decide (x2.2 > x2.3) || decide (x2.2 > 6) || decide (x2.3 > 16) then some 2 else bif (↑x2.4.length:Int) == 0 then some 7 else bif decide ((↑x2.4.length:Int) > 1000) then some 6 else Zw (Xt x0 x1 x2 L) L (0,()):=by kernel_rfl
end Go.Proofs.YtleomfgijkapfaaGreatDoor
end
noncomputable section
namespace Go.Proofs.YtleomfgijkapfaaGreatDoor
open Go Go.Proofs.YtleomfgijkapfaaGreatDoor.Abs Go.Proofs.YtleomfgijkapfaaGreatDoor.Tl
set_option maxRecDepth 100000
set_option maxHeartbeats 0
def WX (L:Nat)(x:YO×PUnit):Option Bool:=fT [] L OB [.rnd [.slot 3 (.int .i64)]] (.one .bool) [.row 16] x
def UR (L:Nat):Sum tT:=mU 13 [.row 16] (.one .bool) (WX L)
theorem TK:SX UR:=fun h=>sT h ZU rfl (by kernel_rfl) fun _=>rfl
def XY:YO→(Int×PUnit→Option Bool)→Int×PUnit→Option Bool:=fun x0 self acc=>bif decide (acc.1 < (↑x0.4.length:Int)) then bT (ZP x0.4 acc.1) fun y=>bif decide ((↑y.7.length:Int) > 10) then some false else self (Go.IntKind.i64.wrap (acc.1 + 1),()) else some (decide ((↑x0.4.length:Int)≤60))
theorem Zaz (L:Nat)(x0:YO):WX L (x0,())=Zw (XY x0) L (0,()):=by kernel_rfl
def UX (L:Nat)(x:Z9×PUnit):Option Bool:=fT [Oq L,UR L] L D6 [.rnd [.slot 2 .bool,.slot 3 (.int .i64)],.rnd [.slot 2 .bool,.slot 5 (.int .i64)],.rnd [.slot 2 .bool,.slot 6 (.int .i64)]] (.one .bool) [.row 19] x
def SK (L:Nat):Sum tT:=mU 9 [.row 19] (.one .bool) (UX L)
theorem Ze1:SX SK:=fun h=>sT h (Zn (Ze2 h) (Zn (TK h) ZU)) rfl (by kernel_rfl) fun _=>rfl
def Vr:Nat→(Bool×Int×PUnit→Option Bool)→Bool×Int×PUnit→Yi→(Bool×Int×PUnit→Option Bool)→Bool×Int×PUnit→Option Bool:=fun L self acc y self_1 acc_1=>bif decide (acc_1.2.1 < (↑y.Decl.11.length:Int)) then bT (ZP y.Decl.11 acc_1.2.1) fun y=>bT (XU L (y.4,())) fun y=>bif decide (y > 40) then some false else self_1 (acc_1.1,Go.IntKind.i64.wrap (acc_1.2.1 + 1),()) else self (acc_1.1,Go.IntKind.i64.wrap (acc.2.1 + 1),())
def Vs:Z9→Nat→(Bool×Int×PUnit→Option Bool)→Bool×Int×PUnit→Yi→(Bool×Int×PUnit→Option Bool)→Bool×Int×PUnit→Option Bool:=fun x0 L self acc y self_1 acc_1=>bT (ZP x0.2 acc.2.1) fun y_1=>bif decide (acc_1.2.1 < (↑y_1.2.length:Int)) then bT (ZP x0.2 acc.2.1) fun y=>bT (ZP y.2 acc_1.2.1) fun y=>bT (WX L (y,())) fun y=>bif !y then some false else self_1 (acc_1.1,Go.IntKind.i64.wrap (acc_1.2.1 + 1),()) else Zw (Vr L self acc y) L (acc_1.1,0,())
def JL:Z9→Nat→(Bool×Int×PUnit→Option Bool)→Bool×Int×PUnit→Option Bool:=fun x0 L self acc=>bif decide (acc.2.1 < (↑x0.2.length:Int)) then bT (ZP x0.2 acc.2.1) fun y=>bT (ZP x0.2 acc.2.1) fun y_1=>bif decide ((↑y_1.2.length:Int) > 6) || decide ((↑y.Decl.11.length:Int) > 6) || decide (Go.IntKind.i64.wrap (Go.IntKind.i64.wrap (Go.IntKind.i64.wrap (Go.IntKind.i64.wrap (Go.IntKind.i64.wrap (Go.IntKind.i64.wrap ((↑y.Decl.2.length:Int) + (↑y.Decl.3.length:Int)) + (↑y.Decl.4.length:Int)) + (↑y.Decl.6.length:Int)) + (↑y.Decl.7.length:Int)) + (↑y.Decl.12.length:Int)) + (↑y.Decl.13.length:Int)) > 60) then some false else Zw (Vs x0 L self acc y) L (acc.1,0,()) else some (decide ((↑x0.2.length:Int)≤20) && decide ((↑x0.3.length:Int)≤40))
theorem ZdY (L:Nat)(x0:Z9):UX L (x0,())=Zw (JL x0 L) L (false,0,()):=by kernel_rfl
end Go.Proofs.YtleomfgijkapfaaGreatDoor
end
section
namespace Go.Proofs.YtleomfgijkapfaaGreatDoor
open Go Go.Proofs.YtleomfgijkapfaaGreatDoor.Abs Go.Proofs.YtleomfgijkapfaaGreatDoor.Tl
set_option maxRecDepth 100000
theorem Zr {α:Type}(c:Bool)(a b:α):(bif c then some a else some b)=some (bif c then a else b):=by cases c <;> rfl
theorem Zu (c:Bool)(x:Option Bool):(bif c == true then x else some false)=bif c then x else some false:=by cases c <;> rfl
theorem condC (c:Bool)(x:Option Bool):(bif c == false then x else some true)=bif c then some true else x:=by cases c <;> rfl
theorem Zk (c x:Bool):(bif c == true then x else false)=(c && x):=by cases c <;> rfl
theorem Zj (c x:Bool):(bif c == false then x else true)=(c || x):=by cases c <;> rfl
theorem JA {α:Type}(c:Prop)[Decidable c](a b:α):(if c then some a else some b)=some (if c then a else b):=by split <;> rfl
theorem YQ {α:Type}(c:Bool)(a b:α):(bif c then a else b)=if c=true then a else b:=by cases c <;> rfl
theorem Zc {α:Type}(o:Option α):bT o (fun y=>some y)=o:=by cases o <;> rfl
theorem Ya {α:Type}[DecidableEq α](a b:α):(a != b)=!decide (a=b):=by
 by_cases h:a=b <;> simp [bne,h]
theorem Yb (a b:Int):(a == b)=decide (a=b):=by
 by_cases h:a=b <;> simp [h]
theorem Y0 (a b:List UInt8):(a == b)=decide (a=b):=by
 by_cases h:a=b <;> simp [h]
abbrev Len {α:Type}(l:List α):Prop:=l.length≤4611686018427387
theorem Zi6 {τ ρ:Type}{f:(τ→Option ρ)→τ→Option ρ}(n:Nat)(pk:Int→τ)(R:Nat→Option ρ)
  (h1:∀ self (i:Nat),i < n→self (pk ((i:Int) + 1))=R (i + 1)→f self (pk i)=R i)
  (h2:∀ self,f self (pk n)=R n):∀ (m i:Nat),i≤n→n - i < m→Zw f m (pk i)=R i
 | 0,_,_,h=>absurd h (Nat.not_lt_zero _)
 | m + 1,i,hi,hm=>by
  show f (Zw f m) (pk i)=_
  rcases Nat.lt_or_ge i n with hlt | hge
  ·exact h1 _ i hlt (Zi6 n pk R h1 h2 m (i + 1) hlt (by omega))
  ·have:i=n:=by omega
   subst this
   exact h2 _
theorem Znv {τ α σ ρ:Type}{f:(τ→Option ρ)→τ→Option ρ}(l:List α)(pk:σ→Int→τ)(R:List α→σ→Option ρ)
  (h1:∀ self s (i:Nat) x r,l[i]? = some x→i < l.length→x ∈ l→(∀ s',self (pk s' ((i:Int) + 1))=R r s')→f self (pk s i)=R (x :: r) s)
  (h2:∀ self s,f self (pk s (l.length:Nat))=R [] s):∀ (m i:Nat) (s:σ),i≤l.length→l.length - i < m→Zw f m (pk s i)=R (l.drop i) s
 | 0,_,_,_,h=>absurd h (Nat.not_lt_zero _)
 | m + 1,i,s,hi,hm=>by
  show f (Zw f m) (pk s i)=_
  rcases Nat.lt_or_ge i l.length with hlt | hge
  ·have hx:=List.getElem?_eq_getElem hlt
   rw [List.drop_eq_getElem_cons hlt]
   exact h1 _ s i _ _ hx hlt (List.getElem_mem hlt) fun s'=>Znv l pk R h1 h2 m (i + 1) s' hlt (by omega)
  ·have:i=l.length:=by omega
   subst this
   rw [h2,List.drop_length]
theorem ZbU {α ρ:Type}{f:(Int×PUnit→Option ρ)→Int×PUnit→Option ρ}(l:List α)(R:List α→Option ρ){m:Nat}(hm:l.length < m)
  (h1:∀ self (i:Nat) x r,l[i]? = some x→i < l.length→x ∈ l→self ((i:Int) + 1,())=R r→f self ((i:Int),())=R (x :: r))
  (h2:∀ self,f self ((l.length:Int),())=R []):Zw f m (0,())=R l :=
 Znv (σ := Unit) l (fun _ i=>(i,())) (fun l _=>R l) (fun self _ i x r a b c d=>h1 self i x r a b c (d ())) (fun self _=>h2 self) m 0 () (Nat.zero_le _) (by omega)
theorem ZkK {α ρ:Type}{f:(Int×PUnit→Option ρ)→Int×PUnit→Option ρ}(l:List α)(R:List α→Int→Option ρ){m:Nat}(hm:l.length < m)
  (h1:∀ self (i:Nat) x r,l[i]? = some x→i < l.length→x ∈ l→self ((i:Int) + 1,())=R r ((i:Int) + 1)→f self ((i:Int),())=R (x :: r) i)
  (h2:∀ self,f self ((l.length:Int),())=R [] l.length):Zw f m (0,())=R l 0:=by
 have:=Zi6 (f := f) l.length (fun i=>(i,())) (fun i=>R (l.drop i) i) (fun self i hi e=>by
  have hx:=List.getElem?_eq_getElem hi
  rw [List.drop_eq_getElem_cons hi]
  exact h1 self i _ _ hx hi (List.getElem_mem hi) e) (fun self=>by rw [List.drop_length]; exact h2 self) m 0 (Nat.zero_le _) (by omega)
 exact this
theorem Zd1 {α σ ρ:Type}{f:(σ×Int×PUnit→Option ρ)→σ×Int×PUnit→Option ρ}(l:List α)(R:List α→σ→Option ρ){m:Nat}(hm:l.length < m)(s:σ)
  (h1:∀ self s (i:Nat) x r,l[i]? = some x→i < l.length→x ∈ l→(∀ s',self (s',(i:Int) + 1,())=R r s')→f self (s,(i:Int),())=R (x :: r) s)
  (h2:∀ self s,f self (s,(l.length:Int),())=R [] s):Zw f m (s,0,())=R l s :=
 Znv l (fun s i=>(s,i,())) R h1 h2 m 0 s (Nat.zero_le _) (by omega)
theorem Zi8 {α β ρ:Type}{f:(Int×PUnit→Option ρ)→Int×PUnit→Option ρ}(l:List α)(l':List β)(hl:l.length=l'.length)(R:List α→List β→Option ρ){m:Nat}(hm:l.length < m)
  (h1:∀ self (i:Nat) x y r r',l[i]? = some x→l'[i]? = some y→i < l.length→x ∈ l→self ((i:Int) + 1,())=R r r'→f self ((i:Int),())=R (x :: r) (y :: r'))
  (h2:∀ self,f self ((l.length:Int),())=R [] []):Zw f m (0,())=R l l':=by
 have:=Zi6 (f := f) l.length (fun i=>(i,())) (fun i=>R (l.drop i) (l'.drop i)) (fun self i hi e=>by
  have hx:=List.getElem?_eq_getElem hi
  have hy:=List.getElem?_eq_getElem (show i < l'.length by omega)
  rw [List.drop_eq_getElem_cons hi,List.drop_eq_getElem_cons (show i < l'.length by omega)]
  exact h1 self i _ _ _ _ hx hy hi (List.getElem_mem hi) e) (fun self=>by rw [List.drop_length,hl,List.drop_length]; rw [← hl]; exact h2 self) m 0 (Nat.zero_le _) (by omega)
 exact this
end Go.Proofs.YtleomfgijkapfaaGreatDoor
end
section
namespace Go.Proofs.YtleomfgijkapfaaGreatDoor
open Go Go.Proofs.YtleomfgijkapfaaGreatDoor.Abs Go.Proofs.YtleomfgijkapfaaGreatDoor.Tl
set_option maxRecDepth 100000
theorem ZfC (L:Nat)(n:Int):QL L (n,())=some (Zme n):=EL L n
theorem ND (L:Nat)(n:Int):Vx L (n,())=some (Zme n):=Zct L n
theorem chainB (x:List UInt8):∀ l:List (List UInt8),(l.foldr (fun k r=>bif x == k then some true else r) (some false):Option Bool)=some (l.any fun k=>decide (x=k))
 | []=>rfl
 | k :: l=>by
  rw [List.foldr_cons,chainB x l,Y0,List.any_cons]
  cases decide (x=k) <;> rfl
theorem Zja (L:Nat)(s:List UInt8):XA L (s,())=some (kwB s):=(NI L s).trans (chainB s kws)
theorem ZiZ (L:Nat)(l:List (List UInt8))(s:List UInt8)(hl:Len l)(hL:l.length < L):Jd L (l,s,())=some (IK (fun k=>decide (k=s)) l 0):=by
 rw [ZgP]
 refine ZkK l (fun l i=>some (IK (fun k=>decide (k=s)) l i)) hL (fun self i x r hx hi _ e=>?_) (fun self=>?_)
 ·rw [Oe]; simp only [Zi,Zd,cond_true,cond_false,Zf,ZG,Zc,Zu,condC,Zk,Zj,Zr,Yb,Y0,Ya,hi,hx,wrap_succ hi (by omega),e,IK]; simp only [YQ,JA,if_true,if_false,Bool.false_eq_true,ne_eq,decide_not,gt_iff_lt,ge_iff_le]
 ·rw [Oe]; simp only [Zi,Zd,cond_true,cond_false,Zf,ZG,Zc,Zu,condC,Zk,Zj,Zr,Yb,Y0,Ya,IK]
theorem Zch (L:Nat)(s:List UInt8)(hL:100≤L):VU L (s,())=some (kwB s):=by
 rw [Za2,show Vd L ()=some kws from EN L,ZG,ZiZ L kws s (by decide) (by have:kws.length=73:=rfl; omega),ZG]
 have:=PY (fun k=>decide (k=s)) kws 0 (Int.le_refl _)
 rw [show decide (IK (fun k=>decide (k=s)) kws 0 ≥ 0)=_ from this]
 unfold kwB
 congr 2; funext k; exact decide_eq_decide.2 ⟨Eq.symm,Eq.symm⟩
theorem Zf0 (s:List UInt8):V8 s=bif (decide (s=[]) || decide ((s.length:Int) > 24)) || (!Zme ((s.headD 0).toNat)) || kwB s then 3 else bif s.all (fun x=>CG x.toNat) then 0 else 3:=by
 cases s with
 | nil=>simp [V8]
 | cons c r =>
  simp only [V8,List.headD_cons,reduceCtorEq,decide_false,Bool.false_or]
  rw [show (decide ((((c :: r).length:Nat):Int) > 24))=decide (24 < (c :: r).length) from decide_eq_decide.2 (by omega)]
  by_cases h1:24 < (c :: r).length <;> cases Zme (c.toNat:Int) <;> cases kwB (c :: r) <;> cases (c :: r).all (fun x=>CG x.toNat) <;> simp [h1]
theorem Zn3 (c:Bool)(x:UInt8):(!c && (decide ((x.toNat:Int) < 48) || decide ((x.toNat:Int) > 57)) && (!decide ((x.toNat:Int)=95)))=!(c || decide ((x.toNat:Int)=95) || (decide (48≤(x.toNat:Int)) && decide ((x.toNat:Int)≤57))):=by
 rw [show decide (48≤(x.toNat:Int))=!decide ((x.toNat:Int) < 48) by rw [← decide_not]; congr 1; exact propext Int.not_lt.symm,show decide ((x.toNat:Int)≤57)=!decide ((x.toNat:Int) > 57) by rw [← decide_not]; congr 1; exact propext Int.not_lt.symm]
 cases c <;> cases decide ((x.toNat:Int)=95) <;> cases decide ((x.toNat:Int) < 48) <;> cases decide ((x.toNat:Int) > 57) <;> rfl
theorem Zn2 (L:Nat)(s:List UInt8)(h:Len s)(hL:s.length < L):Zw (XZ s L) L (0,())=some (bif s.all (fun x=>CG x.toNat) then 0 else 3):=by
 refine ZbU s (fun s=>some (bif s.all (fun x=>CG x.toNat) then 0 else 3)) hL (fun self i x r hx hi _ e=>?_) (fun self=>?_)
 ·rw [XZ]
  simp only [Zi,Zd,cond_true,cond_false,Zf,ZG,Zc,Zu,condC,Zk,Zj,Zr,Yb,Y0,Ya,hi,hx,ZfC,wrap_succ hi (by omega),e,Ya,Zn3,List.all_cons,CG]
  cases (Zme (x.toNat:Int) || decide ((x.toNat:Int)=95) || (decide (48≤(x.toNat:Int)) && decide ((x.toNat:Int)≤57))) <;> rfl
 ·rw [XZ]; simp only [Zi,Zd,cond_true,cond_false,Zf,ZG,Zc,Zu,condC,Zk,Zj,Zr,Yb,Y0,Ya,List.all_nil]
theorem ZfD (L:Nat)(s:List UInt8)(h:Len s)(hL:s.length < L):X9 L (s,())=some (V8 s):=by
 rw [Za0,Zn2 L s h hL,Zf0,Zma]
 cases s with
 | nil=>rfl
 | cons c r =>
  simp only [Zi,Zd,cond_true,cond_false,Zf,ZG,Zc,Zu,condC,Zk,Zj,Zr,Yb,Y0,Ya,List.getElem?_cons_zero,ZfC,Zja,List.headD_cons,reduceCtorEq,decide_false,Bool.false_or,Bool.or_assoc]
theorem Zl0 (L:Nat)(s:List UInt8)(h:Len s)(hL:s.length < L):Zw (JO s L) L (0,())=some (bif s.all (fun x=>CG x.toNat) then 0 else 3):=by
 refine ZbU s (fun s=>some (bif s.all (fun x=>CG x.toNat) then 0 else 3)) hL (fun self i x r hx hi _ e=>?_) (fun self=>?_)
 ·rw [JO]
  simp only [Zi,Zd,cond_true,cond_false,Zf,ZG,Zc,Zu,condC,Zk,Zj,Zr,Yb,Y0,Ya,hi,hx,ND,wrap_succ hi (by omega),e,Ya,List.all_cons,CG,Zu,condC,Zr]
  rw [show decide (48≤(x.toNat:Int))=!decide ((x.toNat:Int) < 48) by rw [← decide_not]; congr 1; exact propext Int.not_lt.symm,show decide ((x.toNat:Int)≤57)=!decide ((x.toNat:Int) > 57) by rw [← decide_not]; congr 1; exact propext Int.not_lt.symm]
  cases Zme (x.toNat:Int) <;> cases decide ((x.toNat:Int)=95) <;> cases decide ((x.toNat:Int) < 48) <;> cases decide ((x.toNat:Int) > 57) <;> rfl
 ·rw [JO]; simp only [Zi,Zd,cond_true,cond_false,Zf,ZG,Zc,Zu,condC,Zk,Zj,Zr,Yb,Y0,Ya,List.all_nil]
theorem GX (L:Nat)(s:List UInt8)(h:Len s)(hL:s.length < L)(h1:100≤L):Qw L (s,())=some (V8 s):=by
 rw [Zeb,Zl0 L s h hL,Zf0,Zma]
 cases s with
 | nil=>rfl
 | cons c r =>
  have:decide ((((c :: r).length:Nat):Int) < 1)=false:=by simp only [List.length_cons,decide_eq_false_iff_not]; omega
  simp only [Zi,Zd,cond_true,cond_false,Zf,ZG,Zc,Zu,condC,Zk,Zj,Zr,Yb,Y0,Ya,List.getElem?_cons_zero,ND,Zch L _ h1,List.headD_cons,this,reduceCtorEq,decide_false,Bool.false_or,Bool.or_assoc]
theorem Z7 {α:Type}[SizeOf α]:∀ l:List α,l.length < SizeOf.sizeOf l
 | []=>by simp
 | x :: l=>by have:=Z7 l; simp only [List.length_cons,List.cons.sizeOf_spec]; omega
theorem ZlB (d:ZX):SizeOf.sizeOf d.Values < SizeOf.sizeOf d∧SizeOf.sizeOf d.Weights < SizeOf.sizeOf d:=by cases d; simp; omega
theorem Zcf (L:Nat)(a b c:Int):Yw L (a,b,c,())=some (btw a b c):=Za1 L a b c
theorem BV (L:Nat)(lo hi:Int)(l:List Int)(h:Len l)(hL:l.length < L):Yg L (lo,hi,l,())=some (YL lo hi l):=by
 have:=ZkK (f := XX lo hi l) l (fun l i=>some (IK (Zmp lo hi) l i)) hL (fun self i x r hx hi' _ e=>by
  rw [XX]; simp only [Zi,Zd,cond_true,cond_false,Zf,ZG,Zc,Zu,condC,Zk,Zj,Zr,Yb,Y0,Ya,hi',hx,wrap_succ hi' (by omega),e,IK]; simp only [YQ,JA,if_true,if_false,Bool.false_eq_true,ne_eq,decide_not,gt_iff_lt,ge_iff_le]; rfl) (fun self=>by rw [XX]; simp only [Zi,Zd,cond_true,cond_false,Zf,ZG,Zc,Zu,condC,Zk,Zj,Zr,Yb,Y0,Ya,IK])
 have h2:decide (IK (Zmp lo hi) l 0 ≥ 0)=l.any (Zmp lo hi):=PY (Zmp lo hi) l 0 (Int.le_refl _)
 simp only [Zax,this,ZG,h2,YL]
theorem Zjh (L:Nat)(h:2 < L)(lo hi a:Int):Yg L (lo,hi,[a],())=some (YL lo hi [a]):=BV L lo hi [a] (by simp [Len]) (by simp; omega)
theorem Zji (L:Nat)(h:2 < L)(lo hi a b:Int):Yg L (lo,hi,[a,b],())=some (YL lo hi [a,b]):=BV L lo hi [a,b] (by simp [Len]) (by simpa using h)
theorem Zls (L:Nat)(d:ZX)(h:QE d):VT L (d,())=some (Uh d):=by
 simp only [Zi,Zd,cond_true,cond_false,Zf,ZG,Zc,Zu,condC,Zk,Zj,Zr,Yb,Y0,Ya,Zaw,h.wr,Uh]; simp only [YQ,JA,if_true,if_false,Bool.false_eq_true,ne_eq,decide_not,gt_iff_lt,ge_iff_le]
theorem NC (L:Nat)(d:ZX)(h:QE d)(hL:SizeOf.sizeOf d < L)(h1:100≤L):Qv L (d,())=some (XJ d):=by
 have hs:d.Values.length < L∧d.Weights.length < L:=by
  have:=Z7 d.Values; have:=Z7 d.Weights; have:=ZlB d; omega
 simp only [Zi,Zd,cond_true,cond_false,Zf,ZG,Zc,Zu,condC,Zk,Zj,Zr,Yb,Y0,Ya,Zcp,Zls L d h,XJ,BV L _ _ _ h.v hs.1,BV L _ _ _ h.w hs.2,Zjh L (by omega),Zji L (by omega)]
 simp only [YQ,JA,if_true,if_false,Bool.false_eq_true,ne_eq,decide_not,gt_iff_lt,ge_iff_le]
theorem ZdK (L:Nat)(d:ZX):JV L (d,())=some (Ea d):=by
 simp only [Zi,Zd,cond_true,cond_false,Zf,ZG,Zc,Zu,condC,Zk,Zj,Zr,Yb,Y0,Ya,Zcs,Ea]; simp only [YQ,JA,if_true,if_false,Bool.false_eq_true,ne_eq,decide_not,gt_iff_lt,ge_iff_le]
theorem ZnY (L:Nat)(d:ZX)(h:QE d)(hL:SizeOf.sizeOf d < L):UY L (d,())=some (ZfY d):=by
 have hs:d.Values.length < L∧d.Weights.length < L:=by
  have:=Z7 d.Values; have:=Z7 d.Weights; have:=ZlB d; omega
 rw [Zea,ZfY]
 by_cases hl:d.Values.length=d.Weights.length
 ·rw [Zi8 d.Values d.Weights hl (fun l m=>some (Zm0 l m)) hs.1 (fun self i x y r r' hx hy hi _ e=>by
   have hv:=h.v
   rw [Gt]; simp only [Zi,Zd,cond_true,cond_false,Zf,ZG,Zc,Zu,condC,Zk,Zj,Zr,Yb,Y0,Ya,hi,hx,hy,Zcf,wrap_succ hi (by omega),e,Zm0]; simp only [YQ,JA,if_true,if_false,Bool.false_eq_true,ne_eq,decide_not,gt_iff_lt,ge_iff_le]) (fun self=>by rw [Gt]; simp only [Zi,Zd,cond_true,cond_false,Zf,ZG,Zc,Zu,condC,Zk,Zj,Zr,Yb,Y0,Ya,Zm0])]
  simp only [Zi,Zd,cond_true,cond_false,Zf,ZG,Zc,Zu,condC,Zk,Zj,Zr,Yb,Y0,Ya]; simp only [YQ,JA,if_true,if_false,Bool.false_eq_true,ne_eq,decide_not,gt_iff_lt,ge_iff_le]
 ·simp only [YQ,JA,if_true,if_false,Bool.false_eq_true,ne_eq,decide_not,gt_iff_lt,ge_iff_le,Yb,Ya,Bool.not_false,show decide ((d.Values.length:Int)=d.Weights.length)=false by simp only [decide_eq_false_iff_not]; omega]
theorem Lp (L:Nat)(d:ZX)(h:QE d)(hL:SizeOf.sizeOf d < L):XT L (d,())=some (XJ d):=by
 rw [← CQ]
 simp only [Zi,Zd,cond_true,cond_false,Zf,ZG,Zc,Zu,condC,Zk,Zj,Zr,Yb,Y0,Ya,ZdZ,ZdK,Zkp,Zcf,ZnY L d h hL]; simp only [YQ,JA,if_true,if_false,Bool.false_eq_true,ne_eq,decide_not,gt_iff_lt,ge_iff_le]
end Go.Proofs.YtleomfgijkapfaaGreatDoor
end
section
namespace Go.Proofs.YtleomfgijkapfaaGreatDoor
open Go Go.Proofs.YtleomfgijkapfaaGreatDoor.Abs Go.Proofs.YtleomfgijkapfaaGreatDoor.Tl
set_option maxRecDepth 100000
theorem Zj5 (e:Zg):SizeOf.sizeOf e.Kids < SizeOf.sizeOf e∧SizeOf.sizeOf e.Name < SizeOf.sizeOf e:=by cases e; simp; omega
theorem ZL.nl {e:Zg}(h:ZL e):Len e.Name:=by have:=h.n; unfold Len; omega
theorem Zcj (L:Nat):∀ (m:Nat) (e:Zg),ZL e→SizeOf.sizeOf e≤m→m≤L→VX L m (e,())=some (ZhP e)
 | 0,e,h,hs,_=>absurd hs (by have:=Ik e; omega)
 | m + 1,e,h,hs,hm=>by
  have hk:=Z7 e.Kids; have hz:=Zj5 e; have hl:=h.k
  rw [Zcr,ZhQ]
  refine Zd1 e.Kids (fun l s=>some (sumW ZhP l s)) (by omega) 1 (fun self s i x r hx hi mem e'=>?_) (fun self s=>?_)
  ·have ih:=Zcj L m x (h.Kids.2 x mem) (by have:=OZ mem; omega) (by omega)
   rw [UE]; simp only [Zi,Zd,cond_true,cond_false,Zf,ZG,Zc,Zu,condC,Zk,Zj,Zr,Yb,Y0,Ya,hi,hx,ih,wrap_succ hi (by omega),e',sumW]
  ·rw [UE]; simp only [Zi,Zd,cond_true,cond_false,Zf,ZG,Zc,Zu,condC,Zk,Zj,Zr,Yb,Y0,Ya,sumW]
theorem Zcl (L:Nat):∀ (m:Nat) (e:Zg),ZL e→SizeOf.sizeOf e≤m→m≤L→JZ L m (e,())=some (ZhP e)
 | 0,e,h,hs,_=>absurd hs (by have:=Ik e; omega)
 | m + 1,e,h,hs,hm=>by
  have hk:=Z7 e.Kids; have hz:=Zj5 e; have hl:=h.k
  rw [Zef,ZhQ]
  refine Zd1 e.Kids (fun l s=>some (sumW ZhP l s)) (by omega) 1 (fun self s i x r hx hi mem e'=>?_) (fun self s=>?_)
  ·have ih:=Zcl L m x (h.Kids.2 x mem) (by have:=OZ mem; omega) (by omega)
   rw [Gv]; simp only [Zi,Zd,cond_true,cond_false,Zf,ZG,Zc,Zu,condC,Zk,Zj,Zr,Yb,Y0,Ya,hi,hx,ih,wrap_succ hi (by omega),e',sumW]
  ·rw [Gv]; simp only [Zi,Zd,cond_true,cond_false,Zf,ZG,Zc,Zu,condC,Zk,Zj,Zr,Yb,Y0,Ya,sumW]
theorem Zci (L:Nat):∀ (m:Nat) (e:Zg),ZL e→SizeOf.sizeOf e≤m→m≤L→VW L m (e,())=some (Zhq e)
 | 0,e,h,hs,_=>absurd hs (by have:=Ik e; omega)
 | m + 1,e,h,hs,hm=>by
  have hk:=Z7 e.Kids; have hz:=Zj5 e; have hl:=h.k
  rw [Zcq,ZhU]
  refine Zd1 e.Kids (fun l s=>some (IntKind.i64.wrap (ZkM Zhq l s + 1))) (by omega) 0 (fun self s i x r hx hi mem e'=>?_) (fun self s=>?_)
  ·have ih:=Zci L m x (h.Kids.2 x mem) (by have:=OZ mem; omega) (by omega)
   rw [UD]; simp only [Zi,Zd,cond_true,cond_false,Zf,ZG,Zc,Zu,condC,Zk,Zj,Zr,Yb,Y0,Ya,hi,hx,ih,wrap_succ hi (by omega),e',ZkM]
  ·rw [UD]; simp only [Zi,Zd,cond_true,cond_false,Zf,ZG,Zc,Zu,condC,Zk,Zj,Zr,Yb,Y0,Ya,ZkM]
theorem Zck (L:Nat):∀ (m:Nat) (e:Zg),ZL e→SizeOf.sizeOf e≤m→m≤L→JY L m (e,())=some (Zhq e)
 | 0,e,h,hs,_=>absurd hs (by have:=Ik e; omega)
 | m + 1,e,h,hs,hm=>by
  have hk:=Z7 e.Kids; have hz:=Zj5 e; have hl:=h.k
  rw [Zee,ZhU]
  refine Zd1 e.Kids (fun l s=>some (IntKind.i64.wrap (ZkM Zhq l s + 1))) (by omega) 0 (fun self s i x r hx hi mem e'=>?_) (fun self s=>?_)
  ·have ih:=Zck L m x (h.Kids.2 x mem) (by have:=OZ mem; omega) (by omega)
   rw [Gu]; simp only [Zi,Zd,cond_true,cond_false,Zf,ZG,Zc,Zu,condC,Zk,Zj,Zr,Yb,Y0,Ya,hi,hx,ih,wrap_succ hi (by omega),e',ZkM]
  ·rw [Gu]; simp only [Zi,Zd,cond_true,cond_false,Zf,ZG,Zc,Zu,condC,Zk,Zj,Zr,Yb,Y0,Ya,ZkM]
theorem ZfE (L:Nat)(n:Int):X8 L (n,())=some (ZjL n):=Zay L n
theorem Zmq (L:Nat)(n:Int):J7 L (n,())=some (Zdy n):=by
 simp only [Zi,Zd,cond_true,cond_false,Zf,ZG,Zc,Zu,condC,Zk,Zj,Zr,Yb,Y0,Ya,ZdX,Zdy]; simp only [YQ,JA,if_true,if_false,Bool.false_eq_true,ne_eq,decide_not,gt_iff_lt,ge_iff_le]
theorem ZnW (L:Nat)(k:WN)(n:Int):WV L (k,n,())=some (Nj k.1 n):=by
 simp only [Zi,Zd,cond_true,cond_false,Zf,ZG,Zc,Zu,condC,Zk,Zj,Zr,Yb,Y0,Ya,Oa,Zmq,Nj]; simp only [YQ,JA,if_true,if_false,Bool.false_eq_true,ne_eq,decide_not,gt_iff_lt,ge_iff_le]
theorem ZnX (L:Nat)(k:WN)(n:Int):YN L (k,n,())=some (AZ k.1 n):=by
 simp only [Zi,Zd,cond_true,cond_false,Zf,ZG,Zc,Zu,condC,Zk,Zj,Zr,Yb,Y0,Ya,Ob,ZfE,AZ]
theorem Zje (L:Nat)(k:WN)(n:Int):Wi L (k,n,())=some ((ZkU k.1 n).1,(ZkU k.1 n).2.1,(ZkU k.1 n).2.2,()):=by
 simp only [Zi,Zd,cond_true,cond_false,Zf,ZG,Zc,Zu,condC,Zk,Zj,Zr,Yb,Y0,Ya,Gs,ZfE,ZkU]
 cases decide (n=2) <;> cases decide (n=25) <;> cases decide (n=26) <;> cases ZjL n <;> cases k.1 <;> rfl
theorem ZrY (L:Nat)(n:Int):Dj L (n,())=some (inB n):=Zlw L n
theorem ZpV (L:Nat)(k:WN)(e:Zg)(h:ZL e)(hL:SizeOf.sizeOf e≤L):Ql L (k,e,())=some (Nq k.1 e):=by
 have hn:=ZfD L e.Name h.nl (by have:=Z7 e.Name; have:=Zj5 e; omega)
 simp only [Zi,Zd,cond_true,cond_false,Zf,ZG,Zc,Zu,condC,Zk,Zj,Zr,Yb,Y0,Ya,Tv,ZnW,Zmq,ZnX,Zje,ZrY,hn,Nq]; simp only [YQ,JA,if_true,if_false,Bool.false_eq_true,ne_eq,decide_not,gt_iff_lt,ge_iff_le,Bool.or_assoc]
theorem ZfI (L:Nat)(k:WN):∀ (m:Nat) (e:Zg),ZL e→SizeOf.sizeOf e≤m→m≤L→W9 L m (k,e,())=some (Qc k.1 e)
 | 0,e,h,hs,_=>absurd hs (by have:=Ik e; omega)
 | m + 1,e,h,hs,hm=>by
  have hk:=Z7 e.Kids; have hz:=Zj5 e; have hl:=h.k
  have lp:Zw (Wv m k e L) L (0,())=some (Xg (Qc k.1) e.Kids):=by
   refine ZbU e.Kids (fun l=>some (Xg (Qc k.1) l)) (by omega) (fun self i x r hx hi mem e'=>?_) (fun self=>?_)
   ·have ih:=ZfI L k m x (h.Kids.2 x mem) (by have:=OZ mem; omega) (by omega)
    rw [Wv]; simp only [Zi,Zd,cond_true,cond_false,Zf,ZG,Zc,Zu,condC,Zk,Zj,Zr,Yb,Y0,Ya,hi,hx,ih,wrap_succ hi (by omega),e',Xg]; simp only [YQ,JA,if_true,if_false,Bool.false_eq_true,ne_eq,decide_not,gt_iff_lt,ge_iff_le]
   ·rw [Wv]; simp only [Zi,Zd,cond_true,cond_false,Zf,ZG,Zc,Zu,condC,Zk,Zj,Zr,Yb,Y0,Ya,Xg]
  rw [Oc,ZbZ,lp,ZpV L k e h (by omega)]
  simp only [Zi,Zd,cond_true,cond_false,Zf,ZG,Zc,Zu,condC,Zk,Zj,Zr,Yb,Y0,Ya]; simp only [YQ,JA,if_true,if_false,Bool.false_eq_true,ne_eq,decide_not,gt_iff_lt,ge_iff_le]
theorem Zlq (L:Nat)(k:WN)(e:Zg)(h:ZL e)(hL:SizeOf.sizeOf e≤L):WU L (k,e,())=some (WC k.1 e):=by
 simp only [Zi,Zd,cond_true,cond_false,Zf,ZG,Zc,Zu,condC,Zk,Zj,Zr,Yb,Y0,Ya,IZ,show GM L (e,())=_ from Zcj L L e h hL (Nat.le_refl _),show GL L (e,())=_ from Zci L L e h hL (Nat.le_refl _),show QZ L (k,e,())=_ from ZfI L k L e h hL (Nat.le_refl _),WC]; simp only [YQ,JA,if_true,if_false,Bool.false_eq_true,ne_eq,decide_not,gt_iff_lt,ge_iff_le]
theorem ZdI (L:Nat)(e:Zg)(h:ZL e)(hL:SizeOf.sizeOf e≤L):YU L (e,())=some (WC true e):=by
 simp only [Zi,Zd,cond_true,cond_false,Zf,ZG,Zc,Zu,condC,Zk,Zj,Zr,Yb,Y0,Ya,BH,Zlq L _ e h hL]
theorem ZpW (L:Nat)(n:Int):Me L (n,())=some (inB n):=Zlx L n
theorem Zjf (L:Nat)(n:Int):Vy L (n,())=some (ZjL n):=Zcu L n
theorem ZnP (L:Nat)(n:Int):UZ L (n,())=some (Px n):=by
 simp only [Zi,Zd,cond_true,cond_false,Zf,ZG,Zc,Zu,condC,Zk,Zj,Zr,Yb,Y0,Ya,Zec,Px]; simp only [YQ,JA,if_true,if_false,Bool.false_eq_true,ne_eq,decide_not,gt_iff_lt,ge_iff_le]
theorem ZpU (L:Nat)(n:Int):Hm L (n,())=some (ZkP n):=by
 simp only [Zi,Zd,cond_true,cond_false,Zf,ZG,Zc,Zu,condC,Zk,Zj,Zr,Yb,Y0,Ya,ZgR,ZkP]; simp only [YQ,JA,if_true,if_false,Bool.false_eq_true,ne_eq,decide_not,gt_iff_lt,ge_iff_le]
theorem ZoU (a b d:Bool)(n r:Int):(if a=true then 1 else if b=true then 2 else if (d && !decide (n=0))=true then n else r) =
  if (!decide ((if a=true then 1 else if b=true then 2 else if (d && !decide (n=0))=true then n else 0)=0))=true then (if a=true then 1 else if b=true then 2 else if (d && !decide (n=0))=true then n else 0) else r:=by
 cases a <;> cases b <;> cases d <;> by_cases h:n=0 <;> simp [h]
theorem ZfK (L:Nat)(c:Bool)(h1:100≤L):∀ (m:Nat) (e:Zg),ZL e→SizeOf.sizeOf e≤m→m≤L→Ku L m (e,c,())=some (Qc c e)
 | 0,e,h,hs,_=>absurd hs (by have:=Ik e; omega)
 | m + 1,e,h,hs,hm=>by
  have hk:=Z7 e.Kids; have hz:=Zj5 e; have hl:=h.k
  have lp:Zw (UI m e c L) L (0,())=some (Xg (Qc c) e.Kids):=by
   refine ZbU e.Kids (fun l=>some (Xg (Qc c) l)) (by omega) (fun self i x r hx hi mem e'=>?_) (fun self=>?_)
   ·have ih:=ZfK L c h1 m x (h.Kids.2 x mem) (by have:=OZ mem; omega) (by omega)
    rw [UI]; simp only [Zi,Zd,cond_true,cond_false,Zf,ZG,Zc,Zu,condC,Zk,Zj,Zr,Yb,Y0,Ya,hi,hx,ih,wrap_succ hi (by omega),e',Xg]; simp only [YQ,JA,if_true,if_false,Bool.false_eq_true,ne_eq,decide_not,gt_iff_lt,ge_iff_le]
   ·rw [UI]; simp only [Zi,Zd,cond_true,cond_false,Zf,ZG,Zc,Zu,condC,Zk,Zj,Zr,Yb,Y0,Ya,Xg]
  have hn:=GX L e.Name h.nl (by have:=Z7 e.Name; omega) h1
  rw [← ZiJ]
  simp only [Zi,Zd,cond_true,cond_false,Zf,ZG,Zc,Zu,condC,Zk,Zj,Zr,Yb,Y0,Ya,ZgS,lp,ZnP,Zjf,ZpW,ZpU,hn,Zg8]; simp only [YQ,JA,if_true,if_false,Bool.false_eq_true,ne_eq,decide_not,gt_iff_lt,ge_iff_le,Bool.or_assoc]
  exact congrArg some (ZoU _ _ _ _ _)
theorem Zlr (L:Nat)(c:Bool)(h1:100≤L)(e:Zg)(h:ZL e)(hL:SizeOf.sizeOf e≤L):Ko L (e,c,())=some (WC c e):=by
 simp only [Zi,Zd,cond_true,cond_false,Zf,ZG,Zc,Zu,condC,Zk,Zj,Zr,Yb,Y0,Ya,Zeg,show Ov L (e,())=_ from Zcl L L e h hL (Nat.le_refl _),show Ou L (e,())=_ from Zck L L e h hL (Nat.le_refl _),show LP L (e,c,())=_ from ZfK L c h1 L e h hL (Nat.le_refl _),WC]; simp only [YQ,JA,if_true,if_false,Bool.false_eq_true,ne_eq,decide_not,gt_iff_lt,ge_iff_le]
theorem Zaq (L:Nat)(h1:100≤L)(e:Zg)(h:ZL e)(hL:SizeOf.sizeOf e≤L):Yx L (e,())=some (WC false e):=by
 simp only [Zi,Zd,cond_true,cond_false,Zf,ZG,Zc,Zu,condC,Zk,Zj,Zr,Yb,Y0,Ya,Zed,Zlr L _ h1 e h hL]
theorem ZfA (L:Nat)(a b:List Int)(h:Len a)(hL:a.length < L):Ym L (a,b,())=some (decide (a=b)):=by
 rw [Uu]
 by_cases hl:a.length=b.length
 ·rw [Zi8 a b hl (fun l m=>some (decide (l=m))) hL (fun self i x y r r' hx hy hi _ e=>by
   rw [Wp]; simp only [Zi,Zd,cond_true,cond_false,Zf,ZG,Zc,Zu,condC,Zk,Zj,Zr,Yb,Y0,Ya,hi,hx,hy,wrap_succ hi (by omega),e,List.cons.injEq,Bool.decide_and]; cases decide (x=y) <;> rfl) (fun self=>by rw [Wp]; simp only [Zi,Zd,cond_true,cond_false,Zf,ZG,Zc,Zu,condC,Zk,Zj,Zr,Yb,Y0,Ya,decide_true])]
  rw [Ya,show decide ((a.length:Int)=b.length)=true by simp only [decide_eq_true_eq]; omega]; rfl
 ·rw [Ya,show decide ((a.length:Int)=b.length)=false by simp only [decide_eq_false_iff_not]; omega]
  have:a≠b:=fun e=>hl (by rw [e])
  simp [this]
theorem Fg (L:Nat)(a b:List Int)(h:Len a)(hL:a.length < L):QM L (a,b,())=some (decide (a=b)):=by
 rw [EM]
 by_cases hl:a.length=b.length
 ·rw [Zi8 a b hl (fun l m=>some (decide (l=m))) hL (fun self i x y r r' hx hy hi _ e=>by
   rw [Jr]; simp only [Zi,Zd,cond_true,cond_false,Zf,ZG,Zc,Zu,condC,Zk,Zj,Zr,Yb,Y0,Ya,hi,hx,hy,wrap_succ hi (by omega),e,List.cons.injEq,Bool.decide_and]; cases decide (x=y) <;> rfl) (fun self=>by rw [Jr]; simp only [Zi,Zd,cond_true,cond_false,Zf,ZG,Zc,Zu,condC,Zk,Zj,Zr,Yb,Y0,Ya,decide_true])]
  rw [Ya,show decide ((a.length:Int)=b.length)=true by simp only [decide_eq_true_eq]; omega]; rfl
 ·rw [Ya,show decide ((a.length:Int)=b.length)=false by simp only [decide_eq_false_iff_not]; omega]
  have:a≠b:=fun e=>hl (by rw [e])
  simp [this]
theorem ZnS (L:Nat)(a b:ZX)(h:QE a)(hL:SizeOf.sizeOf a≤L):UW L (a,b,())=some (Zb9 a b):=by
 have h1:=Z7 a.Values; have h2:=Z7 a.Weights; have h3:=ZlB a
 simp only [Zi,Zd,cond_true,cond_false,Zf,ZG,Zc,Zu,condC,Zk,Zj,Zr,Yb,Y0,Ya,ZdV,ZfA L a.Values _ h.v (by omega),ZfA L a.Weights _ h.w (by omega),Zb9]
theorem BU (L:Nat)(a b:ZX)(h:QE a)(hL:SizeOf.sizeOf a≤L):Xl L (a,b,())=some (Zb9 a b):=by
 have h1:=Z7 a.Values; have h2:=Z7 a.Weights; have h3:=ZlB a
 simp only [Zi,Zd,cond_true,cond_false,Zf,ZG,Zc,Zu,condC,Zk,Zj,Zr,Yb,Y0,Ya,ZgO,Fg L a.Values _ h.v (by omega),Fg L a.Weights _ h.w (by omega),Zb9]
theorem ZrE {α β:Type}(a:List α)(b:List β):(a.length=b.length∧decide ((a.length:Int)=(b.length:Int))=true)∨(a.length≠b.length∧decide ((a.length:Int)=(b.length:Int))=false):=by
 by_cases h:a.length=b.length
 ·exact .inl ⟨h,by simp only [decide_eq_true_eq]; omega⟩
 ·exact .inr ⟨h,by simp only [decide_eq_false_iff_not]; omega⟩
theorem ZfH (L:Nat):∀ (m:Nat) (a b:Zg),ZL a→SizeOf.sizeOf a≤m→m≤L→JX L m (a,b,())=some (KT a b)
 | 0,e,_,h,hs,_=>absurd hs (by have:=Ik e; omega)
 | m + 1,e,b,h,hs,hm=>by
  have hk:=Z7 e.Kids; have hz:=Zj5 e; have hl:=h.k
  rw [Dh]
  rcases ZrE e.Kids b.Kids with ⟨hl1,hl2⟩ | ⟨hl1,hl2⟩
  ·have lp:Zw (JK m e b L) L (0,())=some (all2 KT e.Kids b.Kids):=by
    refine Zi8 e.Kids b.Kids hl1 (fun l l'=>some (all2 KT l l')) (by omega) (fun self i x y r r' hx hy hi mem e'=>?_) (fun self=>?_)
    ·have ih:=ZfH L m x y (h.Kids.2 x mem) (by have:=OZ mem; omega) (by omega)
     rw [JK]; simp only [Zi,Zd,cond_true,cond_false,Zf,ZG,Zc,Zu,condC,Zk,Zj,Zr,Yb,Y0,Ya,hi,hx,hy,ih,wrap_succ hi (by omega),e',all2]; simp only [YQ,JA,if_true,if_false,Bool.false_eq_true,ne_eq,decide_not,gt_iff_lt,ge_iff_le]
    ·rw [JK]; simp only [Zi,Zd,cond_true,cond_false,Zf,ZG,Zc,Zu,condC,Zk,Zj,Zr,Yb,Y0,Ya,all2]
   simp only [Zi,Zd,cond_true,cond_false,Zf,ZG,Zc,Zu,condC,Zk,Zj,Zr,Yb,Y0,Ya,NH,lp,ZbP,hl2]; simp only [YQ,JA,if_true,if_false,Bool.false_eq_true,ne_eq,decide_not,gt_iff_lt,ge_iff_le,hl2]
  ·simp only [Zi,Zd,cond_true,cond_false,Zf,ZG,Zc,Zu,condC,Zk,Zj,Zr,Yb,Y0,Ya,NH,ZbP,hl2,Bool.not_false,Bool.or_true]; simp only [YQ,JA,if_true,if_false,Bool.false_eq_true,ne_eq,decide_not,gt_iff_lt,ge_iff_le,hl2,Bool.not_false,Bool.or_true]
theorem ZnU (L:Nat)(a b:Zg)(h:ZL a)(hL:SizeOf.sizeOf a≤L):Ot L (a,b,())=some (KT a b):=ZfH L L a b h hL (Nat.le_refl _)
end Go.Proofs.YtleomfgijkapfaaGreatDoor
end
