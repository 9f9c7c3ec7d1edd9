import Derived.Test.YtgjcjbhhhlelnaaGreatDoorHCu12
set_option linter.all false
noncomputable section
namespace Go.Proofs.YtgjcjbhhhlelnaaGreatDoor
open Go Go.Proofs.YtgjcjbhhhlelnaaGreatDoor.Abs Go.Proofs.YtgjcjbhhhlelnaaGreatDoor.Tl
set_option maxRecDepth 100000
set_option maxHeartbeats 0
def ZeR:List (Inl tT):=[⟨184,QN,[],.one (.bool),[]⟩,⟨200,X3,[.rnd [.slot 8 (.int .i64)]],.one (.int .i64),[]⟩,⟨185,LZ,[],.one (.bool),[]⟩]
def YG (L:Nat)(x:Int×Int×(List Int)×PUnit):Option Bool:=fI [] L ZeR Ez [] (.one .bool) [.int .i64,.int .i64,.lst 1 (.int .i64)] x
def Ff (L:Nat):Sum tT:=mU 153 [.int .i64,.int .i64,.lst 1 (.int .i64)] (.one .bool) (YG L)
theorem ZhG:SX Ff:=fun h=>sI h Zq (Zb ⟨h.T _ _ rfl,by kernel_rfl⟩ (Zb ⟨h.T _ _ rfl,by kernel_rfl⟩ (Zb ⟨h.T _ _ rfl,by kernel_rfl⟩ Zq))) rfl (by kernel_rfl) fun _=>rfl
def Uk:Int→Int→List Int→(Int×PUnit→Option Int)→Int×PUnit→Option Int:=fun x0 x1 x2 self acc=>bif decide (acc.1 < (↑x2.length:Int)) then bT (ZJ x2 acc.1) fun y=>bif decide (y < x0) || decide (y > x1) then some acc.1 else self (Go.IntKind.i64.wrap (acc.1 + 1),()) else some (-1)
theorem Zhv (L:Nat)(x0:Int)(x1:Int)(x2:(List Int)):YG L (x0,x1,x2,())=bT (bT (Zp (Uk x0 x1 x2) L (0,())) fun y=>some (decide (y ≥ 0))) fun y=>some !y:=by kernel_rfl
def Gj (L:Nat)(x:We×PUnit):Option Bool:=fT [] L Ey [] (.one .bool) [.row 2] x
def Fe (L:Nat):Sum tT:=mU 152 [.row 2] (.one .bool) (Gj L)
theorem ZhF:SX Fe:=fun h=>sT h Zq rfl (by kernel_rfl) fun _=>rfl
theorem Zhu (L:Nat)(x0:We):Gj L (x0,())=bif x0.1 == 1 then some (Go.IntKind.i64.wrap ((↑x0.5.length:Int) + (↑x0.6.length:Int)) == 0 && x0.3 == 0 && x0.4 == 0) else bif x0.1 == 2 then some (Go.IntKind.i64.wrap ((↑x0.5.length:Int) + (↑x0.6.length:Int)) == 0 && x0.4 == 0) else bif x0.1 == 5 then some (Go.IntKind.i64.wrap ((↑x0.5.length:Int) + (↑x0.6.length:Int)) == 0 && x0.4 == 0) else bif x0.1 == 4 then some (Go.IntKind.i64.wrap ((↑x0.5.length:Int) + (↑x0.6.length:Int)) == 0) else bif x0.1 == 3 then some (x0.2 == 0 && x0.3 == 0 && x0.4 == 0) else some false:=by kernel_rfl
def QB (L:Nat)(x:We×PUnit):Option Int:=fT [Ff L,Fe L] L Za1 [] (.one (.int .i64)) [.row 2] x
def I5 (L:Nat):Sum tT:=mU 112 [.row 2] (.one (.int .i64)) (QB L)
theorem Bo:SX I5:=fun h=>sT h (Zb (ZhG h) (Zb (ZhF h) Zq)) rfl (by kernel_rfl) fun _=>rfl
theorem Zjq (L:Nat)(x0:We):QB L (x0,())=bT (Gj L (x0,())) fun y=>bif !y then some 1 else bif x0.1 == 1 then bT (YG L (0,1000000000,[x0.2],())) fun y=>bif !y then some 2 else some 0 else bif x0.1 == 2 then bT (YG L (0,1000000000,[x0.2,x0.3],())) fun y=>bif !(y && decide (x0.2≤x0.3)) then some 2 else some 0 else bif x0.1 == 4 then bT (YG L (1,20,[x0.4],())) fun y=>bT (bif y == true then bT (YG L (0,1000000,[x0.2,x0.3],())) fun y=>some y else some false) fun y=>bif !(y && decide (x0.2≤x0.3)) then some 2 else some 0 else bif x0.1 == 5 then bT (YG L (1,1000,[x0.2,x0.3],())) fun y=>bif !y then some 2 else some 0 else bif x0.1 == 3 then bif (↑x0.5.length:Int) != (↑x0.6.length:Int) then some 8 else bif (↑x0.5.length:Int) == 0 then some 7 else bif decide ((↑x0.5.length:Int) > 20) then some 6 else bT (YG L (0,1000000000,x0.5,())) fun y=>bT (bif y == true then bT (YG L (1,1000,x0.6,())) fun y=>some y else some false) fun y=>bif !y then some 2 else some 0 else some 2:=by kernel_rfl
def Y2 (L:Nat)(x:X6×Int×Int×PUnit):Option Int:=fT [] L G7 [] (.one (.int .i64)) [.row 24,.int .i64,.int .i64] x
def Xj (L:Nat):Sum tT:=mU 146 [.row 24,.int .i64,.int .i64] (.one (.int .i64)) (Y2 L)
theorem VG:SX Xj:=fun h=>sT h Zq rfl (by kernel_rfl) fun _=>rfl
theorem VF (L:Nat)(x0:X6)(x1:Int)(x2:Int):Y2 L (x0,x1,x2,())=bT (ZJ x0.p.2 x0.2) fun y=>bif x1 == 1 then some x0.c.3 else bif x1 == 2 then some (↑y.Decl.2.length:Int) else bif x1 == 3 then some (↑y.Decl.7.length:Int) else bif x1 == 4 then some (↑x0.c.4.length:Int) else bif x1 == 5 then some (↑y.Decl.3.length:Int) else bif x1 == 6 then some (↑y.Decl.4.length:Int) else bif x1 == 7 then some (↑y.Decl.5.length:Int) else bif x1 == 8 then some (↑y.Decl.6.length:Int) else bif x1 == 9 then some (↑x0.p.2.length:Int) else bif x1 == 10 then bT (ZJ x0.p.2 x2) fun y=>some (↑y.2.length:Int) else bif x1 == 11 then some (↑y.Decl.8.length:Int) else bif x1 == 12 then some (↑y.Decl.9.length:Int) else bif x1 == 13 then some (↑y.Decl.10.length:Int) else some 1:=by kernel_rfl
def ZW (L:Nat)(x:X6×Int×Int×Int×PUnit):Option Bool:=fT [Xj L] L Ig [] (.one .bool) [.row 24,.int .i64,.int .i64,.int .i64] x
def XA (L:Nat):Sum tT:=mU 107 [.row 24,.int .i64,.int .i64,.int .i64] (.one .bool) (ZW L)
theorem Jt:SX XA:=fun h=>sT h (Zb (VG h) Zq) rfl (by kernel_rfl) fun _=>rfl
theorem Jq (L:Nat)(x0:X6)(x1:Int)(x2:Int)(x3:Int):ZW L (x0,x1,x2,x3,())=bT (bif decide (x2 ≥ 0) == true then bT (Y2 L (x0,x1,x3,())) fun y=>some (decide (x2 < y)) else some false) fun y=>some y:=by kernel_rfl
def KA:List (Inl tT):=[⟨150,Wq,[],.one (.bool),[]⟩,⟨183,WQ,[.rnd [.slot 8 (.int .i64)]],.one (.int .i64),[]⟩,⟨151,U0,[],.one (.bool),[]⟩]
def Vp (L:Nat):Nat→List (Sum tT)
 | 0=>[⟨111,[.row 24,.row 8],fun _=>.par _ none ((.one (.bool):RD).tv tT)⟩]
 | m + 1=>[⟨111,[.row 24,.row 8],fun x=>.par _ (fnT tF tG (Zkd tF tG (qOf tF (Vp L m ++ [Xj L,XA L])) L KA 8) 0 L VB [] (.one (.bool)) (tvL tT [.row 24,.row 8] x) []) ((.one (.bool):RD).tv tT)⟩]
theorem Ju {C:Cfg}{L:Nat}(h:St C L):∀ m,∀ s ∈ Vp L m,Qs C s
 | 0=>(Zb (Q8 _ _ _) Zq)
 | m + 1=>have ih:=Ju h m
  (Zb (Y1 Yv h.L h.G (AX Yv h.L h.G (WA Yv (Vk ih (Zb (VG h) (Zb (Jt h) Zq)))) (Zb ⟨h.T _ _ rfl,by kernel_rfl⟩ (Zb ⟨h.T _ _ rfl,by kernel_rfl⟩ (Zb ⟨h.T _ _ rfl,by kernel_rfl⟩ Zq))) 8) [] (h.T _ _ rfl) (by kernel_rfl) fun _=>rfl) Zq)
def Yg (L m:Nat)(x:X6×Zu×PUnit):Option (Bool):=fnT tF tG (Zkd tF tG (qOf tF (Vp L m ++ [Xj L,XA L])) L KA 8) 0 L VB [] (.one (.bool)) (tvL tT [.row 24,.row 8] x) []
def Qi (L:Nat)(x:X6×Zu×PUnit):Option (Bool):=Yg L L x
def Hr (L:Nat):Sum tT:=⟨111,[.row 24,.row 8],fun x=>.par ((.one (.bool):RD).Ty tT) (Qi L x) ((.one (.bool):RD).tv tT)⟩
theorem SB {C:Cfg}{L:Nat}(h:St C L):Qs C (Hr L):=have ih:=Ju h L
 Y1 Yv h.L h.G (AX Yv h.L h.G (WA Yv (Vk ih (Zb (VG h) (Zb (Jt h) Zq)))) (Zb ⟨h.T _ _ rfl,by kernel_rfl⟩ (Zb ⟨h.T _ _ rfl,by kernel_rfl⟩ (Zb ⟨h.T _ _ rfl,by kernel_rfl⟩ Zq))) 8) [] (h.T _ _ rfl) (by kernel_rfl) fun _=>rfl
def Ye:Nat→X6→Zu→Nat→(Int×PUnit→Option Int)→Int×PUnit→Option Int:=fun (m:Nat)=>fun x0 x1 L self acc=>bif decide (acc.1 < (↑x1.4.length:Int)) then bT (ZJ x1.4 acc.1) fun y=>bT (bT (Yg L m (x0,y,())) fun y=>some !y) fun y=>bif y then some acc.1 else self (Go.IntKind.i64.wrap (acc.1 + 1),()) else some (-1)
def UY:Nat→X6→Zu→Nat→(Int×PUnit→Option Int)→Int×PUnit→Option Int:=fun (m:Nat)=>fun x0 x1 L self acc=>bif decide (acc.1 < (↑x1.4.length:Int)) then bT (ZJ x1.4 acc.1) fun y=>bT (bT (Yg L m (x0,y,())) fun y=>some !y) fun y=>bif y then some acc.1 else self (Go.IntKind.i64.wrap (acc.1 + 1),()) else some (-1)
def UZ:Nat→X6→Zu→Nat→(Int×PUnit→Option Int)→Int×PUnit→Option Int:=fun (m:Nat)=>fun x0 x1 L self acc=>bif decide (acc.1 < (↑x1.4.length:Int)) then bT (ZJ x1.4 acc.1) fun y=>bT (bT (Yg L m (x0,y,())) fun y=>some !y) fun y=>bif y then some acc.1 else self (Go.IntKind.i64.wrap (acc.1 + 1),()) else some (-1)
def Ko:Nat→X6→Zu→Nat→(Int×PUnit→Option Int)→Int×PUnit→Option Int:=fun (m:Nat)=>fun x0 x1 L self acc=>bif decide (acc.1 < (↑x1.4.length:Int)) then bT (ZJ x1.4 acc.1) fun y=>bT (bT (Yg L m (x0,y,())) fun y=>some !y) fun y=>bif y then some acc.1 else self (Go.IntKind.i64.wrap (acc.1 + 1),()) else some (-1)
def Kq:Nat→X6→Zu→Nat→(Int×PUnit→Option Int)→Int×PUnit→Option Int:=fun (m:Nat)=>fun x0 x1 L self acc=>bif decide (acc.1 < (↑x1.4.length:Int)) then bT (ZJ x1.4 acc.1) fun y=>bT (bT (Yg L m (x0,y,())) fun y=>some !y) fun y=>bif y then some acc.1 else self (Go.IntKind.i64.wrap (acc.1 + 1),()) else some (-1)
def Kr:Nat→X6→Zu→Nat→(Int×PUnit→Option Int)→Int×PUnit→Option Int:=fun (m:Nat)=>fun x0 x1 L self acc=>bif decide (acc.1 < (↑x1.4.length:Int)) then bT (ZJ x1.4 acc.1) fun y=>bT (bT (Yg L m (x0,y,())) fun y=>some !y) fun y=>bif y then some acc.1 else self (Go.IntKind.i64.wrap (acc.1 + 1),()) else some (-1)
theorem Sm (L m:Nat)(x0:X6)(x1:Zu):Yg L (m + 1) (x0,x1,())=bif x1.1 == 25 then bT (ZW L (x0,1,x1.3,0,())) fun y=>bT (bif y == true then bT (bT (Zp (Ye m x0 x1 L) L (0,())) fun y=>some (decide (y ≥ 0))) fun y=>some !y else some false) fun y=>some y else bif x1.1 == 26 then bT (ZW L (x0,2,x1.3,0,())) fun y=>bT (bif y == true then bT (bT (Zp (UY m x0 x1 L) L (0,())) fun y=>some (decide (y ≥ 0))) fun y=>some !y else some false) fun y=>some y else bif x1.1 == 22 then bT (ZW L (x0,5,x1.3,0,())) fun y=>bT (bif y == true then bT (bT (Zp (UZ m x0 x1 L) L (0,())) fun y=>some (decide (y ≥ 0))) fun y=>some !y else some false) fun y=>some y else bif x1.1 == 23 then bT (ZW L (x0,6,x1.3,0,())) fun y=>bT (bif y == true then bT (bT (Zp (Ko m x0 x1 L) L (0,())) fun y=>some (decide (y ≥ 0))) fun y=>some !y else some false) fun y=>some y else bif x1.1 == 24 then bT (bT (Y2 L (x0,5,0,())) fun y=>some y) fun y=>bT (bT (Y2 L (x0,8,0,())) fun y=>some y) fun y_1=>bT (bif decide (x1.3 < Go.IntKind.i64.wrap (y + y_1)) == true then bT (bT (Zp (Kq m x0 x1 L) L (0,())) fun y=>some (decide (y ≥ 0))) fun y=>some !y else some false) fun y=>some y else bT (bT (bT (Zp (Kr m x0 x1 L) L (0,())) fun y=>some (decide (y ≥ 0))) fun y=>some !y) fun y=>some y:=by kernel_rfl
def J4 (L:Nat)(x:(List UInt8)×PUnit):Option Bool:=fT [] L Rw [] (.one .bool) [.str] x
def BU (L:Nat):Sum tT:=mU 48 [.str] (.one .bool) (J4 L)
theorem ZdT:SX BU:=fun h=>sT h Zq rfl (by kernel_rfl) fun _=>rfl
theorem ZdD (L:Nat)(x0:(List UInt8)):J4 L (x0,())=bif x0 == [97,100,100] then some true else bif x0 == [97,102,116,101,114] then some true else bif x0 == [97,110,100] then some true else bif x0 == [97,116] then some true else bif x0 == [98,101,108,116] then some true else bif x0 == [98,111,111,108] then some true else bif x0 == [99,111,110,115,101,114,118,101] then some true else bif x0 == [99,111,110,115,116] then some true else bif x0 == [99,111,117,110,116] then some true else bif x0 == [99,121,99,108,101] then some true else bif x0 == [100,111,119,110] then some true else bif x0 == [100,114,97,119] then some true else bif x0 == [100,117,114] then some true else bif x0 == [101,108,115,101] then some true else bif x0 == [101,110,100] then some true else bif x0 == [101,118,101,114,121] then some true else bif x0 == [102,97,108,115,101] then some true else bif x0 == [102,97,117,108,116] then some true else bif x0 == [102,105,102,111] then some true else bif x0 == [102,114,101,101] then some true else bif x0 == [102,114,111,109] then some true else bif x0 == [103,101,111,109] then some true else bif x0 == [103,101,116] then some true else bif x0 == [104,111,108,100] then some true else bif x0 == [105,102] then some true else bif x0 == [105,110,116] then some true else bif x0 == [105,110,116,111] then some true else bif x0 == [108,101,97,115,116] then some true else bif x0 == [108,101,118,101,108] then some true else bif x0 == [108,105,102,111] then some true else bif x0 == [108,105,110,107] then some true else bif x0 == [108,111,99,97,108] then some true else bif x0 == [109,97,120] then some true else bif x0 == [109,105,110] then some true else bif x0 == [109,111,100,101,108] then some true else bif x0 == [110,111,116] then some true else bif x0 == [110,111,119] then some true else bif x0 == [111,98,115,101,114,118,101] then some true else bif x0 == [111,114] then some true else bif x0 == [112,97,114,97,109] then some true else bif x0 == [112,114,101,101,109,112,116] then some true else bif x0 == [112,114,105,111] then some true else bif x0 == [112,117,116] then some true else bif x0 == [113,117,101,117,101] then some true else bif x0 == [114,101,108,101,97,115,101] then some true else bif x0 == [114,101,115,111,117,114,99,101] then some true else bif x0 == [114,105,100,101] then some true else bif x0 == [114,111,117,116,105,110,101] then some true else bif x0 == [115,101,105,122,101] then some true else bif x0 == [115,101,110,100] then some true else bif x0 == [115,101,116] then some true else bif x0 == [115,104,105,102,116] then some true else bif x0 == [115,105,103,110,97,108] then some true else bif x0 == [115,105,116,101] then some true else bif x0 == [115,105,122,101] then some true else bif x0 == [115,112,97,119,110] then some true else bif x0 == [115,116,97,114,116] then some true else bif x0 == [115,116,111,112] then some true else bif x0 == [115,116,111,114,101] then some true else bif x0 == [115,116,114,101,97,109] then some true else bif x0 == [115,117,109] then some true else bif x0 == [116,97,98,108,101] then some true else bif x0 == [116,97,108,108,121] then some true else bif x0 == [116,105,99,107,115] then some true else bif x0 == [116,105,109,101] then some true else bif x0 == [116,114,117,101] then some true else bif x0 == [117,110,105,102,111,114,109] then some true else bif x0 == [117,110,116,105,108] then some true else bif x0 == [117,112] then some true else bif x0 == [118,97,114] then some true else bif x0 == [119,97,105,116] then some true else bif x0 == [119,97,105,116,105,110,103] then some true else bif x0 == [119,104,105,108,101] then some true else some false:=by kernel_rfl
def V4 (L:Nat)(x:Int×PUnit):Option Bool:=fT [] L P8 [] (.one .bool) [.int .u8] x
def Nc (L:Nat):Sum tT:=mU 47 [.int .u8] (.one .bool) (V4 L)
theorem Zff:SX Nc:=fun h=>sT h Zq rfl (by kernel_rfl) fun _=>rfl
theorem ZeY (L:Nat)(x0:Int):V4 L (x0,())=some (decide (x0 ≥ 97) && decide (x0≤122)):=by kernel_rfl
def ZK (L:Nat)(x:(List UInt8)×PUnit):Option Int:=fT [BU L,Nc L] L EI [.rnd [.slot 24 (.int .i64)]] (.one (.int .i64)) [.str] x
def WZ (L:Nat):Sum tT:=mU 33 [.str] (.one (.int .i64)) (ZK L)
theorem Q4:SX WZ:=fun h=>sT h (Zb (ZdT h) (Zb (Zff h) Zq)) rfl (by kernel_rfl) fun _=>rfl
def Um:List UInt8→Nat→(Int×PUnit→Option Int)→Int×PUnit→Option Int:=fun x0 L self acc=>bif decide (acc.1 < (↑x0.length:Int)) then bT (ZJ x0 acc.1) fun y=>bT (V4 L ((↑y.toNat:Int),())) fun y_1=>bif !y_1 && (decide ((↑y.toNat:Int) < 48) || decide ((↑y.toNat:Int) > 57)) && (↑y.toNat:Int) != 95 then some 3 else self (Go.IntKind.i64.wrap (acc.1 + 1),()) else some 0
theorem Zh1 (L:Nat)(x0:(List UInt8)):ZK L (x0,())=bT (bif (x0 == [] || decide ((↑x0.length:Int) > 24)) == false then bT (ZJ x0 0) fun y=>bT (V4 L ((↑y.toNat:Int),())) fun y=>some !y else some true) fun y=>bT (bif y == false then bT (J4 L (x0,())) fun y=>some y else some true) fun y=>bif y then some 3 else Zp (Um x0 L) L (0,()):=by kernel_rfl
def Jz (L:Nat)(x:Int×PUnit):Option Bool:=fT [] L E5 [] (.one .bool) [.int .i64] x
def TZ (L:Nat):Sum tT:=mU 214 [.int .i64] (.one .bool) (Jz L)
theorem AL:SX TZ:=fun h=>sT h Zq rfl (by kernel_rfl) fun _=>rfl
theorem Zhw (L:Nat)(x0:Int):Jz L (x0,())=some (decide (x0 ≥ 22) && decide (x0≤24)):=by kernel_rfl
end Go.Proofs.YtgjcjbhhhlelnaaGreatDoor
end
noncomputable section
namespace Go.Proofs.YtgjcjbhhhlelnaaGreatDoor
open Go Go.Proofs.YtgjcjbhhhlelnaaGreatDoor.Abs Go.Proofs.YtgjcjbhhhlelnaaGreatDoor.Tl
set_option maxRecDepth 100000
set_option maxHeartbeats 0
def Q9 (L:Nat)(x:QM×Int×PUnit):Option (Int×Int×Bool×PUnit):=fT [TZ L] L U1 [] (.tup [.int .i64,.int .i64,.bool]) [.row 25,.int .i64] x
def UG (L:Nat):Sum tT:=mU 212 [.row 25,.int .i64] (.tup [.int .i64,.int .i64,.bool]) (Q9 L)
theorem Bl:SX UG:=fun h=>sT h (Zb (AL h) Zq) rfl (by kernel_rfl) fun _=>rfl
theorem RS (L:Nat)(x0:QM)(x1:Int):Q9 L (x0,x1,())=bif x1 == 2 then some (0,1,true,()) else bif x1 == 25 then some (0,15,true,()) else bif x1 == 26 then some (0,31,true,()) else bT (Jz L (x1,())) fun y=>bif y && x0.1 then some (0,63,true,()) else some (0,0,false,()):=by kernel_rfl
def DD (L:Nat)(x:Int×PUnit):Option Bool:=fT [] L Zmu [] (.one .bool) [.int .i64] x
def Zca (L:Nat):Sum tT:=mU 142 [.int .i64] (.one .bool) (DD L)
theorem ZhK:SX Zca:=fun h=>sT h Zq rfl (by kernel_rfl) fun _=>rfl
theorem ZtM (L:Nat)(x0:Int):DD L (x0,())=some (decide (x0 ≥ (-1000000000000)) && decide (x0≤1000000000000)):=by kernel_rfl
def Qk (L:Nat)(x:QM×Int×PUnit):Option Bool:=fT [TZ L] L GG [] (.one .bool) [.row 25,.int .i64] x
def Hu (L:Nat):Sum tT:=mU 211 [.row 25,.int .i64] (.one .bool) (Qk L)
theorem SE:SX Hu:=fun h=>sT h (Zb (AL h) Zq) rfl (by kernel_rfl) fun _=>rfl
theorem Sv (L:Nat)(x0:QM)(x1:Int):Qk L (x0,x1,())=bT (bif (x1 == 3) == false then bT (Jz L (x1,())) fun y=>some (y && !x0.1) else some true) fun y=>some y:=by kernel_rfl
def H8 (L:Nat)(x:Int×PUnit):Option Int:=fT [] L Zch [] (.one (.int .i64)) [.int .i64] x
def Eb (L:Nat):Sum tT:=mU 210 [.int .i64] (.one (.int .i64)) (H8 L)
theorem ZdR:SX Eb:=fun h=>sT h Zq rfl (by kernel_rfl) fun _=>rfl
theorem Zlm (L:Nat)(x0:Int):H8 L (x0,())=bif x0 == 1 || x0 == 2 || x0 == 3 || x0 == 4 then some 0 else bif decide (x0 ≥ 5) && decide (x0≤8) then some 1 else bif decide (x0 ≥ 9) && decide (x0≤21) then some 2 else bif decide (x0 ≥ 22) && decide (x0≤26) then some 0 else some (-1):=by kernel_rfl
def Xk (L:Nat)(x:QM×Int×PUnit):Option Bool:=fT [Eb L] L G9 [] (.one .bool) [.row 25,.int .i64] x
def Ht (L:Nat):Sum tT:=mU 209 [.row 25,.int .i64] (.one .bool) (Xk L)
theorem SC:SX Ht:=fun h=>sT h (Zb (ZdR h) Zq) rfl (by kernel_rfl) fun _=>rfl
theorem Su (L:Nat)(x0:QM)(x1:Int):Xk L (x0,x1,())=bif x1 == 3 then some !x0.1 else bif x1 == 25 then some x0.1 else bif x1 == 26 then some x0.1 else bT (H8 L (x1,())) fun y=>some (decide (y ≥ 0)):=by kernel_rfl
def XB (L:Nat)(x:QM×Zu×PUnit):Option Int:=fT [WZ L,UG L,Zca L,Hu L,Eb L,Ht L] L Ih [] (.one (.int .i64)) [.row 25,.row 8] x
def Jy (L:Nat):Sum tT:=mU 199 [.row 25,.row 8] (.one (.int .i64)) (XB L)
theorem Iz:SX Jy:=fun h=>sT h (Zb (Q4 h) (Zb (Bl h) (Zb (ZhK h) (Zb (SE h) (Zb (ZdR h) (Zb (SC h) Zq)))))) rfl (by kernel_rfl) fun _=>rfl
theorem Aq (L:Nat)(x0:QM)(x1:Zu):XB L (x0,x1,())=bT (bT (Xk L (x0,x1.1,())) fun y=>some y) fun y=>bT (bif (!y) == false then bT (bT (H8 L (x1.1,())) fun y=>some y) fun y=>some ((↑x1.4.length:Int) != y) else some true) fun y=>bT (bif y == false then bif (!x1.2 == []) == true then bT (bT (Qk L (x0,x1.1,())) fun y=>some y) fun y=>some !y else some false else some true) fun y=>bif y then some 1 else bif x1.1 == 1 then bT (DD L (x1.3,())) fun y=>bif !y then some 2 else some 0 else bT (Q9 L (x0,x1.1,())) fun y=>bif !y.2.2.1 && x1.3 != 0 then some 1 else bif y.2.2.1 && (decide (x1.3 < y.1) || decide (x1.3 > y.2.1)) then some 2 else bT (Qk L (x0,x1.1,())) fun y=>bif y then bT (ZK L (x1.2,())) fun y=>some y else some 0:=by kernel_rfl
def Vq (L:Nat):Nat→List (Sum tT)
 | 0=>[⟨182,[.row 25,.row 8],fun _=>.par _ none ((.one (.int .i64):RD).tv tT)⟩]
 | m + 1=>[⟨182,[.row 25,.row 8],fun x=>.par _ (fnT tF tG (qOf tF (Vq L m ++ [Jy L])) 0 L VC [.rnd [.slot 18 (.int .i64)]] (.one (.int .i64)) (tvL tT [.row 25,.row 8] x) []) ((.one (.int .i64):RD).tv tT)⟩]
theorem Jv {C:Cfg}{L:Nat}(h:St C L):∀ m,∀ s ∈ Vq L m,Qs C s
 | 0=>(Zb (Q8 _ _ _) Zq)
 | m + 1=>have ih:=Jv h m
  (Zb (Y1 Yv h.L h.G (WA Yv (Vk ih (Zb (Iz h) Zq))) [.rnd [.slot 18 (.int .i64)]] (h.T _ _ rfl) (by kernel_rfl) fun _=>rfl) Zq)
def QL (L m:Nat)(x:QM×Zu×PUnit):Option (Int):=fnT tF tG (qOf tF (Vq L m ++ [Jy L])) 0 L VC [.rnd [.slot 18 (.int .i64)]] (.one (.int .i64)) (tvL tT [.row 25,.row 8] x) []
def VJ (L:Nat)(x:QM×Zu×PUnit):Option (Int):=QL L L x
def Hw (L:Nat):Sum tT:=⟨182,[.row 25,.row 8],fun x=>.par ((.one (.int .i64):RD).Ty tT) (VJ L x) ((.one (.int .i64):RD).tv tT)⟩
theorem SG {C:Cfg}{L:Nat}(h:St C L):Qs C (Hw L):=have ih:=Jv h L
 Y1 Yv h.L h.G (WA Yv (Vk ih (Zb (Iz h) Zq))) [.rnd [.slot 18 (.int .i64)]] (h.T _ _ rfl) (by kernel_rfl) fun _=>rfl
def QI:Nat→QM→Zu→Nat→(Int×PUnit→Option Int)→Int×PUnit→Option Int:=fun (m:Nat)=>fun x0 x1 L self acc=>bif decide (acc.1 < (↑x1.4.length:Int)) then bT (ZJ x1.4 acc.1) fun y=>bT (QL L m (x0,y,())) fun y=>bif y != 0 then some y else self (Go.IntKind.i64.wrap (acc.1 + 1),()) else some 0
theorem Sz (L m:Nat)(x0:QM)(x1:Zu):QL L (m + 1) (x0,x1,())=bT (XB L (x0,x1,())) fun y=>bif y != 0 then some y else Zp (QI m x0 x1 L) L (0,()):=by kernel_rfl
def TL (L:Nat):Nat→List (Sum tT)
 | 0=>[⟨181,[.row 8],fun _=>.par _ none ((.one (.int .i64):RD).tv tT)⟩]
 | m + 1=>[⟨181,[.row 8],fun x=>.par _ (fnT tF tG (qOf tF (TL L m ++ [])) 0 L Rf [.rnd [.slot 3 (.int .i64),.slot 9 (.int .i64)]] (.one (.int .i64)) (tvL tT [.row 8] x) []) ((.one (.int .i64):RD).tv tT)⟩]
theorem Lr {C:Cfg}{L:Nat}(h:St C L):∀ m,∀ s ∈ TL L m,Qs C s
 | 0=>(Zb (Q8 _ _ _) Zq)
 | m + 1=>have ih:=Lr h m
  (Zb (Y1 Yv h.L h.G (WA Yv (Vk ih Zq)) [.rnd [.slot 3 (.int .i64),.slot 9 (.int .i64)]] (h.T _ _ rfl) (by kernel_rfl) fun _=>rfl) Zq)
def Gt (L m:Nat)(x:Zu×PUnit):Option (Int):=fnT tF tG (qOf tF (TL L m ++ [])) 0 L Rf [.rnd [.slot 3 (.int .i64),.slot 9 (.int .i64)]] (.one (.int .i64)) (tvL tT [.row 8] x) []
def Dc (L:Nat)(x:Zu×PUnit):Option (Int):=Gt L L x
def Zbi (L:Nat):Sum tT:=⟨181,[.row 8],fun x=>.par ((.one (.int .i64):RD).Ty tT) (Dc L x) ((.one (.int .i64):RD).tv tT)⟩
theorem ZjJ {C:Cfg}{L:Nat}(h:St C L):Qs C (Zbi L):=have ih:=Lr h L
 Y1 Yv h.L h.G (WA Yv (Vk ih Zq)) [.rnd [.slot 3 (.int .i64),.slot 9 (.int .i64)]] (h.T _ _ rfl) (by kernel_rfl) fun _=>rfl
def Tt:Nat→Zu→Nat→(Int×Int×PUnit→Option Int)→Int×Int×PUnit→Option Int:=fun (m:Nat)=>fun x0 L self acc=>bif decide (acc.2.1 < (↑x0.4.length:Int)) then bT (ZJ x0.4 acc.2.1) fun y=>bT (Gt L m (y,())) fun y=>self (if y > acc.1 then y else acc.1,Go.IntKind.i64.wrap (acc.2.1 + 1),()) else some (Go.IntKind.i64.wrap (acc.1 + 1))
theorem Zjs (L m:Nat)(x0:Zu):Gt L (m + 1) (x0,())=Zp (Tt m x0 L) L (0,0,()):=by kernel_rfl
def TM (L:Nat):Nat→List (Sum tT)
 | 0=>[⟨180,[.row 8],fun _=>.par _ none ((.one (.int .i64):RD).tv tT)⟩]
 | m + 1=>[⟨180,[.row 8],fun x=>.par _ (fnT tF tG (qOf tF (TM L m ++ [])) 0 L Rh [.rnd [.slot 3 (.int .i64),.slot 9 (.int .i64)]] (.one (.int .i64)) (tvL tT [.row 8] x) []) ((.one (.int .i64):RD).tv tT)⟩]
theorem Ls {C:Cfg}{L:Nat}(h:St C L):∀ m,∀ s ∈ TM L m,Qs C s
 | 0=>(Zb (Q8 _ _ _) Zq)
 | m + 1=>have ih:=Ls h m
  (Zb (Y1 Yv h.L h.G (WA Yv (Vk ih Zq)) [.rnd [.slot 3 (.int .i64),.slot 9 (.int .i64)]] (h.T _ _ rfl) (by kernel_rfl) fun _=>rfl) Zq)
def Gu (L m:Nat)(x:Zu×PUnit):Option (Int):=fnT tF tG (qOf tF (TM L m ++ [])) 0 L Rh [.rnd [.slot 3 (.int .i64),.slot 9 (.int .i64)]] (.one (.int .i64)) (tvL tT [.row 8] x) []
def Df (L:Nat)(x:Zu×PUnit):Option (Int):=Gu L L x
def Zbj (L:Nat):Sum tT:=⟨180,[.row 8],fun x=>.par ((.one (.int .i64):RD).Ty tT) (Df L x) ((.one (.int .i64):RD).tv tT)⟩
theorem ZjK {C:Cfg}{L:Nat}(h:St C L):Qs C (Zbj L):=have ih:=Ls h L
 Y1 Yv h.L h.G (WA Yv (Vk ih Zq)) [.rnd [.slot 3 (.int .i64),.slot 9 (.int .i64)]] (h.T _ _ rfl) (by kernel_rfl) fun _=>rfl
def Tu:Nat→Zu→Nat→(Int×Int×PUnit→Option Int)→Int×Int×PUnit→Option Int:=fun (m:Nat)=>fun x0 L self acc=>bif decide (acc.2.1 < (↑x0.4.length:Int)) then bT (ZJ x0.4 acc.2.1) fun y=>bT (Gu L m (y,())) fun y=>self (Go.IntKind.i64.wrap (acc.1 + y),Go.IntKind.i64.wrap (acc.2.1 + 1),()) else some acc.1
theorem Zjt (L m:Nat)(x0:Zu):Gu L (m + 1) (x0,())=Zp (Tu m x0 L) L (1,0,()):=by kernel_rfl
def Qj (L:Nat)(x:QM×Zu×PUnit):Option Int:=fT [Hw L,Zbi L,Zbj L] L G8 [] (.one (.int .i64)) [.row 25,.row 8] x
def VI (L:Nat):Sum tT:=mU 149 [.row 25,.row 8] (.one (.int .i64)) (Qj L)
theorem Hl:SX VI:=fun h=>sT h (Zb (SG h) (Zb (ZjJ h) (Zb (ZjK h) Zq))) rfl (by kernel_rfl) fun _=>rfl
theorem Sr (L:Nat)(x0:QM)(x1:Zu):Qj L (x0,x1,())=bT (Df L (x1,())) fun y=>bif decide (y > 60) then some 6 else bT (Dc L (x1,())) fun y=>bif decide (y > 12) then some 11 else bT (VJ L (x0,x1,())) fun y=>some y:=by kernel_rfl
end Go.Proofs.YtgjcjbhhhlelnaaGreatDoor
end
noncomputable section
namespace Go.Proofs.YtgjcjbhhhlelnaaGreatDoor
open Go Go.Proofs.YtgjcjbhhhlelnaaGreatDoor.Abs Go.Proofs.YtgjcjbhhhlelnaaGreatDoor.Tl
set_option maxRecDepth 100000
set_option maxHeartbeats 0
def Qr (L:Nat)(x:Zu×PUnit):Option Int:=fT [VI L] L Lc [] (.one (.int .i64)) [.row 8] x
def L9 (L:Nat):Sum tT:=mU 110 [.row 8] (.one (.int .i64)) (Qr L)
theorem ZbD:SX L9:=fun h=>sT h (Zb (Hl h) Zq) rfl (by kernel_rfl) fun _=>rfl
theorem Zb9 (L:Nat)(x0:Zu):Qr L (x0,())=bT (Qj L (QM.mk true,x0,())) fun y=>some y:=by kernel_rfl
def UH (L:Nat)(x:Int×PUnit):Option Bool:=fT [] L Za0 [] (.one .bool) [.int .i64] x
def BP (L:Nat):Sum tT:=mU 105 [.int .i64] (.one .bool) (UH L)
theorem Zbb:SX BP:=fun h=>sT h Zq rfl (by kernel_rfl) fun _=>rfl
theorem Zjp (L:Nat)(x0:Int):UH L (x0,())=some (decide (x0 ≥ 1) && decide (x0≤19)):=by kernel_rfl
def WS (L:Nat)(x:YK×PUnit):Option (List Zu):=fT [BP L] L Ii [] (.one (.lst 4 (.row 8))) [.row 15] x
def I4 (L:Nat):Sum tT:=mU 109 [.row 15] (.one (.lst 4 (.row 8))) (WS L)
theorem AC:SX I4:=fun h=>sT h (Zb (Zbb h) Zq) rfl (by kernel_rfl) fun _=>rfl
theorem Au (L:Nat)(x0:YK):WS L (x0,())=bT (UH L (x0.1,())) fun y=>bif !y then some [] else bT (ZJ Ip x0.1) fun y=>bif y.5 then bT (apT 56 [] [x0.5]) fun y_1=>bif y.6 then bT (apT 56 y_1 [x0.6]) fun y_2=>bif y.7 then bT (apT 56 y_2 x0.7) fun y=>some y else some y_2 else bif y.7 then bT (apT 56 y_1 x0.7) fun y=>some y else some y_1 else bif y.6 then bT (apT 56 [] [x0.6]) fun y_1=>bif y.7 then bT (apT 56 y_1 x0.7) fun y=>some y else some y_1 else bif y.7 then bT (apT 56 [] x0.7) fun y=>some y else some []:=by kernel_rfl
def ZkB:List (Inl tT):=[⟨147,Qa,[.rnd [.slot 8 (.int .i64)]],.one (.int .i64),[]⟩,⟨148,Zax,[],.one (.bool),[]⟩]
def DC (L:Nat)(x:Zk×Int×Int×PUnit):Option (Int×Bool×PUnit):=fI [] L ZkB Zfr [] (.tup [.int .i64,.bool]) [.row 19,.int .i64,.int .i64] x
def Zgo (L:Nat):Sum tT:=mU 108 [.row 19,.int .i64,.int .i64] (.tup [.int .i64,.bool]) (DC L)
theorem ZoQ:SX Zgo:=fun h=>sI h Zq (Zb ⟨h.T _ _ rfl,by kernel_rfl⟩ (Zb ⟨h.T _ _ rfl,by kernel_rfl⟩ Zq)) rfl (by kernel_rfl) fun _=>rfl
def NF:Zk→Int→Int→(Int×PUnit→Option Int)→Int×PUnit→Option Int:=fun x0 x1 x2 self acc=>bif decide (acc.1 < (↑x0.3.length:Int)) then bT (ZJ x0.3 acc.1) fun y=>bif y.1 == x1 && y.2 == x2 then some acc.1 else self (Go.IntKind.i64.wrap (acc.1 + 1),()) else some (-1)
theorem Zo2 (L:Nat)(x0:Zk)(x1:Int)(x2:Int):DC L (x0,x1,x2,())=bT (Zp (NF x0 x1 x2) L (0,())) fun y=>bif decide (y < 0) then some (0,false,()) else bT (ZJ x0.3 y) fun y=>some (y.3,true,()):=by kernel_rfl
def YM (L:Nat)(x:(List Int)×(List Int)×PUnit):Option Bool:=fT [] L VU [.rnd [.slot 13 (.int .i64)]] (.one .bool) [.lst 1 (.int .i64),.lst 1 (.int .i64)] x
def Jb (L:Nat):Sum tT:=mU 169 [.lst 1 (.int .i64),.lst 1 (.int .i64)] (.one .bool) (YM L)
theorem OG:SX Jb:=fun h=>sT h Zq rfl (by kernel_rfl) fun _=>rfl
def QF:List Int→List Int→(Int×PUnit→Option Bool)→Int×PUnit→Option Bool:=fun x0 x1 self acc=>bif decide (acc.1 < (↑x0.length:Int)) then bT (ZJ x0 acc.1) fun y=>bT (ZJ x1 acc.1) fun y_1=>bif y != y_1 then some false else self (Go.IntKind.i64.wrap (acc.1 + 1),()) else some true
theorem O9 (L:Nat)(x0:(List Int))(x1:(List Int)):YM L (x0,x1,())=bif (↑x0.length:Int) != (↑x1.length:Int) then some false else Zp (QF x0 x1) L (0,()):=by kernel_rfl
def VK (L:Nat)(x:We×We×PUnit):Option Bool:=fT [Jb L] L Zcg [] (.one .bool) [.row 2,.row 2] x
def TY (L:Nat):Sum tT:=mU 132 [.row 2,.row 2] (.one .bool) (VK L)
theorem SH:SX TY:=fun h=>sT h (Zb (OG h) Zq) rfl (by kernel_rfl) fun _=>rfl
theorem Zll (L:Nat)(x0:We)(x1:We):VK L (x0,x1,())=bT (bif (x0.1 == x1.1 && x0.2 == x1.2 && x0.3 == x1.3 && x0.4 == x1.4) == true then bT (YM L (x0.5,x1.5,())) fun y=>some y else some false) fun y=>bT (bif y == true then bT (YM L (x0.6,x1.6,())) fun y=>some y else some false) fun y=>some y:=by kernel_rfl
def BC (L:Nat):Nat→List (Sum tT)
 | 0=>[⟨179,[.row 8,.row 8],fun _=>.par _ none ((.one (.bool):RD).tv tT)⟩]
 | m + 1=>[⟨179,[.row 8,.row 8],fun x=>.par _ (fnT tF tG (qOf tF (BC L m ++ [])) 0 L Nu [.rnd [.slot 38 (.int .i64)]] (.one (.bool)) (tvL tT [.row 8,.row 8] x) []) ((.one (.bool):RD).tv tT)⟩]
theorem BD {C:Cfg}{L:Nat}(h:St C L):∀ m,∀ s ∈ BC L m,Qs C s
 | 0=>(Zb (Q8 _ _ _) Zq)
 | m + 1=>have ih:=BD h m
  (Zb (Y1 Yv h.L h.G (WA Yv (Vk ih Zq)) [.rnd [.slot 38 (.int .i64)]] (h.T _ _ rfl) (by kernel_rfl) fun _=>rfl) Zq)
def IJ (L m:Nat)(x:Zu×Zu×PUnit):Option (Bool):=fnT tF tG (qOf tF (BC L m ++ [])) 0 L Nu [.rnd [.slot 38 (.int .i64)]] (.one (.bool)) (tvL tT [.row 8,.row 8] x) []
def MG (L:Nat)(x:Zu×Zu×PUnit):Option (Bool):=IJ L L x
def Ea (L:Nat):Sum tT:=⟨179,[.row 8,.row 8],fun x=>.par ((.one (.bool):RD).Ty tT) (MG L x) ((.one (.bool):RD).tv tT)⟩
theorem ZdQ {C:Cfg}{L:Nat}(h:St C L):Qs C (Ea L):=have ih:=BD h L
 Y1 Yv h.L h.G (WA Yv (Vk ih Zq)) [.rnd [.slot 38 (.int .i64)]] (h.T _ _ rfl) (by kernel_rfl) fun _=>rfl
def Io:Nat→Zu→Zu→Nat→(Int×PUnit→Option Bool)→Int×PUnit→Option Bool:=fun (m:Nat)=>fun x0 x1 L self acc=>bif decide (acc.1 < (↑x0.4.length:Int)) then bT (ZJ x0.4 acc.1) fun y=>bT (ZJ x1.4 acc.1) fun y_1=>bT (bT (IJ L m (y,y_1,())) fun y=>some y) fun y=>bif !y then some false else self (Go.IntKind.i64.wrap (acc.1 + 1),()) else some true
theorem Zd9 (L m:Nat)(x0:Zu)(x1:Zu):IJ L (m + 1) (x0,x1,())=bif x0.1 != x1.1 || !x0.2 == x1.2 || x0.3 != x1.3 || (↑x0.4.length:Int) != (↑x1.4.length:Int) then some false else Zp (Io m x0 x1 L) L (0,()):=by kernel_rfl
def H7 (L:Nat)(x:Zu×PUnit):Option Bool:=fT [Ea L] L Zcf [] (.one .bool) [.row 8] x
def Zel (L:Nat):Sum tT:=mU 145 [.row 8] (.one .bool) (H7 L)
theorem ZlQ:SX Zel:=fun h=>sT h (Zb (ZdQ h) Zq) rfl (by kernel_rfl) fun _=>rfl
theorem Zlk (L:Nat)(x0:Zu):H7 L (x0,())=bT (MG L (x0,Zu.mk 0 [] 0 [],())) fun y=>some y:=by kernel_rfl
def I8 (L:Nat)(x:YK×PUnit):Option Bool:=fT [TY L,Zel L] L Zaz [] (.one .bool) [.row 15] x
def Zbg (L:Nat):Sum tT:=mU 106 [.row 15] (.one .bool) (I8 L)
theorem ZjH:SX Zbg:=fun h=>sT h (Zb (SH h) (Zb (ZlQ h) Zq)) rfl (by kernel_rfl) fun _=>rfl
theorem Zjo (L:Nat)(x0:YK):I8 L (x0,())=bT (ZJ Ip x0.1) fun y=>bT (bif ((y.2 != 0 || x0.2 == 0) && (y.3 != 0 || x0.3 == 0) && (y.4 || x0.4 == 0)) == true then bif y.5 == false then bT (H7 L (x0.5,())) fun y=>some y else some true else some false) fun y_1=>bT (bif y_1 == true then bif y.6 == false then bT (H7 L (x0.6,())) fun y=>some y else some true else some false) fun y_2=>bT (bif (y_2 && (y.7 || (↑x0.7.length:Int) == 0)) == true then bif y.8 == false then bT (VK L (x0.8,We.mk 0 0 0 0 [] [],())) fun y=>some y else some true else some false) fun y_3=>some (y_3 && (y.9 || !x0.9)):=by kernel_rfl
def YZ (L:Nat)(x:X6×YK×PUnit):Option Int:=fT [I5 L,Hr L,L9 L,I4 L,Zgo L,XA L,Zbg L,BP L] L Kt [.rnd [.slot 103 (.int .i64)]] (.one (.int .i64)) [.row 24,.row 15] x
def KF (L:Nat):Sum tT:=mU 57 [.row 24,.row 15] (.one (.int .i64)) (YZ L)
theorem Pe:SX KF:=fun h=>sT h (Zb (Bo h) (Zb (SB h) (Zb (ZbD h) (Zb (AC h) (Zb (ZoQ h) (Zb (Jt h) (Zb (ZjH h) (Zb (Zbb h) Zq)))))))) rfl (by kernel_rfl) fun _=>rfl
def YL:X6→YK→Nat→IX→List Zu→(Int×PUnit→Option Int)→Int×PUnit→Option Int:=fun x0 x1 L y y_1 self acc=>bif decide (acc.1 < (↑y_1.length:Int)) then bT (ZJ y_1 acc.1) fun y=>bT (Qr L (y,())) fun y_2=>bif y_2 != 0 then some y_2 else bT (Qi L (x0,y,())) fun y=>bif !y then some 2 else self (Go.IntKind.i64.wrap (acc.1 + 1),()) else bif y.8 then bT (QB L (x1.8,())) fun y=>some y else some 0
def Uy:X6→YK→Nat→IX→List Zu→(Int×PUnit→Option Int)→Int×PUnit→Option Int:=fun x0 x1 L y y_1 self acc=>bif decide (acc.1 < (↑y_1.length:Int)) then bT (ZJ y_1 acc.1) fun y=>bT (Qr L (y,())) fun y_2=>bif y_2 != 0 then some y_2 else bT (Qi L (x0,y,())) fun y=>bif !y then some 2 else self (Go.IntKind.i64.wrap (acc.1 + 1),()) else bif y.8 then bT (QB L (x1.8,())) fun y=>some y else some 0
def Uz:X6→YK→Nat→IX→List Zu→(Int×PUnit→Option Int)→Int×PUnit→Option Int:=fun x0 x1 L y y_1 self acc=>bif decide (acc.1 < (↑y_1.length:Int)) then bT (ZJ y_1 acc.1) fun y=>bT (Qr L (y,())) fun y_2=>bif y_2 != 0 then some y_2 else bT (Qi L (x0,y,())) fun y=>bif !y then some 2 else self (Go.IntKind.i64.wrap (acc.1 + 1),()) else bif y.8 then bT (QB L (x1.8,())) fun y=>some y else some 0
theorem DZ (L:Nat)(x0:X6)(x1:YK):YZ L (x0,x1,())=bT (UH L (x1.1,())) fun y=>bT (bif (!y) == false then bT (I8 L (x1,())) fun y=>some !y else some true) fun y=>bif y then some 1 else bT (ZJ Ip x1.1) fun y=>bT (ZW L (x0,y.2,x1.2,0,())) fun y_1=>bif !y_1 && y.2 != 0 then some 2 else bif x1.1 == 14 then bT (DC L (x0.1,x0.2,x1.2,())) fun y_2=>bif !y_2.2.1 || y_2.1 != x1.4 then some 16 else bT (ZW L (x0,10,x1.3,x1.2,())) fun y_3=>bif !y_3 then some 2 else bT (ZJ x0.p.2 x1.2) fun y_4=>bT (ZJ y_4.2 x1.3) fun y_5=>bif (↑x1.7.length:Int) != y_5.2 then some 8 else bT (WS L (x1,())) fun y_6=>Zp (YL x0 x1 L y y_6) L (0,()) else bif x1.1 == 15 then bT (ZW L (x0,10,x1.3,x0.2,())) fun y_2=>bif !y_2 then some 2 else bT (ZJ x0.p.2 x0.2) fun y_3=>bT (ZJ y_3.2 x1.3) fun y_4=>bif (↑x1.7.length:Int) != y_4.2 then some 8 else bT (WS L (x1,())) fun y_5=>Zp (Uy x0 x1 L y y_5) L (0,()) else bT (bif (y.3 != 0) == true then bT (ZW L (x0,y.3,x1.3,0,())) fun y=>some !y else some false) fun y_2=>bif y_2 then some 2 else bT (WS L (x1,())) fun y_3=>Zp (Uz x0 x1 L y y_3) L (0,()):=by kernel_rfl
end Go.Proofs.YtgjcjbhhhlelnaaGreatDoor
end
noncomputable section
namespace Go.Proofs.YtgjcjbhhhlelnaaGreatDoor
open Go Go.Proofs.YtgjcjbhhhlelnaaGreatDoor.Abs Go.Proofs.YtgjcjbhhhlelnaaGreatDoor.Tl
set_option maxRecDepth 100000
set_option maxHeartbeats 0
def Y3 (L:Nat)(x:Zk×Int×Wp×PUnit):Option Int:=fT [KF L,WZ L] L Ph [.rnd [.slot 66 (.int .i64)]] (.one (.int .i64)) [.row 19,.int .i64,.row 16] x
def Nb (L:Nat):Sum tT:=mU 37 [.row 19,.int .i64,.row 16] (.one (.int .i64)) (Y3 L)
theorem Zfe:SX Nb:=fun h=>sT h (Zb (Pe h) (Zb (Q4 h) Zq)) rfl (by kernel_rfl) fun _=>rfl
def Jl:Zk→Int→Wp→Nat→(Int×PUnit→Option Int)→Int×PUnit→Option Int:=fun x0 x1 x2 L self acc=>bif decide (acc.1 < (↑x2.4.length:Int)) then bT (ZJ x2.4 acc.1) fun y=>bT (YZ L (X6.mk x0 x1 x2,y,())) fun y=>bif y != 0 then some y else self (Go.IntKind.i64.wrap (acc.1 + 1),()) else bT (ZJ x2.4 (Go.IntKind.i64.wrap ((↑x2.4.length:Int) - 1))) fun y=>bif y.1 != 19 && y.1 != 4 then some 8 else some 0
theorem PV (L:Nat)(x0:Zk)(x1:Int)(x2:Wp):Y3 L (x0,x1,x2,())=bif decide (x1 < 0) || decide (x1 ≥ (↑x0.2.length:Int)) then some 2 else bT (ZK L (x2.1,())) fun y=>bif y != 0 then some y else bif decide (x2.2 < 0) || decide (x2.2 > x2.3) || decide (x2.2 > 6) || decide (x2.3 > 16) then some 2 else bif (↑x2.4.length:Int) == 0 then some 7 else bif decide ((↑x2.4.length:Int) > 1000) then some 6 else Zp (Jl x0 x1 x2 L) L (0,()):=by kernel_rfl
def H6 (L:Nat)(x:Zk×PUnit):Option Int:=fT [] L Zce [.rnd [.slot 15 (.int .i64),.cont 1 (.map (.pint .i64))]] (.one (.int .i64)) [.row 19] x
def Zek (L:Nat):Sum tT:=mU 36 [.row 19] (.one (.int .i64)) (H6 L)
theorem ZlP:SX Zek:=fun h=>sT h Zq rfl (by kernel_rfl) fun _=>rfl
def U4:Zk→(Int×List (Int×Int)×PUnit→Option Int)→Int×List (Int×Int)×PUnit→Option Int:=fun x0 self acc=>bif decide (acc.1 < (↑x0.3.length:Int)) then bT (ZJ x0.3 acc.1) fun y=>bif decide ((if y.2 < y.1 then y.2 else y.1) < 0) || decide ((if y.2 > y.1 then y.2 else y.1) ≥ (↑x0.2.length:Int)) || y.1 == y.2 then some 2 else bif decide (y.3 < 1) || decide (y.3 > 1000000000) then some 2 else bif hasK (MK.pint Go.IntKind.i64) acc.2.1 (y.1,y.2) then some 4 else self (Go.IntKind.i64.wrap (acc.1 + 1),ZaI (MK.pint Go.IntKind.i64) acc.2.1 (y.1,y.2),()) else some 0
theorem Zlj (L:Nat)(x0:Zk):H6 L (x0,())=bif decide ((↑x0.3.length:Int) > 32) then some 6 else Zp (U4 x0) L (0,[],()):=by kernel_rfl
def H5 (L:Nat)(x:Wp×ZU×PUnit):Option Bool:=fT [] L LY [] (.one .bool) [.row 16,.row 10] x
def BO (L:Nat):Sum tT:=mU 56 [.row 16,.row 10] (.one .bool) (H5 L)
theorem ZdP:SX BO:=fun h=>sT h Zq rfl (by kernel_rfl) fun _=>rfl
theorem Zd8 (L:Nat)(x0:Wp)(x1:ZU):H5 L (x0,x1,())=some (x0.1 == x1.1 && x0.2 == (↑x1.2.length:Int) && (↑x1.4.length:Int) == 0):=by kernel_rfl
def ZeQ:List (Inl tT):=[⟨55,Yb,[.rnd [.slot 17 (.int .i64)]],.one (.bool),[]⟩]
def Gi (L:Nat)(x:ZN×PUnit):Option Bool:=fI [BO L] L ZeQ Ew [] (.one .bool) [.row 17] x
def Fb (L:Nat):Sum tT:=mU 35 [.row 17] (.one .bool) (Gi L)
theorem ZhE:SX Fb:=fun h=>sI h (Zb (ZdP h) Zq) (Zb ⟨h.T _ _ rfl,by kernel_rfl⟩ Zq) rfl (by kernel_rfl) fun _=>rfl
def Uj:ZN→Nat→(Int×PUnit→Option Bool)→Int×PUnit→Option Bool:=fun x0 L self acc=>bif decide (acc.1 < (↑x0.2.length:Int)) then bT (ZJ x0.2 acc.1) fun y=>bT (ZJ x0.Decl.11 acc.1) fun y_1=>bT (H5 L (y,y_1,())) fun y=>bif !y then some false else self (Go.IntKind.i64.wrap (acc.1 + 1),()) else some true
theorem Ar (L:Nat)(x0:ZN):Gi L (x0,())=bT (bif (↑x0.2.length:Int) != (↑x0.Decl.11.length:Int) then some false else Zp (Uj x0 L) L (0,())) fun y=>some y:=by kernel_rfl
def ZF (L:Nat)(x:Int×Int×Int×PUnit):Option Bool:=fT [] L P7 [] (.one .bool) [.int .i64,.int .i64,.int .i64] x
def QG (L:Nat):Sum tT:=mU 78 [.int .i64,.int .i64,.int .i64] (.one .bool) (ZF L)
theorem Xx:SX QG:=fun h=>sT h Zq rfl (by kernel_rfl) fun _=>rfl
theorem ZeX (L:Nat)(x0:Int)(x1:Int)(x2:Int):ZF L (x0,x1,x2,())=some (decide (x0 ≥ x1) && decide (x0≤x2)):=by kernel_rfl
def ZgR:List (Inl tT):=[⟨143,YI,[.rnd [.slot 8 (.int .i64)]],.one (.int .i64),[]⟩,⟨144,Pi,[],.one (.bool),[]⟩]
def Dh (L:Nat)(x:QV×(List UInt8)×PUnit):Option Int:=fI [] L ZgR Za4 [] (.one (.int .i64)) [.row 21,.str] x
def Zbk (L:Nat):Sum tT:=mU 104 [.row 21,.str] (.one (.int .i64)) (Dh L)
theorem ZjL:SX Zbk:=fun h=>sI h Zq (Zb ⟨h.T _ _ rfl,by kernel_rfl⟩ (Zb ⟨h.T _ _ rfl,by kernel_rfl⟩ Zq)) rfl (by kernel_rfl) fun _=>rfl
def ZeT:List (Inl tT):=[⟨102,JI,[.rnd [.slot 16 (.int .i64),.cont 1 (.map .pstr)]],.one (.int .i64),[(3,[.cont 1 (.map .pstr)])]⟩,⟨103,Rl,[],.one (.int .i64),[(4,[.cont 1 (.map .pstr)])]⟩]
def Gm (L:Nat)(x:QV×PUnit):Option Int:=fI [QG L,Zbk L] L ZeT EG [] (.one (.int .i64)) [.row 21] x
def Fh (L:Nat):Sum tT:=mU 54 [.row 21] (.one (.int .i64)) (Gm L)
theorem ZhI:SX Fh:=fun h=>sI h (Zb (Xx h) (Zb (ZjL h) Zq)) (Zb ⟨h.T _ _ rfl,by kernel_rfl⟩ (Zb ⟨h.T _ _ rfl,by kernel_rfl⟩ Zq)) rfl (by kernel_rfl) fun _=>rfl
def PT:QV→Nat→(Int×List (List UInt8×List UInt8)×PUnit→Option (Int×List (List UInt8×List UInt8)×PUnit))→Int×List (List UInt8×List UInt8)×PUnit→Option (Int×List (List UInt8×List UInt8)×PUnit):=fun x0 L self acc=>bif decide (acc.1 < (↑x0.4.length:Int)) then bT (ZJ x0.4 acc.1) fun y=>bT (bT (Dh L (x0,y.1,())) fun y_1=>bT (bif decide (y_1 < 0) == false then bT (Dh L (x0,y.2,())) fun y=>some (decide (y < 0)) else some true) fun y_2=>bif y_2 then some (5,acc.2.1,()) else bif y.1 == y.2 then some (1,acc.2.1,()) else bT (ZF L (y.3,1,1000000000,())) fun y_3=>bif !y_3 then some (2,acc.2.1,()) else bif hasK MK.pstr acc.2.1 (y.1,y.2) then some (4,acc.2.1,()) else some (0,ZaI MK.pstr acc.2.1 (y.1,y.2),())) fun y=>bif y.1 != 0 then some (y.1,y.2.1,()) else self (Go.IntKind.i64.wrap (acc.1 + 1),y.2.1,()) else some (0,acc.2.1,())
theorem Zhz (L:Nat)(x0:QV):Gm L (x0,())=bT (bif decide ((↑x0.4.length:Int) > 32) then some (6,[],()) else Zp (PT x0 L) L (0,[],())) fun y=>some y.1:=by kernel_rfl
def WO (L:Nat)(x:(List (List UInt8))×(List UInt8)×PUnit):Option Int:=fT [] L QX [.rnd [.slot 8 (.int .i64)]] (.one (.int .i64)) [.lst 1 .str,.str] x
def Xd (L:Nat):Sum tT:=mU 170 [.lst 1 .str,.str] (.one (.int .i64)) (WO L)
theorem UE:SX Xd:=fun h=>sT h Zq rfl (by kernel_rfl) fun _=>rfl
def Wy:List (List UInt8)→List UInt8→(Int×PUnit→Option Int)→Int×PUnit→Option Int:=fun x0 x1 self acc=>bif decide (acc.1 < (↑x0.length:Int)) then bT (ZJ x0 acc.1) fun y=>bif x1 == y then some acc.1 else self (Go.IntKind.i64.wrap (acc.1 + 1),()) else some (-1)
theorem U9 (L:Nat)(x0:(List (List UInt8)))(x1:(List UInt8)):WO L (x0,x1,())=Zp (Wy x0 x1) L (0,()):=by kernel_rfl
def Yc (L:Nat)(x:(List (List UInt8))×(List UInt8)×PUnit):Option Bool:=fT [Xd L] L Qu [] (.one .bool) [.lst 1 .str,.str] x
def YU (L:Nat):Sum tT:=mU 133 [.lst 1 .str,.str] (.one .bool) (Yc L)
theorem Q5:SX YU:=fun h=>sT h (Zb (UE h) Zq) rfl (by kernel_rfl) fun _=>rfl
theorem Jr (L:Nat)(x0:(List (List UInt8)))(x1:(List UInt8)):Yc L (x0,x1,())=bT (WO L (x0,x1,())) fun y=>some (decide (y ≥ 0)):=by kernel_rfl
def Zb2:List (Inl tT):=[⟨175,YP,[.rnd [.slot 8 (.int .i64)]],.one (.int .i64),[]⟩,⟨176,Ol,[],.one (.bool),[]⟩]
def Ql (L:Nat)(x:Ze×(List UInt8)×PUnit):Option Int:=fI [] L Zb2 Rk [] (.one (.int .i64)) [.row 14,.str] x
def Hy (L:Nat):Sum tT:=mU 136 [.row 14,.str] (.one (.int .i64)) (Ql L)
theorem Bv:SX Hy:=fun h=>sI h Zq (Zb ⟨h.T _ _ rfl,by kernel_rfl⟩ (Zb ⟨h.T _ _ rfl,by kernel_rfl⟩ Zq)) rfl (by kernel_rfl) fun _=>rfl
def UV:Ze→List UInt8→(Int×PUnit→Option Int)→Int×PUnit→Option Int:=fun x0 x1 self acc=>bif decide (acc.1 < (↑x0.11.length:Int)) then bT (ZJ x0.11 acc.1) fun y=>bif y.1 == x1 then some acc.1 else self (Go.IntKind.i64.wrap (acc.1 + 1),()) else some (-1)
theorem ZdB (L:Nat)(x0:Ze)(x1:(List UInt8)):Ql L (x0,x1,())=bT (Zp (UV x0 x1) L (0,())) fun y=>some y:=by kernel_rfl
def ZgU:List (Inl tT):=[⟨177,Yz,[],.one (.bool),[]⟩,⟨198,Y9,[.rnd [.slot 8 (.int .i64)]],.one (.int .i64),[]⟩,⟨178,P6,[],.one (.bool),[]⟩]
end Go.Proofs.YtgjcjbhhhlelnaaGreatDoor
end
noncomputable section
namespace Go.Proofs.YtgjcjbhhhlelnaaGreatDoor
open Go Go.Proofs.YtgjcjbhhhlelnaaGreatDoor.Abs Go.Proofs.YtgjcjbhhhlelnaaGreatDoor.Tl
set_option maxRecDepth 100000
set_option maxHeartbeats 0
def IB (L:Nat)(x:Ze×Oh×PUnit):Option Int:=fI [QG L,YU L,Hy L] L ZgU Za8 [] (.one (.int .i64)) [.row 14,.row 12] x
def Zbn (L:Nat):Sum tT:=mU 141 [.row 14,.row 12] (.one (.int .i64)) (IB L)
theorem ZjO:SX Zbn:=fun h=>sI h (Zb (Xx h) (Zb (Q5 h) (Zb (Bv h) Zq))) (Zb ⟨h.T _ _ rfl,by kernel_rfl⟩ (Zb ⟨h.T _ _ rfl,by kernel_rfl⟩ (Zb ⟨h.T _ _ rfl,by kernel_rfl⟩ Zq))) rfl (by kernel_rfl) fun _=>rfl
def XW:Ze→Oh→(Int×PUnit→Option Int)→Int×PUnit→Option Int:=fun x0 x1 self acc=>bif decide (acc.1 < (↑x0.4.length:Int)) then bT (ZJ x0.4 acc.1) fun y=>bif y.1 == x1.3 then some acc.1 else self (Go.IntKind.i64.wrap (acc.1 + 1),()) else some (-1)
def Ai:Ze→Oh→(Int×PUnit→Option Int)→Int×PUnit→Option Int:=fun x0 x1 self acc=>bif decide (acc.1 < (↑x0.4.length:Int)) then bT (ZJ x0.4 acc.1) fun y=>bif y.1 == x1.3 then some acc.1 else self (Go.IntKind.i64.wrap (acc.1 + 1),()) else some (-1)
def Aj:Ze→Oh→(Int×PUnit→Option Int)→Int×PUnit→Option Int:=fun x0 x1 self acc=>bif decide (acc.1 < (↑x0.4.length:Int)) then bT (ZJ x0.4 acc.1) fun y=>bif y.1 == x1.3 then some acc.1 else self (Go.IntKind.i64.wrap (acc.1 + 1),()) else some (-1)
theorem Zjx (L:Nat)(x0:Ze)(x1:Oh):IB L (x0,x1,())=bif x1.2 == [99,114,101,97,116,101,100] then bT (Ql L (x0,x1.3,())) fun y=>bif !decide (y ≥ 0) then some 5 else bT (ZF L (x1.1,(-1000),1000,())) fun y=>bif !y || x1.1 == 0 then some 2 else some 0 else bif x1.2 == [101,110,100,101,100] then bT (Ql L (x0,x1.3,())) fun y=>bif !decide (y ≥ 0) then some 5 else bT (ZF L (x1.1,(-1000),1000,())) fun y=>bif !y || x1.1 == 0 then some 2 else some 0 else bif x1.2 == [105,110,115,105,100,101] then bT (Ql L (x0,x1.3,())) fun y=>bif !decide (y ≥ 0) then some 5 else bT (ZF L (x1.1,(-1000),1000,())) fun y=>bif !y || x1.1 == 0 then some 2 else some 0 else bif x1.2 == [115,116,111,114,101,100] then bT (bT (Zp (XW x0 x1) L (0,())) fun y=>some (decide (y ≥ 0))) fun y=>bif !y then some 5 else bT (ZF L (x1.1,(-1000),1000,())) fun y=>bif !y || x1.1 == 0 then some 2 else some 0 else bif x1.2 == [101,110,116,101,114,101,100] then bT (bT (Zp (Ai x0 x1) L (0,())) fun y=>some (decide (y ≥ 0))) fun y=>bif !y then some 5 else bT (ZF L (x1.1,(-1000),1000,())) fun y=>bif !y || x1.1 == 0 then some 2 else some 0 else bif x1.2 == [108,101,102,116] then bT (bT (Zp (Aj x0 x1) L (0,())) fun y=>some (decide (y ≥ 0))) fun y=>bif !y then some 5 else bT (ZF L (x1.1,(-1000),1000,())) fun y=>bif !y || x1.1 == 0 then some 2 else some 0 else bif x1.2 == [99,111,117,110,116,101,100] then bT (Yc L (x0.10,x1.3,())) fun y=>bif !y then some 5 else bT (ZF L (x1.1,(-1000),1000,())) fun y=>bif !y || x1.1 == 0 then some 2 else some 0 else some 1:=by kernel_rfl
def ZgS:List (Inl tT):=[⟨137,U3,[.rnd [.slot 16 (.int .i64),.cont 1 (.map .str)]],.one (.int .i64),[(3,[.cont 1 (.map .str)])]⟩,⟨138,Pj,[],.one (.int .i64),[(4,[.cont 1 (.map .str)])]⟩,⟨139,JJ,[.rnd [.slot 16 (.int .i64),.cont 1 (.map .str)]],.one (.int .i64),[(5,[.cont 1 (.map .str)])]⟩,⟨140,Le,[],.one (.int .i64),[]⟩,⟨52,WC,[],.one (.int .i64),[(5,[.cont 1 (.map .str)])]⟩]
def I9 (L:Nat)(x:Ze×PUnit):Option Int:=fI [Zca L,Zbn L,WZ L] L ZgS Za6 [] (.one (.int .i64)) [.row 14] x
def Zbl (L:Nat):Sum tT:=mU 101 [.row 14] (.one (.int .i64)) (I9 L)
theorem ZjM:SX Zbl:=fun h=>sI h (Zb (ZhK h) (Zb (ZjO h) (Zb (Q4 h) Zq))) (Zb ⟨h.T _ _ rfl,by kernel_rfl⟩ (Zb ⟨h.T _ _ rfl,by kernel_rfl⟩ (Zb ⟨h.T _ _ rfl,by kernel_rfl⟩ (Zb ⟨h.T _ _ rfl,by kernel_rfl⟩ (Zb ⟨h.T _ _ rfl,by kernel_rfl⟩ Zq))))) rfl (by kernel_rfl) fun _=>rfl
def KP:Ze→Nat→ZeF→(Int×List (List UInt8)×PUnit→Option (Int×List (List UInt8)×PUnit))→Int×List (List UInt8)×PUnit→Option (Int×List (List UInt8)×PUnit):=fun x0 L y self acc=>bif decide (acc.1 < (↑y.2.length:Int)) then bT (ZJ y.2 acc.1) fun y=>bT (bT (IB L (x0,y,())) fun y=>some y) fun y=>bif y != 0 then some (y,acc.2.1,()) else self (Go.IntKind.i64.wrap (acc.1 + 1),acc.2.1,()) else some (0,acc.2.1,())
def KQ:Ze→Nat→(Int×List (List UInt8)×PUnit→Option (Int×List (List UInt8)×PUnit))→Int×List (List UInt8)×PUnit→Option (Int×List (List UInt8)×PUnit):=fun x0 L self acc=>bif decide (acc.1 < (↑x0.13.length:Int)) then bT (ZJ x0.13 acc.1) fun y=>bT (bT (bT (ZK L (y.1,())) fun y_1=>bif y_1 != 0 then some (y_1,acc.2.1,()) else bif hasK MK.str acc.2.1 y.1 then some (4,acc.2.1,()) else some (0,ZaI MK.str acc.2.1 y.1,())) fun y_1=>bif y_1.1 != 0 then some (y_1.1,y_1.2.1,()) else bif (↑y.2.length:Int) == 0 then some (7,y_1.2.1,()) else bT (bif decide ((↑y.2.length:Int) > 8) then some (6,y_1.2.1,()) else Zp (KP x0 L y) L (0,y_1.2.1,())) fun y_2=>bif y_2.1 != 0 then some (y_2.1,y_2.2.1,()) else bT (DD L (y.3,())) fun y=>bif !y then some (2,y_2.2.1,()) else some (0,y_2.2.1,())) fun y=>bif y.1 != 0 then some (y.1,y.2.1,()) else self (Go.IntKind.i64.wrap (acc.1 + 1),y.2.1,()) else some (0,acc.2.1,())
theorem Zjv (L:Nat)(x0:Ze):I9 L (x0,())=bT (bif decide ((↑x0.13.length:Int) > 32) then some (6,[],()) else Zp (KQ x0 L) L (0,[],())) fun y=>some y.1:=by kernel_rfl
def Jc (L:Nat)(x:Int×Int×PUnit):Option Bool:=fT [QG L,Zca L] L Za5 [] (.one .bool) [.int .i64,.int .i64] x
def I7 (L:Nat):Sum tT:=mU 131 [.int .i64,.int .i64] (.one .bool) (Jc L)
theorem Bz:SX I7:=fun h=>sT h (Zb (Xx h) (Zb (ZhK h) Zq)) rfl (by kernel_rfl) fun _=>rfl
theorem Zju (L:Nat)(x0:Int)(x1:Int):Jc L (x0,x1,())=bif x0 == 1 then bT (DD L (x1,())) fun y=>some y else bif x0 == 2 then some (x1 == 0 || x1 == 1) else bif x0 == 3 then bT (ZF L (x1,0,1000000000,())) fun y=>some y else some false:=by kernel_rfl
def Gn (L:Nat)(x:Ze×X0×PUnit):Option Int:=fT [QG L,I7 L,Hy L] L EH [.rnd [.slot 30 (.int .i64)]] (.one (.int .i64)) [.row 14,.row 11] x
def Fj (L:Nat):Sum tT:=mU 99 [.row 14,.row 11] (.one (.int .i64)) (Gn L)
theorem ZhJ:SX Fj:=fun h=>sT h (Zb (Xx h) (Zb (Bz h) (Zb (Bv h) Zq))) rfl (by kernel_rfl) fun _=>rfl
def Ul:X0→Nat→ZU→(Int×PUnit→Option Int)→Int×PUnit→Option Int:=fun x1 L y self acc=>bif decide (acc.1 < (↑x1.2.length:Int)) then bT (ZJ x1.2 acc.1) fun y_1=>bT (ZJ y.2 acc.1) fun y=>bT (Jc L (y.2,y_1,())) fun y=>bif !y then some 2 else self (Go.IntKind.i64.wrap (acc.1 + 1),()) else bT (ZF L (x1.3,0,1000000000,())) fun y=>bT (bif (!y) == false then bT (ZF L (x1.4,0,1000000000,())) fun y=>some !y else some true) fun y=>bT (bif y == false then bT (ZF L (x1.5,0,1000000000,())) fun y=>some !y else some true) fun y=>bif y || x1.4 == 0 && x1.5 != 0 then some 2 else some 0
theorem Zh0 (L:Nat)(x0:Ze)(x1:X0):Gn L (x0,x1,())=bT (Ql L (x0,x1.1,())) fun y=>bif decide (y < 0) then some 5 else bT (ZJ x0.11 y) fun y=>bif (↑x1.2.length:Int) != (↑y.2.length:Int) then some 8 else Zp (Ul x1 L y) L (0,()):=by kernel_rfl
def UI (L:Nat)(x:Zu×PUnit):Option Int:=fT [VI L] L Za2 [] (.one (.int .i64)) [.row 8] x
def Zbh (L:Nat):Sum tT:=mU 208 [.row 8] (.one (.int .i64)) (UI L)
theorem ZjI:SX Zbh:=fun h=>sT h (Zb (Hl h) Zq) rfl (by kernel_rfl) fun _=>rfl
theorem Zjr (L:Nat)(x0:Zu):UI L (x0,())=bT (Qj L (QM.mk false,x0,())) fun y=>some y:=by kernel_rfl
def II (L:Nat)(x:Z9×G6×PUnit):Option Int:=fT [I5 L,Zbh L,WZ L] L ZaH [.rnd [.slot 4 (.int .i64),.slot 26 (.int .i64)],.rnd [.slot 4 (.int .i64),.slot 53 (.int .i64)],.rnd [.slot 74 (.int .i64)]] (.one (.int .i64)) [.row 9,.row 26] x
def BZ (L:Nat):Sum tT:=mU 197 [.row 9,.row 26] (.one (.int .i64)) (II L)
theorem Zbd:SX BZ:=fun h=>sT h (Zb (Bo h) (Zb (ZjI h) (Zb (Q4 h) Zq))) rfl (by kernel_rfl) fun _=>rfl
def Gg:Z9→G6→Nat→(Int×PUnit→Option Int)→Int×PUnit→Option Int:=fun x0 x1 L self acc=>bif decide (acc.1 < (↑x0.6.length:Int)) then bT (ZJ x0.6 acc.1) fun y=>bT (UI L (y,())) fun y=>bif y != 0 then some y else self (Go.IntKind.i64.wrap (acc.1 + 1),()) else bif x1.6 then bT (QB L (x0.7,())) fun y=>some y else some 0
def TW:Z9→G6→Nat→Int×Int×PUnit→(Int×Int×PUnit→Option Int)→Int×Int×PUnit→Option Int:=fun x0 x1 L acc self acc_1=>bif decide (acc_1.2.1 < (↑[OX.mk x1.3 x0.4,OX.mk x1.4 x0.5].length:Int)) then bT (ZJ [OX.mk x1.3 x0.4,OX.mk x1.4 x0.5] acc_1.2.1) fun y=>bif !y.1 then self (acc_1.1,Go.IntKind.i64.wrap (acc_1.2.1 + 1),()) else bT (UI L (y.2,())) fun y=>bif y != 0 then some y else self (acc_1.1,Go.IntKind.i64.wrap (acc_1.2.1 + 1),()) else bif decide ((↑x0.6.length:Int) > 6) then some 6 else Zp (Gg x0 x1 L) L (0,())
def AY:Z9→G6→Nat→(Int×Int×PUnit→Option Int)→Int×Int×PUnit→Option Int:=fun x0 x1 L self acc=>bif decide (acc.2.1 < (↑[OY.mk x1.1 x0.2,OY.mk x1.2 x0.3].length:Int)) then bT (ZJ [OY.mk x1.1 x0.2,OY.mk x1.2 x0.3] acc.2.1) fun y=>bT (ZK L (y.2,())) fun y_1=>bif y.1 && y_1 != 0 then some y_1 else self (acc.1,Go.IntKind.i64.wrap (acc.2.1 + 1),()) else Zp (TW x0 x1 L acc) L (acc.1,0,())
theorem Zj9 (L:Nat)(x0:Z9)(x1:G6):II L (x0,x1,())=Zp (AY x0 x1 L) L (0,0,()):=by kernel_rfl
def J6 (L:Nat)(x:Zu×PUnit):Option Bool:=fT [Ea L] L EP [] (.one .bool) [.row 8] x
def F7 (L:Nat):Sum tT:=mU 207 [.row 8] (.one .bool) (J6 L)
theorem ZhQ:SX F7:=fun h=>sT h (Zb (ZdQ h) Zq) rfl (by kernel_rfl) fun _=>rfl
theorem Zh7 (L:Nat)(x0:Zu):J6 L (x0,())=bT (MG L (x0,Zu.mk 0 [] 0 [],())) fun y=>some y:=by kernel_rfl
def MS (L:Nat)(x:Z9×G6×PUnit):Option Bool:=fT [TY L,F7 L] L Zc9 [] (.one .bool) [.row 9,.row 26] x
def Eg (L:Nat):Sum tT:=mU 196 [.row 9,.row 26] (.one .bool) (MS L)
theorem ZdY:SX Eg:=fun h=>sT h (Zb (SH h) (Zb (ZhQ h) Zq)) rfl (by kernel_rfl) fun _=>rfl
theorem ZlF (L:Nat)(x0:Z9)(x1:G6):MS L (x0,x1,())=bT (bif ((x1.1 || x0.2 == []) && (x1.2 || x0.3 == [])) == true then bif x1.3 == false then bT (J6 L (x0.4,())) fun y=>some y else some true else some false) fun y=>bT (bif y == true then bif x1.4 == false then bT (J6 L (x0.5,())) fun y=>some y else some true else some false) fun y=>bT (bif (y && (x1.5 || (↑x0.6.length:Int) == 0)) == true then bif x1.6 == false then bT (VK L (x0.7,We.mk 0 0 0 0 [] [],())) fun y=>some y else some true else some false) fun y=>some (y && (x1.7 || !x0.8) && (x1.8 || (↑x0.9.length:Int) == 0) && (x1.9 || (↑x0.10.length:Int) == 0)):=by kernel_rfl
def MV (L:Nat)(x:Int×PUnit):Option (G6×Bool×PUnit):=fT [] L ZcA [] (.tup [.row 26,.bool]) [.int .i64] x
def Eh (L:Nat):Sum tT:=mU 195 [.int .i64] (.tup [.row 26,.bool]) (MV L)
theorem ZdZ:SX Eh:=fun h=>sT h Zq rfl (by kernel_rfl) fun _=>rfl
theorem ZlG (L:Nat)(x0:Int):MV L (x0,())=bif x0 == 1 then some (G6.mk true false true false false false false false false,true,()) else bif x0 == 7 then some (G6.mk true false true false false false false false false,true,()) else bif x0 == 8 then some (G6.mk true false true false false false false false false,true,()) else bif x0 == 12 then some (G6.mk true false true false false false false false false,true,()) else bif x0 == 15 then some (G6.mk true false true false false false false false false,true,()) else bif x0 == 16 then some (G6.mk true false true false false false false false false,true,()) else bif x0 == 17 then some (G6.mk true false true false false false false false false,true,()) else bif x0 == 2 then some (G6.mk true true false false false true false false false,true,()) else bif x0 == 3 then some (G6.mk false false true false false false false true true,true,()) else bif x0 == 4 then some (G6.mk false false true false false false false true false,true,()) else bif x0 == 5 then some (G6.mk false false true false false false false false false,true,()) else bif x0 == 6 then some (G6.mk true false true true false false true false false,true,()) else bif x0 == 9 then some (G6.mk true true false false false false false false false,true,()) else bif x0 == 10 then some (G6.mk true false false false false false false false false,true,()) else bif x0 == 11 then some (G6.mk true false false false false false false false false,true,()) else bif x0 == 13 then some (G6.mk true true true false true false false false false,true,()) else bif x0 == 14 then some (G6.mk true false true false true false false false false,true,()) else bif x0 == 18 then some (G6.mk false false false false false false false false false,true,()) else some (G6.mk false false false false false false false false false,false,()):=by kernel_rfl
def TQ (L:Nat):Nat→List (Sum tT)
 | 0=>[⟨174,[.lst 21 (.row 9)],fun _=>.par _ none ((.one (.int .i64):RD).tv tT)⟩]
 | m + 1=>[⟨174,[.lst 21 (.row 9)],fun x=>.par _ (fnT tF tG (qOf tF (TQ L m ++ [BZ L,Eg L,Eh L])) 0 L RG [.rnd [.slot 12 (.int .i64)]] (.one (.int .i64)) (tvL tT [.lst 21 (.row 9)] x) []) ((.one (.int .i64):RD).tv tT)⟩]
theorem L6 {C:Cfg}{L:Nat}(h:St C L):∀ m,∀ s ∈ TQ L m,Qs C s
 | 0=>(Zb (Q8 _ _ _) Zq)
 | m + 1=>have ih:=L6 h m
  (Zb (Y1 Yv h.L h.G (WA Yv (Vk ih (Zb (Zbd h) (Zb (ZdY h) (Zb (ZdZ h) Zq))))) [.rnd [.slot 12 (.int .i64)]] (h.T _ _ rfl) (by kernel_rfl) fun _=>rfl) Zq)
def J9 (L m:Nat)(x:(List Z9)×PUnit):Option (Int):=fnT tF tG (qOf tF (TQ L m ++ [BZ L,Eg L,Eh L])) 0 L RG [.rnd [.slot 12 (.int .i64)]] (.one (.int .i64)) (tvL tT [.lst 21 (.row 9)] x) []
def Dk (L:Nat)(x:(List Z9)×PUnit):Option (Int):=J9 L L x
def Zbv (L:Nat):Sum tT:=⟨174,[.lst 21 (.row 9)],fun x=>.par ((.one (.int .i64):RD).Ty tT) (Dk L x) ((.one (.int .i64):RD).tv tT)⟩
theorem ZjX {C:Cfg}{L:Nat}(h:St C L):Qs C (Zbv L):=have ih:=L6 h L
 Y1 Yv h.L h.G (WA Yv (Vk ih (Zb (Zbd h) (Zb (ZdY h) (Zb (ZdZ h) Zq))))) [.rnd [.slot 12 (.int .i64)]] (h.T _ _ rfl) (by kernel_rfl) fun _=>rfl
def TU:Nat→List Z9→Nat→(Int×PUnit→Option Int)→Int×PUnit→Option Int:=fun (m:Nat)=>fun x0 L self acc=>bif decide (acc.1 < (↑x0.length:Int)) then bT (ZJ x0 acc.1) fun y=>bT (MV L (y.1,())) fun y_1=>bT (bif (!y_1.2.1) == false then bT (MS L (y,y_1.1,())) fun y=>some !y else some true) fun y_2=>bif y_2 then some 1 else bT (II L (y,y_1.1,())) fun y_3=>bif y_3 != 0 then some y_3 else bT (J9 L m (y.9,())) fun y_4=>bif y_4 != 0 then some y_4 else bT (J9 L m (y.10,())) fun y=>bif y != 0 then some y else self (Go.IntKind.i64.wrap (acc.1 + 1),()) else some 0
theorem Zj8 (L m:Nat)(x0:(List Z9)):J9 L (m + 1) (x0,())=Zp (TU m x0 L) L (0,()):=by kernel_rfl
end Go.Proofs.YtgjcjbhhhlelnaaGreatDoor
end
noncomputable section
namespace Go.Proofs.YtgjcjbhhhlelnaaGreatDoor
open Go Go.Proofs.YtgjcjbhhhlelnaaGreatDoor.Abs Go.Proofs.YtgjcjbhhhlelnaaGreatDoor.Tl
set_option maxRecDepth 100000
set_option maxHeartbeats 0
def TP (L:Nat):Nat→List (Sum tT)
 | 0=>[⟨173,[.lst 21 (.row 9)],fun _=>.par _ none ((.one (.int .i64):RD).tv tT)⟩]
 | m + 1=>[⟨173,[.lst 21 (.row 9)],fun x=>.par _ (fnT tF tG (qOf tF (TP L m ++ [])) 0 L RF [.rnd [.slot 3 (.int .i64),.slot 8 (.int .i64)]] (.one (.int .i64)) (tvL tT [.lst 21 (.row 9)] x) []) ((.one (.int .i64):RD).tv tT)⟩]
theorem Lu {C:Cfg}{L:Nat}(h:St C L):∀ m,∀ s ∈ TP L m,Qs C s
 | 0=>(Zb (Q8 _ _ _) Zq)
 | m + 1=>have ih:=Lu h m
  (Zb (Y1 Yv h.L h.G (WA Yv (Vk ih Zq)) [.rnd [.slot 3 (.int .i64),.slot 8 (.int .i64)]] (h.T _ _ rfl) (by kernel_rfl) fun _=>rfl) Zq)
def J8 (L m:Nat)(x:(List Z9)×PUnit):Option (Int):=fnT tF tG (qOf tF (TP L m ++ [])) 0 L RF [.rnd [.slot 3 (.int .i64),.slot 8 (.int .i64)]] (.one (.int .i64)) (tvL tT [.lst 21 (.row 9)] x) []
def Dj (L:Nat)(x:(List Z9)×PUnit):Option (Int):=J8 L L x
def Zbu (L:Nat):Sum tT:=⟨173,[.lst 21 (.row 9)],fun x=>.par ((.one (.int .i64):RD).Ty tT) (Dj L x) ((.one (.int .i64):RD).tv tT)⟩
theorem ZjW {C:Cfg}{L:Nat}(h:St C L):Qs C (Zbu L):=have ih:=Lu h L
 Y1 Yv h.L h.G (WA Yv (Vk ih Zq)) [.rnd [.slot 3 (.int .i64),.slot 8 (.int .i64)]] (h.T _ _ rfl) (by kernel_rfl) fun _=>rfl
def TS:Nat→List Z9→Nat→(Int×Int×PUnit→Option Int)→Int×Int×PUnit→Option Int:=fun (m:Nat)=>fun x0 L self acc=>bif decide (acc.2.1 < (↑x0.length:Int)) then bT (ZJ x0 acc.2.1) fun y=>bT (bT (J8 L m (y.9,())) fun y=>some y) fun y_1=>bT (bT (J8 L m (y.10,())) fun y=>some y) fun y=>self (if Go.IntKind.i64.wrap (1 + y) > if Go.IntKind.i64.wrap (1 + y_1) > acc.1 then Go.IntKind.i64.wrap (1 + y_1) else acc.1 then Go.IntKind.i64.wrap (1 + y) else if Go.IntKind.i64.wrap (1 + y_1) > acc.1 then Go.IntKind.i64.wrap (1 + y_1) else acc.1,Go.IntKind.i64.wrap (acc.2.1 + 1),()) else some acc.1
theorem Zj7 (L m:Nat)(x0:(List Z9)):J8 L (m + 1) (x0,())=Zp (TS m x0 L) L (0,0,()):=by kernel_rfl
def TN (L:Nat):Nat→List (Sum tT)
 | 0=>[⟨172,[.lst 21 (.row 9)],fun _=>.par _ none ((.one (.int .i64):RD).tv tT)⟩]
 | m + 1=>[⟨172,[.lst 21 (.row 9)],fun x=>.par _ (fnT tF tG (qOf tF (TN L m ++ [])) 0 L Rz [.rnd [.slot 3 (.int .i64),.slot 10 (.int .i64)]] (.one (.int .i64)) (tvL tT [.lst 21 (.row 9)] x) []) ((.one (.int .i64):RD).tv tT)⟩]
theorem Lt {C:Cfg}{L:Nat}(h:St C L):∀ m,∀ s ∈ TN L m,Qs C s
 | 0=>(Zb (Q8 _ _ _) Zq)
 | m + 1=>have ih:=Lt h m
  (Zb (Y1 Yv h.L h.G (WA Yv (Vk ih Zq)) [.rnd [.slot 3 (.int .i64),.slot 10 (.int .i64)]] (h.T _ _ rfl) (by kernel_rfl) fun _=>rfl) Zq)
def J7 (L m:Nat)(x:(List Z9)×PUnit):Option (Int):=fnT tF tG (qOf tF (TN L m ++ [])) 0 L Rz [.rnd [.slot 3 (.int .i64),.slot 10 (.int .i64)]] (.one (.int .i64)) (tvL tT [.lst 21 (.row 9)] x) []
def Di (L:Nat)(x:(List Z9)×PUnit):Option (Int):=J7 L L x
def Zbt (L:Nat):Sum tT:=⟨172,[.lst 21 (.row 9)],fun x=>.par ((.one (.int .i64):RD).Ty tT) (Di L x) ((.one (.int .i64):RD).tv tT)⟩
theorem ZjV {C:Cfg}{L:Nat}(h:St C L):Qs C (Zbt L):=have ih:=Lt h L
 Y1 Yv h.L h.G (WA Yv (Vk ih Zq)) [.rnd [.slot 3 (.int .i64),.slot 10 (.int .i64)]] (h.T _ _ rfl) (by kernel_rfl) fun _=>rfl
def TR:Nat→List Z9→Nat→(Int×Int×PUnit→Option Int)→Int×Int×PUnit→Option Int:=fun (m:Nat)=>fun x0 L self acc=>bif decide (acc.2.1 < (↑x0.length:Int)) then bT (ZJ x0 acc.2.1) fun y=>bT (bT (J7 L m (y.9,())) fun y=>some y) fun y_1=>bT (bT (J7 L m (y.10,())) fun y=>some y) fun y=>self (Go.IntKind.i64.wrap (acc.1 + Go.IntKind.i64.wrap (y_1 + y)),Go.IntKind.i64.wrap (acc.2.1 + 1),()) else some acc.1
theorem Zj6 (L m:Nat)(x0:(List Z9)):J7 L (m + 1) (x0,())=Zp (TR m x0 L) L ((↑x0.length:Int),0,()):=by kernel_rfl
def IG (L:Nat)(x:(List Z9)×PUnit):Option Int:=fT [Zbv L,Zbu L,Zbt L] L ZaG [] (.one (.int .i64)) [.lst 21 (.row 9)] x
def Zbs (L:Nat):Sum tT:=mU 135 [.lst 21 (.row 9)] (.one (.int .i64)) (IG L)
theorem ZjU:SX Zbs:=fun h=>sT h (Zb (ZjX h) (Zb (ZjW h) (Zb (ZjV h) Zq))) rfl (by kernel_rfl) fun _=>rfl
theorem Zj5 (L:Nat)(x0:(List Z9)):IG L (x0,())=bT (Di L (x0,())) fun y=>bif decide (y > 200) then some 6 else bT (Dj L (x0,())) fun y=>bif decide (y > 12) then some 11 else bT (Dk L (x0,())) fun y=>some y:=by kernel_rfl
def Va (L:Nat)(x:Int×PUnit):Option Bool:=fT [] L EF [] (.one .bool) [.int .i64] x
def Gh (L:Nat):Sum tT:=mU 130 [.int .i64] (.one .bool) (Va L)
theorem TJ:SX Gh:=fun h=>sT h Zq rfl (by kernel_rfl) fun _=>rfl
theorem Zhy (L:Nat)(x0:Int):Va L (x0,())=some (decide (x0 ≥ 1) && decide (x0≤3)):=by kernel_rfl
def Yf (L:Nat)(x:(List (List WP))×PUnit):Option (List WP):=fT [ZuR] L WT [.rnd [.slot 3 (.int .i64),.slot 11 (.int .i64)],.rnd [.slot 6 (.own 2 (.row 7)),.slot 27 (.int .i64)]] (.one (.lst 2 (.row 7))) [.lst 1 (.lst 2 (.row 7))] x
def WW (L:Nat):Sum tT:=mU 134 [.lst 1 (.lst 2 (.row 7))] (.one (.lst 2 (.row 7))) (Yf L)
theorem Vo:SX WW:=fun h=>sT h (Zb (Zzy h) Zq) rfl (by kernel_rfl) fun _=>rfl
def Y4:List (List WP)→(List WP×Int×PUnit→Option (List WP))→List WP×Int×PUnit→Option (List WP):=fun x0 self acc=>bif decide (acc.2.1 < (↑x0.length:Int)) then bT (ZJ x0 acc.2.1) fun y=>bT (apT 24 acc.1 y) fun y=>self (y,Go.IntKind.i64.wrap (acc.2.1 + 1),()) else some acc.1
def WR:List (List WP)→Nat→(Int×Int×PUnit→Option (List WP))→Int×Int×PUnit→Option (List WP):=fun x0 L self acc=>bif decide (acc.2.1 < (↑x0.length:Int)) then bT (ZJ x0 acc.2.1) fun y=>bif decide (Go.IntKind.i64.wrap (acc.1 + (↑y.length:Int)) < 0) then none else self (Go.IntKind.i64.wrap (acc.1 + (↑y.length:Int)),Go.IntKind.i64.wrap (acc.2.1 + 1),()) else bT (ZsH [] acc.1) fun y=>Zp (Y4 x0) L (y,0,())
theorem Vm (L:Nat)(x0:(List (List WP))):Yf L (x0,())=Zp (WR x0 L) L (0,0,()):=by kernel_rfl
def Zb3:List (Inl tT):=[⟨52,WC,[],.one (.int .i64),[(3,[.cont 1 (.map .str)])]⟩]
def J3 (L:Nat)(x:ZU×PUnit):Option Int:=fI [Zbs L,Gh L,WZ L,WW L] L Zb3 Rn [.rnd [.slot 29 (.int .i64),.cont 1 (.map .str)]] (.one (.int .i64)) [.row 10] x
def BR (L:Nat):Sum tT:=mU 95 [.row 10] (.one (.int .i64)) (J3 L)
theorem ZdS:SX BR:=fun h=>sI h (Zb (ZjU h) (Zb (TJ h) (Zb (Q4 h) (Zb (Vo h) Zq)))) (Zb ⟨h.T _ _ rfl,by kernel_rfl⟩ Zq) rfl (by kernel_rfl) fun _=>rfl
def V6:ZU→Nat→List WP→(Int×List (List UInt8)×PUnit→Option Int)→Int×List (List UInt8)×PUnit→Option Int:=fun x0 L y self acc=>bif decide (acc.1 < (↑y.length:Int)) then bT (ZJ y acc.1) fun y=>bT (bT (ZK L (y.1,())) fun y_1=>bif y_1 != 0 then some (y_1,acc.2.1,()) else bif hasK MK.str acc.2.1 y.1 then some (4,acc.2.1,()) else some (0,ZaI MK.str acc.2.1 y.1,())) fun y_1=>bif y_1.1 != 0 then some y_1.1 else bT (Va L (y.2,())) fun y=>bif !y then some 1 else self (Go.IntKind.i64.wrap (acc.1 + 1),y_1.2.1,()) else bT (IG L (x0.4,())) fun y=>some y
theorem ZdC (L:Nat)(x0:ZU):J3 L (x0,())=bif decide ((↑x0.2.length:Int) > 6) || decide (Go.IntKind.i64.wrap ((↑x0.2.length:Int) + (↑x0.3.length:Int)) > 16) then some 6 else bT (Yf L ([x0.2,x0.3],())) fun y=>Zp (V6 x0 L y) L (0,[],()):=by kernel_rfl
def V8 (L:Nat)(x:Ze×LX×PUnit):Option Int:=fT [I5 L,YU L,TY L] L Ld [] (.one (.int .i64)) [.row 14,.row 3] x
def LC (L:Nat):Sum tT:=mU 80 [.row 14,.row 3] (.one (.int .i64)) (V8 L)
theorem ZbE:SX LC:=fun h=>sT h (Zb (Bo h) (Zb (Q5 h) (Zb (SH h) Zq))) rfl (by kernel_rfl) fun _=>rfl
theorem ZbA (L:Nat)(x0:Ze)(x1:LX):V8 L (x0,x1,())=bT (bif (x1.1 == []) == true then bT (VK L (x1.2,We.mk 0 0 0 0 [] [],())) fun y=>bif (!y) == false then bT (VK L (x1.3,We.mk 0 0 0 0 [] [],())) fun y=>some !y else some true else some false) fun y=>bif y then some 1 else bif x1.1 == [] then some 0 else bT (Yc L (x0.7,x1.1,())) fun y=>bif !y then some 5 else bT (QB L (x1.2,())) fun y=>bif y != 0 then some y else bT (QB L (x1.3,())) fun y=>some y:=by kernel_rfl
def V9 (L:Nat)(x:Zv×PUnit):Option Int:=fT [QG L] L Lh [.rnd [.slot 25 (.int .i64)]] (.one (.int .i64)) [.row 4] x
def LD (L:Nat):Sum tT:=mU 79 [.row 4] (.one (.int .i64)) (V9 L)
theorem ZbF:SX LD:=fun h=>sT h (Zb (Xx h) Zq) rfl (by kernel_rfl) fun _=>rfl
def QO:Zv→Nat→(Int×PUnit→Option Int)→Int×PUnit→Option Int:=fun x0 L self acc=>bif decide (acc.1 < (↑x0.3.length:Int)) then bT (ZJ x0.3 acc.1) fun y=>bT (ZF L (y.1,0,Go.IntKind.i64.wrap (x0.4 - 1),())) fun y_1=>bif !y_1 then some 2 else bT (ZF L (y.2,0,1000,())) fun y_2=>bif !y_2 then some 2 else bT (bif decide (acc.1 > 0) == true then bT (ZJ x0.3 (Go.IntKind.i64.wrap (acc.1 - 1))) fun y_3=>some (decide (y.1≤y_3.1)) else some false) fun y=>bif y then some 12 else self (Go.IntKind.i64.wrap (acc.1 + 1),()) else some 0
theorem ZbB (L:Nat)(x0:Zv):V9 L (x0,())=bif (↑x0.3.length:Int) == 0 then bif x0.4 != 0 then some 1 else some 0 else bif decide ((↑x0.3.length:Int) > 20) then some 6 else bT (ZF L (x0.4,1,1000000000,())) fun y=>bif !y then some 2 else Zp (QO x0 L) L (0,()):=by kernel_rfl
def ZgT:List (Inl tT):=[⟨73,EE,[.unr 60],.one (.int .i64),[(5,[.cont 1 (.map .str)])]⟩,⟨100,Ru,[],.one (.int .i64),[]⟩,⟨96,Rt,[],.one (.int .i64),[(5,[.cont 1 (.map .str)])]⟩,⟨97,Jg,[.rnd [.slot 16 (.int .i64),.cont 1 (.map .str)]],.one (.int .i64),[(5,[.cont 1 (.map .str)])]⟩,⟨98,Oo,[],.one (.int .i64),[]⟩,⟨92,Rq,[],.one (.int .i64),[(5,[.cont 1 (.map .str)])]⟩,⟨93,Vr,[.rnd [.slot 16 (.int .i64),.cont 1 (.map .str)]],.one (.int .i64),[(5,[.cont 1 (.map .str)])]⟩,⟨94,Om,[],.one (.int .i64),[(6,[.cont 1 (.map .str)])]⟩,⟨52,WC,[],.one (.int .i64),[(7,[.cont 1 (.map .str)]),(5,[.cont 1 (.map .str)])]⟩,⟨91,Ro,[],.one (.int .i64),[(5,[.cont 1 (.map .str)])]⟩,⟨90,P5,[],.one (.int .i64),[(5,[.cont 1 (.map .str)])]⟩,⟨89,Pz,[],.one (.int .i64),[(5,[.cont 1 (.map .str)])]⟩,⟨88,Py,[],.one (.int .i64),[(5,[.cont 1 (.map .str)])]⟩,⟨87,Px,[],.one (.int .i64),[(5,[.cont 1 (.map .str)])]⟩,⟨84,Pv,[],.one (.int .i64),[(5,[.cont 1 (.map .str)])]⟩,⟨85,Ve,[.rnd [.slot 16 (.int .i64),.cont 1 (.map .str)]],.one (.int .i64),[(5,[.cont 1 (.map .str)])]⟩,⟨86,Lm,[],.one (.int .i64),[(6,[.cont 1 (.map .str)])]⟩,⟨81,Pq,[],.one (.int .i64),[(5,[.cont 1 (.map .str)])]⟩,⟨82,XF,[.rnd [.slot 16 (.int .i64),.cont 1 (.map .str)]],.one (.int .i64),[(5,[.cont 1 (.map .str)])]⟩,⟨83,Ll,[],.one (.int .i64),[(6,[.cont 1 (.map .str)])]⟩,⟨75,Po,[],.one (.int .i64),[(5,[.cont 1 (.map .str)])]⟩,⟨76,QW,[.rnd [.slot 16 (.int .i64),.cont 1 (.map .str)]],.one (.int .i64),[(5,[.cont 1 (.map .str)])]⟩,⟨77,Lj,[],.one (.int .i64),[(6,[.cont 1 (.map .str)])]⟩,⟨74,Pn,[],.one (.int .i64),[(5,[.cont 1 (.map .str)])]⟩,⟨49,Xy,[],.one (.int .i64),[(5,[.cont 1 (.map .str)])]⟩,⟨69,Xe,[.rnd [.slot 16 (.int .i64),.cont 1 (.map .str)]],.one (.int .i64),[(5,[.cont 1 (.map .str)])]⟩,⟨70,XE,[],.one (.int .i64),[(6,[.cont 1 (.map .str)])]⟩,⟨71,Pm,[],.one (.int .i64),[(5,[.cont 1 (.map .str)])]⟩,⟨72,Ku,[.rnd [.slot 16 (.int .i64),.cont 1 (.map .str)]],.one (.int .i64),[(5,[.cont 1 (.map .str)])]⟩]
def IA (L:Nat)(x:Ze×PUnit):Option Int:=fI [Zbl L,Fj L,BR L,WZ L,QG L,LC L,LD L,I7 L,Gh L] L ZgT Za7 [] (.one (.int .i64)) [.row 14] x
def Zbm (L:Nat):Sum tT:=mU 53 [.row 14] (.one (.int .i64)) (IA L)
theorem ZjN:SX Zbm:=fun h=>sI h (Zb (ZjM h) (Zb (ZhJ h) (Zb (ZdS h) (Zb (Q4 h) (Zb (Xx h) (Zb (ZbE h) (Zb (ZbF h) (Zb (Bz h) (Zb (TJ h) Zq))))))))) (Zb ⟨h.T _ _ rfl,by kernel_rfl⟩ (Zb ⟨h.T _ _ rfl,by kernel_rfl⟩ (Zb ⟨h.T _ _ rfl,by kernel_rfl⟩ (Zb ⟨h.T _ _ rfl,by kernel_rfl⟩ (Zb ⟨h.T _ _ rfl,by kernel_rfl⟩ (Zb ⟨h.T _ _ rfl,by kernel_rfl⟩ (Zb ⟨h.T _ _ rfl,by kernel_rfl⟩ (Zb ⟨h.T _ _ rfl,by kernel_rfl⟩ (Zb ⟨h.T _ _ rfl,by kernel_rfl⟩ (Zb ⟨h.T _ _ rfl,by kernel_rfl⟩ (Zb ⟨h.T _ _ rfl,by kernel_rfl⟩ (Zb ⟨h.T _ _ rfl,by kernel_rfl⟩ (Zb ⟨h.T _ _ rfl,by kernel_rfl⟩ (Zb ⟨h.T _ _ rfl,by kernel_rfl⟩ (Zb ⟨h.T _ _ rfl,by kernel_rfl⟩ (Zb ⟨h.T _ _ rfl,by kernel_rfl⟩ (Zb ⟨h.T _ _ rfl,by kernel_rfl⟩ (Zb ⟨h.T _ _ rfl,by kernel_rfl⟩ (Zb ⟨h.T _ _ rfl,by kernel_rfl⟩ (Zb ⟨h.T _ _ rfl,by kernel_rfl⟩ (Zb ⟨h.T _ _ rfl,by kernel_rfl⟩ (Zb ⟨h.T _ _ rfl,by kernel_rfl⟩ (Zb ⟨h.T _ _ rfl,by kernel_rfl⟩ (Zb ⟨h.T _ _ rfl,by kernel_rfl⟩ (Zb ⟨h.T _ _ rfl,by kernel_rfl⟩ (Zb ⟨h.T _ _ rfl,by kernel_rfl⟩ (Zb ⟨h.T _ _ rfl,by kernel_rfl⟩ (Zb ⟨h.T _ _ rfl,by kernel_rfl⟩ (Zb ⟨h.T _ _ rfl,by kernel_rfl⟩ Zq))))))))))))))))))))))))))))) rfl (by kernel_rfl) fun _=>rfl
def KU:Ze→Nat→(Int×List (List UInt8)×PUnit→Option (Int×List (List UInt8)×PUnit))→Int×List (List UInt8)×PUnit→Option (Int×List (List UInt8)×PUnit):=fun x0 L self acc=>bif decide (acc.1 < (↑x0.2.length:Int)) then bT (ZJ x0.2 acc.1) fun y=>bT (bT (bT (ZK L (y.1,())) fun y_1=>bif y_1 != 0 then some (y_1,acc.2.1,()) else bif hasK MK.str acc.2.1 y.1 then some (4,acc.2.1,()) else some (0,ZaI MK.str acc.2.1 y.1,())) fun y_1=>bif y_1.1 != 0 then some (y_1.1,y_1.2.1,()) else bT (Va L (y.2,())) fun y_2=>bif !y_2 then some (1,y_1.2.1,()) else bT (Jc L (y.2,y.3,())) fun y=>bif !y then some (2,y_1.2.1,()) else some (0,y_1.2.1,())) fun y=>bif y.1 != 0 then some (y.1,y.2.1,()) else self (Go.IntKind.i64.wrap (acc.1 + 1),y.2.1,()) else some (0,acc.2.1,())
def KW:Ze→Nat→(Int×List (List UInt8)×PUnit→Option (Int×List (List UInt8)×PUnit))→Int×List (List UInt8)×PUnit→Option (Int×List (List UInt8)×PUnit):=fun x0 L self acc=>bif decide (acc.1 < (↑x0.3.length:Int)) then bT (ZJ x0.3 acc.1) fun y=>bT (bT (bT (ZK L (y.1,())) fun y_1=>bif y_1 != 0 then some (y_1,acc.2.1,()) else bif hasK MK.str acc.2.1 y.1 then some (4,acc.2.1,()) else some (0,ZaI MK.str acc.2.1 y.1,())) fun y_1=>bif y_1.1 != 0 then some (y_1.1,y_1.2.1,()) else bT (ZF L (y.2,0,1000,())) fun y_2=>bif !y_2 then some (2,y_1.2.1,()) else bT (V9 L (y,())) fun y_3=>bif y_3 != 0 then some (y_3,y_1.2.1,()) else bT (V8 L (x0,y.5,())) fun y=>some (y,y_1.2.1,())) fun y=>bif y.1 != 0 then some (y.1,y.2.1,()) else self (Go.IntKind.i64.wrap (acc.1 + 1),y.2.1,()) else some (0,acc.2.1,())
def KX:Ze→Nat→(Int×List (List UInt8)×PUnit→Option (Int×List (List UInt8)×PUnit))→Int×List (List UInt8)×PUnit→Option (Int×List (List UInt8)×PUnit):=fun x0 L self acc=>bif decide (acc.1 < (↑x0.4.length:Int)) then bT (ZJ x0.4 acc.1) fun y=>bT (bT (bT (ZK L (y.1,())) fun y_1=>bif y_1 != 0 then some (y_1,acc.2.1,()) else bif hasK MK.str acc.2.1 y.1 then some (4,acc.2.1,()) else some (0,ZaI MK.str acc.2.1 y.1,())) fun y_1=>bif y_1.1 != 0 then some (y_1.1,y_1.2.1,()) else bT (ZF L (y.2,1,1000,())) fun y_2=>bif !y_2 then some (2,y_1.2.1,()) else bif decide (y.3 < 1) || decide (y.3 > 3) then some (1,y_1.2.1,()) else some (0,y_1.2.1,())) fun y=>bif y.1 != 0 then some (y.1,y.2.1,()) else self (Go.IntKind.i64.wrap (acc.1 + 1),y.2.1,()) else some (0,acc.2.1,())
def KY:Ze→Nat→(Int×List (List UInt8)×PUnit→Option (Int×List (List UInt8)×PUnit))→Int×List (List UInt8)×PUnit→Option (Int×List (List UInt8)×PUnit):=fun x0 L self acc=>bif decide (acc.1 < (↑x0.5.length:Int)) then bT (ZJ x0.5 acc.1) fun y=>bT (bT (bT (ZK L (y.1,())) fun y_1=>bif y_1 != 0 then some (y_1,acc.2.1,()) else bif hasK MK.str acc.2.1 y.1 then some (4,acc.2.1,()) else some (0,ZaI MK.str acc.2.1 y.1,())) fun y_1=>bif y_1.1 != 0 then some (y_1.1,y_1.2.1,()) else bT (ZF L (y.2,1,1000,())) fun y_2=>bT (bif (!y_2) == false then bT (ZF L (y.3,1,1000,())) fun y=>some !y else some true) fun y=>bif y then some (2,y_1.2.1,()) else some (0,y_1.2.1,())) fun y=>bif y.1 != 0 then some (y.1,y.2.1,()) else self (Go.IntKind.i64.wrap (acc.1 + 1),y.2.1,()) else some (0,acc.2.1,())
def KZ:Ze→Nat→(Int×List (List UInt8)×PUnit→Option (Int×List (List UInt8)×PUnit))→Int×List (List UInt8)×PUnit→Option (Int×List (List UInt8)×PUnit):=fun x0 L self acc=>bif decide (acc.1 < (↑x0.6.length:Int)) then bT (ZJ x0.6 acc.1) fun y=>bT (bT (ZK L (y,())) fun y_1=>bif y_1 != 0 then some (y_1,acc.2.1,()) else bif hasK MK.str acc.2.1 y then some (4,acc.2.1,()) else some (0,ZaI MK.str acc.2.1 y,())) fun y=>bif y.1 != 0 then some (y.1,y.2.1,()) else self (Go.IntKind.i64.wrap (acc.1 + 1),y.2.1,()) else some (0,acc.2.1,())
def Ae:Ze→Nat→(Int×List (List UInt8)×PUnit→Option (Int×List (List UInt8)×PUnit))→Int×List (List UInt8)×PUnit→Option (Int×List (List UInt8)×PUnit):=fun x0 L self acc=>bif decide (acc.1 < (↑x0.7.length:Int)) then bT (ZJ x0.7 acc.1) fun y=>bT (bT (ZK L (y,())) fun y_1=>bif y_1 != 0 then some (y_1,acc.2.1,()) else bif hasK MK.str acc.2.1 y then some (4,acc.2.1,()) else some (0,ZaI MK.str acc.2.1 y,())) fun y=>bif y.1 != 0 then some (y.1,y.2.1,()) else self (Go.IntKind.i64.wrap (acc.1 + 1),y.2.1,()) else some (0,acc.2.1,())
def Af:Ze→Nat→(Int×List (List UInt8)×PUnit→Option (Int×List (List UInt8)×PUnit))→Int×List (List UInt8)×PUnit→Option (Int×List (List UInt8)×PUnit):=fun x0 L self acc=>bif decide (acc.1 < (↑x0.8.length:Int)) then bT (ZJ x0.8 acc.1) fun y=>bT (bT (ZK L (y,())) fun y_1=>bif y_1 != 0 then some (y_1,acc.2.1,()) else bif hasK MK.str acc.2.1 y then some (4,acc.2.1,()) else some (0,ZaI MK.str acc.2.1 y,())) fun y=>bif y.1 != 0 then some (y.1,y.2.1,()) else self (Go.IntKind.i64.wrap (acc.1 + 1),y.2.1,()) else some (0,acc.2.1,())
def Ag:Ze→Nat→(Int×List (List UInt8)×PUnit→Option (Int×List (List UInt8)×PUnit))→Int×List (List UInt8)×PUnit→Option (Int×List (List UInt8)×PUnit):=fun x0 L self acc=>bif decide (acc.1 < (↑x0.9.length:Int)) then bT (ZJ x0.9 acc.1) fun y=>bT (bT (ZK L (y,())) fun y_1=>bif y_1 != 0 then some (y_1,acc.2.1,()) else bif hasK MK.str acc.2.1 y then some (4,acc.2.1,()) else some (0,ZaI MK.str acc.2.1 y,())) fun y=>bif y.1 != 0 then some (y.1,y.2.1,()) else self (Go.IntKind.i64.wrap (acc.1 + 1),y.2.1,()) else some (0,acc.2.1,())
def Ah:Ze→Nat→(Int×List (List UInt8)×PUnit→Option (Int×List (List UInt8)×PUnit))→Int×List (List UInt8)×PUnit→Option (Int×List (List UInt8)×PUnit):=fun x0 L self acc=>bif decide (acc.1 < (↑x0.10.length:Int)) then bT (ZJ x0.10 acc.1) fun y=>bT (bT (ZK L (y,())) fun y_1=>bif y_1 != 0 then some (y_1,acc.2.1,()) else bif hasK MK.str acc.2.1 y then some (4,acc.2.1,()) else some (0,ZaI MK.str acc.2.1 y,())) fun y=>bif y.1 != 0 then some (y.1,y.2.1,()) else self (Go.IntKind.i64.wrap (acc.1 + 1),y.2.1,()) else some (0,acc.2.1,())
def Gf:Ze→Nat→(Int×List (List UInt8)×PUnit→Option (Int×List (List UInt8)×PUnit))→Int×List (List UInt8)×PUnit→Option (Int×List (List UInt8)×PUnit):=fun x0 L self acc=>bif decide (acc.1 < (↑x0.11.length:Int)) then bT (ZJ x0.11 acc.1) fun y=>bT (bT (bT (ZK L (y.1,())) fun y_1=>bif y_1 != 0 then some (y_1,acc.2.1,()) else bif hasK MK.str acc.2.1 y.1 then some (4,acc.2.1,()) else some (0,ZaI MK.str acc.2.1 y.1,())) fun y_1=>bif y_1.1 != 0 then some (y_1.1,y_1.2.1,()) else bT (J3 L (y,())) fun y=>some (y,y_1.2.1,())) fun y=>bif y.1 != 0 then some (y.1,y.2.1,()) else self (Go.IntKind.i64.wrap (acc.1 + 1),y.2.1,()) else some (0,acc.2.1,())
def Xv:Ze→Nat→(Int×List (List UInt8)×PUnit→Option (Int×List (List UInt8)×PUnit))→Int×List (List UInt8)×PUnit→Option (Int×List (List UInt8)×PUnit):=fun x0 L self acc=>bif decide (acc.1 < (↑x0.12.length:Int)) then bT (ZJ x0.12 acc.1) fun y=>bT (bT (Gn L (x0,y,())) fun y=>some y) fun y=>bif y != 0 then some (y,acc.2.1,()) else self (Go.IntKind.i64.wrap (acc.1 + 1),acc.2.1,()) else some (0,acc.2.1,())
theorem Zjw (L:Nat)(x0:Ze):IA L (x0,())=bT (bT (bT (bT (bif decide ((↑x0.2.length:Int) > 32) then some (6,[],()) else Zp (KU x0 L) L (0,[],())) fun y=>some (y.1,y.2.1,())) fun y=>some (y.1,y.2.1,())) fun y=>bif y.1 != 0 then some (y.1,y.2.1,()) else bT (bT (bif decide ((↑x0.3.length:Int) > 32) then some (6,y.2.1,()) else Zp (KW x0 L) L (0,y.2.1,())) fun y=>some (y.1,y.2.1,())) fun y=>bif y.1 != 0 then some (y.1,y.2.1,()) else bT (bT (bif decide ((↑x0.4.length:Int) > 32) then some (6,y.2.1,()) else Zp (KX x0 L) L (0,y.2.1,())) fun y=>some (y.1,y.2.1,())) fun y=>bif y.1 != 0 then some (y.1,y.2.1,()) else bT (bT (bif decide ((↑x0.5.length:Int) > 32) then some (6,y.2.1,()) else Zp (KY x0 L) L (0,y.2.1,())) fun y=>some (y.1,y.2.1,())) fun y=>bif y.1 != 0 then some (y.1,y.2.1,()) else bT (bT (bT (bif decide ((↑x0.6.length:Int) > 32) then some (6,y.2.1,()) else Zp (KZ x0 L) L (0,y.2.1,())) fun y=>some (y.1,y.2.1,())) fun y=>some (y.1,y.2.1,())) fun y=>bif y.1 != 0 then some (y.1,y.2.1,()) else bT (bT (bT (bif decide ((↑x0.7.length:Int) > 32) then some (6,y.2.1,()) else Zp (Ae x0 L) L (0,y.2.1,())) fun y=>some (y.1,y.2.1,())) fun y=>some (y.1,y.2.1,())) fun y=>bif y.1 != 0 then some (y.1,y.2.1,()) else bT (bT (bT (bif decide ((↑x0.8.length:Int) > 32) then some (6,y.2.1,()) else Zp (Af x0 L) L (0,y.2.1,())) fun y=>some (y.1,y.2.1,())) fun y=>some (y.1,y.2.1,())) fun y=>bif y.1 != 0 then some (y.1,y.2.1,()) else bT (bT (bT (bif decide ((↑x0.9.length:Int) > 32) then some (6,y.2.1,()) else Zp (Ag x0 L) L (0,y.2.1,())) fun y=>some (y.1,y.2.1,())) fun y=>some (y.1,y.2.1,())) fun y=>bif y.1 != 0 then some (y.1,y.2.1,()) else bT (bT (bT (bif decide ((↑x0.10.length:Int) > 32) then some (6,y.2.1,()) else Zp (Ah x0 L) L (0,y.2.1,())) fun y=>some (y.1,y.2.1,())) fun y=>some (y.1,y.2.1,())) fun y=>bif y.1 != 0 then some (y.1,y.2.1,()) else bT (bT (bif decide ((↑x0.11.length:Int) > 16) then some (6,y.2.1,()) else Zp (Gf x0 L) L (0,y.2.1,())) fun y=>some (y.1,y.2.1,())) fun y=>bif y.1 != 0 then some (y.1,y.2.1,()) else bT (bT (bif decide ((↑x0.12.length:Int) > 32) then some (6,y.2.1,()) else Zp (Xv x0 L) L (0,y.2.1,())) fun y=>some (y.1,y.2.1,())) fun y=>bif y.1 != 0 then some (y.1,y.2.1,()) else bT (bT (I9 L (x0,())) fun y=>some y) fun y_1=>bif y_1 != 0 then some (y_1,y.2.1,()) else some (0,y.2.1,())) fun y=>some y.1:=by kernel_rfl
def ZeS:List (Inl tT):=[⟨50,Vf,[.rnd [.slot 16 (.int .i64),.cont 1 (.map .str),.cont 2 (.map .str)]],.one (.int .i64),[(4,[.cont 1 (.map .str),.cont 2 (.map .str)])]⟩,⟨51,Rj,[],.one (.int .i64),[(5,[.cont 2 (.map .str)])]⟩,⟨52,WC,[],.one (.int .i64),[(4,[.cont 1 (.map .str)]),(6,[.cont 2 (.map .str)])]⟩,⟨49,Xy,[],.one (.int .i64),[(2,[.cont 1 (.map .str)])]⟩,⟨69,Xe,[.rnd [.slot 16 (.int .i64),.cont 1 (.map .str)]],.one (.int .i64),[(2,[.cont 1 (.map .str)])]⟩,⟨70,XE,[],.one (.int .i64),[(3,[.cont 1 (.map .str)])]⟩]
def Gl (L:Nat)(x:QV×PUnit):Option Int:=fI [Fh L,Zbm L,WZ L,I7 L,Gh L] L ZeS ED [] (.one (.int .i64)) [.row 21] x
def Fg (L:Nat):Sum tT:=mU 34 [.row 21] (.one (.int .i64)) (Gl L)
theorem ZhH:SX Fg:=fun h=>sI h (Zb (ZhI h) (Zb (ZjN h) (Zb (Q4 h) (Zb (Bz h) (Zb (TJ h) Zq))))) (Zb ⟨h.T _ _ rfl,by kernel_rfl⟩ (Zb ⟨h.T _ _ rfl,by kernel_rfl⟩ (Zb ⟨h.T _ _ rfl,by kernel_rfl⟩ (Zb ⟨h.T _ _ rfl,by kernel_rfl⟩ (Zb ⟨h.T _ _ rfl,by kernel_rfl⟩ (Zb ⟨h.T _ _ rfl,by kernel_rfl⟩ Zq)))))) rfl (by kernel_rfl) fun _=>rfl
def IZ:QV→Nat→(Int×List (List UInt8)×PUnit→Option (Int×List (List UInt8)×PUnit))→Int×List (List UInt8)×PUnit→Option (Int×List (List UInt8)×PUnit):=fun x0 L self acc=>bif decide (acc.1 < (↑x0.2.length:Int)) then bT (ZJ x0.2 acc.1) fun y=>bT (bT (bT (ZK L (y.1,())) fun y_1=>bif y_1 != 0 then some (y_1,acc.2.1,()) else bif hasK MK.str acc.2.1 y.1 then some (4,acc.2.1,()) else some (0,ZaI MK.str acc.2.1 y.1,())) fun y_1=>bif y_1.1 != 0 then some (y_1.1,y_1.2.1,()) else bT (Va L (y.2,())) fun y_2=>bif !y_2 then some (1,y_1.2.1,()) else bT (Jc L (y.2,y.3,())) fun y=>bif !y then some (2,y_1.2.1,()) else some (0,y_1.2.1,())) fun y=>bif y.1 != 0 then some (y.1,y.2.1,()) else self (Go.IntKind.i64.wrap (acc.1 + 1),y.2.1,()) else some (0,acc.2.1,())
def Oa:QV→Nat→(Int×List (List UInt8)×List (List UInt8)×PUnit→Option (Int×List (List UInt8)×List (List UInt8)×PUnit))→Int×List (List UInt8)×List (List UInt8)×PUnit→Option (Int×List (List UInt8)×List (List UInt8)×PUnit):=fun x0 L self acc=>bif decide (acc.1 < (↑x0.3.length:Int)) then bT (ZJ x0.3 acc.1) fun y=>bT (bT (bT (ZK L (y.1,())) fun y_1=>bif y_1 != 0 then some (y_1,acc.2.2.1,()) else bif hasK MK.str acc.2.2.1 y.1 then some (4,acc.2.2.1,()) else some (0,ZaI MK.str acc.2.2.1 y.1,())) fun y_1=>bif y_1.1 != 0 then some (y_1.1,y_1.2.1,()) else bT (IA L (y,())) fun y=>some (y,y_1.2.1,())) fun y=>bif y.1 != 0 then some (y.1,acc.2.1,y.2.1,()) else self (Go.IntKind.i64.wrap (acc.1 + 1),acc.2.1,y.2.1,()) else some (0,acc.2.1,acc.2.2.1,())
theorem Zhx (L:Nat)(x0:QV):Gl L (x0,())=bT (ZK L (x0.1,())) fun y=>bif y != 0 then some y else bT (bT (bif decide ((↑x0.2.length:Int) > 32) then some (6,[],()) else Zp (IZ x0 L) L (0,[],())) fun y=>some (y.1,y.2.1,())) fun y=>bif y.1 != 0 then some y.1 else bif (↑x0.3.length:Int) == 0 then some 7 else bT (bif decide ((↑x0.3.length:Int) > 16) then some (6,y.2.1,[],()) else Zp (Oa x0 L) L (0,y.2.1,[],())) fun y=>bif y.1 != 0 then some y.1 else bT (Gm L (x0,())) fun y=>some y:=by kernel_rfl
end Go.Proofs.YtgjcjbhhhlelnaaGreatDoor
end
noncomputable section
namespace Go.Proofs.YtgjcjbhhhlelnaaGreatDoor
open Go Go.Proofs.YtgjcjbhhhlelnaaGreatDoor.Abs Go.Proofs.YtgjcjbhhhlelnaaGreatDoor.Tl
set_option maxRecDepth 100000
set_option maxHeartbeats 0
def Wi (L:Nat)(x:Zk×PUnit):Option Int:=fT [Nb L,Zek L,Fb L,Fg L,WZ L] L Zay [.rnd [.slot 2 (.int .i64),.slot 34 (.int .i64),.cont 1 (.map .str)],.rnd [.slot 2 (.int .i64),.slot 71 (.int .i64),.cont 1 (.map .str)],.rnd [.slot 2 (.int .i64),.slot 79 (.int .i64),.cont 1 (.map .str)]] (.one (.int .i64)) [.row 19] x
def Zki (L:Nat):Sum tT:=mU 25 [.row 19] (.one (.int .i64)) (Wi L)
theorem ZjG:SX Zki:=fun h=>sT h (Zb (Zfe h) (Zb (ZlP h) (Zb (ZhE h) (Zb (ZhH h) (Zb (Q4 h) Zq))))) rfl (by kernel_rfl) fun _=>rfl
def Jj:Zk→Nat→(Int×Int×List (List UInt8)×PUnit→Option Int)→Int×Int×List (List UInt8)×PUnit→ZN→(Int×Int×List (List UInt8)×PUnit→Option Int)→Int×Int×List (List UInt8)×PUnit→Option Int:=fun x0 L self acc y self_1 acc_1=>bif decide (acc_1.2.1 < (↑y.2.length:Int)) then bT (ZJ y.2 acc_1.2.1) fun y=>bT (Y3 L (x0,acc.2.1,y,())) fun y=>bif y != 0 then some y else self_1 (acc_1.1,Go.IntKind.i64.wrap (acc_1.2.1 + 1),acc_1.2.2.1,()) else self (acc_1.1,Go.IntKind.i64.wrap (acc.2.1 + 1),acc_1.2.2.1,())
def XT:Zk→Nat→(Int×Int×List (List UInt8)×PUnit→Option Int)→Int×Int×List (List UInt8)×PUnit→Option Int:=fun x0 L self acc=>bif decide (acc.2.1 < (↑x0.2.length:Int)) then bT (ZJ x0.2 acc.2.1) fun y=>Zp (Jj x0 L self acc y) L (acc.1,0,acc.2.2.1,()) else some 0
def Jk:Zk→Nat→(Int×Int×List (List UInt8)×PUnit→Option Int)→Int×Int×List (List UInt8)×PUnit→Option Int:=fun x0 L self acc=>bif decide (acc.2.1 < (↑x0.2.length:Int)) then bT (ZJ x0.2 acc.2.1) fun y=>bT (Gl L (QV.mk x0.1 [] [y.1] [],())) fun y_1=>bif y_1 != 0 then some y_1 else bif hasK MK.str acc.2.2.1 y.Decl.1 then some 4 else bT (Gi L (y,())) fun y_2=>bif !y_2 then some 8 else self (acc.1,Go.IntKind.i64.wrap (acc.2.1 + 1),ZaI MK.str acc.2.2.1 y.Decl.1,()) else bT (H6 L (x0,())) fun y=>bif y != 0 then some y else Zp (XT x0 L) L (acc.1,0,acc.2.2.1,())
theorem ZaQ (L:Nat)(x0:Zk):Wi L (x0,())=bT (ZK L (x0.1,())) fun y=>bif y != 0 then some y else bif (↑x0.2.length:Int) == 0 then some 7 else bif decide ((↑x0.2.length:Int) > 16) then some 6 else Zp (Jk x0 L) L (0,0,[],()):=by kernel_rfl
def YV (L:Nat)(x:Int×Int×Int×PUnit):Option Bool:=fT [] L EJ [] (.one .bool) [.int .i64,.int .i64,.int .i64] x
def Md (L:Nat):Sum tT:=mU 167 [.int .i64,.int .i64,.int .i64] (.one .bool) (YV L)
theorem AO:SX Md:=fun h=>sT h Zq rfl (by kernel_rfl) fun _=>rfl
theorem Zh2 (L:Nat)(x0:Int)(x1:Int)(x2:Int):YV L (x0,x1,x2,())=some (decide (x0 ≥ x1) && decide (x0≤x2)):=by kernel_rfl
def MH (L:Nat)(x:We×PUnit):Option Int:=fT [Md L] L Zck [.rnd [.slot 3 (.int .i64)]] (.one (.int .i64)) [.row 2] x
def Zen (L:Nat):Sum tT:=mU 168 [.row 2] (.one (.int .i64)) (MH L)
theorem ZlS:SX Zen:=fun h=>sT h (Zb (AO h) Zq) rfl (by kernel_rfl) fun _=>rfl
def RU:We→Nat→(Int×PUnit→Option Int)→Int×PUnit→Option Int:=fun x0 L self acc=>bif decide (acc.1 < (↑x0.5.length:Int)) then bT (ZJ x0.5 acc.1) fun y=>bT (YV L (y,0,1000000000,())) fun y=>bT (bif (!y) == false then bT (ZJ x0.6 acc.1) fun y=>bT (YV L (y,1,1000,())) fun y=>some !y else some true) fun y=>bif y then some 2 else self (Go.IntKind.i64.wrap (acc.1 + 1),()) else some 0
theorem Zlo (L:Nat)(x0:We):MH L (x0,())=bif (↑x0.5.length:Int) != (↑x0.6.length:Int) then some 8 else bif (↑x0.5.length:Int) == 0 then some 7 else bif decide ((↑x0.5.length:Int) > 20) then some 6 else Zp (RU x0 L) L (0,()):=by kernel_rfl
def IC (L:Nat)(x:We×PUnit):Option Bool:=fT [] L Za9 [] (.one .bool) [.row 2] x
def Zbo (L:Nat):Sum tT:=mU 166 [.row 2] (.one .bool) (IC L)
theorem ZjP:SX Zbo:=fun h=>sT h Zq rfl (by kernel_rfl) fun _=>rfl
theorem Zjy (L:Nat)(x0:We):IC L (x0,())=bif x0.1 == 1 then some (x0.3 == 0 && x0.4 == 0 && ((↑x0.5.length:Int) == 0 && (↑x0.6.length:Int) == 0)) else bif x0.1 == 2 then some (x0.4 == 0 && ((↑x0.5.length:Int) == 0 && (↑x0.6.length:Int) == 0)) else bif x0.1 == 5 then some (x0.4 == 0 && ((↑x0.5.length:Int) == 0 && (↑x0.6.length:Int) == 0)) else bif x0.1 == 3 then some (x0.2 == 0 && x0.3 == 0 && x0.4 == 0) else bif x0.1 == 4 then some ((↑x0.5.length:Int) == 0 && (↑x0.6.length:Int) == 0) else some false:=by kernel_rfl
def VM (L:Nat)(x:We×PUnit):Option Int:=fT [Zen L,Md L,Zbo L] L Zcj [] (.one (.int .i64)) [.row 2] x
def Mc (L:Nat):Sum tT:=mU 129 [.row 2] (.one (.int .i64)) (VM L)
theorem SI:SX Mc:=fun h=>sT h (Zb (ZlS h) (Zb (AO h) (Zb (ZjP h) Zq))) rfl (by kernel_rfl) fun _=>rfl
theorem Zln (L:Nat)(x0:We):VM L (x0,())=bT (IC L (x0,())) fun y=>bif !y then some 1 else bif x0.1 == 1 then bT (YV L (x0.2,0,1000000000,())) fun y=>bif !y then some 2 else some 0 else bif x0.1 == 2 then bT (YV L (x0.2,0,x0.3,())) fun y=>bif !(y && decide (x0.3≤1000000000)) then some 2 else some 0 else bif x0.1 == 3 then bT (MH L (x0,())) fun y=>some y else bif x0.1 == 4 then bT (YV L (x0.4,1,20,())) fun y=>bT (bif y == true then bT (YV L (x0.2,0,x0.3,())) fun y=>some y else some false) fun y=>bif !(y && decide (x0.3≤1000000)) then some 2 else some 0 else bif x0.1 == 5 then bT (YV L (x0.2,1,1000,())) fun y=>bT (bif y == true then bT (YV L (x0.3,1,1000,())) fun y=>some y else some false) fun y=>bif !y then some 2 else some 0 else some 0:=by kernel_rfl
def SY (L:Nat):Nat→List (Sum tT)
 | 0=>[⟨128,[.row 19,.int .i64,.row 16,.row 8],fun _=>.par _ none ((.one (.bool):RD).tv tT)⟩]
 | m + 1=>[⟨128,[.row 19,.int .i64,.row 16,.row 8],fun x=>.par _ (fnT tF tG (qOf tF (SY L m ++ [])) 0 L FU [.rnd [.slot 10 (.int .i64)]] (.one (.bool)) (tvL tT [.row 19,.int .i64,.row 16,.row 8] x) []) ((.one (.bool):RD).tv tT)⟩]
theorem PZ {C:Cfg}{L:Nat}(h:St C L):∀ m,∀ s ∈ SY L m,Qs C s
 | 0=>(Zb (Q8 _ _ _) Zq)
 | m + 1=>have ih:=PZ h m
  (Zb (Y1 Yv h.L h.G (WA Yv (Vk ih Zq)) [.rnd [.slot 10 (.int .i64)]] (h.T _ _ rfl) (by kernel_rfl) fun _=>rfl) Zq)
def MZ (L m:Nat)(x:Zk×Int×Wp×Zu×PUnit):Option (Bool):=fnT tF tG (qOf tF (SY L m ++ [])) 0 L FU [.rnd [.slot 10 (.int .i64)]] (.one (.bool)) (tvL tT [.row 19,.int .i64,.row 16,.row 8] x) []
def Zaw (L:Nat)(x:Zk×Int×Wp×Zu×PUnit):Option (Bool):=MZ L L x
def Zgz (L:Nat):Sum tT:=⟨128,[.row 19,.int .i64,.row 16,.row 8],fun x=>.par ((.one (.bool):RD).Ty tT) (Zaw L x) ((.one (.bool):RD).tv tT)⟩
theorem Zpb {C:Cfg}{L:Nat}(h:St C L):Qs C (Zgz L):=have ih:=PZ h L
 Y1 Yv h.L h.G (WA Yv (Vk ih Zq)) [.rnd [.slot 10 (.int .i64)]] (h.T _ _ rfl) (by kernel_rfl) fun _=>rfl
def TC:Nat→Zk→Int→Wp→Zu→Nat→(Int×PUnit→Option Bool)→Int×PUnit→Option Bool:=fun (m:Nat)=>fun x0 x1 x2 x3 L self acc=>bif decide (acc.1 < (↑x3.4.length:Int)) then bT (ZJ x3.4 acc.1) fun y=>bT (bT (MZ L m (x0,x1,x2,y,())) fun y=>some y) fun y=>bif !y then some false else self (Go.IntKind.i64.wrap (acc.1 + 1),()) else some true
theorem ZoF (L m:Nat)(x0:Zk)(x1:Int)(x2:Wp)(x3:Zu):MZ L (m + 1) (x0,x1,x2,x3,())=bT (ZJ x0.2 x1) fun y=>bif x3.1 == 25 && decide (x3.3 ≥ x2.3) then some false else bif x3.1 == 26 && decide (x3.3 ≥ (↑y.Decl.2.length:Int)) then some false else bif x3.1 == 22 && decide (x3.3 ≥ (↑y.Decl.3.length:Int)) then some false else bif x3.1 == 23 && decide (x3.3 ≥ (↑y.Decl.4.length:Int)) then some false else bif x3.1 == 24 && decide (x3.3 ≥ Go.IntKind.i64.wrap ((↑y.Decl.3.length:Int) + (↑y.Decl.6.length:Int))) then some false else Zp (TC m x0 x1 x2 x3 L) L (0,()):=by kernel_rfl
def Jd (L:Nat)(x:(List (List UInt8))×(List UInt8)×PUnit):Option Int:=fT [] L Zft [.rnd [.slot 5 (.int .i64)]] (.one (.int .i64)) [.lst 1 .str,.str] x
def G5 (L:Nat):Sum tT:=mU 113 [.lst 1 .str,.str] (.one (.int .i64)) (Jd L)
theorem OE:SX G5:=fun h=>sT h Zq rfl (by kernel_rfl) fun _=>rfl
def S9:List (List UInt8)→List UInt8→(Int×PUnit→Option Int)→Int×PUnit→Option Int:=fun x0 x1 self acc=>bif decide (acc.1 < (↑x0.length:Int)) then bT (ZJ x0 acc.1) fun y=>bif y == x1 then some acc.1 else self (Go.IntKind.i64.wrap (acc.1 + 1),()) else some (-1)
theorem Zo4 (L:Nat)(x0:(List (List UInt8)))(x1:(List UInt8)):Jd L (x0,x1,())=Zp (S9 x0 x1) L (0,()):=by kernel_rfl
def Us (L:Nat)(x:PUnit):Option ((List (List UInt8))):=fT [] L PD [] (.one (.lst 1 .str)) [] x
def Nj (L:Nat):Sum tT:=mU 114 [] (.one (.lst 1 .str)) (Us L)
theorem Zfh:SX Nj:=fun h=>sT h Zq rfl (by kernel_rfl) fun _=>rfl
theorem Zfa (L:Nat)  : Us L ()=some [[97,100,100],[97,102,116,101,114],[97,110,100],[97,116],[98,101,108,116],[98,111,111,108],[99,111,110,115,101,114,118,101],[99,111,110,115,116],[99,111,117,110,116],[99,121,99,108,101],[100,111,119,110],[100,114,97,119],[100,117,114],[101,108,115,101],[101,110,100],[101,118,101,114,121],[102,97,108,115,101],[102,97,117,108,116],[102,105,102,111],[102,114,101,101],[102,114,111,109],[103,101,111,109],[103,101,116],[104,111,108,100],[105,102],[105,110,116],[105,110,116,111],[108,101,97,115,116],[108,101,118,101,108],[108,105,102,111],[108,105,110,107],[108,111,99,97,108],[109,97,120],[109,105,110],[109,111,100,101,108],[110,111,116],[110,111,119],[111,98,115,101,114,118,101],[111,114],[112,97,114,97,109],[112,114,101,101,109,112,116],[112,114,105,111],[112,117,116],[113,117,101,117,101],[114,101,108,101,97,115,101],[114,101,115,111,117,114,99,101],[114,105,100,101],[114,111,117,116,105,110,101],[115,101,105,122,101],[115,101,110,100],[115,101,116],[115,104,105,102,116],[115,105,103,110,97,108],[115,105,116,101],[115,105,122,101],[115,112,97,119,110],[115,116,97,114,116],[115,116,111,112],[115,116,111,114,101],[115,116,114,101,97,109],[115,117,109],[116,97,98,108,101],[116,97,108,108,121],[116,105,99,107,115],[116,105,109,101],[116,114,117,101],[117,110,105,102,111,114,109],[117,110,116,105,108],[117,112],[118,97,114],[119,97,105,116],[119,97,105,116,105,110,103],[119,104,105,108,101]]:=by kernel_rfl
def Gp (L:Nat)(x:(List UInt8)×PUnit):Option Bool:=fT [G5 L,Nj L] L EK [] (.one .bool) [.str] x
def Fq (L:Nat):Sum tT:=mU 59 [.str] (.one .bool) (Gp L)
theorem ZhL:SX Fq:=fun h=>sT h (Zb (OE h) (Zb (Zfh h) Zq)) rfl (by kernel_rfl) fun _=>rfl
theorem Zh3 (L:Nat)(x0:(List UInt8)):Gp L (x0,())=bT (Us L ()) fun y=>bT (Jd L (y,x0,())) fun y=>some (decide (y ≥ 0)):=by kernel_rfl
def UJ (L:Nat)(x:Int×PUnit):Option Bool:=fT [] L ZaA [] (.one .bool) [.int .u8] x
def Zbp (L:Nat):Sum tT:=mU 58 [.int .u8] (.one .bool) (UJ L)
theorem ZjQ:SX Zbp:=fun h=>sT h Zq rfl (by kernel_rfl) fun _=>rfl
theorem Zjz (L:Nat)(x0:Int):UJ L (x0,())=some (decide (x0 ≥ 97) && decide (x0≤122)):=by kernel_rfl
end Go.Proofs.YtgjcjbhhhlelnaaGreatDoor
end
noncomputable section
namespace Go.Proofs.YtgjcjbhhhlelnaaGreatDoor
open Go Go.Proofs.YtgjcjbhhhlelnaaGreatDoor.Abs Go.Proofs.YtgjcjbhhhlelnaaGreatDoor.Tl
set_option maxRecDepth 100000
set_option maxHeartbeats 0
def Qm (L:Nat)(x:(List UInt8)×PUnit):Option Int:=fT [Fq L,Zbp L] L Zcl [.rnd [.slot 3 (.int .i64)]] (.one (.int .i64)) [.str] x
def XN (L:Nat):Sum tT:=mU 39 [.str] (.one (.int .i64)) (Qm L)
theorem VH:SX XN:=fun h=>sT h (Zb (ZhL h) (Zb (ZjQ h) Zq)) rfl (by kernel_rfl) fun _=>rfl
def Iu:List UInt8→Nat→(Int×PUnit→Option Int)→Int×PUnit→Option Int:=fun x0 L self acc=>bif decide (acc.1 < (↑x0.length:Int)) then bT (ZJ x0 acc.1) fun y=>bT (UJ L ((↑y.toNat:Int),())) fun y=>bT (bif (!y) == true then bT (ZJ x0 acc.1) fun y=>some ((↑y.toNat:Int) != 95) else some false) fun y=>bT (bif y == true then bT (ZJ x0 acc.1) fun y=>bif decide ((↑y.toNat:Int) < 48) == false then bT (ZJ x0 acc.1) fun y=>some (decide ((↑y.toNat:Int) > 57)) else some true else some false) fun y=>bif y then some 3 else self (Go.IntKind.i64.wrap (acc.1 + 1),()) else some 0
theorem Zlp (L:Nat)(x0:(List UInt8)):Qm L (x0,())=bT (bif (decide ((↑x0.length:Int) < 1) || decide ((↑x0.length:Int) > 24)) == false then bT (ZJ x0 0) fun y=>bT (UJ L ((↑y.toNat:Int),())) fun y=>some !y else some true) fun y=>bT (bif y == false then bT (Gp L (x0,())) fun y=>some y else some true) fun y=>bif y then some 3 else Zp (Iu x0 L) L (0,()):=by kernel_rfl
def DI (L:Nat)(x:Int×PUnit):Option Int:=fT [] L Zfu [] (.one (.int .i64)) [.int .i64] x
def Zar (L:Nat):Sum tT:=mU 206 [.int .i64] (.one (.int .i64)) (DI L)
theorem Zgl:SX Zar:=fun h=>sT h Zq rfl (by kernel_rfl) fun _=>rfl
theorem Zo6 (L:Nat)(x0:Int):DI L (x0,())=bif x0 == 25 then some 15 else bif x0 == 26 then some 31 else some 63:=by kernel_rfl
def DF (L:Nat)(x:Int×PUnit):Option Bool:=fT [] L Zmv [] (.one .bool) [.int .i64] x
def Fp (L:Nat):Sum tT:=mU 154 [.int .i64] (.one .bool) (DF L)
theorem ZbW:SX Fp:=fun h=>sT h Zq rfl (by kernel_rfl) fun _=>rfl
theorem ZtN (L:Nat)(x0:Int):DF L (x0,())=some (decide (x0 ≥ (-1000000000000)) && decide (x0≤1000000000000)):=by kernel_rfl
def UK (L:Nat)(x:Int×PUnit):Option Bool:=fT [] L ZaB [] (.one .bool) [.int .i64] x
def BX (L:Nat):Sum tT:=mU 205 [.int .i64] (.one .bool) (UK L)
theorem Zbc:SX BX:=fun h=>sT h Zq rfl (by kernel_rfl) fun _=>rfl
theorem Zj0 (L:Nat)(x0:Int):UK L (x0,())=some (decide (x0 ≥ 22) && decide (x0≤24)):=by kernel_rfl
def MI (L:Nat)(x:Int×PUnit):Option Int:=fT [] L Zcm [] (.one (.int .i64)) [.int .i64] x
def Ec (L:Nat):Sum tT:=mU 204 [.int .i64] (.one (.int .i64)) (MI L)
theorem ZdU:SX Ec:=fun h=>sT h Zq rfl (by kernel_rfl) fun _=>rfl
theorem Zlq (L:Nat)(x0:Int):MI L (x0,())=bif decide (x0 < 1) || decide (x0 > 26) then some (-1) else bif decide (x0 ≥ 5) && decide (x0≤8) then some 1 else bif decide (x0 ≥ 9) && decide (x0≤21) then some 2 else some 0:=by kernel_rfl
def SS (L:Nat):Nat→List (Sum tT)
 | 0=>[⟨194,[.row 8,.bool],fun _=>.par _ none ((.one (.int .i64):RD).tv tT)⟩]
 | m + 1=>[⟨194,[.row 8,.bool],fun x=>.par _ (fnT tF tG (qOf tF (SS L m ++ [XN L,Zar L,Fp L,BX L,Ec L])) 0 L FQ [.rnd [.slot 10 (.int .i64)]] (.one (.int .i64)) (tvL tT [.row 8,.bool] x) []) ((.one (.int .i64):RD).tv tT)⟩]
theorem PX {C:Cfg}{L:Nat}(h:St C L):∀ m,∀ s ∈ SS L m,Qs C s
 | 0=>(Zb (Q8 _ _ _) Zq)
 | m + 1=>have ih:=PX h m
  (Zb (Y1 Yv h.L h.G (WA Yv (Vk ih (Zb (VH h) (Zb (Zgl h) (Zb (ZbW h) (Zb (Zbc h) (Zb (ZdU h) Zq))))))) [.rnd [.slot 10 (.int .i64)]] (h.T _ _ rfl) (by kernel_rfl) fun _=>rfl) Zq)
def MX (L m:Nat)(x:Zu×Bool×PUnit):Option (Int):=fnT tF tG (qOf tF (SS L m ++ [XN L,Zar L,Fp L,BX L,Ec L])) 0 L FQ [.rnd [.slot 10 (.int .i64)]] (.one (.int .i64)) (tvL tT [.row 8,.bool] x) []
def Zat (L:Nat)(x:Zu×Bool×PUnit):Option (Int):=MX L L x
def Zgq (L:Nat):Sum tT:=⟨194,[.row 8,.bool],fun x=>.par ((.one (.int .i64):RD).Ty tT) (Zat L x) ((.one (.int .i64):RD).tv tT)⟩
theorem ZoS {C:Cfg}{L:Nat}(h:St C L):Qs C (Zgq L):=have ih:=PX h L
 Y1 Yv h.L h.G (WA Yv (Vk ih (Zb (VH h) (Zb (Zgl h) (Zb (ZbW h) (Zb (Zbc h) (Zb (ZdU h) Zq))))))) [.rnd [.slot 10 (.int .i64)]] (h.T _ _ rfl) (by kernel_rfl) fun _=>rfl
def Tz:Nat→Zu→Bool→Nat→(Int×PUnit→Option Int)→Int×PUnit→Option Int:=fun (m:Nat)=>fun x0 x1 L self acc=>bif decide (acc.1 < (↑x0.4.length:Int)) then bT (ZJ x0.4 acc.1) fun y=>bT (MX L m (y,x1,())) fun y=>bif y != 0 then some y else self (Go.IntKind.i64.wrap (acc.1 + 1),()) else some 0
theorem Zo7 (L m:Nat)(x0:Zu)(x1:Bool):MX L (m + 1) (x0,x1,())=bT (MI L (x0.1,())) fun y=>bT (bif (!x1) == true then bif (x0.1 == 3) == false then bT (UK L (x0.1,())) fun y=>some y else some true else some false) fun y_1=>bT (bif x1 == true then bT (UK L (x0.1,())) fun y=>some (y || x0.1 == 25 || x0.1 == 26) else some false) fun y_2=>bif !(decide (y ≥ 0) && (x1 && x0.1 != 3 || !x1 && decide (x0.1≤24))) || !y_1 && !x0.2 == [] || !(x0.1 == 1 || x0.1 == 2 || y_2) && x0.3 != 0 || (↑x0.4.length:Int) != y then some 1 else bT (bif (x0.1 == 1) == true then bT (bT (DF L (x0.3,())) fun y=>some y) fun y=>some !y else some false) fun y=>bT (bif (y || x0.1 == 2 && x0.3 != 0 && x0.3 != 1) == false then bif y_2 == true then bif decide (x0.3 < 0) == false then bT (bT (DI L (x0.1,())) fun y=>some y) fun y=>some (decide (x0.3 > y)) else some true else some false else some true) fun y=>bif y then some 2 else bT (bif y_1 == true then bT (Qm L (x0.2,())) fun y=>some (y != 0) else some false) fun y=>bif y then bT (Qm L (x0.2,())) fun y=>some y else Zp (Tz m x0 x1 L) L (0,()):=by kernel_rfl
def BF (L:Nat):Nat→List (Sum tT)
 | 0=>[⟨193,[.row 8],fun _=>.par _ none ((.one (.int .i64):RD).tv tT)⟩]
 | m + 1=>[⟨193,[.row 8],fun x=>.par _ (fnT tF tG (qOf tF (BF L m ++ [])) 0 L Nw [.rnd [.slot 3 (.int .i64),.slot 4 (.int .i64)]] (.one (.int .i64)) (tvL tT [.row 8] x) []) ((.one (.int .i64):RD).tv tT)⟩]
theorem BG {C:Cfg}{L:Nat}(h:St C L):∀ m,∀ s ∈ BF L m,Qs C s
 | 0=>(Zb (Q8 _ _ _) Zq)
 | m + 1=>have ih:=BG h m
  (Zb (Y1 Yv h.L h.G (WA Yv (Vk ih Zq)) [.rnd [.slot 3 (.int .i64),.slot 4 (.int .i64)]] (h.T _ _ rfl) (by kernel_rfl) fun _=>rfl) Zq)
def IK (L m:Nat)(x:Zu×PUnit):Option (Int):=fnT tF tG (qOf tF (BF L m ++ [])) 0 L Nw [.rnd [.slot 3 (.int .i64),.slot 4 (.int .i64)]] (.one (.int .i64)) (tvL tT [.row 8] x) []
def Em (L:Nat)(x:Zu×PUnit):Option (Int):=IK L L x
def Zep (L:Nat):Sum tT:=⟨193,[.row 8],fun x=>.par ((.one (.int .i64):RD).Ty tT) (Em L x) ((.one (.int .i64):RD).tv tT)⟩
theorem ZlU {C:Cfg}{L:Nat}(h:St C L):Qs C (Zep L):=have ih:=BG h L
 Y1 Yv h.L h.G (WA Yv (Vk ih Zq)) [.rnd [.slot 3 (.int .i64),.slot 4 (.int .i64)]] (h.T _ _ rfl) (by kernel_rfl) fun _=>rfl
def RV:Nat→Zu→Nat→(Int×Int×PUnit→Option Int)→Int×Int×PUnit→Option Int:=fun (m:Nat)=>fun x0 L self acc=>bif decide (acc.2.1 < (↑x0.4.length:Int)) then bT (ZJ x0.4 acc.2.1) fun y=>bT (IK L m (y,())) fun y=>self (if y > acc.1 then y else acc.1,Go.IntKind.i64.wrap (acc.2.1 + 1),()) else some (Go.IntKind.i64.wrap (acc.1 + 1))
theorem Zls (L m:Nat)(x0:Zu):IK L (m + 1) (x0,())=Zp (RV m x0 L) L (0,0,()):=by kernel_rfl
def BH (L:Nat):Nat→List (Sum tT)
 | 0=>[⟨192,[.row 8],fun _=>.par _ none ((.one (.int .i64):RD).tv tT)⟩]
 | m + 1=>[⟨192,[.row 8],fun x=>.par _ (fnT tF tG (qOf tF (BH L m ++ [])) 0 L Ny [.rnd [.slot 3 (.int .i64),.slot 4 (.int .i64)]] (.one (.int .i64)) (tvL tT [.row 8] x) []) ((.one (.int .i64):RD).tv tT)⟩]
theorem BI {C:Cfg}{L:Nat}(h:St C L):∀ m,∀ s ∈ BH L m,Qs C s
 | 0=>(Zb (Q8 _ _ _) Zq)
 | m + 1=>have ih:=BI h m
  (Zb (Y1 Yv h.L h.G (WA Yv (Vk ih Zq)) [.rnd [.slot 3 (.int .i64),.slot 4 (.int .i64)]] (h.T _ _ rfl) (by kernel_rfl) fun _=>rfl) Zq)
def IL (L m:Nat)(x:Zu×PUnit):Option (Int):=fnT tF tG (qOf tF (BH L m ++ [])) 0 L Ny [.rnd [.slot 3 (.int .i64),.slot 4 (.int .i64)]] (.one (.int .i64)) (tvL tT [.row 8] x) []
def En (L:Nat)(x:Zu×PUnit):Option (Int):=IL L L x
def Zeq (L:Nat):Sum tT:=⟨192,[.row 8],fun x=>.par ((.one (.int .i64):RD).Ty tT) (En L x) ((.one (.int .i64):RD).tv tT)⟩
theorem ZlV {C:Cfg}{L:Nat}(h:St C L):Qs C (Zeq L):=have ih:=BI h L
 Y1 Yv h.L h.G (WA Yv (Vk ih Zq)) [.rnd [.slot 3 (.int .i64),.slot 4 (.int .i64)]] (h.T _ _ rfl) (by kernel_rfl) fun _=>rfl
def RX:Nat→Zu→Nat→(Int×Int×PUnit→Option Int)→Int×Int×PUnit→Option Int:=fun (m:Nat)=>fun x0 L self acc=>bif decide (acc.2.1 < (↑x0.4.length:Int)) then bT (ZJ x0.4 acc.2.1) fun y=>bT (IL L m (y,())) fun y=>self (Go.IntKind.i64.wrap (acc.1 + y),Go.IntKind.i64.wrap (acc.2.1 + 1),()) else some acc.1
theorem Zlt (L m:Nat)(x0:Zu):IL L (m + 1) (x0,())=Zp (RX m x0 L) L (1,0,()):=by kernel_rfl
def H9 (L:Nat)(x:Zu×Bool×PUnit):Option Int:=fT [Zgq L,Zep L,Zeq L] L Zco [] (.one (.int .i64)) [.row 8,.bool] x
def Ed (L:Nat):Sum tT:=mU 165 [.row 8,.bool] (.one (.int .i64)) (H9 L)
theorem ZdW:SX Ed:=fun h=>sT h (Zb (ZoS h) (Zb (ZlU h) (Zb (ZlV h) Zq))) rfl (by kernel_rfl) fun _=>rfl
theorem Zlu (L:Nat)(x0:Zu)(x1:Bool):H9 L (x0,x1,())=bT (En L (x0,())) fun y=>bif decide (y > 60) then some 6 else bT (Em L (x0,())) fun y=>bif decide (y > 12) then some 11 else bT (Zat L (x0,x1,())) fun y=>some y:=by kernel_rfl
def J5 (L:Nat)(x:Zu×PUnit):Option Int:=fT [Ed L] L Ry [] (.one (.int .i64)) [.row 8] x
def BV (L:Nat):Sum tT:=mU 127 [.row 8] (.one (.int .i64)) (J5 L)
theorem ZdV:SX BV:=fun h=>sT h (Zb (ZdW h) Zq) rfl (by kernel_rfl) fun _=>rfl
theorem ZdF (L:Nat)(x0:Zu):J5 L (x0,())=bT (H9 L (x0,true,())) fun y=>some y:=by kernel_rfl
end Go.Proofs.YtgjcjbhhhlelnaaGreatDoor
end
noncomputable section
namespace Go.Proofs.YtgjcjbhhhlelnaaGreatDoor
open Go Go.Proofs.YtgjcjbhhhlelnaaGreatDoor.Abs Go.Proofs.YtgjcjbhhhlelnaaGreatDoor.Tl
set_option maxRecDepth 100000
set_option maxHeartbeats 0
def XO (L:Nat)(x:PUnit):Option (List VA):=fT [] L Zc1 [] (.one (.lst 9 (.row 23))) [] x
def MC (L:Nat):Sum tT:=mU 159 [] (.one (.lst 9 (.row 23))) (XO L)
theorem SN:SX MC:=fun h=>sT h Zq rfl (by kernel_rfl) fun _=>rfl
theorem Zl8 (L:Nat)  : XO L ()=some [VA.mk [] [] [] false false false false false false,VA.mk [115,108,111,116] [115,108,111,116] [] false true false false false false,VA.mk [118,97,114] [118,97,114] [] false true false false false false,VA.mk [100,114,97,119] [115,108,111,116] [115,116,114,101,97,109] false false false false false true,VA.mk [106,117,109,112] [105,110,115,116,114] [] false false false false false false,VA.mk [98,114,97,110,99,104] [105,110,115,116,114] [] false true false false false false,VA.mk [104,111,108,100] [] [] false true false false false false,VA.mk [115,101,105,122,101] [114,101,115,111,117,114,99,101] [] false true true true false false,VA.mk [114,101,108,101,97,115,101] [114,101,115,111,117,114,99,101] [] false true false false false false,VA.mk [112,117,116] [115,116,111,114,101] [] false true false false false false,VA.mk [103,101,116] [115,116,111,114,101] [115,108,111,116] false false false false false false,VA.mk [114,105,100,101] [98,101,108,116] [] false false false false false false,VA.mk [119,97,105,116] [113,117,101,117,101] [] false false false false false false,VA.mk [115,105,103,110,97,108] [113,117,101,117,101] [] false true false false false false,VA.mk [115,101,110,100] [115,105,116,101] [114,111,117,116,105,110,101] true true false false true false,VA.mk [115,112,97,119,110] [] [114,111,117,116,105,110,101] false true false false true false,VA.mk [111,98,115,101,114,118,101] [116,97,108,108,121] [] false true false false false false,VA.mk [108,101,118,101,108] [108,101,118,101,108] [] false true false false false false,VA.mk [99,111,117,110,116] [99,111,117,110,116] [] false true false false false false,VA.mk [101,110,100] [] [] false false false false false false]:=by kernel_rfl
def Ia (L:Nat)(x:Int×PUnit):Option Bool:=fT [] L Zc5 [] (.one .bool) [.int .i64] x
def Ee (L:Nat):Sum tT:=mU 123 [.int .i64] (.one .bool) (Ia L)
theorem ZdX:SX Ee:=fun h=>sT h Zq rfl (by kernel_rfl) fun _=>rfl
theorem ZlC (L:Nat)(x0:Int):Ia L (x0,())=some (decide (x0 ≥ 1) && decide (x0≤19)):=by kernel_rfl
def MP (L:Nat)(x:YK×PUnit):Option (List Zu):=fT [MC L,Ee L] L Zc0 [] (.one (.lst 4 (.row 8))) [.row 15] x
def Ze0 (L:Nat):Sum tT:=mU 126 [.row 15] (.one (.lst 4 (.row 8))) (MP L)
theorem Zmf:SX Ze0:=fun h=>sT h (Zb (SN h) (Zb (ZdX h) Zq)) rfl (by kernel_rfl) fun _=>rfl
theorem Zl7 (L:Nat)(x0:YK):MP L (x0,())=bT (Ia L (x0.1,())) fun y=>bif !y then some [] else bT (bT (XO L ()) fun y=>some y) fun y=>bT (ZJ y x0.1) fun y=>bif y.5 then bT (apT 56 [] [x0.5]) fun y_1=>bif y.6 then bT (apT 56 y_1 [x0.6]) fun y_2=>bif y.8 then bT (apT 56 y_2 x0.7) fun y=>some y else some y_2 else bif y.8 then bT (apT 56 y_1 x0.7) fun y=>some y else some y_1 else bif y.6 then bT (apT 56 [] [x0.6]) fun y_1=>bif y.8 then bT (apT 56 y_1 x0.7) fun y=>some y else some y_1 else bif y.8 then bT (apT 56 [] x0.7) fun y=>some y else some []:=by kernel_rfl
def FI (L:Nat)(x:Zk×Int×Int×PUnit):Option (Int×Bool×PUnit):=fT [] L Zin [.rnd [.slot 8 (.int .i64)]] (.tup [.int .i64,.bool]) [.row 19,.int .i64,.int .i64] x
def Zkk (L:Nat):Sum tT:=mU 164 [.row 19,.int .i64,.int .i64] (.tup [.int .i64,.bool]) (FI L)
theorem ZrG:SX Zkk:=fun h=>sT h Zq rfl (by kernel_rfl) fun _=>rfl
def Zac:Zk→Int→Int→(Int×PUnit→Option (Int×Bool×PUnit))→Int×PUnit→Option (Int×Bool×PUnit):=fun x0 x1 x2 self acc=>bif decide (acc.1 < (↑x0.3.length:Int)) then bT (ZJ x0.3 acc.1) fun y=>bT (bif (y.1 == x1) == true then bT (ZJ x0.3 acc.1) fun y=>some (y.2 == x2) else some false) fun y=>bif y then bT (ZJ x0.3 acc.1) fun y=>some (y.3,true,()) else self (Go.IntKind.i64.wrap (acc.1 + 1),()) else some (0,false,())
theorem Zry (L:Nat)(x0:Zk)(x1:Int)(x2:Int):FI L (x0,x1,x2,())=Zp (Zac x0 x1 x2) L (0,()):=by kernel_rfl
def Ug (L:Nat)(x:Zk×Int×YK×PUnit):Option Int:=fT [] L Zc2 [] (.one (.int .i64)) [.row 19,.int .i64,.row 15] x
def Ze1 (L:Nat):Sum tT:=mU 163 [.row 19,.int .i64,.row 15] (.one (.int .i64)) (Ug L)
theorem Zmg:SX Ze1:=fun h=>sT h Zq rfl (by kernel_rfl) fun _=>rfl
theorem Zl9 (L:Nat)(x0:Zk)(x1:Int)(x2:YK):Ug L (x0,x1,x2,())=bT (ZJ x0.2 x1) fun y=>bif decide (x2.3 < 0) || decide (x2.3 ≥ (↑y.2.length:Int)) then some 2 else bT (ZJ y.2 x2.3) fun y=>bif (↑x2.7.length:Int) != y.2 then some 8 else some 0:=by kernel_rfl
def Es (L:Nat)(x:Zk×Int×Wp×(List UInt8)×PUnit):Option Int:=fT [] L Zc3 [] (.one (.int .i64)) [.row 19,.int .i64,.row 16,.str] x
def Ze2 (L:Nat):Sum tT:=mU 191 [.row 19,.int .i64,.row 16,.str] (.one (.int .i64)) (Es L)
theorem Zmh:SX Ze2:=fun h=>sT h Zq rfl (by kernel_rfl) fun _=>rfl
theorem ZlA (L:Nat)(x0:Zk)(x1:Int)(x2:Wp)(x3:(List UInt8)):Es L (x0,x1,x2,x3,())=bT (ZJ x0.2 x1) fun y=>bif x3 == [115,108,111,116] then some x2.3 else bif x3 == [105,110,115,116,114] then some (↑x2.4.length:Int) else bif x3 == [115,105,116,101] then some (↑x0.2.length:Int) else bif x3 == [118,97,114] then some (↑y.Decl.2.length:Int) else bif x3 == [114,101,115,111,117,114,99,101] then some (↑y.Decl.3.length:Int) else bif x3 == [115,116,111,114,101] then some (↑y.Decl.4.length:Int) else bif x3 == [98,101,108,116] then some (↑y.Decl.5.length:Int) else bif x3 == [113,117,101,117,101] then some (↑y.Decl.6.length:Int) else bif x3 == [115,116,114,101,97,109] then some (↑y.Decl.7.length:Int) else bif x3 == [116,97,108,108,121] then some (↑y.Decl.8.length:Int) else bif x3 == [108,101,118,101,108] then some (↑y.Decl.9.length:Int) else some (↑y.Decl.10.length:Int):=by kernel_rfl
def UL (L:Nat)(x:Zk×Int×Wp×(List UInt8)×Int×PUnit):Option Bool:=fT [Ze2 L] L ZaF [] (.one .bool) [.row 19,.int .i64,.row 16,.str,.int .i64] x
def Zbr (L:Nat):Sum tT:=mU 162 [.row 19,.int .i64,.row 16,.str,.int .i64] (.one .bool) (UL L)
theorem ZjT:SX Zbr:=fun h=>sT h (Zb (Zmh h) Zq) rfl (by kernel_rfl) fun _=>rfl
theorem Zj4 (L:Nat)(x0:Zk)(x1:Int)(x2:Wp)(x3:(List UInt8))(x4:Int):UL L (x0,x1,x2,x3,x4,())=bT (bif (x3 == []) == false then bif decide (x4 ≥ 0) == true then bT (Es L (x0,x1,x2,x3,())) fun y=>some (decide (x4 < y)) else some false else some true) fun y=>some y:=by kernel_rfl
def MQ (L:Nat)(x:Zk×Int×Wp×YK×PUnit):Option Int:=fT [Zkk L,Ze1 L,Zbr L,MC L] L EO [] (.one (.int .i64)) [.row 19,.int .i64,.row 16,.row 15] x
def F6 (L:Nat):Sum tT:=mU 125 [.row 19,.int .i64,.row 16,.row 15] (.one (.int .i64)) (MQ L)
theorem ZhP:SX F6:=fun h=>sT h (Zb (ZrG h) (Zb (Zmg h) (Zb (ZjT h) (Zb (SN h) Zq)))) rfl (by kernel_rfl) fun _=>rfl
theorem Zh6 (L:Nat)(x0:Zk)(x1:Int)(x2:Wp)(x3:YK):MQ L (x0,x1,x2,x3,())=bT (bT (XO L ()) fun y=>some y) fun y=>bT (ZJ y x3.1) fun y=>bT (UL L (x0,x1,x2,y.2,x3.2,())) fun y_1=>bif !y_1 then some 2 else bif x3.1 == 15 then bT (Ug L (x0,x1,x3,())) fun y=>some y else bif x3.1 == 14 then bT (FI L (x0,x1,x3.2,())) fun y=>bif !y.2.1 || y.1 != x3.4 then some 16 else bT (Ug L (x0,x3.2,x3,())) fun y=>some y else bT (UL L (x0,x1,x2,y.3,x3.3,())) fun y=>bif !y then some 2 else some 0:=by kernel_rfl
def V5 (L:Nat)(x:(List Int)×(List Int)×PUnit):Option Bool:=fT [] L P9 [.rnd [.slot 5 (.int .i64)]] (.one .bool) [.lst 1 (.int .i64),.lst 1 (.int .i64)] x
def Nh (L:Nat):Sum tT:=mU 190 [.lst 1 (.int .i64),.lst 1 (.int .i64)] (.one .bool) (V5 L)
theorem Zfg:SX Nh:=fun h=>sT h Zq rfl (by kernel_rfl) fun _=>rfl
def GY:List Int→List Int→(Int×PUnit→Option Bool)→Int×PUnit→Option Bool:=fun x0 x1 self acc=>bif decide (acc.1 < (↑x0.length:Int)) then bT (ZJ x0 acc.1) fun y=>bT (ZJ x1 acc.1) fun y_1=>bif y != y_1 then some false else self (Go.IntKind.i64.wrap (acc.1 + 1),()) else some true
theorem ZeZ (L:Nat)(x0:(List Int))(x1:(List Int)):V5 L (x0,x1,())=bif (↑x0.length:Int) != (↑x1.length:Int) then some false else Zp (GY x0 x1) L (0,()):=by kernel_rfl
def Ue (L:Nat)(x:We×We×PUnit):Option Bool:=fT [Nh L] L Zfs [] (.one .bool) [.row 2,.row 2] x
def D8 (L:Nat):Sum tT:=mU 161 [.row 2,.row 2] (.one .bool) (Ue L)
theorem Zag:SX D8:=fun h=>sT h (Zb (Zfg h) Zq) rfl (by kernel_rfl) fun _=>rfl
theorem Zo3 (L:Nat)(x0:We)(x1:We):Ue L (x0,x1,())=bT (bif (x0.1 == x1.1 && x0.2 == x1.2 && x0.3 == x1.3 && x0.4 == x1.4) == true then bT (V5 L (x0.5,x1.5,())) fun y=>some y else some false) fun y=>bT (bif y == true then bT (V5 L (x0.6,x1.6,())) fun y=>some y else some false) fun y=>some y:=by kernel_rfl
end Go.Proofs.YtgjcjbhhhlelnaaGreatDoor
end
noncomputable section
namespace Go.Proofs.YtgjcjbhhhlelnaaGreatDoor
open Go Go.Proofs.YtgjcjbhhhlelnaaGreatDoor.Abs Go.Proofs.YtgjcjbhhhlelnaaGreatDoor.Tl
set_option maxRecDepth 100000
set_option maxHeartbeats 0
def YT (L:Nat):Nat→List (Sum tT)
 | 0=>[⟨189,[.lst 4 (.row 8),.lst 4 (.row 8)],fun _=>.par _ none ((.one (.bool):RD).tv tT)⟩,⟨160,[.row 8,.row 8],fun _=>.par _ none ((.one (.bool):RD).tv tT)⟩]
 | m + 1=>[⟨189,[.lst 4 (.row 8),.lst 4 (.row 8)],fun x=>.par _ (fnT tF tG (qOf tF (YT L m ++ [])) 0 L OZ [.rnd [.slot 5 (.int .i64)]] (.one (.bool)) (tvL tT [.lst 4 (.row 8),.lst 4 (.row 8)] x) []) ((.one (.bool):RD).tv tT)⟩,⟨160,[.row 8,.row 8],fun x=>.par _ (fnT tF tG (qOf tF (YT L m ++ [])) 0 L FP [] (.one (.bool)) (tvL tT [.row 8,.row 8] x) []) ((.one (.bool):RD).tv tT)⟩]
theorem Vj {C:Cfg}{L:Nat}(h:St C L):∀ m,∀ s ∈ YT L m,Qs C s
 | 0=>(Zb (Q8 _ _ _) (Zb (Q8 _ _ _) Zq))
 | m + 1=>have ih:=Vj h m
  (Zb (Y1 Yv h.L h.G (WA Yv (Vk ih Zq)) [.rnd [.slot 5 (.int .i64)]] (h.T _ _ rfl) (by kernel_rfl) fun _=>rfl) (Zb (Y1 Yv h.L h.G (WA Yv (Vk ih Zq)) [] (h.T _ _ rfl) (by kernel_rfl) fun _=>rfl) Zq))
def Oe (L m:Nat)(x:(List Zu)×(List Zu)×PUnit):Option (Bool):=fnT tF tG (qOf tF (YT L m ++ [])) 0 L OZ [.rnd [.slot 5 (.int .i64)]] (.one (.bool)) (tvL tT [.lst 4 (.row 8),.lst 4 (.row 8)] x) []
def MW (L m:Nat)(x:Zu×Zu×PUnit):Option (Bool):=fnT tF tG (qOf tF (YT L m ++ [])) 0 L FP [] (.one (.bool)) (tvL tT [.row 8,.row 8] x) []
def OJ (L:Nat)(x:Zu×Zu×PUnit):Option (Bool):=MW L L x
def Zgp (L:Nat):Sum tT:=⟨160,[.row 8,.row 8],fun x=>.par ((.one (.bool):RD).Ty tT) (OJ L x) ((.one (.bool):RD).tv tT)⟩
theorem ZoR {C:Cfg}{L:Nat}(h:St C L):Qs C (Zgp L):=have ih:=Vj h L
 Y1 Yv h.L h.G (WA Yv (Vk ih Zq)) [] (h.T _ _ rfl) (by kernel_rfl) fun _=>rfl
def Un:Nat→List Zu→List Zu→Nat→(Int×PUnit→Option Bool)→Int×PUnit→Option Bool:=fun (m:Nat)=>fun x0 x1 L self acc=>bif decide (acc.1 < (↑x0.length:Int)) then bT (ZJ x0 acc.1) fun y=>bT (ZJ x1 acc.1) fun y_1=>bT (bT (MW L m (y,y_1,())) fun y=>some y) fun y=>bif !y then some false else self (Go.IntKind.i64.wrap (acc.1 + 1),()) else some true
theorem Aw (L m:Nat)(x0:(List Zu))(x1:(List Zu)):Oe L (m + 1) (x0,x1,())=bif (↑x0.length:Int) != (↑x1.length:Int) then some false else Zp (Un m x0 x1 L) L (0,()):=by kernel_rfl
theorem Zo5 (L m:Nat)(x0:Zu)(x1:Zu):MW L (m + 1) (x0,x1,())=bif x0.1 != x1.1 || !x0.2 == x1.2 || x0.3 != x1.3 then some false else bT (Oe L m (x0.4,x1.4,())) fun y=>some y:=by kernel_rfl
def MR (L:Nat)(x:YK×PUnit):Option Bool:=fT [D8 L,Zgp L,MC L] L Zc6 [] (.one .bool) [.row 15] x
def Ze4 (L:Nat):Sum tT:=mU 124 [.row 15] (.one .bool) (MR L)
theorem Zmj:SX Ze4:=fun h=>sT h (Zb (Zag h) (Zb (ZoR h) (Zb (SN h) Zq))) rfl (by kernel_rfl) fun _=>rfl
theorem ZlD (L:Nat)(x0:YK):MR L (x0,())=bT (bT (XO L ()) fun y=>some y) fun y=>bT (ZJ y x0.1) fun y=>bif y.2 == [] && x0.2 != 0 then some false else bif y.3 == [] && x0.3 != 0 then some false else bif !y.4 && x0.4 != 0 then some false else bif !y.7 && x0.9 then some false else bT (bif (!y.5) == true then bT (OJ L (x0.5,Zu.mk 0 [] 0 [],())) fun y=>some !y else some false) fun y_1=>bif y_1 then some false else bT (bif (!y.6) == true then bT (OJ L (x0.6,Zu.mk 0 [] 0 [],())) fun y=>some !y else some false) fun y_2=>bif y_2 then some false else bif !y.8 && decide ((↑x0.7.length:Int) > 0) then some false else bT (bif y.9 == false then bT (Ue L (x0.8,We.mk 0 0 0 0 [] [],())) fun y=>some y else some true) fun y=>some y:=by kernel_rfl
def XP (L:Nat)(x:Zk×Int×Wp×YK×PUnit):Option Int:=fT [Mc L,Zgz L,BV L,Ze0 L,F6 L,Ze4 L,Ee L] L Zc4 [.rnd [.slot 11 (.int .i64)]] (.one (.int .i64)) [.row 19,.int .i64,.row 16,.row 15] x
def Ze3 (L:Nat):Sum tT:=mU 66 [.row 19,.int .i64,.row 16,.row 15] (.one (.int .i64)) (XP L)
theorem Zmi:SX Ze3:=fun h=>sT h (Zb (SI h) (Zb (Zpb h) (Zb (ZdV h) (Zb (Zmf h) (Zb (ZhP h) (Zb (Zmj h) (Zb (ZdX h) Zq))))))) rfl (by kernel_rfl) fun _=>rfl
def Iy:Zk→Int→Wp→YK→Nat→List Zu→(Int×PUnit→Option Int)→Int×PUnit→Option Int:=fun x0 x1 x2 x3 L y self acc=>bif decide (acc.1 < (↑y.length:Int)) then bT (ZJ y acc.1) fun y_1=>bT (J5 L (y_1,())) fun y_2=>bT (bif (y_2 == 0) == true then bT (ZJ y acc.1) fun y=>bT (bT (Zaw L (x0,x1,x2,y,())) fun y=>some y) fun y=>some !y else some false) fun y=>bif y then some 2 else bif y_2 != 0 then some y_2 else self (Go.IntKind.i64.wrap (acc.1 + 1),()) else bif x3.1 == 3 then bT (VM L (x3.8,())) fun y=>some y else some 0
theorem ZlB (L:Nat)(x0:Zk)(x1:Int)(x2:Wp)(x3:YK):XP L (x0,x1,x2,x3,())=bT (Ia L (x3.1,())) fun y=>bT (bif (!y) == false then bT (MR L (x3,())) fun y=>some !y else some true) fun y=>bif y then some 1 else bT (MQ L (x0,x1,x2,x3,())) fun y=>bif y != 0 then some y else bT (MP L (x3,())) fun y=>Zp (Iy x0 x1 x2 x3 L y) L (0,()):=by kernel_rfl
def YX (L:Nat)(x:Zk×Int×Wp×PUnit):Option Int:=fT [Ze3 L,XN L] L EN [.rnd [.slot 8 (.int .i64)]] (.one (.int .i64)) [.row 19,.int .i64,.row 16] x
def F5 (L:Nat):Sum tT:=mU 43 [.row 19,.int .i64,.row 16] (.one (.int .i64)) (YX L)
theorem ZhO:SX F5:=fun h=>sT h (Zb (Zmi h) (Zb (VH h) Zq)) rfl (by kernel_rfl) fun _=>rfl
def Ur:Zk→Int→Wp→Nat→(Int×PUnit→Option Int)→Int×PUnit→Option Int:=fun x0 x1 x2 L self acc=>bif decide (acc.1 < (↑x2.4.length:Int)) then bT (ZJ x2.4 acc.1) fun y=>bT (bT (XP L (x0,x1,x2,y,())) fun y=>some y) fun y=>bif y != 0 then some y else self (Go.IntKind.i64.wrap (acc.1 + 1),()) else bT (ZJ x2.4 (Go.IntKind.i64.wrap ((↑x2.4.length:Int) - 1))) fun y=>bif y.1 != 19 && y.1 != 4 then some 8 else some 0
theorem Az (L:Nat)(x0:Zk)(x1:Int)(x2:Wp):YX L (x0,x1,x2,())=bif decide (x1 < 0) || decide (x1 ≥ (↑x0.2.length:Int)) then some 2 else bT (Qm L (x2.1,())) fun y=>bif y != 0 then some y else bif decide (x2.2 < 0) || decide (x2.2 > x2.3) || decide (x2.2 > 6) || decide (x2.3 > 16) then some 2 else bif (↑x2.4.length:Int) == 0 then some 7 else bif decide ((↑x2.4.length:Int) > 1000) then some 6 else Zp (Ur x0 x1 x2 L) L (0,()):=by kernel_rfl
def OQ (L:Nat)(x:Zk×PUnit):Option Int:=fT [] L Zf1 [.rnd [.slot 2 (.int .i64),.slot 4 (.int .i64)],.rnd [.slot 2 (.int .i64),.slot 6 (.int .i64)]] (.one (.int .i64)) [.row 19] x
def Zgx (L:Nat):Sum tT:=mU 42 [.row 19] (.one (.int .i64)) (OQ L)
theorem ZoZ:SX Zgx:=fun h=>sT h Zq rfl (by kernel_rfl) fun _=>rfl
def He:Zk→(Int×Int×PUnit→Option Int)→Int×Int×PUnit→VQ→(Int×Int×PUnit→Option Int)→Int×Int×PUnit→Option Int:=fun x0 self acc y self_1 acc_1=>bif decide (acc_1.2.1 < acc.2.1) then bT (ZJ x0.3 acc_1.2.1) fun y_1=>bT (bif (y_1.1 == y.1) == true then bT (ZJ x0.3 acc_1.2.1) fun y_2=>some (y_2.2 == y.2) else some false) fun y=>bif y then some 4 else self_1 (acc_1.1,Go.IntKind.i64.wrap (acc_1.2.1 + 1),()) else self (acc_1.1,Go.IntKind.i64.wrap (acc.2.1 + 1),())
def Hf:Zk→Nat→(Int×Int×PUnit→Option Int)→Int×Int×PUnit→Option Int:=fun x0 L self acc=>bif decide (acc.2.1 < (↑x0.3.length:Int)) then bT (ZJ x0.3 acc.2.1) fun y=>bif decide (y.1 < 0) || decide (y.1 ≥ (↑x0.2.length:Int)) || decide (y.2 < 0) || decide (y.2 ≥ (↑x0.2.length:Int)) || y.1 == y.2 || decide (y.3 < 1) || decide (y.3 > 1000000000) then some 2 else Zp (He x0 self acc y) L (acc.1,0,()) else some 0
theorem ZoE (L:Nat)(x0:Zk):OQ L (x0,())=bif decide ((↑x0.3.length:Int) > 32) then some 6 else Zp (Hf x0 L) L (0,0,()):=by kernel_rfl
def OT (L:Nat)(x:ZN×PUnit):Option Bool:=fT [] L Zf2 [.rnd [.slot 3 (.int .i64)]] (.one .bool) [.row 17] x
def Zgy (L:Nat):Sum tT:=mU 41 [.row 17] (.one .bool) (OT L)
theorem Zpa:SX Zgy:=fun h=>sT h Zq rfl (by kernel_rfl) fun _=>rfl
def TB:ZN→(Int×PUnit→Option Bool)→Int×PUnit→Option Bool:=fun x0 self acc=>bif decide (acc.1 < (↑x0.2.length:Int)) then bT (ZJ x0.Decl.11 acc.1) fun y=>bT (bif decide ((↑y.4.length:Int) > 0) == false then bT (ZJ x0.2 acc.1) fun y_1=>some !y.1 == y_1.1 else some true) fun y_1=>bT (bif y_1 == false then bT (ZJ x0.2 acc.1) fun y_2=>some ((↑y.2.length:Int) != y_2.2) else some true) fun y=>bif y then some false else self (Go.IntKind.i64.wrap (acc.1 + 1),()) else some true
theorem Zgb (L:Nat)(x0:ZN):OT L (x0,())=bif (↑x0.2.length:Int) != (↑x0.Decl.11.length:Int) then some false else Zp (TB x0) L (0,()):=by kernel_rfl
def ZO (L:Nat)(x:Int×Int×Int×PUnit):Option Bool:=fT [] L ZaE [] (.one .bool) [.int .i64,.int .i64,.int .i64] x
def Xc (L:Nat):Sum tT:=mU 122 [.int .i64,.int .i64,.int .i64] (.one .bool) (ZO L)
theorem XJ:SX Xc:=fun h=>sT h Zq rfl (by kernel_rfl) fun _=>rfl
theorem Zj3 (L:Nat)(x0:Int)(x1:Int)(x2:Int):ZO L (x0,x1,x2,())=some (decide (x0 ≥ x1) && decide (x0≤x2)):=by kernel_rfl
def Zav (L:Nat)(x:QV×(List UInt8)×PUnit):Option Int:=fT [] L Zfy [.rnd [.slot 5 (.int .i64)]] (.one (.int .i64)) [.row 21,.str] x
def Zgu (L:Nat):Sum tT:=mU 121 [.row 21,.str] (.one (.int .i64)) (Zav L)
theorem ZoW:SX Zgu:=fun h=>sT h Zq rfl (by kernel_rfl) fun _=>rfl
def MN (L:Nat)(x:QV×PUnit):Option Int:=fT [Xc L,Zgu L] L Zcv [.rnd [.slot 2 (.int .i64),.slot 3 (.int .i64)],.rnd [.slot 2 (.int .i64),.slot 5 (.int .i64)]] (.one (.int .i64)) [.row 21] x
def Zex (L:Nat):Sum tT:=mU 65 [.row 21] (.one (.int .i64)) (MN L)
theorem Zmb:SX Zex:=fun h=>sT h (Zb (XJ h) (Zb (ZoW h) Zq)) rfl (by kernel_rfl) fun _=>rfl
def ZjA:QV→(Int×Int×PUnit→Option Int)→Int×Int×PUnit→Zii→(Int×Int×PUnit→Option Int)→Int×Int×PUnit→Option Int:=fun x0 self acc y self_1 acc_1=>bif decide (acc_1.2.1 < acc.2.1) then bT (ZJ x0.4 acc_1.2.1) fun y_1=>bT (bif (y_1.1 == y.1) == true then bT (ZJ x0.4 acc_1.2.1) fun y_2=>some (y_2.2 == y.2) else some false) fun y=>bif y then some 4 else self_1 (acc_1.1,Go.IntKind.i64.wrap (acc_1.2.1 + 1),()) else self (acc_1.1,Go.IntKind.i64.wrap (acc.2.1 + 1),())
def ZaY:QV→Nat→(Int×Int×PUnit→Option Int)→Int×Int×PUnit→Option Int:=fun x0 L self acc=>bif decide (acc.2.1 < (↑x0.4.length:Int)) then bT (ZJ x0.4 acc.2.1) fun y=>bT (Zav L (x0,y.1,())) fun y_1=>bT (bif decide (y_1 < 0) == false then bT (Zav L (x0,y.2,())) fun y=>some (decide (y < 0)) else some true) fun y_2=>bif y_2 then some 5 else bif y.1 == y.2 then some 1 else bT (ZO L (y.3,1,1000000000,())) fun y_3=>bif !y_3 then some 2 else Zp (ZjA x0 self acc y) L (acc.1,0,()) else some 0
theorem Zl3 (L:Nat)(x0:QV):MN L (x0,())=bif decide ((↑x0.4.length:Int) > 32) then some 6 else Zp (ZaY x0 L) L (0,0,()):=by kernel_rfl
def ZA (L:Nat)(x:Int×Int×PUnit):Option Int:=fT [] L Zcu [] (.one (.int .i64)) [.int .i64,.int .i64] x
def QH (L:Nat):Sum tT:=mU 60 [.int .i64,.int .i64] (.one (.int .i64)) (ZA L)
theorem Xi:SX QH:=fun h=>sT h Zq rfl (by kernel_rfl) fun _=>rfl
theorem Zl2 (L:Nat)(x0:Int)(x1:Int):ZA L (x0,x1,())=bif x0 != 0 then some x0 else some x1:=by kernel_rfl
end Go.Proofs.YtgjcjbhhhlelnaaGreatDoor
end
noncomputable section
namespace Go.Proofs.YtgjcjbhhhlelnaaGreatDoor
open Go Go.Proofs.YtgjcjbhhhlelnaaGreatDoor.Abs Go.Proofs.YtgjcjbhhhlelnaaGreatDoor.Tl
set_option maxRecDepth 100000
set_option maxHeartbeats 0
def Uf (L:Nat)(x:Ze×PUnit):Option ((List (List (List UInt8)))):=fT [] L Zcs [.rnd [.slot 4 (.int .i64),.cell 1 0 (.own 1 .str),.cell 1 1 (.own 1 .str),.cell 1 2 (.own 1 .str),.cell 1 3 (.own 1 .str),.cell 1 4 (.lst 1 .str),.cell 1 5 (.lst 1 .str),.cell 1 6 (.lst 1 .str),.cell 1 7 (.lst 1 .str),.cell 1 8 (.lst 1 .str),.cell 1 9 (.own 1 .str)],.rnd [.slot 5 (.int .i64),.cell 1 0 (.own 1 .str),.cell 1 1 (.own 1 .str),.cell 1 2 (.own 1 .str),.cell 1 3 (.own 1 .str),.cell 1 4 (.lst 1 .str),.cell 1 5 (.lst 1 .str),.cell 1 6 (.lst 1 .str),.cell 1 7 (.lst 1 .str),.cell 1 8 (.lst 1 .str),.cell 1 9 (.own 1 .str)],.rnd [.slot 6 (.int .i64),.cell 1 0 (.own 1 .str),.cell 1 1 (.own 1 .str),.cell 1 2 (.own 1 .str),.cell 1 3 (.own 1 .str),.cell 1 4 (.lst 1 .str),.cell 1 5 (.lst 1 .str),.cell 1 6 (.lst 1 .str),.cell 1 7 (.lst 1 .str),.cell 1 8 (.lst 1 .str),.cell 1 9 (.own 1 .str)],.rnd [.slot 7 (.int .i64),.cell 1 0 (.own 1 .str),.cell 1 1 (.own 1 .str),.cell 1 2 (.own 1 .str),.cell 1 3 (.own 1 .str),.cell 1 4 (.lst 1 .str),.cell 1 5 (.lst 1 .str),.cell 1 6 (.lst 1 .str),.cell 1 7 (.lst 1 .str),.cell 1 8 (.lst 1 .str),.cell 1 9 (.own 1 .str)],.rnd [.slot 8 (.int .i64),.cell 1 0 (.own 1 .str),.cell 1 1 (.own 1 .str),.cell 1 2 (.own 1 .str),.cell 1 3 (.own 1 .str),.cell 1 4 (.lst 1 .str),.cell 1 5 (.lst 1 .str),.cell 1 6 (.lst 1 .str),.cell 1 7 (.lst 1 .str),.cell 1 8 (.lst 1 .str),.cell 1 9 (.own 1 .str)]] (.one (.lst 1 (.lst 1 .str))) [.row 14] x
def Me (L:Nat):Sum tT:=mU 117 [.row 14] (.one (.lst 1 (.lst 1 .str))) (Uf L)
theorem SK:SX Me:=fun h=>sT h Zq rfl (by kernel_rfl) fun _=>rfl
def Bd:Ze→(Int×List (List UInt8)×List (List UInt8)×List (List UInt8)×List (List UInt8)×List (List UInt8)×List (List UInt8)×List (List UInt8)×List (List UInt8)×List (List UInt8)×List (List UInt8)×PUnit→Option (List (List (List UInt8))))→Int×List (List UInt8)×List (List UInt8)×List (List UInt8)×List (List UInt8)×List (List UInt8)×List (List UInt8)×List (List UInt8)×List (List UInt8)×List (List UInt8)×List (List UInt8)×PUnit→Option (List (List (List UInt8))):=fun (x0:Ze) (self:Int×List (List UInt8)×List (List UInt8)×List (List UInt8)×List (List UInt8)×List (List UInt8)×List (List UInt8)×List (List UInt8)×List (List UInt8)×List (List UInt8)×List (List UInt8)×PUnit→Option (List (List (List UInt8)))) (acc:Int×List (List UInt8)×List (List UInt8)×List (List UInt8)×List (List UInt8)×List (List UInt8)×List (List UInt8)×List (List UInt8)×List (List UInt8)×List (List UInt8)×List (List UInt8)×PUnit)=>bif decide (acc.1 < (↑x0.11.length:Int)) then bT (ZJ x0.11 acc.1) fun y=>bT (apT 16 acc.2.2.2.2.2.2.2.2.2.2.1 [y.1]) fun y=>self (Go.IntKind.i64.wrap (acc.1 + 1),acc.2.1,acc.2.2.1,acc.2.2.2.1,acc.2.2.2.2.1,acc.2.2.2.2.2.1,acc.2.2.2.2.2.2.1,acc.2.2.2.2.2.2.2.1,acc.2.2.2.2.2.2.2.2.1,acc.2.2.2.2.2.2.2.2.2.1,y,()) else some [acc.2.1,acc.2.2.1,acc.2.2.2.1,acc.2.2.2.2.1,acc.2.2.2.2.2.1,acc.2.2.2.2.2.2.1,acc.2.2.2.2.2.2.2.1,acc.2.2.2.2.2.2.2.2.1,acc.2.2.2.2.2.2.2.2.2.1,acc.2.2.2.2.2.2.2.2.2.2.1]
def Be:Ze→Nat→(Int×List (List UInt8)×List (List UInt8)×List (List UInt8)×List (List UInt8)×List (List UInt8)×List (List UInt8)×List (List UInt8)×List (List UInt8)×List (List UInt8)×List (List UInt8)×PUnit→Option (List (List (List UInt8))))→Int×List (List UInt8)×List (List UInt8)×List (List UInt8)×List (List UInt8)×List (List UInt8)×List (List UInt8)×List (List UInt8)×List (List UInt8)×List (List UInt8)×List (List UInt8)×PUnit→Option (List (List (List UInt8))):=fun (x0:Ze) (L:Nat) (self:Int×List (List UInt8)×List (List UInt8)×List (List UInt8)×List (List UInt8)×List (List UInt8)×List (List UInt8)×List (List UInt8)×List (List UInt8)×List (List UInt8)×List (List UInt8)×PUnit→Option (List (List (List UInt8)))) (acc:Int×List (List UInt8)×List (List UInt8)×List (List UInt8)×List (List UInt8)×List (List UInt8)×List (List UInt8)×List (List UInt8)×List (List UInt8)×List (List UInt8)×List (List UInt8)×PUnit)=>bif decide (acc.1 < (↑x0.5.length:Int)) then bT (ZJ x0.5 acc.1) fun y=>bT (apT 16 acc.2.2.2.2.1 [y.1]) fun y=>self (Go.IntKind.i64.wrap (acc.1 + 1),acc.2.1,acc.2.2.1,acc.2.2.2.1,y,acc.2.2.2.2.2.1,acc.2.2.2.2.2.2.1,acc.2.2.2.2.2.2.2.1,acc.2.2.2.2.2.2.2.2.1,acc.2.2.2.2.2.2.2.2.2.1,acc.2.2.2.2.2.2.2.2.2.2.1,()) else Zp (Bd x0) L (0,acc.2.1,acc.2.2.1,acc.2.2.2.1,acc.2.2.2.2.1,x0.6,x0.7,x0.8,x0.9,x0.10,acc.2.2.2.2.2.2.2.2.2.2.1,())
def Bf:Ze→Nat→(Int×List (List UInt8)×List (List UInt8)×List (List UInt8)×List (List UInt8)×List (List UInt8)×List (List UInt8)×List (List UInt8)×List (List UInt8)×List (List UInt8)×List (List UInt8)×PUnit→Option (List (List (List UInt8))))→Int×List (List UInt8)×List (List UInt8)×List (List UInt8)×List (List UInt8)×List (List UInt8)×List (List UInt8)×List (List UInt8)×List (List UInt8)×List (List UInt8)×List (List UInt8)×PUnit→Option (List (List (List UInt8))):=fun (x0:Ze) (L:Nat) (self:Int×List (List UInt8)×List (List UInt8)×List (List UInt8)×List (List UInt8)×List (List UInt8)×List (List UInt8)×List (List UInt8)×List (List UInt8)×List (List UInt8)×List (List UInt8)×PUnit→Option (List (List (List UInt8)))) (acc:Int×List (List UInt8)×List (List UInt8)×List (List UInt8)×List (List UInt8)×List (List UInt8)×List (List UInt8)×List (List UInt8)×List (List UInt8)×List (List UInt8)×List (List UInt8)×PUnit)=>bif decide (acc.1 < (↑x0.4.length:Int)) then bT (ZJ x0.4 acc.1) fun y=>bT (apT 16 acc.2.2.2.1 [y.1]) fun y=>self (Go.IntKind.i64.wrap (acc.1 + 1),acc.2.1,acc.2.2.1,y,acc.2.2.2.2.1,acc.2.2.2.2.2.1,acc.2.2.2.2.2.2.1,acc.2.2.2.2.2.2.2.1,acc.2.2.2.2.2.2.2.2.1,acc.2.2.2.2.2.2.2.2.2.1,acc.2.2.2.2.2.2.2.2.2.2.1,()) else Zp (Be x0 L) L (0,acc.2.1,acc.2.2.1,acc.2.2.2.1,acc.2.2.2.2.1,acc.2.2.2.2.2.1,acc.2.2.2.2.2.2.1,acc.2.2.2.2.2.2.2.1,acc.2.2.2.2.2.2.2.2.1,acc.2.2.2.2.2.2.2.2.2.1,acc.2.2.2.2.2.2.2.2.2.2.1,())
def Bg:Ze→Nat→(Int×List (List UInt8)×List (List UInt8)×List (List UInt8)×List (List UInt8)×List (List UInt8)×List (List UInt8)×List (List UInt8)×List (List UInt8)×List (List UInt8)×List (List UInt8)×PUnit→Option (List (List (List UInt8))))→Int×List (List UInt8)×List (List UInt8)×List (List UInt8)×List (List UInt8)×List (List UInt8)×List (List UInt8)×List (List UInt8)×List (List UInt8)×List (List UInt8)×List (List UInt8)×PUnit→Option (List (List (List UInt8))):=fun (x0:Ze) (L:Nat) (self:Int×List (List UInt8)×List (List UInt8)×List (List UInt8)×List (List UInt8)×List (List UInt8)×List (List UInt8)×List (List UInt8)×List (List UInt8)×List (List UInt8)×List (List UInt8)×PUnit→Option (List (List (List UInt8)))) (acc:Int×List (List UInt8)×List (List UInt8)×List (List UInt8)×List (List UInt8)×List (List UInt8)×List (List UInt8)×List (List UInt8)×List (List UInt8)×List (List UInt8)×List (List UInt8)×PUnit)=>bif decide (acc.1 < (↑x0.3.length:Int)) then bT (ZJ x0.3 acc.1) fun y=>bT (apT 16 acc.2.2.1 [y.1]) fun y=>self (Go.IntKind.i64.wrap (acc.1 + 1),acc.2.1,y,acc.2.2.2.1,acc.2.2.2.2.1,acc.2.2.2.2.2.1,acc.2.2.2.2.2.2.1,acc.2.2.2.2.2.2.2.1,acc.2.2.2.2.2.2.2.2.1,acc.2.2.2.2.2.2.2.2.2.1,acc.2.2.2.2.2.2.2.2.2.2.1,()) else Zp (Bf x0 L) L (0,acc.2.1,acc.2.2.1,acc.2.2.2.1,acc.2.2.2.2.1,acc.2.2.2.2.2.1,acc.2.2.2.2.2.2.1,acc.2.2.2.2.2.2.2.1,acc.2.2.2.2.2.2.2.2.1,acc.2.2.2.2.2.2.2.2.2.1,acc.2.2.2.2.2.2.2.2.2.2.1,())
def Bh:Ze→Nat→(Int×List (List UInt8)×List (List UInt8)×List (List UInt8)×List (List UInt8)×List (List UInt8)×List (List UInt8)×List (List UInt8)×List (List UInt8)×List (List UInt8)×List (List UInt8)×PUnit→Option (List (List (List UInt8))))→Int×List (List UInt8)×List (List UInt8)×List (List UInt8)×List (List UInt8)×List (List UInt8)×List (List UInt8)×List (List UInt8)×List (List UInt8)×List (List UInt8)×List (List UInt8)×PUnit→Option (List (List (List UInt8))):=fun (x0:Ze) (L:Nat) (self:Int×List (List UInt8)×List (List UInt8)×List (List UInt8)×List (List UInt8)×List (List UInt8)×List (List UInt8)×List (List UInt8)×List (List UInt8)×List (List UInt8)×List (List UInt8)×PUnit→Option (List (List (List UInt8)))) (acc:Int×List (List UInt8)×List (List UInt8)×List (List UInt8)×List (List UInt8)×List (List UInt8)×List (List UInt8)×List (List UInt8)×List (List UInt8)×List (List UInt8)×List (List UInt8)×PUnit)=>bif decide (acc.1 < (↑x0.2.length:Int)) then bT (ZJ x0.2 acc.1) fun y=>bT (apT 16 acc.2.1 [y.1]) fun y=>self (Go.IntKind.i64.wrap (acc.1 + 1),y,acc.2.2.1,acc.2.2.2.1,acc.2.2.2.2.1,acc.2.2.2.2.2.1,acc.2.2.2.2.2.2.1,acc.2.2.2.2.2.2.2.1,acc.2.2.2.2.2.2.2.2.1,acc.2.2.2.2.2.2.2.2.2.1,acc.2.2.2.2.2.2.2.2.2.2.1,()) else Zp (Bg x0 L) L (0,acc.2.1,acc.2.2.1,acc.2.2.2.1,acc.2.2.2.2.1,acc.2.2.2.2.2.1,acc.2.2.2.2.2.2.1,acc.2.2.2.2.2.2.2.1,acc.2.2.2.2.2.2.2.2.1,acc.2.2.2.2.2.2.2.2.2.1,acc.2.2.2.2.2.2.2.2.2.2.1,())
theorem Zl0 (L:Nat)(x0:Ze):Uf L (x0,())=Zp (Bh x0 L) L (0,[],[],[],[],[],[],[],[],[],[],()):=by kernel_rfl
def QR (L:Nat)(x:Ze×(List UInt8)×PUnit):Option (List UInt8):=fT [G5 L,Me L] L Zfx [.rnd [.slot 7 (.int .i64)]] (.one .str) [.row 14,.str] x
def Zgt (L:Nat):Sum tT:=mU 188 [.row 14,.str] (.one .str) (QR L)
theorem ZoV:SX Zgt:=fun h=>sT h (Zb (OE h) (Zb (SK h) Zq)) rfl (by kernel_rfl) fun _=>rfl
def TA:List UInt8→Nat→List (List (List UInt8))→(Int×PUnit→Option (List UInt8))→Int×PUnit→Option (List UInt8):=fun x1 L y self acc=>bif decide (acc.1 < (↑y.length:Int)) then bT (ZJ y acc.1) fun y=>bT (Jd L (y,x1,())) fun y=>bif decide (y ≥ 0) then bT (ZJ [[118,97,114],[114,101,115,111,117,114,99,101],[115,116,111,114,101],[98,101,108,116],[113,117,101,117,101],[115,116,114,101,97,109],[116,97,108,108,121],[108,101,118,101,108],[99,111,117,110,116],[114,111,117,116,105,110,101]] acc.1) fun y=>some y else self (Go.IntKind.i64.wrap (acc.1 + 1),()) else some []
theorem ZoB (L:Nat)(x0:Ze)(x1:(List UInt8)):QR L (x0,x1,())=bT (Uf L (x0,())) fun (y:List (List (List UInt8)))=>Zp (TA x1 L y) L (0,()):=by kernel_rfl
def Zo (L:Nat)(x:Bool×Int×PUnit):Option Int:=fT [] L ZaD [] (.one (.int .i64)) [.bool,.int .i64] x
def WN (L:Nat):Sum tT:=mU 61 [.bool,.int .i64] (.one (.int .i64)) (Zo L)
theorem Qc:SX WN:=fun h=>sT h Zq rfl (by kernel_rfl) fun _=>rfl
theorem Zj2 (L:Nat)(x0:Bool)(x1:Int):Zo L (x0,x1,())=bif x0 then some 0 else some x1:=by kernel_rfl
def DL (L:Nat)(x:Ze×Oh×PUnit):Option Int:=fT [Xc L,QH L,Zgt L,WN L] L Zf0 [] (.one (.int .i64)) [.row 14,.row 12] x
def Zgw (L:Nat):Sum tT:=mU 158 [.row 14,.row 12] (.one (.int .i64)) (DL L)
theorem ZoY:SX Zgw:=fun h=>sT h (Zb (XJ h) (Zb (Xi h) (Zb (ZoV h) (Zb (Qc h) Zq)))) rfl (by kernel_rfl) fun _=>rfl
theorem ZoD (L:Nat)(x0:Ze)(x1:Oh):DL L (x0,x1,())=bif x1.2 == [99,114,101,97,116,101,100] then bT (bT (Zo L (!([114,111,117,116,105,110,101]:List UInt8) == [],1,())) fun y=>some y) fun y=>bT (bT (QR L (x0,x1.3,())) fun y=>some y) fun y_1=>bT (bT (Zo L (y_1 == [114,111,117,116,105,110,101],5,())) fun y=>some y) fun y_2=>bT (bT (ZA L (y,y_2,())) fun y=>some y) fun y=>bT (ZO L (x1.1,(-1000),1000,())) fun y_3=>bT (Zo L (y_3 && x1.1 != 0,2,())) fun y_4=>bT (ZA L (y,y_4,())) fun y=>some y else bif x1.2 == [101,110,100,101,100] then bT (bT (Zo L (!([114,111,117,116,105,110,101]:List UInt8) == [],1,())) fun y=>some y) fun y=>bT (bT (QR L (x0,x1.3,())) fun y=>some y) fun y_1=>bT (bT (Zo L (y_1 == [114,111,117,116,105,110,101],5,())) fun y=>some y) fun y_2=>bT (bT (ZA L (y,y_2,())) fun y=>some y) fun y=>bT (ZO L (x1.1,(-1000),1000,())) fun y_3=>bT (Zo L (y_3 && x1.1 != 0,2,())) fun y_4=>bT (ZA L (y,y_4,())) fun y=>some y else bif x1.2 == [105,110,115,105,100,101] then bT (bT (Zo L (!([114,111,117,116,105,110,101]:List UInt8) == [],1,())) fun y=>some y) fun y=>bT (bT (QR L (x0,x1.3,())) fun y=>some y) fun y_1=>bT (bT (Zo L (y_1 == [114,111,117,116,105,110,101],5,())) fun y=>some y) fun y_2=>bT (bT (ZA L (y,y_2,())) fun y=>some y) fun y=>bT (ZO L (x1.1,(-1000),1000,())) fun y_3=>bT (Zo L (y_3 && x1.1 != 0,2,())) fun y_4=>bT (ZA L (y,y_4,())) fun y=>some y else bif x1.2 == [115,116,111,114,101,100] then bT (bT (Zo L (!([115,116,111,114,101]:List UInt8) == [],1,())) fun y=>some y) fun y=>bT (bT (QR L (x0,x1.3,())) fun y=>some y) fun y_1=>bT (bT (Zo L (y_1 == [115,116,111,114,101],5,())) fun y=>some y) fun y_2=>bT (bT (ZA L (y,y_2,())) fun y=>some y) fun y=>bT (ZO L (x1.1,(-1000),1000,())) fun y_3=>bT (Zo L (y_3 && x1.1 != 0,2,())) fun y_4=>bT (ZA L (y,y_4,())) fun y=>some y else bif x1.2 == [101,110,116,101,114,101,100] then bT (bT (Zo L (!([115,116,111,114,101]:List UInt8) == [],1,())) fun y=>some y) fun y=>bT (bT (QR L (x0,x1.3,())) fun y=>some y) fun y_1=>bT (bT (Zo L (y_1 == [115,116,111,114,101],5,())) fun y=>some y) fun y_2=>bT (bT (ZA L (y,y_2,())) fun y=>some y) fun y=>bT (ZO L (x1.1,(-1000),1000,())) fun y_3=>bT (Zo L (y_3 && x1.1 != 0,2,())) fun y_4=>bT (ZA L (y,y_4,())) fun y=>some y else bif x1.2 == [108,101,102,116] then bT (bT (Zo L (!([115,116,111,114,101]:List UInt8) == [],1,())) fun y=>some y) fun y=>bT (bT (QR L (x0,x1.3,())) fun y=>some y) fun y_1=>bT (bT (Zo L (y_1 == [115,116,111,114,101],5,())) fun y=>some y) fun y_2=>bT (bT (ZA L (y,y_2,())) fun y=>some y) fun y=>bT (ZO L (x1.1,(-1000),1000,())) fun y_3=>bT (Zo L (y_3 && x1.1 != 0,2,())) fun y_4=>bT (ZA L (y,y_4,())) fun y=>some y else bif x1.2 == [99,111,117,110,116,101,100] then bT (bT (Zo L (!([99,111,117,110,116]:List UInt8) == [],1,())) fun y=>some y) fun y=>bT (bT (QR L (x0,x1.3,())) fun y=>some y) fun y_1=>bT (bT (Zo L (y_1 == [99,111,117,110,116],5,())) fun y=>some y) fun y_2=>bT (bT (ZA L (y,y_2,())) fun y=>some y) fun y=>bT (ZO L (x1.1,(-1000),1000,())) fun y_3=>bT (Zo L (y_3 && x1.1 != 0,2,())) fun y_4=>bT (ZA L (y,y_4,())) fun y=>some y else bT (bT (Zo L (!([]:List UInt8) == [],1,())) fun y=>some y) fun y=>bT (bT (QR L (x0,x1.3,())) fun y=>some y) fun y_1=>bT (bT (Zo L (y_1 == [],5,())) fun y=>some y) fun y_2=>bT (bT (ZA L (y,y_2,())) fun y=>some y) fun y=>bT (ZO L (x1.1,(-1000),1000,())) fun y_3=>bT (Zo L (y_3 && x1.1 != 0,2,())) fun y_4=>bT (ZA L (y,y_4,())) fun y=>some y:=by kernel_rfl
def VN (L:Nat)(x:(List UInt8)×(List (List UInt8))×PUnit):Option Int:=fT [QH L,WN L,G5 L,XN L] L Zcw [] (.one (.int .i64)) [.str,.lst 1 .str] x
def Uc (L:Nat):Sum tT:=mU 63 [.str,.lst 1 .str] (.one (.int .i64)) (VN L)
theorem Hm:SX Uc:=fun h=>sT h (Zb (Xi h) (Zb (Qc h) (Zb (OE h) (Zb (VH h) Zq)))) rfl (by kernel_rfl) fun _=>rfl
theorem Zl4 (L:Nat)(x0:(List UInt8))(x1:(List (List UInt8))):VN L (x0,x1,())=bT (Qm L (x0,())) fun y=>bT (Jd L (x1,x0,())) fun y_1=>bT (Zo L (decide (y_1 < 0),4,())) fun y_2=>bT (ZA L (y,y_2,())) fun y=>some y:=by kernel_rfl
def FH (L:Nat)(x:Ze×ZeF×(List (List UInt8))×PUnit):Option Int:=fT [Fp L,Zgw L,QH L,WN L,Uc L] L Zim [.rnd [.slot 7 (.int .i64),.slot 8 (.int .i64)]] (.one (.int .i64)) [.row 14,.row 13,.lst 1 .str] x
def Zkj (L:Nat):Sum tT:=mU 120 [.row 14,.row 13,.lst 1 .str] (.one (.int .i64)) (FH L)
theorem ZrF:SX Zkj:=fun h=>sT h (Zb (ZbW h) (Zb (ZoY h) (Zb (Xi h) (Zb (Qc h) (Zb (Hm h) Zq))))) rfl (by kernel_rfl) fun _=>rfl
def Dy:Ze→ZeF→Nat→(Int×Int×PUnit→Option Int)→Int×Int×PUnit→Option Int:=fun x0 x1 L self acc=>bif decide (acc.2.1 < (↑x1.2.length:Int)) then bT (ZJ x1.2 acc.2.1) fun y=>bT (bT (DL L (x0,y,())) fun y=>some y) fun y=>bT (bT (ZA L (acc.1,y,())) fun y=>some y) fun y=>self (y,Go.IntKind.i64.wrap (acc.2.1 + 1),()) else bT (DF L (x1.3,())) fun y=>bT (Zo L (y,2,())) fun y=>bT (ZA L (acc.1,y,())) fun y=>some y
theorem Zrx (L:Nat)(x0:Ze)(x1:ZeF)(x2:(List (List UInt8))):FH L (x0,x1,x2,())=bT (VN L (x1.1,x2,())) fun y=>bT (Zo L (decide ((↑x1.2.length:Int) > 0),7,())) fun y_1=>bT (ZA L (y,y_1,())) fun y=>bT (Zo L (decide ((↑x1.2.length:Int)≤8),6,())) fun y_2=>bT (ZA L (y,y_2,())) fun y=>Zp (Dy x0 x1 L) L (y,0,()):=by kernel_rfl
def OO (L:Nat)(x:Int×Int×PUnit):Option Bool:=fT [Xc L,Fp L] L Zfw [] (.one .bool) [.int .i64,.int .i64] x
def D9 (L:Nat):Sum tT:=mU 116 [.int .i64,.int .i64] (.one .bool) (OO L)
theorem Zah:SX D9:=fun h=>sT h (Zb (XJ h) (Zb (ZbW h) Zq)) rfl (by kernel_rfl) fun _=>rfl
theorem ZoA (L:Nat)(x0:Int)(x1:Int):OO L (x0,x1,())=bif x0 == 1 then bT (DF L (x1,())) fun y=>some y else bif x0 == 2 then some (x1 == 0 || x1 == 1) else bif x0 == 3 then bT (ZO L (x1,0,1000000000,())) fun y=>some y else some false:=by kernel_rfl
def Gq (L:Nat)(x:Ze×(List UInt8)×PUnit):Option Int:=fT [G5 L,Me L] L EL [] (.one (.int .i64)) [.row 14,.str] x
def Fv (L:Nat):Sum tT:=mU 157 [.row 14,.str] (.one (.int .i64)) (Gq L)
theorem ZhM:SX Fv:=fun h=>sT h (Zb (OE h) (Zb (SK h) Zq)) rfl (by kernel_rfl) fun _=>rfl
theorem Zh4 (L:Nat)(x0:Ze)(x1:(List UInt8)):Gq L (x0,x1,())=bT (Uf L (x0,())) fun (y:List (List (List UInt8)))=>bT (ZJ y 9) fun y=>bT (Jd L (y,x1,())) fun y=>some y:=by kernel_rfl
def MO (L:Nat)(x:Ze×X0×PUnit):Option Int:=fT [WN L,Xc L,D9 L,Fv L] L Zcx [.rnd [.slot 7 (.int .i64)]] (.one (.int .i64)) [.row 14,.row 11] x
def Zey (L:Nat):Sum tT:=mU 119 [.row 14,.row 11] (.one (.int .i64)) (MO L)
theorem Zmc:SX Zey:=fun h=>sT h (Zb (Qc h) (Zb (XJ h) (Zb (Zah h) (Zb (ZhM h) Zq)))) rfl (by kernel_rfl) fun _=>rfl
def Iw:X0→Nat→ZU→(Int×PUnit→Option Int)→Int×PUnit→Option Int:=fun x1 L y self acc=>bif decide (acc.1 < (↑y.2.length:Int)) then bT (ZJ y.2 acc.1) fun y=>bT (ZJ x1.2 acc.1) fun y_1=>bT (bT (OO L (y.2,y_1,())) fun y=>some y) fun y=>bif !y then some 2 else self (Go.IntKind.i64.wrap (acc.1 + 1),()) else bT (ZO L (x1.3,0,1000000000,())) fun y=>bT (bif y == true then bT (ZO L (x1.4,0,1000000000,())) fun y=>some y else some false) fun y=>bT (bif y == true then bT (ZO L (x1.5,0,1000000000,())) fun y=>some y else some false) fun y=>bT (Zo L (y && (x1.4 != 0 || x1.5 == 0),2,())) fun y=>some y
theorem Zl5 (L:Nat)(x0:Ze)(x1:X0):MO L (x0,x1,())=bT (Gq L (x0,x1.1,())) fun y=>bif decide (y < 0) then some 5 else bT (ZJ x0.11 y) fun y=>bif (↑x1.2.length:Int) != (↑y.2.length:Int) then some 8 else Zp (Iw x1 L y) L (0,()):=by kernel_rfl
def YW (L:Nat)(x:Zu×PUnit):Option Int:=fT [Ed L] L Zcn [] (.one (.int .i64)) [.row 8] x
def Zeo (L:Nat):Sum tT:=mU 219 [.row 8] (.one (.int .i64)) (YW L)
theorem ZlT:SX Zeo:=fun h=>sT h (Zb (ZdW h) Zq) rfl (by kernel_rfl) fun _=>rfl
theorem Zlr (L:Nat)(x0:Zu):YW L (x0,())=bT (H9 L (x0,false,())) fun y=>some y:=by kernel_rfl
end Go.Proofs.YtgjcjbhhhlelnaaGreatDoor
end
noncomputable section
namespace Go.Proofs.YtgjcjbhhhlelnaaGreatDoor
open Go Go.Proofs.YtgjcjbhhhlelnaaGreatDoor.Abs Go.Proofs.YtgjcjbhhhlelnaaGreatDoor.Tl
set_option maxRecDepth 100000
set_option maxHeartbeats 0
def ML (L:Nat)(x:Z9×YR×PUnit):Option Int:=fT [Zeo L] L Zcq [.rnd [.slot 5 (.int .i64),.slot 6 (.int .i64)]] (.one (.int .i64)) [.row 9,.row 27] x
def Zeu (L:Nat):Sum tT:=mU 217 [.row 9,.row 27] (.one (.int .i64)) (ML L)
theorem ZlZ:SX Zeu:=fun h=>sT h (Zb (ZlT h) Zq) rfl (by kernel_rfl) fun _=>rfl
def WJ:Z9→Nat→(Int×Int×PUnit→Option Int)→Int×Int×PUnit→Option Int:=fun x0 L self acc=>bif acc.1 == 0 && decide (acc.2.1 < (↑x0.6.length:Int)) then bT (ZJ x0.6 acc.2.1) fun y=>bT (YW L (y,())) fun y=>self (y,Go.IntKind.i64.wrap (acc.2.1 + 1),()) else some acc.1
def ZaR:Z9→Nat→(Int×Int×PUnit→Option Int)→Int×Int×PUnit→Option Int:=fun x0 L self acc=>bif acc.1 == 0 && decide (acc.2.1 < (↑x0.6.length:Int)) then bT (ZJ x0.6 acc.2.1) fun y=>bT (YW L (y,())) fun y=>self (y,Go.IntKind.i64.wrap (acc.2.1 + 1),()) else some acc.1
def ZaS:Z9→Nat→(Int×Int×PUnit→Option Int)→Int×Int×PUnit→Option Int:=fun x0 L self acc=>bif acc.1 == 0 && decide (acc.2.1 < (↑x0.6.length:Int)) then bT (ZJ x0.6 acc.2.1) fun y=>bT (YW L (y,())) fun y=>self (y,Go.IntKind.i64.wrap (acc.2.1 + 1),()) else some acc.1
def ZaT:Z9→Nat→(Int×Int×PUnit→Option Int)→Int×Int×PUnit→Option Int:=fun x0 L self acc=>bif acc.1 == 0 && decide (acc.2.1 < (↑x0.6.length:Int)) then bT (ZJ x0.6 acc.2.1) fun y=>bT (YW L (y,())) fun y=>self (y,Go.IntKind.i64.wrap (acc.2.1 + 1),()) else some acc.1
def ZaU:Z9→Nat→(Int×Int×PUnit→Option Int)→Int×Int×PUnit→Option Int:=fun x0 L self acc=>bif acc.1 == 0 && decide (acc.2.1 < (↑x0.6.length:Int)) then bT (ZJ x0.6 acc.2.1) fun y=>bT (YW L (y,())) fun y=>self (y,Go.IntKind.i64.wrap (acc.2.1 + 1),()) else some acc.1
def ZaV:Z9→Nat→(Int×Int×PUnit→Option Int)→Int×Int×PUnit→Option Int:=fun x0 L self acc=>bif acc.1 == 0 && decide (acc.2.1 < (↑x0.6.length:Int)) then bT (ZJ x0.6 acc.2.1) fun y=>bT (YW L (y,())) fun y=>self (y,Go.IntKind.i64.wrap (acc.2.1 + 1),()) else some acc.1
def ZaW:Z9→Nat→(Int×Int×PUnit→Option Int)→Int×Int×PUnit→Option Int:=fun x0 L self acc=>bif acc.1 == 0 && decide (acc.2.1 < (↑x0.6.length:Int)) then bT (ZJ x0.6 acc.2.1) fun y=>bT (YW L (y,())) fun y=>self (y,Go.IntKind.i64.wrap (acc.2.1 + 1),()) else some acc.1
def ZaX:Z9→Nat→(Int×Int×PUnit→Option Int)→Int×Int×PUnit→Option Int:=fun x0 L self acc=>bif acc.1 == 0 && decide (acc.2.1 < (↑x0.6.length:Int)) then bT (ZJ x0.6 acc.2.1) fun y=>bT (YW L (y,())) fun y=>self (y,Go.IntKind.i64.wrap (acc.2.1 + 1),()) else some acc.1
theorem Zly (L:Nat)(x0:Z9)(x1:YR):ML L (x0,x1,())=bif x1.3 then bT (YW L (x0.4,())) fun y=>bif y == 0 && x1.4 then bT (YW L (x0.5,())) fun y=>bif y == 0 && decide ((↑x0.6.length:Int) > 6) then Zp (WJ x0 L) L (6,0,()) else Zp (ZaR x0 L) L (y,0,()) else bif y == 0 && decide ((↑x0.6.length:Int) > 6) then Zp (ZaS x0 L) L (6,0,()) else Zp (ZaT x0 L) L (y,0,()) else bif 0 == 0 && x1.4 then bT (YW L (x0.5,())) fun y=>bif y == 0 && decide ((↑x0.6.length:Int) > 6) then Zp (ZaU x0 L) L (6,0,()) else Zp (ZaV x0 L) L (y,0,()) else bif 0 == 0 && decide ((↑x0.6.length:Int) > 6) then Zp (ZaW x0 L) L (6,0,()) else Zp (ZaX x0 L) L (0,0,()):=by kernel_rfl
def OL (L:Nat)(x:Zu×PUnit):Option Bool:=fT [] L Zfv [] (.one .bool) [.row 8] x
def Zgs (L:Nat):Sum tT:=mU 218 [.row 8] (.one .bool) (OL L)
theorem ZoU:SX Zgs:=fun h=>sT h Zq rfl (by kernel_rfl) fun _=>rfl
theorem Zo9 (L:Nat)(x0:Zu):OL L (x0,())=some (x0.1 == 0 && x0.2 == [] && x0.3 == 0 && (↑x0.4.length:Int) == 0):=by kernel_rfl
def FC (L:Nat)(x:Int×PUnit):Option (YR×Bool×PUnit):=fT [] L Zmw [] (.tup [.row 27,.bool]) [.int .i64] x
def Zia (L:Nat):Sum tT:=mU 215 [.int .i64] (.tup [.row 27,.bool]) (FC L)
theorem Zn6:SX Zia:=fun h=>sT h Zq rfl (by kernel_rfl) fun _=>rfl
theorem ZtO (L:Nat)(x0:Int):FC L (x0,())=bif x0 == 1 then some (YR.mk true false true false false false false false false,true,()) else bif x0 == 7 then some (YR.mk true false true false false false false false false,true,()) else bif x0 == 8 then some (YR.mk true false true false false false false false false,true,()) else bif x0 == 12 then some (YR.mk true false true false false false false false false,true,()) else bif x0 == 15 then some (YR.mk true false true false false false false false false,true,()) else bif x0 == 16 then some (YR.mk true false true false false false false false false,true,()) else bif x0 == 17 then some (YR.mk true false true false false false false false false,true,()) else bif x0 == 2 then some (YR.mk true true false false false true false false false,true,()) else bif x0 == 3 then some (YR.mk false false true false false false false true true,true,()) else bif x0 == 4 then some (YR.mk false false true false false false false true false,true,()) else bif x0 == 5 then some (YR.mk false false true false false false false false false,true,()) else bif x0 == 6 then some (YR.mk true false true true false false true false false,true,()) else bif x0 == 9 then some (YR.mk true true false false false false false false false,true,()) else bif x0 == 10 then some (YR.mk true false false false false false false false false,true,()) else bif x0 == 11 then some (YR.mk true false false false false false false false false,true,()) else bif x0 == 13 then some (YR.mk true true true false true false false false false,true,()) else bif x0 == 14 then some (YR.mk true false true false true false false false false,true,()) else bif x0 == 18 then some (YR.mk false false false false false false false false false,true,()) else some (YR.mk false false false false false false false false false,false,()):=by kernel_rfl
def IE (L:Nat)(x:Z9×PUnit):Option Bool:=fT [D8 L,Zgs L,Zia L] L ZaC [] (.one .bool) [.row 9] x
def Zbq (L:Nat):Sum tT:=mU 216 [.row 9] (.one .bool) (IE L)
theorem ZjR:SX Zbq:=fun h=>sT h (Zb (Zag h) (Zb (ZoU h) (Zb (Zn6 h) Zq))) rfl (by kernel_rfl) fun _=>rfl
theorem Zj1 (L:Nat)(x0:Z9):IE L (x0,())=bT (FC L (x0.1,())) fun y=>bT (bif y.1.3 == false then bT (OL L (x0.4,())) fun y=>some y else some true) fun y_1=>bT (bif y_1 == true then bif y.1.4 == false then bT (OL L (x0.5,())) fun y=>some y else some true else some false) fun y_2=>bT (bif (y.2.1 && ((y.1.1 || x0.2 == []) && (y.1.2 || x0.3 == [])) && (y_2 && (y.1.5 || (↑x0.6.length:Int) == 0)) && ((y.1.8 || (↑x0.9.length:Int) == 0) && (y.1.9 || (↑x0.10.length:Int) == 0))) == true then bif y.1.6 == false then bT (Ue L (x0.7,We.mk 0 0 0 0 [] [],())) fun y=>some y else some true else some false) fun y_3=>some (y_3 && (y.1.7 || !x0.8)):=by kernel_rfl
def FD (L:Nat)(x:Z9×PUnit):Option Int:=fT [Mc L,Zeu L,XN L,Zbq L,Zia L] L Zil [] (.one (.int .i64)) [.row 9] x
def Zev (L:Nat):Sum tT:=mU 213 [.row 9] (.one (.int .i64)) (FD L)
theorem ZjS:SX Zev:=fun h=>sT h (Zb (SI h) (Zb (ZlZ h) (Zb (VH h) (Zb (ZjR h) (Zb (Zn6 h) Zq))))) rfl (by kernel_rfl) fun _=>rfl
theorem Zrw (L:Nat)(x0:Z9):FD L (x0,())=bT (FC L (x0.1,())) fun y=>bT (IE L (x0,())) fun y_1=>bif !y_1 then some 1 else bT (bif y.1.1 == true then bT (Qm L (x0.2,())) fun y=>some (y != 0) else some false) fun y_2=>bT (bif y_2 == false then bif y.1.2 == true then bT (Qm L (x0.3,())) fun y=>some (y != 0) else some false else some true) fun y_3=>bif y_3 then some 3 else bT (ML L (x0,y.1,())) fun y_4=>bif y_4 == 0 && y.1.6 then bT (VM L (x0.7,())) fun y=>some y else some y_4:=by kernel_rfl
def SV (L:Nat):Nat→List (Sum tT)
 | 0=>[⟨203,[.lst 21 (.row 9)],fun _=>.par _ none ((.one (.int .i64):RD).tv tT)⟩]
 | m + 1=>[⟨203,[.lst 21 (.row 9)],fun x=>.par _ (fnT tF tG (qOf tF (SV L m ++ [Zev L])) 0 L FT [.rnd [.slot 3 (.int .i64)]] (.one (.int .i64)) (tvL tT [.lst 21 (.row 9)] x) []) ((.one (.int .i64):RD).tv tT)⟩]
theorem PY {C:Cfg}{L:Nat}(h:St C L):∀ m,∀ s ∈ SV L m,Qs C s
 | 0=>(Zb (Q8 _ _ _) Zq)
 | m + 1=>have ih:=PY h m
  (Zb (Y1 Yv h.L h.G (WA Yv (Vk ih (Zb (ZjS h) Zq))) [.rnd [.slot 3 (.int .i64)]] (h.T _ _ rfl) (by kernel_rfl) fun _=>rfl) Zq)
def Uh (L m:Nat)(x:(List Z9)×PUnit):Option (Int):=fnT tF tG (qOf tF (SV L m ++ [Zev L])) 0 L FT [.rnd [.slot 3 (.int .i64)]] (.one (.int .i64)) (tvL tT [.lst 21 (.row 9)] x) []
def Zau (L:Nat)(x:(List Z9)×PUnit):Option (Int):=Uh L L x
def Zgr (L:Nat):Sum tT:=⟨203,[.lst 21 (.row 9)],fun x=>.par ((.one (.int .i64):RD).Ty tT) (Zau L x) ((.one (.int .i64):RD).tv tT)⟩
theorem ZoT {C:Cfg}{L:Nat}(h:St C L):Qs C (Zgr L):=have ih:=PY h L
 Y1 Yv h.L h.G (WA Yv (Vk ih (Zb (ZjS h) Zq))) [.rnd [.slot 3 (.int .i64)]] (h.T _ _ rfl) (by kernel_rfl) fun _=>rfl
def SA:Nat→List Z9→Nat→(Int×PUnit→Option Int)→Int×PUnit→Option Int:=fun (m:Nat)=>fun x0 L self acc=>bif decide (acc.1 < (↑x0.length:Int)) then bT (ZJ x0 acc.1) fun y=>bT (FD L (y,())) fun y=>bif y == 0 then bT (ZJ x0 acc.1) fun y=>bT (Uh L m (y.9,())) fun y=>bif y == 0 then bT (ZJ x0 acc.1) fun y=>bT (Uh L m (y.10,())) fun y=>bif y != 0 then some y else self (Go.IntKind.i64.wrap (acc.1 + 1),()) else bif y != 0 then some y else self (Go.IntKind.i64.wrap (acc.1 + 1),()) else bif y == 0 then bT (ZJ x0 acc.1) fun y=>bT (Uh L m (y.10,())) fun y=>bif y != 0 then some y else self (Go.IntKind.i64.wrap (acc.1 + 1),()) else bif y != 0 then some y else self (Go.IntKind.i64.wrap (acc.1 + 1),()) else some 0
theorem Zo8 (L m:Nat)(x0:(List Z9)):Uh L (m + 1) (x0,())=Zp (SA m x0 L) L (0,()):=by kernel_rfl
def BM (L:Nat):Nat→List (Sum tT)
 | 0=>[⟨202,[.lst 21 (.row 9)],fun _=>.par _ none ((.one (.int .i64):RD).tv tT)⟩]
 | m + 1=>[⟨202,[.lst 21 (.row 9)],fun x=>.par _ (fnT tF tG (qOf tF (BM L m ++ [])) 0 L N7 [.rnd [.slot 3 (.int .i64),.slot 4 (.int .i64)]] (.one (.int .i64)) (tvL tT [.lst 21 (.row 9)] x) []) ((.one (.int .i64):RD).tv tT)⟩]
theorem BN {C:Cfg}{L:Nat}(h:St C L):∀ m,∀ s ∈ BM L m,Qs C s
 | 0=>(Zb (Q8 _ _ _) Zq)
 | m + 1=>have ih:=BN h m
  (Zb (Y1 Yv h.L h.G (WA Yv (Vk ih Zq)) [.rnd [.slot 3 (.int .i64),.slot 4 (.int .i64)]] (h.T _ _ rfl) (by kernel_rfl) fun _=>rfl) Zq)
def UN (L m:Nat)(x:(List Z9)×PUnit):Option (Int):=fnT tF tG (qOf tF (BM L m ++ [])) 0 L N7 [.rnd [.slot 3 (.int .i64),.slot 4 (.int .i64)]] (.one (.int .i64)) (tvL tT [.lst 21 (.row 9)] x) []
def Ep (L:Nat)(x:(List Z9)×PUnit):Option (Int):=UN L L x
def Zet (L:Nat):Sum tT:=⟨202,[.lst 21 (.row 9)],fun x=>.par ((.one (.int .i64):RD).Ty tT) (Ep L x) ((.one (.int .i64):RD).tv tT)⟩
theorem ZlY {C:Cfg}{L:Nat}(h:St C L):Qs C (Zet L):=have ih:=BN h L
 Y1 Yv h.L h.G (WA Yv (Vk ih Zq)) [.rnd [.slot 3 (.int .i64),.slot 4 (.int .i64)]] (h.T _ _ rfl) (by kernel_rfl) fun _=>rfl
def RZ:Nat→List Z9→Nat→(Int×Int×PUnit→Option Int)→Int×Int×PUnit→Option Int:=fun (m:Nat)=>fun x0 L self acc=>bif decide (acc.2.1 < (↑x0.length:Int)) then bT (ZJ x0 acc.2.1) fun y=>bT (bT (UN L m (y.9,())) fun y=>some y) fun y=>bT (ZJ x0 acc.2.1) fun y_1=>bT (bT (UN L m (y_1.10,())) fun y=>some y) fun y_2=>self (if Go.IntKind.i64.wrap (1 + y_2) > if Go.IntKind.i64.wrap (1 + y) > acc.1 then Go.IntKind.i64.wrap (1 + y) else acc.1 then Go.IntKind.i64.wrap (1 + y_2) else if Go.IntKind.i64.wrap (1 + y) > acc.1 then Go.IntKind.i64.wrap (1 + y) else acc.1,Go.IntKind.i64.wrap (acc.2.1 + 1),()) else some acc.1
theorem Zlx (L m:Nat)(x0:(List Z9)):UN L (m + 1) (x0,())=Zp (RZ m x0 L) L (0,0,()):=by kernel_rfl
def BJ (L:Nat):Nat→List (Sum tT)
 | 0=>[⟨201,[.lst 21 (.row 9)],fun _=>.par _ none ((.one (.int .i64):RD).tv tT)⟩]
 | m + 1=>[⟨201,[.lst 21 (.row 9)],fun x=>.par _ (fnT tF tG (qOf tF (BJ L m ++ [])) 0 L Nz [.rnd [.slot 3 (.int .i64),.slot 4 (.int .i64)]] (.one (.int .i64)) (tvL tT [.lst 21 (.row 9)] x) []) ((.one (.int .i64):RD).tv tT)⟩]
theorem BK {C:Cfg}{L:Nat}(h:St C L):∀ m,∀ s ∈ BJ L m,Qs C s
 | 0=>(Zb (Q8 _ _ _) Zq)
 | m + 1=>have ih:=BK h m
  (Zb (Y1 Yv h.L h.G (WA Yv (Vk ih Zq)) [.rnd [.slot 3 (.int .i64),.slot 4 (.int .i64)]] (h.T _ _ rfl) (by kernel_rfl) fun _=>rfl) Zq)
def UM (L m:Nat)(x:(List Z9)×PUnit):Option (Int):=fnT tF tG (qOf tF (BJ L m ++ [])) 0 L Nz [.rnd [.slot 3 (.int .i64),.slot 4 (.int .i64)]] (.one (.int .i64)) (tvL tT [.lst 21 (.row 9)] x) []
def Eo (L:Nat)(x:(List Z9)×PUnit):Option (Int):=UM L L x
def Zes (L:Nat):Sum tT:=⟨201,[.lst 21 (.row 9)],fun x=>.par ((.one (.int .i64):RD).Ty tT) (Eo L x) ((.one (.int .i64):RD).tv tT)⟩
theorem ZlX {C:Cfg}{L:Nat}(h:St C L):Qs C (Zes L):=have ih:=BK h L
 Y1 Yv h.L h.G (WA Yv (Vk ih Zq)) [.rnd [.slot 3 (.int .i64),.slot 4 (.int .i64)]] (h.T _ _ rfl) (by kernel_rfl) fun _=>rfl
def RY:Nat→List Z9→Nat→(Int×Int×PUnit→Option Int)→Int×Int×PUnit→Option Int:=fun (m:Nat)=>fun x0 L self acc=>bif decide (acc.2.1 < (↑x0.length:Int)) then bT (ZJ x0 acc.2.1) fun y=>bT (bT (UM L m (y.9,())) fun y=>some y) fun y=>bT (ZJ x0 acc.2.1) fun y_1=>bT (bT (UM L m (y_1.10,())) fun y=>some y) fun y_2=>self (Go.IntKind.i64.wrap (Go.IntKind.i64.wrap (Go.IntKind.i64.wrap (acc.1 + 1) + y) + y_2),Go.IntKind.i64.wrap (acc.2.1 + 1),()) else some acc.1
theorem Zlw (L m:Nat)(x0:(List Z9)):UM L (m + 1) (x0,())=Zp (RY m x0 L) L (0,0,()):=by kernel_rfl
def MJ (L:Nat)(x:(List Z9)×PUnit):Option Int:=fT [Zgr L,Zet L,Zes L] L Zcp [] (.one (.int .i64)) [.lst 21 (.row 9)] x
def Zer (L:Nat):Sum tT:=mU 187 [.lst 21 (.row 9)] (.one (.int .i64)) (MJ L)
theorem ZlW:SX Zer:=fun h=>sT h (Zb (ZoT h) (Zb (ZlY h) (Zb (ZlX h) Zq))) rfl (by kernel_rfl) fun _=>rfl
theorem Zlv (L:Nat)(x0:(List Z9)):MJ L (x0,())=bT (Eo L (x0,())) fun y=>bif decide (y > 200) then some 6 else bT (Ep L (x0,())) fun y=>bif decide (y > 12) then some 11 else bT (Zau L (x0,())) fun y=>some y:=by kernel_rfl
def HY (L:Nat)(x:Int×PUnit):Option Bool:=fT [] L Zct [] (.one .bool) [.int .i64] x
def MB (L:Nat):Sum tT:=mU 115 [.int .i64] (.one .bool) (HY L)
theorem SL:SX MB:=fun h=>sT h Zq rfl (by kernel_rfl) fun _=>rfl
theorem Zl1 (L:Nat)(x0:Int):HY L (x0,())=some (x0 == 1 || x0 == 2 || x0 == 3):=by kernel_rfl
end Go.Proofs.YtgjcjbhhhlelnaaGreatDoor
end
noncomputable section
namespace Go.Proofs.YtgjcjbhhhlelnaaGreatDoor
open Go Go.Proofs.YtgjcjbhhhlelnaaGreatDoor.Abs Go.Proofs.YtgjcjbhhhlelnaaGreatDoor.Tl
set_option maxRecDepth 100000
set_option maxHeartbeats 0
def Gs (L:Nat)(x:ZU×PUnit):Option Int:=fT [Zer L,QH L,WN L,MB L,Uc L] L EM [.rnd [.slot 3 (.own 1 .str),.slot 5 (.int .i64)]] (.one (.int .i64)) [.row 10] x
def Fz (L:Nat):Sum tT:=mU 156 [.row 10] (.one (.int .i64)) (Gs L)
theorem ZhN:SX Fz:=fun h=>sT h (Zb (ZlW h) (Zb (Xi h) (Zb (Qc h) (Zb (SL h) (Zb (Hm h) Zq))))) rfl (by kernel_rfl) fun _=>rfl
def Uo:ZU→Nat→List WP→(List (List UInt8)×Int×PUnit→Option Int)→List (List UInt8)×Int×PUnit→Option Int:=fun x0 L y self acc=>bif decide (acc.2.1 < (↑y.length:Int)) then bT (ZJ y acc.2.1) fun y_1=>bT (bT (VN L (y_1.1,acc.1,())) fun y=>some y) fun y_2=>bT (ZJ y acc.2.1) fun y_3=>bT (bT (HY L (y_3.2,())) fun y=>some y) fun y_4=>bT (bT (Zo L (y_4,1,())) fun y=>some y) fun y_5=>bT (bT (ZA L (y_2,y_5,())) fun y=>some y) fun y_6=>bif y_6 != 0 then some y_6 else bT (ZJ y acc.2.1) fun y=>bT (apT 16 acc.1 [y.1]) fun y=>self (y,Go.IntKind.i64.wrap (acc.2.1 + 1),()) else bT (MJ L (x0.4,())) fun y=>some y
theorem Zh5 (L:Nat)(x0:ZU):Gs L (x0,())=bif decide ((↑x0.2.length:Int) > 6) || decide (Go.IntKind.i64.wrap ((↑x0.2.length:Int) + (↑x0.3.length:Int)) > 16) then some 6 else bT (apT 24 [] x0.2) fun y=>bT (apT 24 y x0.3) fun y=>Zp (Uo x0 L y) L ([],0,()):=by kernel_rfl
def Ut (L:Nat)(x:Zv×PUnit):Option Int:=fT [Xc L,WN L] L PE [.rnd [.slot 3 (.int .i64)]] (.one (.int .i64)) [.row 4] x
def Nk (L:Nat):Sum tT:=mU 186 [.row 4] (.one (.int .i64)) (Ut L)
theorem Zfi:SX Nk:=fun h=>sT h (Zb (XJ h) (Zb (Qc h) Zq)) rfl (by kernel_rfl) fun _=>rfl
def XI:Zv→Nat→(Int×PUnit→Option Int)→Int×PUnit→Option Int:=fun x0 L self acc=>bif decide (acc.1 < (↑x0.3.length:Int)) then bT (ZJ x0.3 acc.1) fun y=>bT (ZO L (y.1,0,Go.IntKind.i64.wrap (x0.4 - 1),())) fun y_1=>bT (bif (!y_1) == false then bT (ZO L (y.2,0,1000,())) fun y=>some !y else some true) fun y_2=>bif y_2 then some 2 else bT (bif decide (acc.1 > 0) == true then bT (ZJ x0.3 (Go.IntKind.i64.wrap (acc.1 - 1))) fun y_3=>some (decide (y.1≤y_3.1)) else some false) fun y=>bif y then some 12 else self (Go.IntKind.i64.wrap (acc.1 + 1),()) else some 0
theorem Zfb (L:Nat)(x0:Zv):Ut L (x0,())=bif (↑x0.3.length:Int) == 0 then bT (Zo L (x0.4 == 0,1,())) fun y=>some y else bif decide ((↑x0.3.length:Int) > 20) then some 6 else bT (ZO L (x0.4,1,1000000000,())) fun y=>bif !y then some 2 else Zp (XI x0 L) L (0,()):=by kernel_rfl
def Uu (L:Nat)(x:Ze×Zv×PUnit):Option Int:=fT [Mc L,G5 L,D8 L,QH L,Nk L,WN L,Xc L] L PH [] (.one (.int .i64)) [.row 14,.row 4] x
def Np (L:Nat):Sum tT:=mU 155 [.row 14,.row 4] (.one (.int .i64)) (Uu L)
theorem Zfk:SX Np:=fun h=>sT h (Zb (SI h) (Zb (OE h) (Zb (Zag h) (Zb (Xi h) (Zb (Zfi h) (Zb (Qc h) (Zb (XJ h) Zq))))))) rfl (by kernel_rfl) fun _=>rfl
theorem Zfc (L:Nat)(x0:Ze)(x1:Zv):Uu L (x0,x1,())=bT (bT (ZO L (x1.2,0,1000,())) fun y=>some y) fun y=>bT (bT (Zo L (y,2,())) fun y=>some y) fun y=>bT (bT (Ut L (x1,())) fun y=>some y) fun y_1=>bT (bT (ZA L (y,y_1,())) fun y=>some y) fun y=>bif y != 0 then some y else bif x1.Fault.1 == [] then bT (Ue L (x1.Fault.2,We.mk 0 0 0 0 [] [],())) fun y=>bT (bif y == true then bT (Ue L (x1.Fault.3,We.mk 0 0 0 0 [] [],())) fun y=>some y else some false) fun y=>bT (Zo L (y,1,())) fun y=>some y else bT (Jd L (x0.7,x1.Fault.1,())) fun y=>bif decide (y < 0) then some 5 else bT (bT (VM L (x1.Fault.2,())) fun y=>some y) fun y=>bT (bT (VM L (x1.Fault.3,())) fun y=>some y) fun y_2=>bT (bT (ZA L (y,y_2,())) fun y=>some y) fun y=>some y:=by kernel_rfl
def YQ (L:Nat)(x:Ze×Int×Int×PUnit):Option Int:=fT [Fz L,Xc L,Np L,QH L,D9 L,WN L,MB L] L PG [] (.one (.int .i64)) [.row 14,.int .i64,.int .i64] x
def Nl (L:Nat):Sum tT:=mU 118 [.row 14,.int .i64,.int .i64] (.one (.int .i64)) (YQ L)
theorem Zfj:SX Nl:=fun h=>sT h (Zb (ZhN h) (Zb (XJ h) (Zb (Zfk h) (Zb (Xi h) (Zb (Zah h) (Zb (Qc h) (Zb (SL h) Zq))))))) rfl (by kernel_rfl) fun _=>rfl
theorem Xw (L:Nat)(x0:Ze)(x1:Int)(x2:Int):YQ L (x0,x1,x2,())=bif x1 == 0 then bT (ZJ x0.2 x2) fun y=>bT (bT (HY L (y.2,())) fun y=>some y) fun y=>bT (bT (Zo L (y,1,())) fun y=>some y) fun y=>bT (ZJ x0.2 x2) fun y_1=>bT (ZJ x0.2 x2) fun y_2=>bT (bT (OO L (y_1.2,y_2.3,())) fun y=>some y) fun y_3=>bT (bT (Zo L (y_3,2,())) fun y=>some y) fun y_4=>bT (bT (ZA L (y,y_4,())) fun y=>some y) fun y=>some y else bif x1 == 1 then bT (ZJ x0.3 x2) fun y=>bT (bT (Uu L (x0,y,())) fun y=>some y) fun y=>some y else bif x1 == 2 then bT (ZJ x0.4 x2) fun y=>bT (ZJ x0.4 x2) fun y_1=>bT (ZO L (y_1.2,1,1000,())) fun y_2=>bT (Zo L (y_2,2,())) fun y_3=>bT (Zo L (decide (y.3 ≥ 1) && decide (y.3≤3),1,())) fun y=>bT (ZA L (y_3,y,())) fun y=>some y else bif x1 == 3 then bT (ZJ x0.5 x2) fun y=>bT (ZO L (y.2,1,1000,())) fun y=>bT (bif y == true then bT (ZJ x0.5 x2) fun y=>bT (ZO L (y.3,1,1000,())) fun y=>some y else some false) fun y=>bT (Zo L (y,2,())) fun y=>some y else bif x1 == 9 then bT (ZJ x0.11 x2) fun y=>bT (Gs L (y,())) fun y=>some y else some 0:=by kernel_rfl
def DJ (L:Nat)(x:Ze×PUnit):Option Int:=fT [Zkj L,Zey L,QH L,Nl L,Uc L,Me L] L Zfz [.rnd [.slot 2 (.int .i64),.slot 3 (.own 1 .str),.slot 5 (.int .i64)],.rnd [.slot 2 (.int .i64),.slot 3 (.own 1 .str),.slot 6 (.int .i64)],.rnd [.slot 2 (.int .i64),.slot 8 (.int .i64)],.rnd [.slot 10 (.own 1 .str),.slot 11 (.int .i64)]] (.one (.int .i64)) [.row 14] x
def Zgv (L:Nat):Sum tT:=mU 64 [.row 14] (.one (.int .i64)) (DJ L)
theorem ZoX:SX Zgv:=fun h=>sT h (Zb (ZrF h) (Zb (Zmc h) (Zb (Xi h) (Zb (Zfj h) (Zb (Hm h) (Zb (SK h) Zq)))))) rfl (by kernel_rfl) fun _=>rfl
def GZ:Ze→Nat→List (List (List UInt8))→(Int×List (List UInt8)×Int×PUnit→Option Int)→Int×List (List UInt8)×Int×PUnit→(Int×List (List UInt8)×Int×PUnit→Option Int)→Int×List (List UInt8)×Int×PUnit→Option Int:=fun x0 L y self acc self_1 acc_1=>bT (ZJ y acc.2.2.1) fun y_1=>bif decide (acc_1.2.2.1 < (↑y_1.length:Int)) then bT (ZJ y acc.2.2.1) fun y_2=>bT (ZJ y_2 acc_1.2.2.1) fun y_3=>bT (bT (VN L (y_3,acc_1.2.1,())) fun y=>some y) fun y_4=>bT (bT (YQ L (x0,acc.2.2.1,acc_1.2.2.1,())) fun y=>some y) fun y_5=>bT (bT (ZA L (y_4,y_5,())) fun y=>some y) fun y_6=>bif y_6 != 0 then some y_6 else bT (ZJ y acc.2.2.1) fun y=>bT (ZJ y acc_1.2.2.1) fun y=>bT (apT 16 acc_1.2.1 [y]) fun y=>self_1 (acc_1.1,y,Go.IntKind.i64.wrap (acc_1.2.2.1 + 1),()) else self (acc_1.1,acc_1.2.1,Go.IntKind.i64.wrap (acc.2.2.1 + 1),())
def JY:Ze→Nat→(List (List UInt8)×Int×PUnit→Option Int)→List (List UInt8)×Int×PUnit→Option Int:=fun x0 L self acc=>bif decide (acc.2.1 < (↑x0.13.length:Int)) then bT (ZJ x0.13 acc.2.1) fun y=>bT (bT (FH L (x0,y,acc.1,())) fun y=>some y) fun y=>bif y != 0 then some y else bT (ZJ x0.13 acc.2.1) fun y=>bT (apT 16 acc.1 [y.1]) fun y=>self (y,Go.IntKind.i64.wrap (acc.2.1 + 1),()) else some 0
def Ha:Ze→Nat→(Int×Int×PUnit→Option Int)→Int×Int×PUnit→Option Int:=fun x0 L self acc=>bif decide (acc.2.1 < (↑x0.12.length:Int)) then bT (ZJ x0.12 acc.2.1) fun y=>bT (bT (MO L (x0,y,())) fun y=>some y) fun y=>bif y != 0 then some y else self (acc.1,Go.IntKind.i64.wrap (acc.2.1 + 1),()) else bif decide ((↑x0.13.length:Int) > 32) then some 6 else Zp (JY x0 L) L ([],0,())
def JZ:Ze→Nat→List (List (List UInt8))→(Int×List (List UInt8)×Int×PUnit→Option Int)→Int×List (List UInt8)×Int×PUnit→Option Int:=fun x0 L y self acc=>bif decide (acc.2.2.1 < (↑y.length:Int)) then bT (ZJ y acc.2.2.1) fun y_1=>bT (bif decide ((↑y_1.length:Int) > 32) == false then bif (acc.2.2.1 == 9) == true then bT (ZJ y acc.2.2.1) fun y=>some (decide ((↑y.length:Int) > 16)) else some false else some true) fun y_2=>bif y_2 then some 6 else Zp (GZ x0 L y self acc) L (acc.1,acc.2.1,0,()) else bif decide ((↑x0.12.length:Int) > 32) then some 6 else Zp (Ha x0 L) L (acc.1,0,())
theorem ZoC (L:Nat)(x0:Ze):DJ L (x0,())=bT (Uf L (x0,())) fun (y:List (List (List UInt8)))=>Zp (JZ x0 L y) L (0,[],0,()):=by kernel_rfl
def ZeB (L:Nat)(x:VT×(List (List UInt8))×PUnit):Option Int:=fT [D9 L,QH L,WN L,MB L,Uc L] L Zcy [] (.one (.int .i64)) [.row 0,.lst 1 .str] x
def Zez (L:Nat):Sum tT:=mU 62 [.row 0,.lst 1 .str] (.one (.int .i64)) (ZeB L)
theorem Zmd:SX Zez:=fun h=>sT h (Zb (Zah h) (Zb (Xi h) (Zb (Qc h) (Zb (SL h) (Zb (Hm h) Zq))))) rfl (by kernel_rfl) fun _=>rfl
def MM (L:Nat)(x:QV×PUnit):Option Int:=fT [Zex L,Zgv L,Uc L,Zez L,QH L,WN L,XN L] L Zcr [.rnd [.slot 2 (.int .i64),.slot 4 (.own 1 .str),.slot 5 (.int .i64)],.rnd [.slot 6 (.own 1 .str),.slot 7 (.int .i64)]] (.one (.int .i64)) [.row 21] x
def Zew (L:Nat):Sum tT:=mU 40 [.row 21] (.one (.int .i64)) (MM L)
theorem Zma:SX Zew:=fun h=>sT h (Zb (Zmb h) (Zb (ZoX h) (Zb (Hm h) (Zb (Zmd h) (Zb (Xi h) (Zb (Qc h) (Zb (VH h) Zq))))))) rfl (by kernel_rfl) fun _=>rfl
def Ba:QV→Nat→(List (List UInt8)×Int×PUnit→Option Int)→List (List UInt8)×Int×PUnit→Option Int:=fun x0 L self acc=>bif decide (acc.2.1 < (↑x0.3.length:Int)) then bT (ZJ x0.3 acc.2.1) fun y=>bT (bT (VN L (y.1,acc.1,())) fun y=>some y) fun y=>bT (ZJ x0.3 acc.2.1) fun y_1=>bT (bT (DJ L (y_1,())) fun y=>some y) fun y_2=>bT (bT (ZA L (y,y_2,())) fun y=>some y) fun y=>bif y != 0 then some y else bT (ZJ x0.3 acc.2.1) fun y=>bT (apT 16 acc.1 [y.1]) fun y=>self (y,Go.IntKind.i64.wrap (acc.2.1 + 1),()) else bT (MN L (x0,())) fun y=>some y
def Bc:QV→Nat→(Int×List (List UInt8)×Int×PUnit→Option Int)→Int×List (List UInt8)×Int×PUnit→Option Int:=fun x0 L self acc=>bif decide (acc.2.2.1 < (↑x0.2.length:Int)) then bT (ZJ x0.2 acc.2.2.1) fun y=>bT (ZeB L (y,acc.2.1,())) fun y=>bif y != 0 then some y else bT (ZJ x0.2 acc.2.2.1) fun y=>bT (apT 16 acc.2.1 [y.1]) fun y=>self (acc.1,y,Go.IntKind.i64.wrap (acc.2.2.1 + 1),()) else bT (bT (Zo L (decide ((↑x0.3.length:Int) > 0),7,())) fun y=>some y) fun y=>bT (bT (Zo L (decide ((↑x0.3.length:Int)≤16),6,())) fun y=>some y) fun y_1=>bT (bT (ZA L (y,y_1,())) fun y=>some y) fun y=>bif y != 0 then some y else Zp (Ba x0 L) L ([],0,())
theorem Zlz (L:Nat)(x0:QV):MM L (x0,())=bT (bT (Qm L (x0.1,())) fun y=>some y) fun y=>bT (bT (Zo L (decide ((↑x0.2.length:Int)≤32),6,())) fun y=>some y) fun y_1=>bT (bT (ZA L (y,y_1,())) fun y=>some y) fun y=>bif y != 0 then some y else Zp (Bc x0 L) L (0,[],0,()):=by kernel_rfl
def VO (L:Nat)(x:Zk×PUnit):Option Int:=fT [F5 L,Zgx L,Zgy L,Zew L,XN L] L Zcz [.rnd [.slot 2 (.int .i64),.slot 4 (.int .i64)],.rnd [.slot 2 (.int .i64),.slot 5 (.int .i64)],.rnd [.slot 3 (.int .i64),.slot 6 (.int .i64)],.rnd [.slot 3 (.int .i64),.slot 7 (.int .i64)]] (.one (.int .i64)) [.row 19] x
def Zmp (L:Nat):Sum tT:=mU 27 [.row 19] (.one (.int .i64)) (VO L)
theorem Zme:SX Zmp:=fun h=>sT h (Zb (ZhO h) (Zb (ZoZ h) (Zb (Zpa h) (Zb (Zma h) (Zb (VH h) Zq))))) rfl (by kernel_rfl) fun _=>rfl
def UA:Zk→Nat→(Int×Int×PUnit→Option Int)→Int×Int×PUnit→(Int×Int×PUnit→Option Int)→Int×Int×PUnit→Option Int:=fun x0 L self acc self_1 acc_1=>bif decide (acc_1.2.1 < acc.2.1) then bT (ZJ x0.2 acc_1.2.1) fun y=>bT (ZJ x0.2 acc.2.1) fun y_1=>bif y.Decl.1 == y_1.Decl.1 then some 4 else self_1 (acc_1.1,Go.IntKind.i64.wrap (acc_1.2.1 + 1),()) else bT (ZJ x0.2 acc.2.1) fun y=>bT (OT L (y,())) fun y=>bif !y then some 8 else self (acc_1.1,Go.IntKind.i64.wrap (acc.2.1 + 1),())
def UB:Zk→Nat→(Int×Int×PUnit→Option Int)→Int×Int×PUnit→(Int×Int×PUnit→Option Int)→Int×Int×PUnit→Option Int:=fun x0 L self acc self_1 acc_1=>bT (ZJ x0.2 acc.2.1) fun y=>bif decide (acc_1.2.1 < (↑y.2.length:Int)) then bif acc_1.1 == 0 then bT (ZJ x0.2 acc.2.1) fun y=>bT (ZJ y.2 acc_1.2.1) fun y=>bT (bT (YX L (x0,acc.2.1,y,())) fun y=>some y) fun y=>self_1 (y,Go.IntKind.i64.wrap (acc_1.2.1 + 1),()) else self_1 (acc_1.1,Go.IntKind.i64.wrap (acc_1.2.1 + 1),()) else self (acc_1.1,Go.IntKind.i64.wrap (acc.2.1 + 1),())
def Xa:Zk→Nat→(Int×Int×PUnit→Option Int)→Int×Int×PUnit→Option Int:=fun x0 L self acc=>bif decide (acc.2.1 < (↑x0.2.length:Int)) then Zp (UB x0 L self acc) L (acc.1,0,()) else some acc.1
def UC:Zk→Nat→(Int×Int×PUnit→Option Int)→Int×Int×PUnit→Option Int:=fun x0 L self acc=>bif decide (acc.2.1 < (↑x0.2.length:Int)) then bT (ZJ x0.2 acc.2.1) fun y=>bT (bT (MM L (QV.mk x0.1 [] [y.1] [],())) fun y=>some y) fun y=>bif y != 0 then some y else Zp (UA x0 L self acc) L (acc.1,0,()) else bT (OQ L (x0,())) fun y=>Zp (Xa x0 L) L (y,0,())
theorem Zl6 (L:Nat)(x0:Zk):VO L (x0,())=bT (Qm L (x0.1,())) fun y=>bif y != 0 then some y else bif (↑x0.2.length:Int) == 0 then some 7 else bif decide ((↑x0.2.length:Int) > 16) then some 6 else Zp (UC x0 L) L (0,0,()):=by kernel_rfl
end Go.Proofs.YtgjcjbhhhlelnaaGreatDoor
end
section
namespace Go.Proofs.YtgjcjbhhhlelnaaGreatDoor
open Go Go.Proofs.YtgjcjbhhhlelnaaGreatDoor.Abs Go.Proofs.YtgjcjbhhhlelnaaGreatDoor.Tl
set_option maxRecDepth 100000
def ZsR:List Bool→Int→Int
 | [],_=>-1
 | b :: r,i=>if b=false then i else ZsR r (i + 1)
theorem ZmQ:∀ (l:List Bool) (i:Int),0≤i→(0≤ZsR l i↔l.contains false=true)
 | [],i,h=>by simp [ZsR]
 | false :: r,i,h=>by simp [ZsR,h]
 | true :: r,i,h=>by
  have:=ZmQ r (i + 1) (by omega)
  simp only [ZsR,Bool.true_eq_false,if_false]
  rw [this]; simp
theorem Zqo (g o len k:Nat)(i:Int)(h0:0≤i)(h1:i < len):Je (.slice k) (.arr g o len k) (.int .i64 i)=some (.ptr g (o + i.toNat * k)):=by simp [Je,h0,h1]
theorem ZxZ (g o len k:Nat)(i:Int)(h0:0≤i)(h1:i < len):Je (.arr len k) (.ptr g o) (.int .i64 i)=some (.ptr g (o + i.toNat * k)):=by simp [Je,h0,h1]
section
variable {hp:List Zn}{g:Nat}{t:TypeId}{u:List Bool}
theorem Z05 (hg:hp[g]? = some (.cells (u.map .bool) t))(i:Nat){b:Bool}(h:u[i]? = some b):Qb hp (.ptr g i)=some (.bool b):=by
 rw [Zq5 hg,List.getElem?_map,h]; rfl
theorem Zqy (G:GT)(K:KT)(L:Nat)(hp0:HP)(hg:hp[g]? = some (.cells (u.map .bool) t))(c:Nat)(hc:c≤u.length)(hu:u.length≤16):∀ (m i:Nat),i≤c→c - i < m →
  ZR G K L hp0 (Yp G K L hp0) m (.arr g 0 c 1) (.bool false) (.int .i64 c) (.int .i64 i) hp none=some (.int .i64 (ZsR ((u.take c).drop i) i),hp0,none)
 | 0,_,_,h=>absurd h (Nat.not_lt_zero _)
 | m + 1,i,hi,hm=>by
  rw [ZR]
  rcases Nat.lt_or_ge i c with hlt | hge
  ·have hl:i < (u.take c).length:=by rw [List.length_take]; omega
   rw [List.drop_eq_getElem_cons hl,ZsR]
   have e:(u.take c)[i]? = some (u.take c)[i]:=List.getElem?_eq_getElem hl
   generalize (u.take c)[i]=b at *
   have e':u[i]? = some b:=by rw [List.getElem?_take_of_lt hlt] at e; exact e
   have ei:=Zqo g 0 c 1 (i:Int) (by omega) (by omega)
   rw [Int.toNat_natCast,Nat.zero_add,Nat.mul_one] at ei
   have ew:IntKind.i64.wrap ((i:Int) + 1)=((i + 1:Nat):Int):=MF i (by omega)
   have el:decide ((i:Int) < (c:Int))=true:=by simp; omega
   have ih:=Zqy G K L hp0 hg c hc hu m (i + 1) (by omega) (by omega)
   simp only [EV,el,ei,Z05 hg i e',ew,ih,if_true]
   cases b <;> simp
  ·obtain rfl:i=c:=by omega
   rw [List.drop_eq_nil_of_le (by rw [List.length_take]; omega),ZsR]
   have el:decide ((i:Int) < (i:Int))=false:=by simp
   simp only [EV,el,Yp,Bool.false_eq_true,if_false]
theorem Zxa {C:Cfg}{L:Nat}(h:St C L)(n:Nat)(hg:hp[g]? = some (.cells (u.map .bool) t))(c:Nat)(hc:c≤u.length)(hu:u.length≤16) :
  Z7 C (n + 1) Y6 [.arr g 0 c 1,.bool false] hp=some (.int .i64 (ZsR (u.take c) 0),hp,none):=by
 refine X9 (by rw [← QY]; exact h.T _ _ (by kernel_rfl)) ?_
 have e:Xp hp .slice (AV.ro (.arr g 0 c 1))=some (.int .i64 c):=rfl
 have:=Zqy C.G (Z7 C n) C.L hp hg c hc hu C.L 0 (Nat.zero_le _) (by rw [h.L]; omega)
 simp only [Wj,e,EV]
 exact this
theorem Zuk {C:Cfg}{L:Nat}(h:St C L)(n:Nat)(hp:HP):Z7 C (n + 1) Y6 [.lst 1 [],.bool false] hp=some (.int .i64 (-1),hp,none):=by
 refine X9 (by rw [← QY]; exact h.T _ _ (by kernel_rfl)) ?_
 obtain ⟨m,e⟩:∃ m,C.L=m + 1:=⟨L + 63,h.L⟩
 simp only [Wj,e,EV,List.length_nil]
 simp only [ZR,EV]
 rfl
theorem Zpf {C:Cfg}{L:Nat}(h:St C L)(n:Nat)(hg:hp[g]? = some (.cells (u.map .bool) t))(c:Nat)(hc:c≤u.length)(hu:u.length≤16) :
  Z7 C (n + 2) Yn [.arr g 0 c 1,.bool false] hp=some (.bool ((u.take c).contains false),hp,none):=by
 refine QP (by rw [← Qv]; exact h.T _ _ (by kernel_rfl)) ?_
 have e:AV.ro (.arr g 0 c 1)=.arr g 0 c 1:=rfl
 simp only [YF,e,EV,Zxa h n hg c hc hu]
 have:=ZmQ (u.take c) 0 (by omega)
 cases hb:(u.take c).contains false with
 | true=>rw [hb] at this; simp [this]
 | false=>rw [hb] at this; simp at this; simp [this]
theorem Zmr {C:Cfg}{L:Nat}(h:St C L)(n:Nat)(hp:HP):Z7 C (n + 2) Yn [.lst 1 [],.bool false] hp=some (.bool false,hp,none):=by
 refine QP (by rw [← Qv]; exact h.T _ _ (by kernel_rfl)) ?_
 simp only [YF,EV,Zuk h n hp]
 rfl
end
def pcA:List Int→List Bool→Nat→Int
 | [],u,c=>if (u.take c).contains false=true then 12 else 0
 | k :: r,u,c=>if (decide (k < 0) || decide (16≤k))=true then 2 else if u[k.toNat]? = some true then pcA r u c else pcA r (u.set k.toNat true) (c + 1)
def EU:List Bool→Nat
 | []=>0
 | true :: l=>EU l + 1
 | false :: l=>EU l
theorem Zk1:∀ u:List Bool,EU u≤u.length
 | []=>Nat.le_refl _
 | true :: l=>by have:=Zk1 l; simp only [EU,List.length_cons]; omega
 | false :: l=>by have:=Zk1 l; simp only [EU,List.length_cons]; omega
theorem ZbL:∀ (u:List Bool) (k:Nat),u[k]? = some false→EU (u.set k true)=EU u + 1
 | [],k,h=>by simp at h
 | b :: l,0,h=>by simp at h; subst h; rw [List.set_cons_zero,EU,EU]
 | b :: l,k + 1,h=>by
  have ih:=ZbL l k (by simpa using h)
  rw [List.set_cons_succ]
  cases b <;> rw [EU,EU,ih]
theorem Zka (h:HP)(u:List Bool)(t:TypeId)(k:Nat)(hk:k < u.length)(bs:Nat)(hb:bs≤h.length):stV bs 1 (.ptr h.length k) (.bool true) (h ++ [.cells (u.map .bool) t]) none=some (h ++ [.cells ((u.set k true).map .bool) t],none):=by
 rw [Zuc bs 1 h _ t k (.bool true) none rfl (by rw [List.length_map]; omega) rfl hb]
 congr 4
 rw [List.map_set]
 simp only [splice,AV.cells,List.length_singleton]
 rw [List.set_eq_take_append_cons_drop,if_pos (by simpa using hk),List.append_assoc]; rfl
theorem Zta {C:Cfg}{L:Nat}(h:St C L)(n:Nat)(hp0 hq:HP)(u:List Bool)(t:TypeId)(hu:u.length=16)(c:Nat)(hc:c≤16) :
  YY C.G (Z7 C (n + 2)) C.L hp0 (.ptr hq.length 0) (.int .i64 c) (hq ++ [.cells (u.map .bool) t]) none=some (.int .i64 (if (u.take c).contains false=true then 12 else 0),hp0,none):=by
 rw [YY]
 rcases Nat.eq_zero_or_pos c with rfl | hpos
 ·have e:V7 (.arr 16 1) (.ptr hq.length 0) none (some (.int .i64 (0:Nat)))=some (.lst 1 []):=rfl
  simp only [e,EV,Zmr h n]
  simp
 ·have e:V7 (.arr 16 1) (.ptr hq.length 0) none (some (.int .i64 c))=some (.arr hq.length 0 c 1):=by
   have:(0:Nat)≠c:=by omega
   have h':(c:Int)≤16:=by omega
   simp [V7,bound,h',this]
  simp only [e,EV,Zpf (u := u) h n (Ir hq _) c (by omega) (by omega)]
  cases (u.take c).contains false <;> rfl
theorem ZgW {C:Cfg}{L:Nat}(h:St C L)(n:Nat)(hp0 hq:HP)(hh:hp0.length≤hq.length)(t:TypeId)(l:List Int)(hl:l.length < 4611686018427387904):∀ (m i:Nat) (u:List Bool),u.length=16→i≤l.length→l.length - i < m →
  Y7 C.G (Z7 C (n + 2)) C.L hp0 (YY C.G (Z7 C (n + 2)) C.L hp0) m (.ptr hq.length 0) (.int .i64 (EU u)) (.lst 1 (l.map fun x=>[.int .i64 x])) (.int .i64 l.length) (.int .i64 i) (hq ++ [.cells (u.map .bool) t]) none=some (.int .i64 (pcA (l.drop i) u (EU u)),hp0,none)
 | 0,_,_,_,_,h=>absurd h (Nat.not_lt_zero _)
 | m + 1,i,u,hu,hi,hm=>by
  have hcu:=Zk1 u
  rw [Y7]
  rcases Nat.lt_or_ge i l.length with hlt | hge
  ·rw [List.drop_eq_getElem_cons hlt,pcA]
   have ex:l[i]? = some l[i]:=List.getElem?_eq_getElem hlt
   generalize l[i]=k at *
   have ei:Je (.slice 1) (.lst 1 (l.map fun x=>[.int .i64 x])) (.int .i64 i)=some (.ref [.int .i64 k]):=by simp [Je,ex]
   have el:decide ((i:Int) < (l.length:Int))=true:=by simp; omega
   have ew:IntKind.i64.wrap ((i:Int) + 1)=((i + 1:Nat):Int):=MF i (by omega)
   by_cases hb:(decide (k < 0) || decide (16≤k))=true
   ·simp only [EV,el,ei,hb,if_true]
   ·have hk0:¬ k < 0:=fun c=>hb (by simp [c])
    have hk1:¬ 16≤k:=fun c=>hb (by simp [c])
    have e1:Je (.arr 16 1) (.ptr hq.length 0) (.int .i64 k)=some (.ptr hq.length k.toNat):=by
     rw [ZxZ hq.length 0 16 1 k (by omega) (by omega),Nat.zero_add,Nat.mul_one]
    have hkl:k.toNat < u.length:=by omega
    obtain ⟨b,eb⟩:∃ b,u[k.toNat]? = some b:=⟨_,List.getElem?_eq_getElem hkl⟩
    have e2:=Z05 (Ir hq (.cells (u.map .bool) t)) k.toNat eb
    rw [if_neg hb,eb]
    cases b with
    | true =>
     have ih:=ZgW h n hp0 hq hh t l hl m (i + 1) u hu (by omega) (by omega)
     simp only [EV,el,ei,hb,e1,e2,ew,if_true,if_false,ih,Bool.not_true,Bool.false_eq_true]
    | false =>
     have e3:=Zka hq u t k.toNat hkl hp0.length hh
     have e4:=ZbL u k.toNat eb
     have e5:IntKind.i64.wrap ((EU u:Int) + 1)=((EU (u.set k.toNat true):Nat):Int):=by rw [e4]; exact MF (EU u) (by omega)
     have ih:=ZgW h n hp0 hq hh t l hl m (i + 1) (u.set k.toNat true) (by rw [List.length_set]; exact hu) (by omega) (by omega)
     rw [e4] at ih
     rw [e4] at e5
     simp only [EV,el,ei,hb,e1,e2,e3,e5,ew,if_true,if_false,ih,Bool.not_false,Bool.false_eq_true,Option.some.injEq]
  ·obtain rfl:i=l.length:=by omega
   have el:decide ((l.length:Int) < (l.length:Int))=false:=by simp
   rw [List.drop_length,pcA]
   simp only [EV,el,Bool.false_eq_true,if_false]
   exact Zta h n hp0 hq u t hu (EU u) (by omega)
end Go.Proofs.YtgjcjbhhhlelnaaGreatDoor
end
section
namespace Go.Proofs.YtgjcjbhhhlelnaaGreatDoor
open Go Go.Proofs.YtgjcjbhhhlelnaaGreatDoor.Abs Go.Proofs.YtgjcjbhhhlelnaaGreatDoor.Tl
set_option maxRecDepth 100000
theorem cells_at {c:AV}{l:List AV}{hp:HP}{g:Nat}{t:TypeId}{cs:List AV}(hg:hp[g]? = some (.cells cs t))(h:cs.map AV.ro=l)(i:Nat)(e:l[i]? = some c):Qb hp (.ptr g i)=some c:=by
 rw [Zq5 hg,← List.getElem?_map,h,e]
theorem ZqB {p:Zk}{l:List Int}{avs:List AV}(h:LR [] (tvL tT [.row 19,.lst 1 (.int .i64)] (p,l,())) avs):∃ cs a,avs=[.agg cs,a]∧cs.map AV.ro=X7 p∧AV.ro a=.lst 1 (l.map fun x=>[.int .i64 x]):=by
 cases h with
 | cons _ a h1 _ _ h2=>cases h2 with
  | cons _ b h3 _ _ h4=>cases h4 with
   | nil =>
    cases h1 with
    | row _ _ cs hc=>cases h3 with
     | lst _ _ _ _ hb=>exact ⟨cs,b,rfl,hc,hb⟩
def WI:List Bool:=[false,false,false,false,false,false,false,false,false,false,false,false,false,false,false,false]
def Vt (e:Int)(n m:Nat)(r:Int):Int:=if decide (e≠0)=true then e else if decide ((n:Int)≠(m:Int))=true then 8 else r
theorem Zul {C:Cfg}{L:Nat}(h:St C L)(n:Nat)(p:Zk)(l:List Int)(hl:l.length < L)(hl':l.length < 4611686018427387904)(hp:HP)(cs:List AV)(a:AV)(hc:cs.map AV.ro=X7 p)(ha:AV.ro a=.lst 1 (l.map fun x=>[.int .i64 x]))(e:Int)
  (hk:Z7 C (n + 2) VS [.agg (X7 p)] (hp ++ [.cells cs ZM])=some (.int .i64 e,hp ++ [.cells cs ZM],none)) :
  Z7 C (n + 3) XQ [.agg cs,a] hp=some (.int .i64 (Vt e l.length p.Sites.length (pcA l WI 0)),hp,none):=by
 refine Si (by rw [← RH]; exact h.T _ _ (by kernel_rfl)) ?_
 have hcl:cs.length=3:=by have:=congrArg List.length hc; rw [List.length_map] at this; exact this
 have e1:Vh (hp ++ [.cells cs ZM]) 3 (.ptr hp.length 0)=some (.agg (X7 p)):=by
  rw [Zq2 (Ir hp _) 3 0 (by omega),List.drop_zero,List.take_of_length_le (by omega),hc]
 have e2:=cells_at (Ir hp (.cells cs ZM)) hc 1 rfl
 have e0:Zso 3 (.agg cs)=some cs:=Zpz 3 cs hcl
 have e3:DX 1 (.ptr hp.length 0)=some (.ptr hp.length 1):=rfl
 have hq:(hp ++ [Zn.cells cs ZM]).length=hp.length + 1:=by simp
 have hm:=ZgW h n hp (hp ++ [.cells cs ZM]) (by omega) Zej l hl' C.L 0 WI rfl (Nat.zero_le _) (by rw [h.L]; omega)
 simp only [JP,ha,e0,e1,e2,e3,hk,EV,List.length_map,Vt]
 rw [List.drop_zero] at hm
 rw [show (WI.map AV.bool)=[(.bool false),(.bool false),(.bool false),(.bool false),(.bool false),(.bool false),(.bool false),(.bool false),(.bool false),(.bool false),(.bool false),(.bool false),(.bool false),(.bool false),(.bool false),(.bool false)] from rfl] at hm
 rw [show EU WI=0 from rfl] at hm
 by_cases he:decide (e≠0)=true
 ·rw [if_pos he,if_pos he]
 ·rw [if_neg he,if_neg he]
  by_cases hn:decide ((l.length:Int)≠(p.Sites.length:Int))=true
  ·rw [if_pos hn,if_pos hn]
  ·rw [if_neg hn,if_neg hn]
   exact hm
noncomputable def Qd (L:Nat)(x:Zk×List Int×PUnit):Option Int:=bT (Wi L (x.1,())) fun e=>if x.2.1.length < L∧x.2.1.length < 4611686018427387904 then some (Vt e x.2.1.length x.1.Sites.length (pcA x.2.1 WI 0)) else none
noncomputable def Ub (L:Nat):Sum tT:=mU XQ [.row 19,.lst 1 (.int .i64)] (.one (.int .i64)) (Qd L)
theorem Zm0 {C:Cfg}{f:FuncId}{y:Zk×PUnit→Option Int}(hs:Qs C (mU f [.row 19] (.one (.int .i64)) y))(p:Zk){e:Int}(he:y (p,())=some e)(hp:HP):Ev fun n=>Z7 C n f [.agg (X7 p)] hp=some (.int .i64 e,hp,none):=by
 obtain ⟨a,h1,h2⟩:=hs (p,()) hp [.agg (X7 p)] (.cons _ _ (.row _ _ _ (Yv.ro 19 p)) _ _ .nil) e he
 have:=VR.int (h1 [])
 subst this
 exact h2
theorem OD:SX Ub:=fun {C L} h=>fun x hp avs hv y hy=>by
 obtain ⟨(p:Zk),(l:List Int),u⟩:=x
 obtain ⟨cs,a,rfl,hc,ha⟩:=ZqB hv
 change bT (Wi L (p,())) _=some y at hy
 cases hq:Wi L (p,()) with
 | none=>rw [hq] at hy; cases hy
 | some e =>
  rw [hq] at hy
  simp only [bT] at hy
  split at hy
  ·rename_i hl
   cases hy
   obtain ⟨n0,h0⟩:=Zm0 (ZjG h) p hq (hp ++ [.cells cs ZM])
   refine ⟨.int .i64 _,fun ad=>.av _ _ (.inl rfl),n0 + 3,fun m hm=>?_⟩
   obtain ⟨k,rfl⟩:∃ k,m=k + 3:=⟨m - 3,by omega⟩
   exact Zul h k p l hl.1 hl.2 hp cs a hc ha e (h0 (k + 2) (by omega))
  ·cases hy
def rcA:List Int→List Bool→Int→Int
 | [],u,m=>if (u.take (m.toNat + 1)).contains false=true then 12 else 0
 | k :: r,u,m=>if (decide (k < 0) || decide (16≤k))=true then 2 else rcA r (u.set k.toNat true) (if k > m then k else m)
theorem ZiO (G:GT)(K:KT)(L:Nat)(hp0 hq:HP)(t:TypeId)(u:List Bool)(hu:u.length=16)(M:Nat)(hM:M < 16):∀ (m i:Nat),i≤M + 1→M + 1 - i < m →
  Xt G K L hp0 (Vx G K L hp0) m (.int .i64 M) (.arr hq.length 0 16 1) (.int .i64 i) (hq ++ [.cells (u.map .bool) t]) none=some (.int .i64 (if ((u.take (M + 1)).drop i).contains false=true then 12 else 0),hp0,none)
 | 0,_,_,h=>absurd h (Nat.not_lt_zero _)
 | m + 1,i,hi,hm=>by
  rw [Xt]
  rcases Nat.lt_or_ge i (M + 1) with hlt | hge
  ·have hl:i < (u.take (M + 1)).length:=by rw [List.length_take]; omega
   rw [List.drop_eq_getElem_cons hl]
   have e:(u.take (M + 1))[i]? = some (u.take (M + 1))[i]:=List.getElem?_eq_getElem hl
   generalize (u.take (M + 1))[i]=b at *
   have e':u[i]? = some b:=by rw [List.getElem?_take_of_lt hlt] at e; exact e
   have ei:=Zqo hq.length 0 16 1 (i:Int) (by omega) (by omega)
   rw [Int.toNat_natCast,Nat.zero_add,Nat.mul_one] at ei
   have ew:IntKind.i64.wrap ((i:Int) + 1)=((i + 1:Nat):Int):=MF i (by omega)
   have el:decide ((i:Int)≤(M:Int))=true:=by simp; omega
   have ih:=ZiO G K L hp0 hq t u hu M hM m (i + 1) (by omega) (by omega)
   simp only [EV,el,ei,Z05 (Ir hq _) i e',ew,ih,if_true]
   cases b <;> simp
  ·obtain rfl:i=M + 1:=by omega
   rw [List.drop_eq_nil_of_le (by rw [List.length_take]; omega)]
   have el:decide (((M + 1:Nat):Int)≤(M:Int))=false:=by simp; omega
   simp only [EV,el,Vx,Bool.false_eq_true,if_false]
   simp
theorem ZmX {C:Cfg}{L:Nat}(h:St C L)(K:KT)(hp0 hq:HP)(hh:hp0.length≤hq.length)(t:TypeId)(l:List Int)(hl:l.length < 4611686018427387904):∀ (m i:Nat) (u:List Bool) (M:Int),u.length=16→0≤M→M < 16→i≤l.length→l.length - i < m →
  Xr C.G K C.L hp0 (Vw C.G K C.L hp0) m (.lst 1 (l.map fun x=>[.int .i64 x])) (.int .i64 M) (.arr hq.length 0 16 1) (.int .i64 i) (hq ++ [.cells (u.map .bool) t]) none=some (.int .i64 (rcA (l.drop i) u M),hp0,none)
 | 0,_,_,_,_,_,_,_,h=>absurd h (Nat.not_lt_zero _)
 | m + 1,i,u,M,hu,hM0,hM1,hi,hm=>by
  rw [Xr]
  rcases Nat.lt_or_ge i l.length with hlt | hge
  ·rw [List.drop_eq_getElem_cons hlt,rcA]
   have ex:l[i]? = some l[i]:=List.getElem?_eq_getElem hlt
   generalize l[i]=k at *
   have ei:Je (.slice 1) (.lst 1 (l.map fun x=>[.int .i64 x])) (.int .i64 i)=some (.ref [.int .i64 k]):=by simp [Je,ex]
   have el:decide ((i:Int) < (l.length:Int))=true:=by simp; omega
   have ew:IntKind.i64.wrap ((i:Int) + 1)=((i + 1:Nat):Int):=MF i (by omega)
   by_cases hb:(decide (k < 0) || decide (16≤k))=true
   ·simp only [EV,el,ei,hb,if_true,List.length_map]
   ·have hk0:¬ k < 0:=fun c=>hb (by simp [c])
    have hk1:¬ 16≤k:=fun c=>hb (by simp [c])
    have e1:Je (.slice 1) (.arr hq.length 0 16 1) (.int .i64 k)=some (.ptr hq.length k.toNat):=by
     rw [Zqo hq.length 0 16 1 k (by omega) (by omega),Nat.zero_add,Nat.mul_one]
    have hkl:k.toNat < u.length:=by omega
    rw [if_neg hb]
    have e3:=Zka hq u t k.toNat hkl hp0.length hh
    have ih:=ZmX h K hp0 hq hh t l hl m (i + 1) (u.set k.toNat true) (if k > M then k else M) (by rw [List.length_set]; exact hu) (by split <;> omega) (by split <;> omega) (by omega) (by omega)
    simp only [EV,el,ei,hb,e1,e3,ew,if_true,if_false,ih,Bool.not_false,Bool.false_eq_true,Option.some.injEq,List.length_map,max2]
  ·obtain rfl:i=l.length:=by omega
   have el:decide ((l.length:Int) < (l.length:Int))=false:=by simp
   rw [List.drop_length,rcA]
   simp only [EV,el,Bool.false_eq_true,if_false,Vw,List.length_map]
   obtain ⟨N,rfl⟩:∃ N:Nat,M=N:=⟨M.toNat,by omega⟩
   exact ZiO C.G K C.L hp0 hq t u hu N (by omega) C.L 0 (Nat.zero_le _) (by rw [h.L]; omega)
theorem Zum {C:Cfg}{L:Nat}(h:St C L)(n:Nat)(p:Zk)(l:List Int)(hl:l.length < L)(hl':l.length < 4611686018427387904)(hp:HP)(cs:List AV)(a:AV)(hc:cs.map AV.ro=X7 p)(ha:AV.ro a=.lst 1 (l.map fun x=>[.int .i64 x]))(e:Int)
  (hk:Z7 C n Zcb [.agg (X7 p)] (hp ++ [.cells cs ZM])=some (.int .i64 e,hp ++ [.cells cs ZM],none)) :
  Z7 C (n + 1) OW [.agg cs,a] hp=some (.int .i64 (Vt e l.length p.Sites.length (rcA l WI 0)),hp,none):=by
 refine Zh8 (by rw [← ZcF]; exact h.T _ _ (by kernel_rfl)) ?_
 have hcl:cs.length=3:=by have:=congrArg List.length hc; rw [List.length_map] at this; exact this
 have e1:Vh (hp ++ [.cells cs ZM]) 3 (.ptr hp.length 0)=some (.agg (X7 p)):=by
  rw [Zq2 (Ir hp _) 3 0 (by omega),List.drop_zero,List.take_of_length_le (by omega),hc]
 have e2:=cells_at (Ir hp (.cells cs ZM)) hc 1 rfl
 have e0:Zso 3 (.agg cs)=some cs:=Zpz 3 cs hcl
 have e3:DX 1 (.ptr hp.length 0)=some (.ptr hp.length 1):=rfl
 have e4:Ztj ZhZ [.bool false] (.int .i64 16) (hp ++ [.cells cs ZM])=some (.arr (hp ++ [Zn.cells cs ZM]).length 0 16 1,hp ++ [Zn.cells cs ZM] ++ [Zn.cells (WI.map .bool) ZhZ]):=rfl
 have hq:(hp ++ [Zn.cells cs ZM]).length=hp.length + 1:=by simp
 have hm:=ZmX h (Z7 C n) hp (hp ++ [.cells cs ZM]) (by omega) ZhZ l hl' C.L 0 WI 0 rfl (Int.le_refl _) (by decide) (Nat.zero_le _) (by rw [h.L]; omega)
 simp only [NH,ha,e0,e1,e2,e3,e4,hk,EV,List.length_map,Vt]
 rw [List.drop_zero] at hm
 by_cases he:decide (e≠0)=true
 ·rw [if_pos he,if_pos he]
 ·rw [if_neg he,if_neg he]
  by_cases hn:decide ((l.length:Int)≠(p.Sites.length:Int))=true
  ·rw [if_pos hn,if_pos hn]
  ·rw [if_neg hn,if_neg hn]
   exact hm
noncomputable def Ib (L:Nat)(x:Zk×List Int×PUnit):Option Int:=bT (VO L (x.1,())) fun e=>if x.2.1.length < L∧x.2.1.length < 4611686018427387904 then some (Vt e x.2.1.length x.1.Sites.length (rcA x.2.1 WI 0)) else none
noncomputable def Ef (L:Nat):Sum tT:=mU OW [.row 19,.lst 1 (.int .i64)] (.one (.int .i64)) (Ib L)
theorem Zmk:SX Ef:=fun {C L} h=>fun x hp avs hv y hy=>by
 obtain ⟨(p:Zk),(l:List Int),u⟩:=x
 obtain ⟨cs,a,rfl,hc,ha⟩:=ZqB hv
 change bT (VO L (p,())) _=some y at hy
 cases hq:VO L (p,()) with
 | none=>rw [hq] at hy; cases hy
 | some e =>
  rw [hq] at hy
  simp only [bT] at hy
  split at hy
  ·rename_i hl
   cases hy
   obtain ⟨n0,h0⟩:=Zm0 (Zme h) p hq (hp ++ [.cells cs ZM])
   refine ⟨.int .i64 _,fun ad=>.av _ _ (.inl rfl),n0 + 1,fun m hm=>?_⟩
   obtain ⟨k,rfl⟩:∃ k,m=k + 1:=⟨m - 1,by omega⟩
   exact Zum h k p l hl.1 hl.2 hp cs a hc ha e (h0 k (by omega))
  ·cases hy
end Go.Proofs.YtgjcjbhhhlelnaaGreatDoor
end
section
namespace Go.Proofs.YtgjcjbhhhlelnaaGreatDoor
open Go Go.Proofs.YtgjcjbhhhlelnaaGreatDoor.Abs Go.Proofs.YtgjcjbhhhlelnaaGreatDoor.Tl
set_option maxRecDepth 100000
theorem ZbM (a:AV):∀ N:Nat,(List.replicate N [a]).flatten=List.replicate N a
 | 0=>rfl
 | N + 1=>by rw [List.replicate_succ,List.replicate_succ,List.flatten_cons,ZbM a N]; rfl
end Go.Proofs.YtgjcjbhhhlelnaaGreatDoor
end
section
namespace Go.Proofs.YtgjcjbhhhlelnaaGreatDoor
open Go Go.Proofs.YtgjcjbhhhlelnaaGreatDoor.Abs Go.Proofs.YtgjcjbhhhlelnaaGreatDoor.Tl
set_option maxRecDepth 100000
def lastT:List Bool→Nat
 | []=>0
 | _ :: l=>if l.any id=true then lastT l + 1 else 0
theorem ZpN:∀ u:List Bool,u.any id=true→0 < EU u
 | [],h=>by cases h
 | true :: l,_=>by rw [EU]; omega
 | false :: l,h=>by rw [EU]; exact ZpN l (by simpa using h)
theorem Zm8:∀ u:List Bool,u.any id=false→EU u=0
 | [],_=>rfl
 | true :: l,h=>by simp at h
 | false :: l,h=>by rw [EU]; exact Zm8 l (by simpa using h)
theorem Zjc:∀ u:List Bool,u.any id=true→((u.take (EU u)).contains false=true↔∃ k,k≤lastT u∧u[k]? = some false)
 | [],h=>by cases h
 | false :: l,h=>by
  have hl:l.any id=true:=by simpa using h
  have:=ZpN l hl
  obtain ⟨n,hn⟩:∃ n,EU l=n + 1:=⟨EU l - 1,by omega⟩
  rw [EU,hn,List.take_succ_cons]
  exact ⟨fun _=>⟨0,Nat.zero_le _,rfl⟩,fun _=>by simp⟩
 | true :: l,h=>by
  rw [EU,List.take_succ_cons,lastT]
  by_cases hl:l.any id=true
  ·rw [if_pos hl]
   have ih:=Zjc l hl
   refine ⟨fun hc=>?_,fun ⟨k,h1,h2⟩=>?_⟩
   ·obtain ⟨k,h1,h2⟩:=ih.1 (by simpa using hc)
    exact ⟨k + 1,by omega,by simpa using h2⟩
   ·cases k with
    | zero=>simp at h2
    | succ k =>
     have:=ih.2 ⟨k,by omega,by simpa using h2⟩
     simpa using this
  ·rw [Bool.not_eq_true] at hl
   rw [if_neg (by simp [hl]),Zm8 l hl,List.take_zero]
   refine ⟨fun hc=>by simp at hc,fun ⟨k,h1,h2⟩=>?_⟩
   obtain rfl:k=0:=by omega
   simp at h2
theorem Zg0:∀ (u:List Bool) (k:Nat),k < u.length→(u.set k true).any id=true
 | [],k,h=>by simp at h
 | b :: l,0,h=>by simp
 | b :: l,k + 1,h=>by
  have:=Zg0 l k (by simpa using h)
  rw [List.set_cons_succ,List.any_cons,this,Bool.or_true]
theorem Zdm:∀ (u:List Bool) (k:Nat),k < u.length→lastT (u.set k true)=if u.any id=true then max (lastT u) k else k
 | [],k,h=>by simp at h
 | b :: l,0,h=>by
  rw [List.set_cons_zero,lastT,lastT]
  by_cases hl:l.any id=true
  ·rw [if_pos hl,if_pos (by simp only [List.any_cons,hl,Bool.or_true])]; omega
  ·rw [if_neg hl]; split <;> omega
 | b :: l,k + 1,h=>by
  have hk:k < l.length:=by simpa using h
  have ih:=Zdm l k hk
  rw [List.set_cons_succ,lastT,if_pos (Zg0 l k hk),ih,lastT]
  by_cases hl:l.any id=true
  ·rw [if_pos hl,if_pos (by simp only [List.any_cons,hl,Bool.or_true]),if_pos hl]; omega
  ·rw [if_neg hl,if_neg hl]; split <;> omega
theorem ZtZ (u:List Bool)(k:Nat)(h:u[k]? = some true):u.set k true=u:=by
 refine List.ext_getElem? fun i=>?_
 rw [List.getElem?_set]
 split
 ·rename_i e; subst e; rw [h]; split
  ·rfl
  ·rename_i c; rw [List.getElem?_eq_none (by omega)] at h; cases h
 ·rfl
theorem ZnB (u:List Bool)(n:Nat):(u.take (n + 1)).contains false=true↔∃ k,k≤n∧u[k]? = some false:=by
 rw [List.contains_iff_mem,List.mem_iff_getElem?]
 refine ⟨fun ⟨k,h⟩=>?_,fun ⟨k,h1,h2⟩=>⟨k,?_⟩⟩
 ·rw [List.getElem?_take] at h
  split at h
  ·exact ⟨k,by omega,h⟩
  ·cases h
 ·rw [List.getElem?_take,if_pos (by omega)]; exact h2
theorem ZrT:∀ (l:List Int) (u:List Bool),u.length=16→u.any id=true→pcA l u (EU u)=rcA l u (lastT u:Nat)
 | [],u,hu,ha=>by
  rw [pcA,rcA,Int.toNat_natCast]
  have h1:=Zjc u ha
  have h2:=ZnB u (lastT u)
  by_cases h:∃ k,k≤lastT u∧u[k]? = some false
  ·rw [if_pos (h1.2 h),if_pos (h2.2 h)]
  ·rw [if_neg (fun c=>h (h1.1 c)),if_neg (fun c=>h (h2.1 c))]
 | k :: r,u,hu,ha=>by
  rw [pcA,rcA]
  by_cases hb:(decide (k < 0) || decide (16≤k))=true
  ·rw [if_pos hb,if_pos hb]
  ·rw [if_neg hb,if_neg hb]
   have hk0:¬ k < 0:=fun c=>hb (by simp [c])
   have hk1:¬ 16≤k:=fun c=>hb (by simp [c])
   have hl:k.toNat < u.length:=by omega
   have h3:=Zdm u k.toNat hl
   rw [if_pos ha] at h3
   have ih:=ZrT r (u.set k.toNat true) (by rw [List.length_set]; exact hu) (Zg0 u _ hl)
   have hm:(if k > (lastT u:Int) then k else (lastT u:Int))=((lastT (u.set k.toNat true):Nat):Int):=by rw [h3]; split <;> omega
   rw [hm,← ih]
   split
   ·rename_i e
    rw [ZtZ u _ e]
   ·rename_i e
    have e':u[k.toNat]? = some false:=by
     rw [List.getElem?_eq_getElem hl] at e ⊢
     cases hx:u[k.toNat] with
     | true=>rw [hx] at e; exact absurd rfl e
     | false=>rfl
    rw [ZbL u _ e']
theorem Zi3 (l:List Int)(hl:l≠[]):pcA l WI 0=rcA l WI 0:=by
 cases l with
 | nil=>exact absurd rfl hl
 | cons k r =>
  rw [pcA,rcA]
  by_cases hb:(decide (k < 0) || decide (16≤k))=true
  ·rw [if_pos hb,if_pos hb]
  ·rw [if_neg hb,if_neg hb]
   have hk0:¬ k < 0:=fun c=>hb (by simp [c])
   have hk1:¬ 16≤k:=fun c=>hb (by simp [c])
   have hl:k.toNat < WI.length:=by simp only [WI,List.length_cons,List.length_nil]; omega
   have e:WI[k.toNat]? = some false:=by
    have:WI=List.replicate 16 false:=rfl
    rw [this,List.getElem?_replicate,if_pos (by omega)]
   have h3:=Zdm WI k.toNat hl
   rw [if_neg (by decide)] at h3
   have hm:(if k > 0 then k else 0)=((lastT (WI.set k.toNat true):Nat):Int):=by rw [h3]; split <;> omega
   rw [hm,← ZrT r (WI.set k.toNat true) (by rw [List.length_set]; rfl) (Zg0 WI _ hl),e,if_neg (by simp),ZbL WI _ e]
   rfl
def mxA:List Int→Int→Int
 | [],m=>m
 | k :: r,m=>mxA r (if k > m then k else m)
theorem ZqJ:∀ (l:List Int) (m:Int),m≤mxA l m∧∀ x ∈ l,x≤mxA l m
 | [],m=>⟨Int.le_refl _,fun x h=>by cases h⟩
 | k :: r,m=>by
  have:=ZqJ r (if k > m then k else m)
  rw [mxA]
  refine ⟨by have:=this.1; split at this <;> omega,fun x hx=>?_⟩
  rcases List.mem_cons.1 hx with rfl | hx
  ·have:=this.1; split at this <;> omega
  ·exact this.2 x hx
theorem Zdr:∀ (l:List Int) (m:Int),mxA l m=m∨mxA l m ∈ l
 | [],m=>.inl rfl
 | k :: r,m=>by
  rw [mxA]
  rcases Zdr r (if k > m then k else m) with h | h
  ·rw [h]; split
   ·exact .inr (List.mem_cons_self ..)
   ·exact .inl rfl
  ·exact .inr (List.mem_cons_of_mem _ h)
def Good (l:List Int):Prop:=(∀ x ∈ l,0≤x∧x < 16)∧∀ v:Nat,(v:Int)≤mxA l 0→(v:Int) ∈ l
theorem Zr4:∀ (l:List Int) (u:List Bool) (m:Int),u.length=16→0≤m→m < 16 →
  (rcA l u m=0↔(∀ x ∈ l,0≤x∧x < 16)∧∀ v:Nat,(v:Int)≤mxA l m→u[v]? = some true∨(v:Int) ∈ l)
 | [],u,m,hu,h0,h1=>by
  rw [rcA,mxA]
  have ht:=ZnB u m.toNat
  constructor
  ·intro h
   refine ⟨fun x hx=>(by cases hx),fun v hv=>.inl ?_⟩
   have hn:¬ ∃ k,k≤m.toNat∧u[k]? = some false:=fun c=>by rw [if_pos (ht.2 c)] at h; cases h
   have hl:v < u.length:=by omega
   rw [List.getElem?_eq_getElem hl]
   cases hx:u[v] with
   | true=>rfl
   | false=>exact absurd ⟨v,by omega,by rw [List.getElem?_eq_getElem hl,hx]⟩ hn
  ·intro ⟨_,h⟩
   rw [if_neg]
   intro c
   obtain ⟨k,h2,h3⟩:=ht.1 c
   rcases h k (by omega) with h4 | h4
   ·rw [h3] at h4; cases h4
   ·cases h4
 | k :: r,u,m,hu,h0,h1=>by
  rw [rcA,mxA]
  by_cases hb:(decide (k < 0) || decide (16≤k))=true
  ·rw [if_pos hb]
   refine ⟨fun h=>(by cases h),fun ⟨h,_⟩=>?_⟩
   have:=h k (List.mem_cons_self ..)
   simp only [Bool.or_eq_true,decide_eq_true_eq] at hb
   omega
  ·rw [if_neg hb]
   have hk0:¬ k < 0:=fun c=>hb (by simp [c])
   have hk1:¬ 16≤k:=fun c=>hb (by simp [c])
   have ih:=Zr4 r (u.set k.toNat true) (if k > m then k else m) (by rw [List.length_set]; exact hu) (by split <;> omega) (by split <;> omega)
   rw [ih]
   have hs:∀ v:Nat,(u.set k.toNat true)[v]? = some true↔(u[v]? = some true∨(v:Int)=k):=fun v=>by
    rw [List.getElem?_set]
    by_cases e:k.toNat=v
    ·rw [if_pos e,if_pos (by omega)]
     exact ⟨fun _=>.inr (by omega),fun _=>rfl⟩
    ·rw [if_neg e]
     exact ⟨.inl,fun h=>h.resolve_right (by omega)⟩
   constructor
   ·rintro ⟨h2,h3⟩
    refine ⟨fun x hx=>?_,fun v hv=>?_⟩
    ·rcases List.mem_cons.1 hx with rfl | hx
     ·omega
     ·exact h2 x hx
    ·rcases h3 v hv with h4 | h4
     ·rcases (hs v).1 h4 with h5 | h5
      ·exact .inl h5
      ·exact .inr (by rw [h5]; exact List.mem_cons_self ..)
     ·exact .inr (List.mem_cons_of_mem _ h4)
   ·rintro ⟨h2,h3⟩
    refine ⟨fun x hx=>h2 x (List.mem_cons_of_mem _ hx),fun v hv=>?_⟩
    rcases h3 v hv with h4 | h4
    ·exact .inl ((hs v).2 (.inl h4))
    ·rcases List.mem_cons.1 h4 with h5 | h5
     ·exact .inl ((hs v).2 (.inr h5))
     ·exact .inr h5
theorem Zoe (v:Nat):WI[v]? = some true↔False:=by
 have:WI=List.replicate 16 false:=rfl
 rw [this,List.getElem?_replicate]
 split <;> simp
theorem ZmP (l:List Int)(hl:l≠[]):pcA l WI 0=0↔Good l:=by
 rw [Zi3 l hl,Zr4 l WI 0 rfl (Int.le_refl _) (by decide)]
 simp only [Zoe,false_or]; exact Iff.rfl
theorem Zof (l:List Int)(h:Good l)(hl:l≠[]):Good (l.map fun x=>mxA l 0 - x):=by
 have hm:=ZqJ l 0
 have hz:(0:Int) ∈ l:=h.2 0 hm.1
 have hM:mxA l 0 ∈ l:=by
  rcases Zdr l 0 with e | e
  ·rw [e]; exact hz
  ·exact e
 have hb:=h.1 _ hM
 refine ⟨fun x hx=>?_,fun v hv=>?_⟩
 ·obtain ⟨y,hy,rfl⟩:=List.mem_map.1 hx
  have:=h.1 y hy
  have:=hm.2 y hy
  omega
 ·have h1:(v:Int)≤mxA l 0:=by
   refine Int.le_trans hv ?_
   rcases Zdr (l.map fun x=>mxA l 0 - x) 0 with e | e
   ·omega
   ·obtain ⟨y,hy,e'⟩:=List.mem_map.1 e
    have:=h.1 y hy
    omega
  have:=h.2 (mxA l 0 - v).toNat (by omega)
  exact List.mem_map.2 ⟨_,this,by omega⟩
theorem ZsG (l:List Int)(hl:l≠[]):Good (l.map fun _=>0):=by
 refine ⟨fun x hx=>?_,fun v hv=>?_⟩
 ·obtain ⟨y,hy,rfl⟩:=List.mem_map.1 hx; decide
 ·have:mxA (l.map fun _=>0) 0=0:=by
   rcases Zdr (l.map fun _=>(0:Int)) 0 with e | e
   ·exact e
   ·obtain ⟨y,hy,e'⟩:=List.mem_map.1 e; exact e'.symm
  obtain ⟨y,hy⟩:=List.exists_mem_of_ne_nil l hl
  exact List.mem_map.2 ⟨y,hy,by omega⟩
end Go.Proofs.YtgjcjbhhhlelnaaGreatDoor
end
noncomputable section
namespace Go.Proofs.YtgjcjbhhhlelnaaGreatDoor
open Go Go.Proofs.YtgjcjbhhhlelnaaGreatDoor.Abs Go.Proofs.YtgjcjbhhhlelnaaGreatDoor.Tl
set_option maxRecDepth 100000
set_option maxHeartbeats 0
def Ej (L:Nat)(x:Zk×(List Int)×PUnit):Option Bool:=fT [] L Zci [] (.one .bool) [.row 19,.lst 1 (.int .i64)] x
def Zem (L:Nat):Sum tT:=mU 9 [.row 19,.lst 1 (.int .i64)] (.one .bool) (Ej L)
theorem ZlR:SX Zem:=fun h=>sT h Zq rfl (by kernel_rfl) fun _=>rfl
theorem ZdA (L:Nat)(x0:Zk)(x1:(List Int)):Ej L (x0,x1,())=some (decide ((↑x0.2.length:Int)≤20) && decide ((↑x0.3.length:Int)≤40) && decide ((↑x1.length:Int)≤40)):=by kernel_rfl
def Uw (L:Nat)(x:(List VQ)×(List VQ)×PUnit):Option Bool:=fT [] L PI [.rnd [.slot 5 (.int .i64)]] (.one .bool) [.lst 3 (.row 18),.lst 3 (.row 18)] x
def Nq (L:Nat):Sum tT:=mU 15 [.lst 3 (.row 18),.lst 3 (.row 18)] (.one .bool) (Uw L)
theorem Zfl:SX Nq:=fun h=>sT h Zq rfl (by kernel_rfl) fun _=>rfl
def Js:List VQ→List VQ→(Int×PUnit→Option Bool)→Int×PUnit→Option Bool:=fun x0 x1 self acc=>bif decide (acc.1 < (↑x0.length:Int)) then bT (ZJ x0 acc.1) fun y=>bT (ZJ x1 acc.1) fun y_1=>bif !(y.1 == y_1.1 && (y.2 == y_1.2 && (y.3 == y_1.3 && true))) then some false else self (Go.IntKind.i64.wrap (acc.1 + 1),()) else some true
theorem Zfd (L:Nat)(x0:(List VQ))(x1:(List VQ)):Uw L (x0,x1,())=bif (↑x0.length:Int) != (↑x1.length:Int) then some false else Zp (Js x0 x1) L (0,()):=by kernel_rfl
def YE (L:Nat)(x:Zk×(List Int)×PUnit):Option (List VQ):=fT [Ub L] L Rx [.rnd [.slot 5 (.own 3 (.row 18)),.slot 15 (.int .i64)]] (.one (.lst 3 (.row 18))) [.row 19,.lst 1 (.int .i64)] x
def Hz (L:Nat):Sum tT:=mU 16 [.row 19,.lst 1 (.int .i64)] (.one (.lst 3 (.row 18))) (YE L)
theorem BA:SX Hz:=fun h=>sT h (Zb (OD h) Zq) rfl (by kernel_rfl) fun _=>rfl
def Qq:Zk→List Int→(List VQ×Int×PUnit→Option (List VQ))→List VQ×Int×PUnit→Option (List VQ):=fun x0 x1 self acc=>bif decide (acc.2.1 < (↑x0.3.length:Int)) then bT (ZJ x0.3 acc.2.1) fun y=>bT (ZJ x1 y.1) fun y_1=>bT (ZJ x1 y.2) fun y_2=>bif y_1 != y_2 then bT (apT 24 acc.1 [y]) fun y=>self (y,Go.IntKind.i64.wrap (acc.2.1 + 1),()) else self (acc.1,Go.IntKind.i64.wrap (acc.2.1 + 1),()) else some acc.1
theorem ZdE (L:Nat)(x0:Zk)(x1:(List Int)):YE L (x0,x1,())=bT (Qd L (x0,x1,())) fun y=>bif y != 0 then some [] else Zp (Qq x0 x1) L ([],0,()):=by kernel_rfl
def OU (L:Nat)(x:Zk×(List Int)×PUnit):Option (List VQ):=fT [Ef L] L Zio [.rnd [.slot 5 (.own 3 (.row 18)),.slot 6 (.int .i64)]] (.one (.lst 3 (.row 18))) [.row 19,.lst 1 (.int .i64)] x
def ZrQ (L:Nat):Sum tT:=mU 17 [.row 19,.lst 1 (.int .i64)] (.one (.lst 3 (.row 18))) (OU L)
def Zgf:Zk→List Int→(List VQ×Int×PUnit→Option (List VQ))→List VQ×Int×PUnit→Option (List VQ):=fun x0 x1 self acc=>bif decide (acc.2.1 < (↑x0.3.length:Int)) then bT (ZJ x0.3 acc.2.1) fun y=>bT (ZJ x1 y.1) fun y_1=>bT (ZJ x1 y.2) fun y_2=>bif y_1 != y_2 then bT (apT 24 acc.1 [y]) fun y=>self (y,Go.IntKind.i64.wrap (acc.2.1 + 1),()) else self (acc.1,Go.IntKind.i64.wrap (acc.2.1 + 1),()) else some acc.1
theorem Zrz (L:Nat)(x0:Zk)(x1:(List Int)):OU L (x0,x1,())=bT (Ib L (x0,x1,())) fun y=>bif y != 0 then some [] else Zp (Zgf x0 x1) L ([],0,()):=by kernel_rfl
def Vb (L:Nat)(x:Zk×(List Int)×PUnit):Option (Int×Bool×PUnit):=fT [Hz L] L Ot [.rnd [.slot 7 (.int .i64),.slot 22 (.int .i64)]] (.tup [.int .i64,.bool]) [.row 19,.lst 1 (.int .i64)] x
def OI (L:Nat):Sum tT:=mU 11 [.row 19,.lst 1 (.int .i64)] (.tup [.int .i64,.bool]) (Vb L)
theorem Zaf:SX OI:=fun h=>sT h (Zb (BA h) Zq) rfl (by kernel_rfl) fun _=>rfl
def Qz:List VQ→(Int×Int×PUnit→Option (Int×Bool×PUnit))→Int×Int×PUnit→Option (Int×Bool×PUnit):=fun y self acc=>bif decide (acc.2.1 < (↑y.length:Int)) then bT (ZJ y acc.2.1) fun y=>self (if y.3 < acc.1 then y.3 else acc.1,Go.IntKind.i64.wrap (acc.2.1 + 1),()) else some (acc.1,true,())
theorem Zab (L:Nat)(x0:Zk)(x1:(List Int)):Vb L (x0,x1,())=bT (YE L (x0,x1,())) fun y=>bif (↑y.length:Int) == 0 then some (0,false,()) else bT (ZJ y 0) fun y_1=>Zp (Qz y) L (y_1.3,0,()):=by kernel_rfl
def ZeC (L:Nat)(x:Zk×(List Int)×PUnit):Option (Int×Bool×PUnit):=fT [ZrQ L] L Zc8 [.rnd [.slot 7 (.int .i64),.slot 8 (.int .i64)]] (.tup [.int .i64,.bool]) [.row 19,.lst 1 (.int .i64)] x
def ZjB:List VQ→(Int×Int×PUnit→Option (Int×Bool×PUnit))→Int×Int×PUnit→Option (Int×Bool×PUnit):=fun y self acc=>bif decide (acc.2.1 < (↑y.length:Int)) then bT (ZJ y acc.2.1) fun y=>self (if y.3 < acc.1 then y.3 else acc.1,Go.IntKind.i64.wrap (acc.2.1 + 1),()) else some (acc.1,true,())
theorem ZlE (L:Nat)(x0:Zk)(x1:(List Int)):ZeC L (x0,x1,())=bT (OU L (x0,x1,())) fun y=>bif (↑y.length:Int) == 0 then some (0,false,()) else bT (ZJ y 0) fun y_1=>Zp (ZjB y) L (y_1.3,0,()):=by kernel_rfl
def QC (L:Nat)(x:Zk×(List Int)×PUnit):Option Bool:=fT [ZrP,Ub L,Nq L,OI L,Hz L,Ef L,Zem L] L U2 [.rnd [.slot 9 (.int .i64),.slot 10 (.int .i64)],.rnd [.slot 8 (.int .i64),.slot 11 (.int .i64)],.rnd [.slot 13 .bool,.slot 14 (.int .i64)],.rnd [.slot 15 (.own 1 (.int .i64)),.slot 16 (.own 1 (.int .i64)),.slot 17 (.int .i64)]] (.one .bool) [.row 19,.lst 1 (.int .i64)] x
def BQ (L:Nat):Sum tT:=mU 4 [.row 19,.lst 1 (.int .i64)] (.one .bool) (QC L)
theorem Bq:SX BQ:=fun h=>sT h (Zb (ZwL h) (Zb (OD h) (Zb (Zfl h) (Zb (Zaf h) (Zb (BA h) (Zb (Zmk h) (Zb (ZlR h) Zq))))))) rfl (by kernel_rfl) fun _=>rfl
def YA:Zk→List Int→Nat→List VQ→Int×Bool×PUnit→Int×Int×PUnit→Int×Int×PUnit→Bool×Int×PUnit→(List Int×List Int×Int×PUnit→Option Bool)→List Int×List Int×Int×PUnit→Option Bool:=fun x0 x1 L y y_1 acc acc_1 acc_2 self acc_3=>bif decide (acc_3.2.2.1 < (↑x1.length:Int)) then bT (ZJ x1 acc_3.2.2.1) fun y=>bT (apT 8 acc_3.1 [Go.IntKind.i64.wrap (acc.1 - y)]) fun y=>bT (apT 8 acc_3.2.1 [0]) fun y_2=>self (y,y_2,Go.IntKind.i64.wrap (acc_3.2.2.1 + 1),()) else bT (bif (acc_1.1 == (↑y.length:Int) && y_1.2.1 == decide (acc_1.1 > 0) && acc_2.1 == y_1.2.1) == true then bT (YE L (x0,acc_3.1,())) fun y_2=>bT (Uw L (y_2,y,())) fun y=>some y else some false) fun y=>bT (bif y == true then bT (YE L (x0,acc_3.2.1,())) fun y=>some ((↑y.length:Int) == 0) else some false) fun y=>bT (bif y == true then bT (Qd L (x0,acc_3.2.1,())) fun y=>some (y == 0) else some false) fun y=>some (y && true)
def Wu:Zk→List Int→Nat→List VQ→Int×Bool×PUnit→Int×Int×PUnit→Int×Int×PUnit→(Bool×Int×PUnit→Option Bool)→Bool×Int×PUnit→Option Bool:=fun x0 x1 L y y_1 acc acc_1 self acc_2=>bif decide (acc_2.2.1 < (↑y.length:Int)) then bT (bif acc_2.1 == false then bT (ZJ y acc_2.2.1) fun y=>some (y.3 == y_1.1) else some true) fun y=>self (y,Go.IntKind.i64.wrap (acc_2.2.1 + 1),()) else Zp (YA x0 x1 L y y_1 acc acc_1 acc_2) L ([],[],0,())
def YB:Zk→List Int→Nat→List VQ→Int×Bool×PUnit→Int×Int×PUnit→(Int×Int×PUnit→Option Bool)→Int×Int×PUnit→Option Bool:=fun x0 x1 L y y_1 acc self acc_1=>bif decide (acc_1.2.1 < (↑x0.3.length:Int)) then bT (ZJ x0.3 acc_1.2.1) fun y_2=>bT (ZJ x1 y_2.1) fun y_3=>bT (ZJ x1 y_2.2) fun y_4=>bif y_3 == y_4 then self (acc_1.1,Go.IntKind.i64.wrap (acc_1.2.1 + 1),()) else bT (bif decide (acc_1.1 ≥ (↑y.length:Int)) == false then bT (ZJ y acc_1.1) fun y=>some !(y.1 == y_2.1 && (y.2 == y_2.2 && (y.3 == y_2.3 && true))) else some true) fun y=>bif y || decide (y_1.1 > y_2.3) then some false else self (Go.IntKind.i64.wrap (acc_1.1 + 1),Go.IntKind.i64.wrap (acc_1.2.1 + 1),()) else Zp (Wu x0 x1 L y y_1 acc acc_1) L (false,0,())
def Wv:Zk→List Int→Nat→List VQ→Int×Bool×PUnit→(Int×Int×PUnit→Option Bool)→Int×Int×PUnit→Option Bool:=fun x0 x1 L y y_1 self acc=>bif decide (acc.2.1 < (↑x1.length:Int)) then bT (ZJ x1 acc.2.1) fun y=>self (if y > acc.1 then y else acc.1,Go.IntKind.i64.wrap (acc.2.1 + 1),()) else Zp (YB x0 x1 L y y_1 acc) L (0,0,())
theorem U8 (L:Nat)(x0:Zk)(x1:(List Int)):QC L (x0,x1,())=bT (Ej L (x0,x1,())) fun y=>bT (bif (!y) == false then bT (Ib L (x0,x1,())) fun y=>some (y != 0) else some true) fun y=>bif y then some true else bT (YE L (x0,x1,())) fun y=>bT (Vb L (x0,x1,())) fun y_1=>Zp (Wv x0 x1 L y y_1) L (0,0,()):=by kernel_rfl
end Go.Proofs.YtgjcjbhhhlelnaaGreatDoor
end
section
namespace Go.Proofs.YtgjcjbhhhlelnaaGreatDoor
open Go Go.Proofs.YtgjcjbhhhlelnaaGreatDoor.Abs Go.Proofs.YtgjcjbhhhlelnaaGreatDoor.Tl
set_option maxRecDepth 100000
theorem Zl {α:Type}(c:Bool)(a b:α):(bif c then some a else some b)=some (bif c then a else b):=by cases c <;> rfl
theorem Zm (c:Bool)(x:Option Bool):(bif c == true then x else some false)=bif c then x else some false:=by cases c <;> rfl
theorem condC (c:Bool)(x:Option Bool):(bif c == false then x else some true)=bif c then some true else x:=by cases c <;> rfl
theorem Zi (c x:Bool):(bif c == true then x else false)=(c && x):=by cases c <;> rfl
theorem Zh (c x:Bool):(bif c == false then x else true)=(c || x):=by cases c <;> rfl
theorem Xu {α:Type}(c:Prop)[Decidable c](a b:α):(if c then some a else some b)=some (if c then a else b):=by split <;> rfl
theorem Yu {α:Type}(c:Bool)(a b:α):(bif c then a else b)=if c=true then a else b:=by cases c <;> rfl
theorem Za {α:Type}(o:Option α):bT o (fun y=>some y)=o:=by cases o <;> rfl
theorem Z5 {α:Type}[DecidableEq α](a b:α):(a != b)=!decide (a=b):=by
 by_cases h:a=b <;> simp [bne,h]
theorem ZH (a b:Int):(a == b)=decide (a=b):=by
 by_cases h:a=b <;> simp [h]
theorem ZP (a b:List UInt8):(a == b)=decide (a=b):=by
 by_cases h:a=b <;> simp [h]
abbrev Len {α:Type}(l:List α):Prop:=l.length≤4611686018427387
theorem CV {τ ρ:Type}{f:(τ→Option ρ)→τ→Option ρ}(n:Nat)(pk:Int→τ)(R:Nat→Option ρ)
  (h1:∀ self (i:Nat),i < n→self (pk ((i:Int) + 1))=R (i + 1)→f self (pk i)=R i)
  (h2:∀ self,f self (pk n)=R n):∀ (m i:Nat),i≤n→n - i < m→Zp f m (pk i)=R i
 | 0,_,_,h=>absurd h (Nat.not_lt_zero _)
 | m + 1,i,hi,hm=>by
  show f (Zp f m) (pk i)=_
  rcases Nat.lt_or_ge i n with hlt | hge
  ·exact h1 _ i hlt (CV n pk R h1 h2 m (i + 1) hlt (by omega))
  ·have:i=n:=by omega
   subst this
   exact h2 _
theorem ZiR {τ α σ ρ:Type}{f:(τ→Option ρ)→τ→Option ρ}(l:List α)(pk:σ→Int→τ)(R:List α→σ→Option ρ)
  (h1:∀ self s (i:Nat) x r,l[i]? = some x→i < l.length→x ∈ l→(∀ s',self (pk s' ((i:Int) + 1))=R r s')→f self (pk s i)=R (x :: r) s)
  (h2:∀ self s,f self (pk s (l.length:Nat))=R [] s):∀ (m i:Nat) (s:σ),i≤l.length→l.length - i < m→Zp f m (pk s i)=R (l.drop i) s
 | 0,_,_,_,h=>absurd h (Nat.not_lt_zero _)
 | m + 1,i,s,hi,hm=>by
  show f (Zp f m) (pk s i)=_
  rcases Nat.lt_or_ge i l.length with hlt | hge
  ·have hx:=List.getElem?_eq_getElem hlt
   rw [List.drop_eq_getElem_cons hlt]
   exact h1 _ s i _ _ hx hlt (List.getElem_mem hlt) fun s'=>ZiR l pk R h1 h2 m (i + 1) s' hlt (by omega)
  ·have:i=l.length:=by omega
   subst this
   rw [h2,List.drop_length]
theorem CU {α ρ:Type}{f:(Int×PUnit→Option ρ)→Int×PUnit→Option ρ}(l:List α)(R:List α→Option ρ){m:Nat}(hm:l.length < m)
  (h1:∀ self (i:Nat) x r,l[i]? = some x→i < l.length→x ∈ l→self ((i:Int) + 1,())=R r→f self ((i:Int),())=R (x :: r))
  (h2:∀ self,f self ((l.length:Int),())=R []):Zp f m (0,())=R l :=
 ZiR (σ := Unit) l (fun _ i=>(i,())) (fun l _=>R l) (fun self _ i x r a b c d=>h1 self i x r a b c (d ())) (fun self _=>h2 self) m 0 () (Nat.zero_le _) (by omega)
theorem ZkI {α ρ:Type}{f:(Int×PUnit→Option ρ)→Int×PUnit→Option ρ}(l:List α)(R:List α→Int→Option ρ){m:Nat}(hm:l.length < m)
  (h1:∀ self (i:Nat) x r,l[i]? = some x→i < l.length→x ∈ l→self ((i:Int) + 1,())=R r ((i:Int) + 1)→f self ((i:Int),())=R (x :: r) i)
  (h2:∀ self,f self ((l.length:Int),())=R [] l.length):Zp f m (0,())=R l 0:=by
 have:=CV (f := f) l.length (fun i=>(i,())) (fun i=>R (l.drop i) i) (fun self i hi e=>by
  have hx:=List.getElem?_eq_getElem hi
  rw [List.drop_eq_getElem_cons hi]
  exact h1 self i _ _ hx hi (List.getElem_mem hi) e) (fun self=>by rw [List.drop_length]; exact h2 self) m 0 (Nat.zero_le _) (by omega)
 exact this
theorem NS {α σ ρ:Type}{f:(σ×Int×PUnit→Option ρ)→σ×Int×PUnit→Option ρ}(l:List α)(R:List α→σ→Option ρ){m:Nat}(hm:l.length < m)(s:σ)
  (h1:∀ self s (i:Nat) x r,l[i]? = some x→i < l.length→x ∈ l→(∀ s',self (s',(i:Int) + 1,())=R r s')→f self (s,(i:Int),())=R (x :: r) s)
  (h2:∀ self s,f self (s,(l.length:Int),())=R [] s):Zp f m (s,0,())=R l s :=
 ZiR l (fun s i=>(s,i,())) R h1 h2 m 0 s (Nat.zero_le _) (by omega)
theorem ZeV {α β ρ:Type}{f:(Int×PUnit→Option ρ)→Int×PUnit→Option ρ}(l:List α)(l':List β)(hl:l.length=l'.length)(R:List α→List β→Option ρ){m:Nat}(hm:l.length < m)
  (h1:∀ self (i:Nat) x y r r',l[i]? = some x→l'[i]? = some y→i < l.length→x ∈ l→self ((i:Int) + 1,())=R r r'→f self ((i:Int),())=R (x :: r) (y :: r'))
  (h2:∀ self,f self ((l.length:Int),())=R [] []):Zp f m (0,())=R l l':=by
 have:=CV (f := f) l.length (fun i=>(i,())) (fun i=>R (l.drop i) (l'.drop i)) (fun self i hi e=>by
  have hx:=List.getElem?_eq_getElem hi
  have hy:=List.getElem?_eq_getElem (show i < l'.length by omega)
  rw [List.drop_eq_getElem_cons hi,List.drop_eq_getElem_cons (show i < l'.length by omega)]
  exact h1 self i _ _ _ _ hx hy hi (List.getElem_mem hi) e) (fun self=>by rw [List.drop_length,hl,List.drop_length]; rw [← hl]; exact h2 self) m 0 (Nat.zero_le _) (by omega)
 exact this
end Go.Proofs.YtgjcjbhhhlelnaaGreatDoor
end
section
namespace Go.Proofs.YtgjcjbhhhlelnaaGreatDoor
open Go Go.Proofs.YtgjcjbhhhlelnaaGreatDoor.Abs Go.Proofs.YtgjcjbhhhlelnaaGreatDoor.Tl
set_option maxRecDepth 100000
theorem Zno (L:Nat)(n:Int):V4 L (n,())=some (Zu3 n):=ZeY L n
theorem Zd3 (L:Nat)(n:Int):UJ L (n,())=some (Zu3 n):=Zjz L n
theorem chainB (x:List UInt8):∀ l:List (List UInt8),(l.foldr (fun k r=>bif x == k then some true else r) (some false):Option Bool)=some (l.any fun k=>decide (x=k))
 | []=>rfl
 | k :: l=>by
  rw [List.foldr_cons,chainB x l,ZP,List.any_cons]
  cases decide (x=k) <;> rfl
theorem Zrc (L:Nat)(s:List UInt8):J4 L (s,())=some (kwB s):=(ZdD L s).trans (chainB s kws)
theorem Zjd (L:Nat)(l:List (List UInt8))(s:List UInt8)(hl:Len l)(hL:l.length < L):Jd L (l,s,())=some (GU (fun k=>decide (k=s)) l 0):=by
 rw [Zo4]
 refine ZkI l (fun l i=>some (GU (fun k=>decide (k=s)) l i)) hL (fun self i x r hx hi _ e=>?_) (fun self=>?_)
 ·rw [S9]; simp only [Zj,Zc,cond_true,cond_false,Zg,Zx,Za,Zm,condC,Zi,Zh,Zl,ZH,ZP,Z5,hi,hx,wrap_succ hi (by omega),e,GU]; simp only [Yu,Xu,if_true,if_false,Bool.false_eq_true,ne_eq,decide_not,gt_iff_lt,ge_iff_le]
 ·rw [S9]; simp only [Zj,Zc,cond_true,cond_false,Zg,Zx,Za,Zm,condC,Zi,Zh,Zl,ZH,ZP,Z5,GU]
theorem Zjh (L:Nat)(s:List UInt8)(hL:100≤L):Gp L (s,())=some (kwB s):=by
 rw [Zh3,show Us L ()=some kws from Zfa L,Zx,Zjd L kws s (by decide) (by have:kws.length=73:=rfl; omega),Zx]
 have:=CJ (fun k=>decide (k=s)) kws 0 (Int.le_refl _)
 rw [show decide (GU (fun k=>decide (k=s)) kws 0 ≥ 0)=_ from this]
 unfold kwB
 congr 2; funext k; exact decide_eq_decide.2 ⟨Eq.symm,Eq.symm⟩
theorem Znc (s:List UInt8):VE s=bif (decide (s=[]) || decide ((s.length:Int) > 24)) || (!Zu3 ((s.headD 0).toNat)) || kwB s then 3 else bif s.all (fun x=>ZgD x.toNat) then 0 else 3:=by
 cases s with
 | nil=>simp [VE]
 | cons c r =>
  simp only [VE,List.headD_cons,reduceCtorEq,decide_false,Bool.false_or]
  rw [show (decide ((((c :: r).length:Nat):Int) > 24))=decide (24 < (c :: r).length) from decide_eq_decide.2 (by omega)]
  by_cases h1:24 < (c :: r).length <;> cases Zu3 (c.toNat:Int) <;> cases kwB (c :: r) <;> cases (c :: r).all (fun x=>ZgD x.toNat) <;> simp [h1]
theorem ZvV (c:Bool)(x:UInt8):(!c && (decide ((x.toNat:Int) < 48) || decide ((x.toNat:Int) > 57)) && (!decide ((x.toNat:Int)=95)))=!(c || decide ((x.toNat:Int)=95) || (decide (48≤(x.toNat:Int)) && decide ((x.toNat:Int)≤57))):=by
 rw [show decide (48≤(x.toNat:Int))=!decide ((x.toNat:Int) < 48) by rw [← decide_not]; congr 1; exact propext Int.not_lt.symm,show decide ((x.toNat:Int)≤57)=!decide ((x.toNat:Int) > 57) by rw [← decide_not]; congr 1; exact propext Int.not_lt.symm]
 cases c <;> cases decide ((x.toNat:Int)=95) <;> cases decide ((x.toNat:Int) < 48) <;> cases decide ((x.toNat:Int) > 57) <;> rfl
theorem ZvU (L:Nat)(s:List UInt8)(h:Len s)(hL:s.length < L):Zp (Um s L) L (0,())=some (bif s.all (fun x=>ZgD x.toNat) then 0 else 3):=by
 refine CU s (fun s=>some (bif s.all (fun x=>ZgD x.toNat) then 0 else 3)) hL (fun self i x r hx hi _ e=>?_) (fun self=>?_)
 ·rw [Um]
  simp only [Zj,Zc,cond_true,cond_false,Zg,Zx,Za,Zm,condC,Zi,Zh,Zl,ZH,ZP,Z5,hi,hx,Zno,wrap_succ hi (by omega),e,Z5,ZvV,List.all_cons,ZgD]
  cases (Zu3 (x.toNat:Int) || decide ((x.toNat:Int)=95) || (decide (48≤(x.toNat:Int)) && decide ((x.toNat:Int)≤57))) <;> rfl
 ·rw [Um]; simp only [Zj,Zc,cond_true,cond_false,Zg,Zx,Za,Zm,condC,Zi,Zh,Zl,ZH,ZP,Z5,List.all_nil]
theorem QK (L:Nat)(s:List UInt8)(h:Len s)(hL:s.length < L):ZK L (s,())=some (VE s):=by
 rw [Zh1,ZvU L s h hL,Znc,Zuy]
 cases s with
 | nil=>rfl
 | cons c r =>
  simp only [Zj,Zc,cond_true,cond_false,Zg,Zx,Za,Zm,condC,Zi,Zh,Zl,ZH,ZP,Z5,List.getElem?_cons_zero,Zno,Zrc,List.headD_cons,reduceCtorEq,decide_false,Bool.false_or,Bool.or_assoc]
theorem ZtQ (L:Nat)(s:List UInt8)(h:Len s)(hL:s.length < L):Zp (Iu s L) L (0,())=some (bif s.all (fun x=>ZgD x.toNat) then 0 else 3):=by
 refine CU s (fun s=>some (bif s.all (fun x=>ZgD x.toNat) then 0 else 3)) hL (fun self i x r hx hi _ e=>?_) (fun self=>?_)
 ·rw [Iu]
  simp only [Zj,Zc,cond_true,cond_false,Zg,Zx,Za,Zm,condC,Zi,Zh,Zl,ZH,ZP,Z5,hi,hx,Zd3,wrap_succ hi (by omega),e,Z5,List.all_cons,ZgD,Zm,condC,Zl]
  rw [show decide (48≤(x.toNat:Int))=!decide ((x.toNat:Int) < 48) by rw [← decide_not]; congr 1; exact propext Int.not_lt.symm,show decide ((x.toNat:Int)≤57)=!decide ((x.toNat:Int) > 57) by rw [← decide_not]; congr 1; exact propext Int.not_lt.symm]
  cases Zu3 (x.toNat:Int) <;> cases decide ((x.toNat:Int)=95) <;> cases decide ((x.toNat:Int) < 48) <;> cases decide ((x.toNat:Int) > 57) <;> rfl
 ·rw [Iu]; simp only [Zj,Zc,cond_true,cond_false,Zg,Zx,Za,Zm,condC,Zi,Zh,Zl,ZH,ZP,Z5,List.all_nil]
theorem JX (L:Nat)(s:List UInt8)(h:Len s)(hL:s.length < L)(h1:100≤L):Qm L (s,())=some (VE s):=by
 rw [Zlp,ZtQ L s h hL,Znc,Zuy]
 cases s with
 | nil=>rfl
 | cons c r =>
  have:decide ((((c :: r).length:Nat):Int) < 1)=false:=by simp only [List.length_cons,decide_eq_false_iff_not]; omega
  simp only [Zj,Zc,cond_true,cond_false,Zg,Zx,Za,Zm,condC,Zi,Zh,Zl,ZH,ZP,Z5,List.getElem?_cons_zero,Zd3,Zjh L _ h1,List.headD_cons,this,reduceCtorEq,decide_false,Bool.false_or,Bool.or_assoc]
theorem ZI {α:Type}[SizeOf α]:∀ l:List α,l.length < SizeOf.sizeOf l
 | []=>by simp
 | x :: l=>by have:=ZI l; simp only [List.length_cons,List.cons.sizeOf_spec]; omega
theorem Zue (d:We):SizeOf.sizeOf d.Values < SizeOf.sizeOf d∧SizeOf.sizeOf d.Weights < SizeOf.sizeOf d:=by cases d; simp; omega
theorem Zje (L:Nat)(a b c:Int):YV L (a,b,c,())=some (btw a b c):=Zh2 L a b c
theorem ZbR (L:Nat)(lo hi:Int)(l:List Int)(h:Len l)(hL:l.length < L):YG L (lo,hi,l,())=some (Qh lo hi l):=by
 have:=ZkI (f := Uk lo hi l) l (fun l i=>some (GU (ZuC lo hi) l i)) hL (fun self i x r hx hi' _ e=>by
  rw [Uk]; simp only [Zj,Zc,cond_true,cond_false,Zg,Zx,Za,Zm,condC,Zi,Zh,Zl,ZH,ZP,Z5,hi',hx,wrap_succ hi' (by omega),e,GU]; simp only [Yu,Xu,if_true,if_false,Bool.false_eq_true,ne_eq,decide_not,gt_iff_lt,ge_iff_le]; rfl) (fun self=>by rw [Uk]; simp only [Zj,Zc,cond_true,cond_false,Zg,Zx,Za,Zm,condC,Zi,Zh,Zl,ZH,ZP,Z5,GU])
 have h2:decide (GU (ZuC lo hi) l 0 ≥ 0)=l.any (ZuC lo hi):=CJ (ZuC lo hi) l 0 (Int.le_refl _)
 simp only [Zhv,this,Zx,h2,Qh]
theorem Zrn (L:Nat)(h:2 < L)(lo hi a:Int):YG L (lo,hi,[a],())=some (Qh lo hi [a]):=ZbR L lo hi [a] (by simp [Len]) (by simp; omega)
theorem Zro (L:Nat)(h:2 < L)(lo hi a b:Int):YG L (lo,hi,[a,b],())=some (Qh lo hi [a,b]):=ZbR L lo hi [a,b] (by simp [Len]) (by simpa using h)
theorem ZtG (L:Nat)(d:We)(h:JH d):Gj L (d,())=some (Ei d):=by
 simp only [Zj,Zc,cond_true,cond_false,Zg,Zx,Za,Zm,condC,Zi,Zh,Zl,ZH,ZP,Z5,Zhu,h.wr,Ei]; simp only [Yu,Xu,if_true,if_false,Bool.false_eq_true,ne_eq,decide_not,gt_iff_lt,ge_iff_le]
theorem Tv (L:Nat)(d:We)(h:JH d)(hL:SizeOf.sizeOf d < L)(h1:100≤L):QB L (d,())=some (LQ d):=by
 have hs:d.Values.length < L∧d.Weights.length < L:=by
  have:=ZI d.Values; have:=ZI d.Weights; have:=Zue d; omega
 simp only [Zj,Zc,cond_true,cond_false,Zg,Zx,Za,Zm,condC,Zi,Zh,Zl,ZH,ZP,Z5,Zjq,ZtG L d h,LQ,ZbR L _ _ _ h.v hs.1,ZbR L _ _ _ h.w hs.2,Zrn L (by omega),Zro L (by omega)]
 simp only [Yu,Xu,if_true,if_false,Bool.false_eq_true,ne_eq,decide_not,gt_iff_lt,ge_iff_le]
theorem Zla (L:Nat)(d:We):IC L (d,())=some (Ze6 d):=by
 simp only [Zj,Zc,cond_true,cond_false,Zg,Zx,Za,Zm,condC,Zi,Zh,Zl,ZH,ZP,Z5,Zjy,Ze6]; simp only [Yu,Xu,if_true,if_false,Bool.false_eq_true,ne_eq,decide_not,gt_iff_lt,ge_iff_le]
theorem Zw6 (L:Nat)(d:We)(h:JH d)(hL:SizeOf.sizeOf d < L):MH L (d,())=some (ZnA d):=by
 have hs:d.Values.length < L∧d.Weights.length < L:=by
  have:=ZI d.Values; have:=ZI d.Weights; have:=Zue d; omega
 rw [Zlo,ZnA]
 by_cases hl:d.Values.length=d.Weights.length
 ·rw [ZeV d.Values d.Weights hl (fun l m=>some (ZuP l m)) hs.1 (fun self i x y r r' hx hy hi _ e=>by
   have hv:=h.v
   rw [RU]; simp only [Zj,Zc,cond_true,cond_false,Zg,Zx,Za,Zm,condC,Zi,Zh,Zl,ZH,ZP,Z5,hi,hx,hy,Zje,wrap_succ hi (by omega),e,ZuP]; simp only [Yu,Xu,if_true,if_false,Bool.false_eq_true,ne_eq,decide_not,gt_iff_lt,ge_iff_le]) (fun self=>by rw [RU]; simp only [Zj,Zc,cond_true,cond_false,Zg,Zx,Za,Zm,condC,Zi,Zh,Zl,ZH,ZP,Z5,ZuP])]
  simp only [Zj,Zc,cond_true,cond_false,Zg,Zx,Za,Zm,condC,Zi,Zh,Zl,ZH,ZP,Z5]; simp only [Yu,Xu,if_true,if_false,Bool.false_eq_true,ne_eq,decide_not,gt_iff_lt,ge_iff_le]
 ·simp only [Yu,Xu,if_true,if_false,Bool.false_eq_true,ne_eq,decide_not,gt_iff_lt,ge_iff_le,ZH,Z5,Bool.not_false,show decide ((d.Values.length:Int)=d.Weights.length)=false by simp only [decide_eq_false_iff_not]; omega]
theorem Dw (L:Nat)(d:We)(h:JH d)(hL:SizeOf.sizeOf d < L):VM L (d,())=some (LQ d):=by
 rw [← ZgH]
 simp only [Zj,Zc,cond_true,cond_false,Zg,Zx,Za,Zm,condC,Zi,Zh,Zl,ZH,ZP,Z5,Zln,Zla,Zs2,Zje,Zw6 L d h hL]; simp only [Yu,Xu,if_true,if_false,Bool.false_eq_true,ne_eq,decide_not,gt_iff_lt,ge_iff_le]
end Go.Proofs.YtgjcjbhhhlelnaaGreatDoor
end
section
namespace Go.Proofs.YtgjcjbhhhlelnaaGreatDoor
open Go Go.Proofs.YtgjcjbhhhlelnaaGreatDoor.Abs Go.Proofs.YtgjcjbhhhlelnaaGreatDoor.Tl
set_option maxRecDepth 100000
theorem ZrO (e:Zu):SizeOf.sizeOf e.Kids < SizeOf.sizeOf e∧SizeOf.sizeOf e.Name < SizeOf.sizeOf e:=by cases e; simp; omega
theorem Yi.nl {e:Zu}(h:Yi e):Len e.Name:=by have:=h.n; unfold Len; omega
theorem Zjl (L:Nat):∀ (m:Nat) (e:Zu),Yi e→SizeOf.sizeOf e≤m→m≤L→Gu L m (e,())=some (ZpK e)
 | 0,e,h,hs,_=>absurd hs (by have:=Na e; omega)
 | m + 1,e,h,hs,hm=>by
  have hk:=ZI e.Kids; have hz:=ZrO e; have hl:=h.k
  rw [Zjt,ZpL]
  refine NS e.Kids (fun l s=>some (sumW ZpK l s)) (by omega) 1 (fun self s i x r hx hi mem e'=>?_) (fun self s=>?_)
  ·have ih:=Zjl L m x (h.Kids.2 x mem) (by have:=Aa mem; omega) (by omega)
   rw [Tu]; simp only [Zj,Zc,cond_true,cond_false,Zg,Zx,Za,Zm,condC,Zi,Zh,Zl,ZH,ZP,Z5,hi,hx,ih,wrap_succ hi (by omega),e',sumW]
  ·rw [Tu]; simp only [Zj,Zc,cond_true,cond_false,Zg,Zx,Za,Zm,condC,Zi,Zh,Zl,ZH,ZP,Z5,sumW]
theorem Zjn (L:Nat):∀ (m:Nat) (e:Zu),Yi e→SizeOf.sizeOf e≤m→m≤L→IL L m (e,())=some (ZpK e)
 | 0,e,h,hs,_=>absurd hs (by have:=Na e; omega)
 | m + 1,e,h,hs,hm=>by
  have hk:=ZI e.Kids; have hz:=ZrO e; have hl:=h.k
  rw [Zlt,ZpL]
  refine NS e.Kids (fun l s=>some (sumW ZpK l s)) (by omega) 1 (fun self s i x r hx hi mem e'=>?_) (fun self s=>?_)
  ·have ih:=Zjn L m x (h.Kids.2 x mem) (by have:=Aa mem; omega) (by omega)
   rw [RX]; simp only [Zj,Zc,cond_true,cond_false,Zg,Zx,Za,Zm,condC,Zi,Zh,Zl,ZH,ZP,Z5,hi,hx,ih,wrap_succ hi (by omega),e',sumW]
  ·rw [RX]; simp only [Zj,Zc,cond_true,cond_false,Zg,Zx,Za,Zm,condC,Zi,Zh,Zl,ZH,ZP,Z5,sumW]
theorem Zjk (L:Nat):∀ (m:Nat) (e:Zu),Yi e→SizeOf.sizeOf e≤m→m≤L→Gt L m (e,())=some (Zph e)
 | 0,e,h,hs,_=>absurd hs (by have:=Na e; omega)
 | m + 1,e,h,hs,hm=>by
  have hk:=ZI e.Kids; have hz:=ZrO e; have hl:=h.k
  rw [Zjs,ZpQ]
  refine NS e.Kids (fun l s=>some (IntKind.i64.wrap (Ztg Zph l s + 1))) (by omega) 0 (fun self s i x r hx hi mem e'=>?_) (fun self s=>?_)
  ·have ih:=Zjk L m x (h.Kids.2 x mem) (by have:=Aa mem; omega) (by omega)
   rw [Tt]; simp only [Zj,Zc,cond_true,cond_false,Zg,Zx,Za,Zm,condC,Zi,Zh,Zl,ZH,ZP,Z5,hi,hx,ih,wrap_succ hi (by omega),e',Ztg]
  ·rw [Tt]; simp only [Zj,Zc,cond_true,cond_false,Zg,Zx,Za,Zm,condC,Zi,Zh,Zl,ZH,ZP,Z5,Ztg]
theorem Zjm (L:Nat):∀ (m:Nat) (e:Zu),Yi e→SizeOf.sizeOf e≤m→m≤L→IK L m (e,())=some (Zph e)
 | 0,e,h,hs,_=>absurd hs (by have:=Na e; omega)
 | m + 1,e,h,hs,hm=>by
  have hk:=ZI e.Kids; have hz:=ZrO e; have hl:=h.k
  rw [Zls,ZpQ]
  refine NS e.Kids (fun l s=>some (IntKind.i64.wrap (Ztg Zph l s + 1))) (by omega) 0 (fun self s i x r hx hi mem e'=>?_) (fun self s=>?_)
  ·have ih:=Zjm L m x (h.Kids.2 x mem) (by have:=Aa mem; omega) (by omega)
   rw [RV]; simp only [Zj,Zc,cond_true,cond_false,Zg,Zx,Za,Zm,condC,Zi,Zh,Zl,ZH,ZP,Z5,hi,hx,ih,wrap_succ hi (by omega),e',Ztg]
  ·rw [RV]; simp only [Zj,Zc,cond_true,cond_false,Zg,Zx,Za,Zm,condC,Zi,Zh,Zl,ZH,ZP,Z5,Ztg]
theorem Znq (L:Nat)(n:Int):Jz L (n,())=some (ZqM n):=Zhw L n
theorem ZuF (L:Nat)(n:Int):H8 L (n,())=some (ZiM n):=by
 simp only [Zj,Zc,cond_true,cond_false,Zg,Zx,Za,Zm,condC,Zi,Zh,Zl,ZH,ZP,Z5,Zlm,ZiM]; simp only [Yu,Xu,if_true,if_false,Bool.false_eq_true,ne_eq,decide_not,gt_iff_lt,ge_iff_le]
theorem Zwx (L:Nat)(k:QM)(n:Int):Xk L (k,n,())=some (Zdl k.1 n):=by
 simp only [Zj,Zc,cond_true,cond_false,Zg,Zx,Za,Zm,condC,Zi,Zh,Zl,ZH,ZP,Z5,Su,ZuF,Zdl]; simp only [Yu,Xu,if_true,if_false,Bool.false_eq_true,ne_eq,decide_not,gt_iff_lt,ge_iff_le]
theorem Zwy (L:Nat)(k:QM)(n:Int):Qk L (k,n,())=some (ZfQ k.1 n):=by
 simp only [Zj,Zc,cond_true,cond_false,Zg,Zx,Za,Zm,condC,Zi,Zh,Zl,ZH,ZP,Z5,Sv,Znq,ZfQ]
theorem Zrh (L:Nat)(k:QM)(n:Int):Q9 L (k,n,())=some ((ZrY k.1 n).1,(ZrY k.1 n).2.1,(ZrY k.1 n).2.2,()):=by
 simp only [Zj,Zc,cond_true,cond_false,Zg,Zx,Za,Zm,condC,Zi,Zh,Zl,ZH,ZP,Z5,RS,Znq,ZrY]
 cases decide (n=2) <;> cases decide (n=25) <;> cases decide (n=26) <;> cases ZqM n <;> cases k.1 <;> rfl
theorem Z0H (L:Nat)(n:Int):DD L (n,())=some (inB n):=ZtM L n
theorem ZyY (L:Nat)(k:QM)(e:Zu)(h:Yi e)(hL:SizeOf.sizeOf e≤L):XB L (k,e,())=some (Zb7 k.1 e):=by
 have hn:=QK L e.Name h.nl (by have:=ZI e.Name; have:=ZrO e; omega)
 simp only [Zj,Zc,cond_true,cond_false,Zg,Zx,Za,Zm,condC,Zi,Zh,Zl,ZH,ZP,Z5,Aq,Zwx,ZuF,Zwy,Zrh,Z0H,hn,Zb7]; simp only [Yu,Xu,if_true,if_false,Bool.false_eq_true,ne_eq,decide_not,gt_iff_lt,ge_iff_le,Bool.or_assoc]
theorem Znx (L:Nat)(k:QM):∀ (m:Nat) (e:Zu),Yi e→SizeOf.sizeOf e≤m→m≤L→QL L m (k,e,())=some (JK k.1 e)
 | 0,e,h,hs,_=>absurd hs (by have:=Na e; omega)
 | m + 1,e,h,hs,hm=>by
  have hk:=ZI e.Kids; have hz:=ZrO e; have hl:=h.k
  have lp:Zp (QI m k e L) L (0,())=some (Yk (JK k.1) e.Kids):=by
   refine CU e.Kids (fun l=>some (Yk (JK k.1) l)) (by omega) (fun self i x r hx hi mem e'=>?_) (fun self=>?_)
   ·have ih:=Znx L k m x (h.Kids.2 x mem) (by have:=Aa mem; omega) (by omega)
    rw [QI]; simp only [Zj,Zc,cond_true,cond_false,Zg,Zx,Za,Zm,condC,Zi,Zh,Zl,ZH,ZP,Z5,hi,hx,ih,wrap_succ hi (by omega),e',Yk]; simp only [Yu,Xu,if_true,if_false,Bool.false_eq_true,ne_eq,decide_not,gt_iff_lt,ge_iff_le]
   ·rw [QI]; simp only [Zj,Zc,cond_true,cond_false,Zg,Zx,Za,Zm,condC,Zi,Zh,Zl,ZH,ZP,Z5,Yk]
  rw [Sz,Zdt,lp,ZyY L k e h (by omega)]
  simp only [Zj,Zc,cond_true,cond_false,Zg,Zx,Za,Zm,condC,Zi,Zh,Zl,ZH,ZP,Z5]; simp only [Yu,Xu,if_true,if_false,Bool.false_eq_true,ne_eq,decide_not,gt_iff_lt,ge_iff_le]
theorem Znn (L:Nat)(k:QM)(e:Zu)(h:Yi e)(hL:SizeOf.sizeOf e≤L):Qj L (k,e,())=some (Qw k.1 e):=by
 simp only [Zj,Zc,cond_true,cond_false,Zg,Zx,Za,Zm,condC,Zi,Zh,Zl,ZH,ZP,Z5,Sr,show Df L (e,())=_ from Zjl L L e h hL (Nat.le_refl _),show Dc L (e,())=_ from Zjk L L e h hL (Nat.le_refl _),show VJ L (k,e,())=_ from Znx L k L e h hL (Nat.le_refl _),Qw]; simp only [Yu,Xu,if_true,if_false,Bool.false_eq_true,ne_eq,decide_not,gt_iff_lt,ge_iff_le]
theorem ZkY (L:Nat)(e:Zu)(h:Yi e)(hL:SizeOf.sizeOf e≤L):Qr L (e,())=some (Qw true e):=by
 simp only [Zj,Zc,cond_true,cond_false,Zg,Zx,Za,Zm,condC,Zi,Zh,Zl,ZH,ZP,Z5,Zb9,Znn L _ e h hL]
theorem Zhn (L:Nat)(e:Zu)(h:Yi e)(hL:SizeOf.sizeOf e≤L):UI L (e,())=some (Qw false e):=by
 simp only [Zj,Zc,cond_true,cond_false,Zg,Zx,Za,Zm,condC,Zi,Zh,Zl,ZH,ZP,Z5,Zjr,Znn L _ e h hL]
theorem Zw1 (L:Nat)(n:Int):DF L (n,())=some (inB n):=ZtN L n
theorem Zrj (L:Nat)(n:Int):UK L (n,())=some (ZqM n):=Zj0 L n
theorem Zwu (L:Nat)(n:Int):MI L (n,())=some (ZcE n):=by
 simp only [Zj,Zc,cond_true,cond_false,Zg,Zx,Za,Zm,condC,Zi,Zh,Zl,ZH,ZP,Z5,Zlq,ZcE]; simp only [Yu,Xu,if_true,if_false,Bool.false_eq_true,ne_eq,decide_not,gt_iff_lt,ge_iff_le]
theorem ZyX (L:Nat)(n:Int):DI L (n,())=some (Ztl n):=by
 simp only [Zj,Zc,cond_true,cond_false,Zg,Zx,Za,Zm,condC,Zi,Zh,Zl,ZH,ZP,Z5,Zo6,Ztl]; simp only [Yu,Xu,if_true,if_false,Bool.false_eq_true,ne_eq,decide_not,gt_iff_lt,ge_iff_le]
theorem Zx7 (a b d:Bool)(n r:Int):(if a=true then 1 else if b=true then 2 else if (d && !decide (n=0))=true then n else r) =
  if (!decide ((if a=true then 1 else if b=true then 2 else if (d && !decide (n=0))=true then n else 0)=0))=true then (if a=true then 1 else if b=true then 2 else if (d && !decide (n=0))=true then n else 0) else r:=by
 cases a <;> cases b <;> cases d <;> by_cases h:n=0 <;> simp [h]
theorem Znz (L:Nat)(c:Bool)(h1:100≤L):∀ (m:Nat) (e:Zu),Yi e→SizeOf.sizeOf e≤m→m≤L→MX L m (e,c,())=some (JK c e)
 | 0,e,h,hs,_=>absurd hs (by have:=Na e; omega)
 | m + 1,e,h,hs,hm=>by
  have hk:=ZI e.Kids; have hz:=ZrO e; have hl:=h.k
  have lp:Zp (Tz m e c L) L (0,())=some (Yk (JK c) e.Kids):=by
   refine CU e.Kids (fun l=>some (Yk (JK c) l)) (by omega) (fun self i x r hx hi mem e'=>?_) (fun self=>?_)
   ·have ih:=Znz L c h1 m x (h.Kids.2 x mem) (by have:=Aa mem; omega) (by omega)
    rw [Tz]; simp only [Zj,Zc,cond_true,cond_false,Zg,Zx,Za,Zm,condC,Zi,Zh,Zl,ZH,ZP,Z5,hi,hx,ih,wrap_succ hi (by omega),e',Yk]; simp only [Yu,Xu,if_true,if_false,Bool.false_eq_true,ne_eq,decide_not,gt_iff_lt,ge_iff_le]
   ·rw [Tz]; simp only [Zj,Zc,cond_true,cond_false,Zg,Zx,Za,Zm,condC,Zi,Zh,Zl,ZH,ZP,Z5,Yk]
  have hn:=JX L e.Name h.nl (by have:=ZI e.Name; omega) h1
  rw [← ZqL]
  simp only [Zj,Zc,cond_true,cond_false,Zg,Zx,Za,Zm,condC,Zi,Zh,Zl,ZH,ZP,Z5,Zo7,lp,Zwu,Zrj,Zw1,ZyX,hn,Zog]; simp only [Yu,Xu,if_true,if_false,Bool.false_eq_true,ne_eq,decide_not,gt_iff_lt,ge_iff_le,Bool.or_assoc]
  exact congrArg some (Zx7 _ _ _ _ _)
theorem Znr (L:Nat)(c:Bool)(h1:100≤L)(e:Zu)(h:Yi e)(hL:SizeOf.sizeOf e≤L):H9 L (e,c,())=some (Qw c e):=by
 simp only [Zj,Zc,cond_true,cond_false,Zg,Zx,Za,Zm,condC,Zi,Zh,Zl,ZH,ZP,Z5,Zlu,show En L (e,())=_ from Zjn L L e h hL (Nat.le_refl _),show Em L (e,())=_ from Zjm L L e h hL (Nat.le_refl _),show Zat L (e,c,())=_ from Znz L c h1 L e h hL (Nat.le_refl _),Qw]; simp only [Yu,Xu,if_true,if_false,Bool.false_eq_true,ne_eq,decide_not,gt_iff_lt,ge_iff_le]
theorem Zji (L:Nat)(h1:100≤L)(e:Zu)(h:Yi e)(hL:SizeOf.sizeOf e≤L):J5 L (e,())=some (Qw true e):=by
 simp only [Zj,Zc,cond_true,cond_false,Zg,Zx,Za,Zm,condC,Zi,Zh,Zl,ZH,ZP,Z5,ZdF,Znr L _ h1 e h hL]
theorem Zho (L:Nat)(h1:100≤L)(e:Zu)(h:Yi e)(hL:SizeOf.sizeOf e≤L):YW L (e,())=some (Qw false e):=by
 simp only [Zj,Zc,cond_true,cond_false,Zg,Zx,Za,Zm,condC,Zi,Zh,Zl,ZH,ZP,Z5,Zlr,Znr L _ h1 e h hL]
theorem Znl (L:Nat)(a b:List Int)(h:Len a)(hL:a.length < L):YM L (a,b,())=some (decide (a=b)):=by
 rw [O9]
 by_cases hl:a.length=b.length
 ·rw [ZeV a b hl (fun l m=>some (decide (l=m))) hL (fun self i x y r r' hx hy hi _ e=>by
   rw [QF]; simp only [Zj,Zc,cond_true,cond_false,Zg,Zx,Za,Zm,condC,Zi,Zh,Zl,ZH,ZP,Z5,hi,hx,hy,wrap_succ hi (by omega),e,List.cons.injEq,Bool.decide_and]; cases decide (x=y) <;> rfl) (fun self=>by rw [QF]; simp only [Zj,Zc,cond_true,cond_false,Zg,Zx,Za,Zm,condC,Zi,Zh,Zl,ZH,ZP,Z5,decide_true])]
  rw [Z5,show decide ((a.length:Int)=b.length)=true by simp only [decide_eq_true_eq]; omega]; rfl
 ·rw [Z5,show decide ((a.length:Int)=b.length)=false by simp only [decide_eq_false_iff_not]; omega]
  have:a≠b:=fun e=>hl (by rw [e])
  simp [this]
theorem ZfZ (L:Nat)(a b:List Int)(h:Len a)(hL:a.length < L):V5 L (a,b,())=some (decide (a=b)):=by
 rw [ZeZ]
 by_cases hl:a.length=b.length
 ·rw [ZeV a b hl (fun l m=>some (decide (l=m))) hL (fun self i x y r r' hx hy hi _ e=>by
   rw [GY]; simp only [Zj,Zc,cond_true,cond_false,Zg,Zx,Za,Zm,condC,Zi,Zh,Zl,ZH,ZP,Z5,hi,hx,hy,wrap_succ hi (by omega),e,List.cons.injEq,Bool.decide_and]; cases decide (x=y) <;> rfl) (fun self=>by rw [GY]; simp only [Zj,Zc,cond_true,cond_false,Zg,Zx,Za,Zm,condC,Zi,Zh,Zl,ZH,ZP,Z5,decide_true])]
  rw [Z5,show decide ((a.length:Int)=b.length)=true by simp only [decide_eq_true_eq]; omega]; rfl
 ·rw [Z5,show decide ((a.length:Int)=b.length)=false by simp only [decide_eq_false_iff_not]; omega]
  have:a≠b:=fun e=>hl (by rw [e])
  simp [this]
theorem Zhm (L:Nat)(a b:We)(h:JH a)(hL:SizeOf.sizeOf a≤L):VK L (a,b,())=some (ZpS a b):=by
 have h1:=ZI a.Values; have h2:=ZI a.Weights; have h3:=Zue a
 simp only [Zj,Zc,cond_true,cond_false,Zg,Zx,Za,Zm,condC,Zi,Zh,Zl,ZH,ZP,Z5,Zll,Znl L a.Values _ h.v (by omega),Znl L a.Weights _ h.w (by omega),ZpS]
theorem ZbP (L:Nat)(a b:We)(h:JH a)(hL:SizeOf.sizeOf a≤L):Ue L (a,b,())=some (ZpS a b):=by
 have h1:=ZI a.Values; have h2:=ZI a.Weights; have h3:=Zue a
 simp only [Zj,Zc,cond_true,cond_false,Zg,Zx,Za,Zm,condC,Zi,Zh,Zl,ZH,ZP,Z5,Zo3,ZfZ L a.Values _ h.v (by omega),ZfZ L a.Weights _ h.w (by omega),ZpS]
theorem Zxh {α β:Type}(a:List α)(b:List β):(a.length=b.length∧decide ((a.length:Int)=(b.length:Int))=true)∨(a.length≠b.length∧decide ((a.length:Int)=(b.length:Int))=false):=by
 by_cases h:a.length=b.length
 ·exact .inl ⟨h,by simp only [decide_eq_true_eq]; omega⟩
 ·exact .inr ⟨h,by simp only [decide_eq_false_iff_not]; omega⟩
theorem Znw (L:Nat):∀ (m:Nat) (a b:Zu),Yi a→SizeOf.sizeOf a≤m→m≤L→IJ L m (a,b,())=some (AP a b)
 | 0,e,_,h,hs,_=>absurd hs (by have:=Na e; omega)
 | m + 1,e,b,h,hs,hm=>by
  have hk:=ZI e.Kids; have hz:=ZrO e; have hl:=h.k
  rw [ZbX]
  rcases Zxh e.Kids b.Kids with ⟨hl1,hl2⟩ | ⟨hl1,hl2⟩
  ·have lp:Zp (Io m e b L) L (0,())=some (all2 AP e.Kids b.Kids):=by
    refine ZeV e.Kids b.Kids hl1 (fun l l'=>some (all2 AP l l')) (by omega) (fun self i x y r r' hx hy hi mem e'=>?_) (fun self=>?_)
    ·have ih:=Znw L m x y (h.Kids.2 x mem) (by have:=Aa mem; omega) (by omega)
     rw [Io]; simp only [Zj,Zc,cond_true,cond_false,Zg,Zx,Za,Zm,condC,Zi,Zh,Zl,ZH,ZP,Z5,hi,hx,hy,ih,wrap_succ hi (by omega),e',all2]; simp only [Yu,Xu,if_true,if_false,Bool.false_eq_true,ne_eq,decide_not,gt_iff_lt,ge_iff_le]
    ·rw [Io]; simp only [Zj,Zc,cond_true,cond_false,Zg,Zx,Za,Zm,condC,Zi,Zh,Zl,ZH,ZP,Z5,all2]
   simp only [Zj,Zc,cond_true,cond_false,Zg,Zx,Za,Zm,condC,Zi,Zh,Zl,ZH,ZP,Z5,Zd9,lp,Zk9,hl2]; simp only [Yu,Xu,if_true,if_false,Bool.false_eq_true,ne_eq,decide_not,gt_iff_lt,ge_iff_le,hl2]
  ·simp only [Zj,Zc,cond_true,cond_false,Zg,Zx,Za,Zm,condC,Zi,Zh,Zl,ZH,ZP,Z5,Zd9,Zk9,hl2,Bool.not_false,Bool.or_true]; simp only [Yu,Xu,if_true,if_false,Bool.false_eq_true,ne_eq,decide_not,gt_iff_lt,ge_iff_le,hl2,Bool.not_false,Bool.or_true]
theorem Zrf (L:Nat)(a b:Zu)(h:Yi a)(hL:SizeOf.sizeOf a≤L):MG L (a,b,())=some (AP a b):=Znw L L a b h hL (Nat.le_refl _)
end Go.Proofs.YtgjcjbhhhlelnaaGreatDoor
end
