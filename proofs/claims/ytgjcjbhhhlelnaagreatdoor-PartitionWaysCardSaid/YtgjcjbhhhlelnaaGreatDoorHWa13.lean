import Derived.Test.YtgjcjbhhhlelnaaGreatDoorHWa12
set_option linter.all false
noncomputable section
namespace Go.Proofs.YtgjcjbhhhlelnaaGreatDoor
open Go Go.Proofs.YtgjcjbhhhlelnaaGreatDoor.Abs Go.Proofs.YtgjcjbhhhlelnaaGreatDoor.Tl
set_option maxRecDepth 100000
set_option maxHeartbeats 0
def ZdE:List (Inl tT):=[⟨184,QK,[],.one (.bool),[]⟩,⟨200,Xp,[.rnd [.slot 8 (.int .i64)]],.one (.int .i64),[]⟩,⟨185,LG,[],.one (.bool),[]⟩]
def Y9 (L:Nat)(x:Int×Int×(List Int)×PUnit):Option Bool:=fI [] L ZdE Sz [] (.one .bool) [.int .i64,.int .i64,.lst 1 (.int .i64)] x
def EY (L:Nat):Sum tT:=mU 153 [.int .i64,.int .i64,.lst 1 (.int .i64)] (.one .bool) (Y9 L)
theorem Zgq:SX EY:=fun h=>sI h ZR (Zl ⟨h.T _ _ rfl,by kernel_rfl⟩ (Zl ⟨h.T _ _ rfl,by kernel_rfl⟩ (Zl ⟨h.T _ _ rfl,by kernel_rfl⟩ ZR))) rfl (by kernel_rfl) fun _=>rfl
def Ua:Int→Int→List Int→(Int×PUnit→Option Int)→Int×PUnit→Option Int:=fun x0 x1 x2 self acc=>bif decide (acc.1 < (↑x2.length:Int)) then bT (ZK x2 acc.1) fun y=>bif decide (y < x0) || decide (y > x1) then some acc.1 else self (Go.IntKind.i64.wrap (acc.1 + 1),()) else some (-1)
theorem ZfY (L:Nat)(x0:Int)(x1:Int)(x2:(List Int)):Y9 L (x0,x1,x2,())=bT (bT (Zt (Ua x0 x1 x2) L (0,())) fun y=>some (decide (y ≥ 0))) fun y=>some !y:=by kernel_rfl
def KU (L:Nat)(x:YT×PUnit):Option Bool:=fT [] L Sv [] (.one .bool) [.row 2] x
def EW (L:Nat):Sum tT:=mU 152 [.row 2] (.one .bool) (KU L)
theorem Zgp:SX EW:=fun h=>sT h ZR rfl (by kernel_rfl) fun _=>rfl
theorem ZfX (L:Nat)(x0:YT):KU L (x0,())=bif x0.1 == 1 then some (Go.IntKind.i64.wrap ((↑x0.5.length:Int) + (↑x0.6.length:Int)) == 0 && x0.3 == 0 && x0.4 == 0) else bif x0.1 == 2 then some (Go.IntKind.i64.wrap ((↑x0.5.length:Int) + (↑x0.6.length:Int)) == 0 && x0.4 == 0) else bif x0.1 == 5 then some (Go.IntKind.i64.wrap ((↑x0.5.length:Int) + (↑x0.6.length:Int)) == 0 && x0.4 == 0) else bif x0.1 == 4 then some (Go.IntKind.i64.wrap ((↑x0.5.length:Int) + (↑x0.6.length:Int)) == 0) else bif x0.1 == 3 then some (x0.2 == 0 && x0.3 == 0 && x0.4 == 0) else some false:=by kernel_rfl
def Qy (L:Nat)(x:YT×PUnit):Option Int:=fT [EY L,EW L] L FV [] (.one (.int .i64)) [.row 2] x
def Iw (L:Nat):Sum tT:=mU 112 [.row 2] (.one (.int .i64)) (Qy L)
theorem Bd:SX Iw:=fun h=>sT h (Zl (Zgq h) (Zl (Zgp h) ZR)) rfl (by kernel_rfl) fun _=>rfl
theorem ZhP (L:Nat)(x0:YT):Qy L (x0,())=bT (KU L (x0,())) fun y=>bif !y then some 1 else bif x0.1 == 1 then bT (Y9 L (0,1000000000,[x0.2],())) fun y=>bif !y then some 2 else some 0 else bif x0.1 == 2 then bT (Y9 L (0,1000000000,[x0.2,x0.3],())) fun y=>bif !(y && decide (x0.2≤x0.3)) then some 2 else some 0 else bif x0.1 == 4 then bT (Y9 L (1,20,[x0.4],())) fun y=>bT (bif y == true then bT (Y9 L (0,1000000,[x0.2,x0.3],())) fun y=>some y else some false) fun y=>bif !(y && decide (x0.2≤x0.3)) then some 2 else some 0 else bif x0.1 == 5 then bT (Y9 L (1,1000,[x0.2,x0.3],())) fun y=>bif !y then some 2 else some 0 else bif x0.1 == 3 then bif (↑x0.5.length:Int) != (↑x0.6.length:Int) then some 8 else bif (↑x0.5.length:Int) == 0 then some 7 else bif decide ((↑x0.5.length:Int) > 20) then some 6 else bT (Y9 L (0,1000000000,x0.5,())) fun y=>bT (bif y == true then bT (Y9 L (1,1000,x0.6,())) fun y=>some y else some false) fun y=>bif !y then some 2 else some 0 else some 2:=by kernel_rfl
def Yz (L:Nat)(x:Xu×Int×Int×PUnit):Option Int:=fT [] L Gt [] (.one (.int .i64)) [.row 24,.int .i64,.int .i64] x
def Xb (L:Nat):Sum tT:=mU 146 [.row 24,.int .i64,.int .i64] (.one (.int .i64)) (Yz L)
theorem VB:SX Xb:=fun h=>sT h ZR rfl (by kernel_rfl) fun _=>rfl
theorem VA (L:Nat)(x0:Xu)(x1:Int)(x2:Int):Yz L (x0,x1,x2,())=bT (ZK x0.p.2 x0.2) fun y=>bif x1 == 1 then some x0.c.3 else bif x1 == 2 then some (↑y.Decl.2.length:Int) else bif x1 == 3 then some (↑y.Decl.7.length:Int) else bif x1 == 4 then some (↑x0.c.4.length:Int) else bif x1 == 5 then some (↑y.Decl.3.length:Int) else bif x1 == 6 then some (↑y.Decl.4.length:Int) else bif x1 == 7 then some (↑y.Decl.5.length:Int) else bif x1 == 8 then some (↑y.Decl.6.length:Int) else bif x1 == 9 then some (↑x0.p.2.length:Int) else bif x1 == 10 then bT (ZK x0.p.2 x2) fun y=>some (↑y.2.length:Int) else bif x1 == 11 then some (↑y.Decl.8.length:Int) else bif x1 == 12 then some (↑y.Decl.9.length:Int) else bif x1 == 13 then some (↑y.Decl.10.length:Int) else some 1:=by kernel_rfl
def ZV (L:Nat)(x:Xu×Int×Int×Int×PUnit):Option Bool:=fT [Xb L] L HY [] (.one .bool) [.row 24,.int .i64,.int .i64,.int .i64] x
def Xz (L:Nat):Sum tT:=mU 107 [.row 24,.int .i64,.int .i64,.int .i64] (.one .bool) (ZV L)
theorem Jo:SX Xz:=fun h=>sT h (Zl (VB h) ZR) rfl (by kernel_rfl) fun _=>rfl
theorem Jl (L:Nat)(x0:Xu)(x1:Int)(x2:Int)(x3:Int):ZV L (x0,x1,x2,x3,())=bT (bif decide (x2 ≥ 0) == true then bT (Yz L (x0,x1,x3,())) fun y=>some (decide (x2 < y)) else some false) fun y=>some y:=by kernel_rfl
def Kr:List (Inl tT):=[⟨150,YY,[],.one (.bool),[]⟩,⟨183,WC,[.rnd [.slot 8 (.int .i64)]],.one (.int .i64),[]⟩,⟨151,Ul,[],.one (.bool),[]⟩]
def Vm (L:Nat):Nat→List (Sum tT)
 | 0=>[⟨111,[.row 24,.row 8],fun _=>.par _ none ((.one (.bool):RD).tv tT)⟩]
 | m + 1=>[⟨111,[.row 24,.row 8],fun x=>.par _ (fnT tF tG (Zi6 tF tG (qOf tF (Vm L m ++ [Xb L,Xz L])) L Kr 8) 0 L V4 [] (.one (.bool)) (tvL tT [.row 24,.row 8] x) []) ((.one (.bool):RD).tv tT)⟩]
theorem Jp {C:Cfg}{L:Nat}(h:St C L):∀ m,∀ s ∈ Vm L m,J5 C s
 | 0=>(Zl (Ir _ _ _) ZR)
 | m + 1=>have ih:=Jp h m
  (Zl (Xn QM h.L h.G (EQ QM h.L h.G (Jk QM (Dt ih (Zl (VB h) (Zl (Jo h) ZR)))) (Zl ⟨h.T _ _ rfl,by kernel_rfl⟩ (Zl ⟨h.T _ _ rfl,by kernel_rfl⟩ (Zl ⟨h.T _ _ rfl,by kernel_rfl⟩ ZR))) 8) [] (h.T _ _ rfl) (by kernel_rfl) fun _=>rfl) ZR)
def Ye (L m:Nat)(x:Xu×Zu×PUnit):Option (Bool):=fnT tF tG (Zi6 tF tG (qOf tF (Vm L m ++ [Xb L,Xz L])) L Kr 8) 0 L V4 [] (.one (.bool)) (tvL tT [.row 24,.row 8] x) []
def Qd (L:Nat)(x:Xu×Zu×PUnit):Option (Bool):=Ye L L x
def Hg (L:Nat):Sum tT:=⟨111,[.row 24,.row 8],fun x=>.par ((.one (.bool):RD).Ty tT) (Qd L x) ((.one (.bool):RD).tv tT)⟩
theorem NF {C:Cfg}{L:Nat}(h:St C L):J5 C (Hg L):=have ih:=Jp h L
 Xn QM h.L h.G (EQ QM h.L h.G (Jk QM (Dt ih (Zl (VB h) (Zl (Jo h) ZR)))) (Zl ⟨h.T _ _ rfl,by kernel_rfl⟩ (Zl ⟨h.T _ _ rfl,by kernel_rfl⟩ (Zl ⟨h.T _ _ rfl,by kernel_rfl⟩ ZR))) 8) [] (h.T _ _ rfl) (by kernel_rfl) fun _=>rfl
def Yc:Nat→Xu→Zu→Nat→(Int×PUnit→Option Int)→Int×PUnit→Option Int:=fun (m:Nat)=>fun x0 x1 L self acc=>bif decide (acc.1 < (↑x1.4.length:Int)) then bT (ZK x1.4 acc.1) fun y=>bT (bT (Ye L m (x0,y,())) fun y=>some !y) fun y=>bif y then some acc.1 else self (Go.IntKind.i64.wrap (acc.1 + 1),()) else some (-1)
def UK:Nat→Xu→Zu→Nat→(Int×PUnit→Option Int)→Int×PUnit→Option Int:=fun (m:Nat)=>fun x0 x1 L self acc=>bif decide (acc.1 < (↑x1.4.length:Int)) then bT (ZK x1.4 acc.1) fun y=>bT (bT (Ye L m (x0,y,())) fun y=>some !y) fun y=>bif y then some acc.1 else self (Go.IntKind.i64.wrap (acc.1 + 1),()) else some (-1)
def UL:Nat→Xu→Zu→Nat→(Int×PUnit→Option Int)→Int×PUnit→Option Int:=fun (m:Nat)=>fun x0 x1 L self acc=>bif decide (acc.1 < (↑x1.4.length:Int)) then bT (ZK x1.4 acc.1) fun y=>bT (bT (Ye L m (x0,y,())) fun y=>some !y) fun y=>bif y then some acc.1 else self (Go.IntKind.i64.wrap (acc.1 + 1),()) else some (-1)
def UM:Nat→Xu→Zu→Nat→(Int×PUnit→Option Int)→Int×PUnit→Option Int:=fun (m:Nat)=>fun x0 x1 L self acc=>bif decide (acc.1 < (↑x1.4.length:Int)) then bT (ZK x1.4 acc.1) fun y=>bT (bT (Ye L m (x0,y,())) fun y=>some !y) fun y=>bif y then some acc.1 else self (Go.IntKind.i64.wrap (acc.1 + 1),()) else some (-1)
def UN:Nat→Xu→Zu→Nat→(Int×PUnit→Option Int)→Int×PUnit→Option Int:=fun (m:Nat)=>fun x0 x1 L self acc=>bif decide (acc.1 < (↑x1.4.length:Int)) then bT (ZK x1.4 acc.1) fun y=>bT (bT (Ye L m (x0,y,())) fun y=>some !y) fun y=>bif y then some acc.1 else self (Go.IntKind.i64.wrap (acc.1 + 1),()) else some (-1)
def UO:Nat→Xu→Zu→Nat→(Int×PUnit→Option Int)→Int×PUnit→Option Int:=fun (m:Nat)=>fun x0 x1 L self acc=>bif decide (acc.1 < (↑x1.4.length:Int)) then bT (ZK x1.4 acc.1) fun y=>bT (bT (Ye L m (x0,y,())) fun y=>some !y) fun y=>bif y then some acc.1 else self (Go.IntKind.i64.wrap (acc.1 + 1),()) else some (-1)
theorem Nz (L m:Nat)(x0:Xu)(x1:Zu):Ye L (m + 1) (x0,x1,())=bif x1.1 == 25 then bT (ZV L (x0,1,x1.3,0,())) fun y=>bT (bif y == true then bT (bT (Zt (Yc m x0 x1 L) L (0,())) fun y=>some (decide (y ≥ 0))) fun y=>some !y else some false) fun y=>some y else bif x1.1 == 26 then bT (ZV L (x0,2,x1.3,0,())) fun y=>bT (bif y == true then bT (bT (Zt (UK m x0 x1 L) L (0,())) fun y=>some (decide (y ≥ 0))) fun y=>some !y else some false) fun y=>some y else bif x1.1 == 22 then bT (ZV L (x0,5,x1.3,0,())) fun y=>bT (bif y == true then bT (bT (Zt (UL m x0 x1 L) L (0,())) fun y=>some (decide (y ≥ 0))) fun y=>some !y else some false) fun y=>some y else bif x1.1 == 23 then bT (ZV L (x0,6,x1.3,0,())) fun y=>bT (bif y == true then bT (bT (Zt (UM m x0 x1 L) L (0,())) fun y=>some (decide (y ≥ 0))) fun y=>some !y else some false) fun y=>some y else bif x1.1 == 24 then bT (bT (Yz L (x0,5,0,())) fun y=>some y) fun y=>bT (bT (Yz L (x0,8,0,())) fun y=>some y) fun y_1=>bT (bif decide (x1.3 < Go.IntKind.i64.wrap (y + y_1)) == true then bT (bT (Zt (UN m x0 x1 L) L (0,())) fun y=>some (decide (y ≥ 0))) fun y=>some !y else some false) fun y=>some y else bT (bT (bT (Zt (UO m x0 x1 L) L (0,())) fun y=>some (decide (y ≥ 0))) fun y=>some !y) fun y=>some y:=by kernel_rfl
def Jv (L:Nat)(x:(List UInt8)×PUnit):Option Bool:=fT [] L LZ [] (.one .bool) [.str] x
def Bz (L:Nat):Sum tT:=mU 48 [.str] (.one .bool) (Jv L)
theorem ZcS:SX Bz:=fun h=>sT h ZR rfl (by kernel_rfl) fun _=>rfl
theorem ZcD (L:Nat)(x0:(List UInt8)):Jv L (x0,())=bif x0 == [97,100,100] then some true else bif x0 == [97,102,116,101,114] then some true else bif x0 == [97,110,100] then some true else bif x0 == [97,116] then some true else bif x0 == [98,101,108,116] then some true else bif x0 == [98,111,111,108] then some true else bif x0 == [99,111,110,115,101,114,118,101] then some true else bif x0 == [99,111,110,115,116] then some true else bif x0 == [99,111,117,110,116] then some true else bif x0 == [99,121,99,108,101] then some true else bif x0 == [100,111,119,110] then some true else bif x0 == [100,114,97,119] then some true else bif x0 == [100,117,114] then some true else bif x0 == [101,108,115,101] then some true else bif x0 == [101,110,100] then some true else bif x0 == [101,118,101,114,121] then some true else bif x0 == [102,97,108,115,101] then some true else bif x0 == [102,97,117,108,116] then some true else bif x0 == [102,105,102,111] then some true else bif x0 == [102,114,101,101] then some true else bif x0 == [102,114,111,109] then some true else bif x0 == [103,101,111,109] then some true else bif x0 == [103,101,116] then some true else bif x0 == [104,111,108,100] then some true else bif x0 == [105,102] then some true else bif x0 == [105,110,116] then some true else bif x0 == [105,110,116,111] then some true else bif x0 == [108,101,97,115,116] then some true else bif x0 == [108,101,118,101,108] then some true else bif x0 == [108,105,102,111] then some true else bif x0 == [108,105,110,107] then some true else bif x0 == [108,111,99,97,108] then some true else bif x0 == [109,97,120] then some true else bif x0 == [109,105,110] then some true else bif x0 == [109,111,100,101,108] then some true else bif x0 == [110,111,116] then some true else bif x0 == [110,111,119] then some true else bif x0 == [111,98,115,101,114,118,101] then some true else bif x0 == [111,114] then some true else bif x0 == [112,97,114,97,109] then some true else bif x0 == [112,114,101,101,109,112,116] then some true else bif x0 == [112,114,105,111] then some true else bif x0 == [112,117,116] then some true else bif x0 == [113,117,101,117,101] then some true else bif x0 == [114,101,108,101,97,115,101] then some true else bif x0 == [114,101,115,111,117,114,99,101] then some true else bif x0 == [114,105,100,101] then some true else bif x0 == [114,111,117,116,105,110,101] then some true else bif x0 == [115,101,105,122,101] then some true else bif x0 == [115,101,110,100] then some true else bif x0 == [115,101,116] then some true else bif x0 == [115,104,105,102,116] then some true else bif x0 == [115,105,103,110,97,108] then some true else bif x0 == [115,105,116,101] then some true else bif x0 == [115,105,122,101] then some true else bif x0 == [115,112,97,119,110] then some true else bif x0 == [115,116,97,114,116] then some true else bif x0 == [115,116,111,112] then some true else bif x0 == [115,116,111,114,101] then some true else bif x0 == [115,116,114,101,97,109] then some true else bif x0 == [115,117,109] then some true else bif x0 == [116,97,98,108,101] then some true else bif x0 == [116,97,108,108,121] then some true else bif x0 == [116,105,99,107,115] then some true else bif x0 == [116,105,109,101] then some true else bif x0 == [116,114,117,101] then some true else bif x0 == [117,110,105,102,111,114,109] then some true else bif x0 == [117,110,116,105,108] then some true else bif x0 == [117,112] then some true else bif x0 == [118,97,114] then some true else bif x0 == [119,97,105,116] then some true else bif x0 == [119,97,105,116,105,110,103] then some true else bif x0 == [119,104,105,108,101] then some true else some false:=by kernel_rfl
def Vu (L:Nat)(x:Int×PUnit):Option Bool:=fT [] L DY [] (.one .bool) [.int .u8] x
def P6 (L:Nat):Sum tT:=mU 47 [.int .u8] (.one .bool) (Vu L)
theorem ZdU:SX P6:=fun h=>sT h ZR rfl (by kernel_rfl) fun _=>rfl
theorem ZdN (L:Nat)(x0:Int):Vu L (x0,())=some (decide (x0 ≥ 97) && decide (x0≤122)):=by kernel_rfl
def ZN (L:Nat)(x:(List UInt8)×PUnit):Option Int:=fT [Bz L,P6 L] L SK [.rnd [.slot 24 (.int .i64)]] (.one (.int .i64)) [.str] x
def WX (L:Nat):Sum tT:=mU 33 [.str] (.one (.int .i64)) (ZN L)
theorem Qs:SX WX:=fun h=>sT h (Zl (ZcS h) (Zl (ZdU h) ZR)) rfl (by kernel_rfl) fun _=>rfl
def Uc:List UInt8→Nat→(Int×PUnit→Option Int)→Int×PUnit→Option Int:=fun x0 L self acc=>bif decide (acc.1 < (↑x0.length:Int)) then bT (ZK x0 acc.1) fun y=>bT (Vu L ((↑y.toNat:Int),())) fun y_1=>bif !y_1 && (decide ((↑y.toNat:Int) < 48) || decide ((↑y.toNat:Int) > 57)) && (↑y.toNat:Int) != 95 then some 3 else self (Go.IntKind.i64.wrap (acc.1 + 1),()) else some 0
theorem Zge (L:Nat)(x0:(List UInt8)):ZN L (x0,())=bT (bif (x0 == [] || decide ((↑x0.length:Int) > 24)) == false then bT (ZK x0 0) fun y=>bT (Vu L ((↑y.toNat:Int),())) fun y=>some !y else some true) fun y=>bT (bif y == false then bT (Jv L (x0,())) fun y=>some y else some true) fun y=>bif y then some 3 else Zt (Uc x0 L) L (0,()):=by kernel_rfl
def Jt (L:Nat)(x:Int×PUnit):Option Bool:=fT [] L S9 [] (.one .bool) [.int .i64] x
def TQ (L:Nat):Sum tT:=mU 214 [.int .i64] (.one .bool) (Jt L)
theorem EK:SX TQ:=fun h=>sT h ZR rfl (by kernel_rfl) fun _=>rfl
theorem ZfZ (L:Nat)(x0:Int):Jt L (x0,())=some (decide (x0 ≥ 22) && decide (x0≤24)):=by kernel_rfl
end Go.Proofs.YtgjcjbhhhlelnaaGreatDoor
end
noncomputable section
namespace Go.Proofs.YtgjcjbhhhlelnaaGreatDoor
open Go Go.Proofs.YtgjcjbhhhlelnaaGreatDoor.Abs Go.Proofs.YtgjcjbhhhlelnaaGreatDoor.Tl
set_option maxRecDepth 100000
set_option maxHeartbeats 0
def Qx (L:Nat)(x:QJ×Int×PUnit):Option (Int×Int×Bool×PUnit):=fT [TQ L] L Um [] (.tup [.int .i64,.int .i64,.bool]) [.row 25,.int .i64] x
def U6 (L:Nat):Sum tT:=mU 212 [.row 25,.int .i64] (.tup [.int .i64,.int .i64,.bool]) (Qx L)
theorem Bc:SX U6:=fun h=>sT h (Zl (EK h) ZR) rfl (by kernel_rfl) fun _=>rfl
theorem Rz (L:Nat)(x0:QJ)(x1:Int):Qx L (x0,x1,())=bif x1 == 2 then some (0,1,true,()) else bif x1 == 25 then some (0,15,true,()) else bif x1 == 26 then some (0,31,true,()) else bT (Jt L (x1,())) fun y=>bif y && x0.1 then some (0,63,true,()) else some (0,0,false,()):=by kernel_rfl
def Dj (L:Nat)(x:Int×PUnit):Option Bool:=fT [] L ZkT [] (.one .bool) [.int .i64] x
def Zbk (L:Nat):Sum tT:=mU 142 [.int .i64] (.one .bool) (Dj L)
theorem Zgu:SX Zbk:=fun h=>sT h ZR rfl (by kernel_rfl) fun _=>rfl
theorem Zsm (L:Nat)(x0:Int):Dj L (x0,())=some (decide (x0 ≥ (-1000000000000)) && decide (x0≤1000000000000)):=by kernel_rfl
def Qg (L:Nat)(x:QJ×Int×PUnit):Option Bool:=fT [TQ L] L Gw [] (.one .bool) [.row 25,.int .i64] x
def Hm (L:Nat):Sum tT:=mU 211 [.row 25,.int .i64] (.one .bool) (Qg L)
theorem NH:SX Hm:=fun h=>sT h (Zl (EK h) ZR) rfl (by kernel_rfl) fun _=>rfl
theorem N9 (L:Nat)(x0:QJ)(x1:Int):Qg L (x0,x1,())=bT (bif (x1 == 3) == false then bT (Jt L (x1,())) fun y=>some (y && !x0.1) else some true) fun y=>some y:=by kernel_rfl
def Hy (L:Nat)(x:Int×PUnit):Option Int:=fT [] L Zbt [] (.one (.int .i64)) [.int .i64] x
def NP (L:Nat):Sum tT:=mU 210 [.int .i64] (.one (.int .i64)) (Hy L)
theorem ZcQ:SX NP:=fun h=>sT h ZR rfl (by kernel_rfl) fun _=>rfl
theorem ZjL (L:Nat)(x0:Int):Hy L (x0,())=bif x0 == 1 || x0 == 2 || x0 == 3 || x0 == 4 then some 0 else bif decide (x0 ≥ 5) && decide (x0≤8) then some 1 else bif decide (x0 ≥ 9) && decide (x0≤21) then some 2 else bif decide (x0 ≥ 22) && decide (x0≤26) then some 0 else some (-1):=by kernel_rfl
def Xd (L:Nat)(x:QJ×Int×PUnit):Option Bool:=fT [NP L] L Gv [] (.one .bool) [.row 25,.int .i64] x
def Hl (L:Nat):Sum tT:=mU 209 [.row 25,.int .i64] (.one .bool) (Xd L)
theorem NG:SX Hl:=fun h=>sT h (Zl (ZcQ h) ZR) rfl (by kernel_rfl) fun _=>rfl
theorem N8 (L:Nat)(x0:QJ)(x1:Int):Xd L (x0,x1,())=bif x1 == 3 then some !x0.1 else bif x1 == 25 then some x0.1 else bif x1 == 26 then some x0.1 else bT (Hy L (x1,())) fun y=>some (decide (y ≥ 0)):=by kernel_rfl
def X0 (L:Nat)(x:QJ×Zu×PUnit):Option Int:=fT [WX L,U6 L,Zbk L,Hm L,NP L,Hl L] L Ia [] (.one (.int .i64)) [.row 25,.row 8] x
def Js (L:Nat):Sum tT:=mU 199 [.row 25,.row 8] (.one (.int .i64)) (X0 L)
theorem Iq:SX Js:=fun h=>sT h (Zl (Qs h) (Zl (Bc h) (Zl (Zgu h) (Zl (NH h) (Zl (ZcQ h) (Zl (NG h) ZR)))))) rfl (by kernel_rfl) fun _=>rfl
theorem E8 (L:Nat)(x0:QJ)(x1:Zu):X0 L (x0,x1,())=bT (bT (Xd L (x0,x1.1,())) fun y=>some y) fun y=>bT (bif (!y) == false then bT (bT (Hy L (x1.1,())) fun y=>some y) fun y=>some ((↑x1.4.length:Int) != y) else some true) fun y=>bT (bif y == false then bif (!x1.2 == []) == true then bT (bT (Qg L (x0,x1.1,())) fun y=>some y) fun y=>some !y else some false else some true) fun y=>bif y then some 1 else bif x1.1 == 1 then bT (Dj L (x1.3,())) fun y=>bif !y then some 2 else some 0 else bT (Qx L (x0,x1.1,())) fun y=>bif !y.2.2.1 && x1.3 != 0 then some 1 else bif y.2.2.1 && (decide (x1.3 < y.1) || decide (x1.3 > y.2.1)) then some 2 else bT (Qg L (x0,x1.1,())) fun y=>bif y then bT (ZN L (x1.2,())) fun y=>some y else some 0:=by kernel_rfl
def Vo (L:Nat):Nat→List (Sum tT)
 | 0=>[⟨182,[.row 25,.row 8],fun _=>.par _ none ((.one (.int .i64):RD).tv tT)⟩]
 | m + 1=>[⟨182,[.row 25,.row 8],fun x=>.par _ (fnT tF tG (qOf tF (Vo L m ++ [Js L])) 0 L V5 [.rnd [.slot 18 (.int .i64)]] (.one (.int .i64)) (tvL tT [.row 25,.row 8] x) []) ((.one (.int .i64):RD).tv tT)⟩]
theorem Jq {C:Cfg}{L:Nat}(h:St C L):∀ m,∀ s ∈ Vo L m,J5 C s
 | 0=>(Zl (Ir _ _ _) ZR)
 | m + 1=>have ih:=Jq h m
  (Zl (Xn QM h.L h.G (Jk QM (Dt ih (Zl (Iq h) ZR))) [.rnd [.slot 18 (.int .i64)]] (h.T _ _ rfl) (by kernel_rfl) fun _=>rfl) ZR)
def QI (L m:Nat)(x:QJ×Zu×PUnit):Option (Int):=fnT tF tG (qOf tF (Vo L m ++ [Js L])) 0 L V5 [.rnd [.slot 18 (.int .i64)]] (.one (.int .i64)) (tvL tT [.row 25,.row 8] x) []
def VE (L:Nat)(x:QJ×Zu×PUnit):Option (Int):=QI L L x
def Ho (L:Nat):Sum tT:=⟨182,[.row 25,.row 8],fun x=>.par ((.one (.int .i64):RD).Ty tT) (VE L x) ((.one (.int .i64):RD).tv tT)⟩
theorem NI {C:Cfg}{L:Nat}(h:St C L):J5 C (Ho L):=have ih:=Jq h L
 Xn QM h.L h.G (Jk QM (Dt ih (Zl (Iq h) ZR))) [.rnd [.slot 18 (.int .i64)]] (h.T _ _ rfl) (by kernel_rfl) fun _=>rfl
def Q8:Nat→QJ→Zu→Nat→(Int×PUnit→Option Int)→Int×PUnit→Option Int:=fun (m:Nat)=>fun x0 x1 L self acc=>bif decide (acc.1 < (↑x1.4.length:Int)) then bT (ZK x1.4 acc.1) fun y=>bT (QI L m (x0,y,())) fun y=>bif y != 0 then some y else self (Go.IntKind.i64.wrap (acc.1 + 1),()) else some 0
theorem NC (L m:Nat)(x0:QJ)(x1:Zu):QI L (m + 1) (x0,x1,())=bT (X0 L (x0,x1,())) fun y=>bif y != 0 then some y else Zt (Q8 m x0 x1 L) L (0,()):=by kernel_rfl
def TA (L:Nat):Nat→List (Sum tT)
 | 0=>[⟨181,[.row 8],fun _=>.par _ none ((.one (.int .i64):RD).tv tT)⟩]
 | m + 1=>[⟨181,[.row 8],fun x=>.par _ (fnT tF tG (qOf tF (TA L m ++ [])) 0 L LH [.rnd [.slot 3 (.int .i64),.slot 9 (.int .i64)]] (.one (.int .i64)) (tvL tT [.row 8] x) []) ((.one (.int .i64):RD).tv tT)⟩]
theorem MZ {C:Cfg}{L:Nat}(h:St C L):∀ m,∀ s ∈ TA L m,J5 C s
 | 0=>(Zl (Ir _ _ _) ZR)
 | m + 1=>have ih:=MZ h m
  (Zl (Xn QM h.L h.G (Jk QM (Dt ih ZR)) [.rnd [.slot 3 (.int .i64),.slot 9 (.int .i64)]] (h.T _ _ rfl) (by kernel_rfl) fun _=>rfl) ZR)
def Gh (L m:Nat)(x:Zu×PUnit):Option (Int):=fnT tF tG (qOf tF (TA L m ++ [])) 0 L LH [.rnd [.slot 3 (.int .i64),.slot 9 (.int .i64)]] (.one (.int .i64)) (tvL tT [.row 8] x) []
def BB (L:Nat)(x:Zu×PUnit):Option (Int):=Gh L L x
def Zaw (L:Nat):Sum tT:=⟨181,[.row 8],fun x=>.par ((.one (.int .i64):RD).Ty tT) (BB L x) ((.one (.int .i64):RD).tv tT)⟩
theorem Zis {C:Cfg}{L:Nat}(h:St C L):J5 C (Zaw L):=have ih:=MZ h L
 Xn QM h.L h.G (Jk QM (Dt ih ZR)) [.rnd [.slot 3 (.int .i64),.slot 9 (.int .i64)]] (h.T _ _ rfl) (by kernel_rfl) fun _=>rfl
def Td:Nat→Zu→Nat→(Int×Int×PUnit→Option Int)→Int×Int×PUnit→Option Int:=fun (m:Nat)=>fun x0 L self acc=>bif decide (acc.2.1 < (↑x0.4.length:Int)) then bT (ZK x0.4 acc.2.1) fun y=>bT (Gh L m (y,())) fun y=>self (if y > acc.1 then y else acc.1,Go.IntKind.i64.wrap (acc.2.1 + 1),()) else some (Go.IntKind.i64.wrap (acc.1 + 1))
theorem ZhR (L m:Nat)(x0:Zu):Gh L (m + 1) (x0,())=Zt (Td m x0 L) L (0,0,()):=by kernel_rfl
def TB (L:Nat):Nat→List (Sum tT)
 | 0=>[⟨180,[.row 8],fun _=>.par _ none ((.one (.int .i64):RD).tv tT)⟩]
 | m + 1=>[⟨180,[.row 8],fun x=>.par _ (fnT tF tG (qOf tF (TB L m ++ [])) 0 L LJ [.rnd [.slot 3 (.int .i64),.slot 9 (.int .i64)]] (.one (.int .i64)) (tvL tT [.row 8] x) []) ((.one (.int .i64):RD).tv tT)⟩]
theorem La {C:Cfg}{L:Nat}(h:St C L):∀ m,∀ s ∈ TB L m,J5 C s
 | 0=>(Zl (Ir _ _ _) ZR)
 | m + 1=>have ih:=La h m
  (Zl (Xn QM h.L h.G (Jk QM (Dt ih ZR)) [.rnd [.slot 3 (.int .i64),.slot 9 (.int .i64)]] (h.T _ _ rfl) (by kernel_rfl) fun _=>rfl) ZR)
def Gi (L m:Nat)(x:Zu×PUnit):Option (Int):=fnT tF tG (qOf tF (TB L m ++ [])) 0 L LJ [.rnd [.slot 3 (.int .i64),.slot 9 (.int .i64)]] (.one (.int .i64)) (tvL tT [.row 8] x) []
def BC (L:Nat)(x:Zu×PUnit):Option (Int):=Gi L L x
def Zax (L:Nat):Sum tT:=⟨180,[.row 8],fun x=>.par ((.one (.int .i64):RD).Ty tT) (BC L x) ((.one (.int .i64):RD).tv tT)⟩
theorem Zit {C:Cfg}{L:Nat}(h:St C L):J5 C (Zax L):=have ih:=La h L
 Xn QM h.L h.G (Jk QM (Dt ih ZR)) [.rnd [.slot 3 (.int .i64),.slot 9 (.int .i64)]] (h.T _ _ rfl) (by kernel_rfl) fun _=>rfl
def Tf:Nat→Zu→Nat→(Int×Int×PUnit→Option Int)→Int×Int×PUnit→Option Int:=fun (m:Nat)=>fun x0 L self acc=>bif decide (acc.2.1 < (↑x0.4.length:Int)) then bT (ZK x0.4 acc.2.1) fun y=>bT (Gi L m (y,())) fun y=>self (Go.IntKind.i64.wrap (acc.1 + y),Go.IntKind.i64.wrap (acc.2.1 + 1),()) else some acc.1
theorem ZhS (L m:Nat)(x0:Zu):Gi L (m + 1) (x0,())=Zt (Tf m x0 L) L (1,0,()):=by kernel_rfl
def Qe (L:Nat)(x:QJ×Zu×PUnit):Option Int:=fT [Ho L,Zaw L,Zax L] L Gu [] (.one (.int .i64)) [.row 25,.row 8] x
def VC (L:Nat):Sum tT:=mU 149 [.row 25,.row 8] (.one (.int .i64)) (Qe L)
theorem GY:SX VC:=fun h=>sT h (Zl (NI h) (Zl (Zis h) (Zl (Zit h) ZR))) rfl (by kernel_rfl) fun _=>rfl
theorem N7 (L:Nat)(x0:QJ)(x1:Zu):Qe L (x0,x1,())=bT (BC L (x1,())) fun y=>bif decide (y > 60) then some 6 else bT (BB L (x1,())) fun y=>bif decide (y > 12) then some 11 else bT (VE L (x0,x1,())) fun y=>some y:=by kernel_rfl
end Go.Proofs.YtgjcjbhhhlelnaaGreatDoor
end
noncomputable section
namespace Go.Proofs.YtgjcjbhhhlelnaaGreatDoor
open Go Go.Proofs.YtgjcjbhhhlelnaaGreatDoor.Abs Go.Proofs.YtgjcjbhhhlelnaaGreatDoor.Tl
set_option maxRecDepth 100000
set_option maxHeartbeats 0
def Ql (L:Nat)(x:Zu×PUnit):Option Int:=fT [VC L] L MN [] (.one (.int .i64)) [.row 8] x
def Lj (L:Nat):Sum tT:=mU 110 [.row 8] (.one (.int .i64)) (Ql L)
theorem ZaN:SX Lj:=fun h=>sT h (Zl (GY h) ZR) rfl (by kernel_rfl) fun _=>rfl
theorem ZaJ (L:Nat)(x0:Zu):Ql L (x0,())=bT (Qe L (QJ.mk true,x0,())) fun y=>some y:=by kernel_rfl
def U7 (L:Nat)(x:Int×PUnit):Option Bool:=fT [] L FU [] (.one .bool) [.int .i64] x
def Bo (L:Nat):Sum tT:=mU 105 [.int .i64] (.one .bool) (U7 L)
theorem Zam:SX Bo:=fun h=>sT h ZR rfl (by kernel_rfl) fun _=>rfl
theorem ZhO (L:Nat)(x0:Int):U7 L (x0,())=some (decide (x0 ≥ 1) && decide (x0≤19)):=by kernel_rfl
def WG (L:Nat)(x:YC×PUnit):Option (List Zu):=fT [Bo L] L Ib [] (.one (.lst 4 (.row 8))) [.row 15] x
def Iu (L:Nat):Sum tT:=mU 109 [.row 15] (.one (.lst 4 (.row 8))) (WG L)
theorem EJ:SX Iu:=fun h=>sT h (Zl (Zam h) ZR) rfl (by kernel_rfl) fun _=>rfl
theorem ED (L:Nat)(x0:YC):WG L (x0,())=bT (U7 L (x0.1,())) fun y=>bif !y then some [] else bT (ZK Ii x0.1) fun y=>bif y.5 then bT (apT 56 [] [x0.5]) fun y_1=>bif y.6 then bT (apT 56 y_1 [x0.6]) fun y_2=>bif y.7 then bT (apT 56 y_2 x0.7) fun y=>some y else some y_2 else bif y.7 then bT (apT 56 y_1 x0.7) fun y=>some y else some y_1 else bif y.6 then bT (apT 56 [] [x0.6]) fun y_1=>bif y.7 then bT (apT 56 y_1 x0.7) fun y=>some y else some y_1 else bif y.7 then bT (apT 56 [] x0.7) fun y=>some y else some []:=by kernel_rfl
def Zjm:List (Inl tT):=[⟨147,WY,[.rnd [.slot 8 (.int .i64)]],.one (.int .i64),[]⟩,⟨148,FP,[],.one (.bool),[]⟩]
def Di (L:Nat)(x:Zk×Int×Int×PUnit):Option (Int×Bool×PUnit):=fI [] L Zjm Zef [] (.tup [.int .i64,.bool]) [.row 19,.int .i64,.int .i64] x
def Zfa (L:Nat):Sum tT:=mU 108 [.row 19,.int .i64,.int .i64] (.tup [.int .i64,.bool]) (Di L)
theorem Zns:SX Zfa:=fun h=>sI h ZR (Zl ⟨h.T _ _ rfl,by kernel_rfl⟩ (Zl ⟨h.T _ _ rfl,by kernel_rfl⟩ ZR)) rfl (by kernel_rfl) fun _=>rfl
def PS:Zk→Int→Int→(Int×PUnit→Option Int)→Int×PUnit→Option Int:=fun x0 x1 x2 self acc=>bif decide (acc.1 < (↑x0.3.length:Int)) then bT (ZK x0.3 acc.1) fun y=>bif y.1 == x1 && y.2 == x2 then some acc.1 else self (Go.IntKind.i64.wrap (acc.1 + 1),()) else some (-1)
theorem ZmU (L:Nat)(x0:Zk)(x1:Int)(x2:Int):Di L (x0,x1,x2,())=bT (Zt (PS x0 x1 x2) L (0,())) fun y=>bif decide (y < 0) then some (0,false,()) else bT (ZK x0.3 y) fun y=>some (y.3,true,()):=by kernel_rfl
def YE (L:Nat)(x:(List Int)×(List Int)×PUnit):Option Bool:=fT [] L VL [.rnd [.slot 13 (.int .i64)]] (.one .bool) [.lst 1 (.int .i64),.lst 1 (.int .i64)] x
def VU (L:Nat):Sum tT:=mU 169 [.lst 1 (.int .i64),.lst 1 (.int .i64)] (.one .bool) (YE L)
theorem Oz:SX VU:=fun h=>sT h ZR rfl (by kernel_rfl) fun _=>rfl
def Q5:List Int→List Int→(Int×PUnit→Option Bool)→Int×PUnit→Option Bool:=fun x0 x1 self acc=>bif decide (acc.1 < (↑x0.length:Int)) then bT (ZK x0 acc.1) fun y=>bT (ZK x1 acc.1) fun y_1=>bif y != y_1 then some false else self (Go.IntKind.i64.wrap (acc.1 + 1),()) else some true
theorem Ot (L:Nat)(x0:(List Int))(x1:(List Int)):YE L (x0,x1,())=bif (↑x0.length:Int) != (↑x1.length:Int) then some false else Zt (Q5 x0 x1) L (0,()):=by kernel_rfl
def VF (L:Nat)(x:YT×YT×PUnit):Option Bool:=fT [VU L] L Zbs [] (.one .bool) [.row 2,.row 2] x
def TP (L:Nat):Sum tT:=mU 132 [.row 2,.row 2] (.one .bool) (VF L)
theorem NJ:SX TP:=fun h=>sT h (Zl (Oz h) ZR) rfl (by kernel_rfl) fun _=>rfl
theorem ZjK (L:Nat)(x0:YT)(x1:YT):VF L (x0,x1,())=bT (bif (x0.1 == x1.1 && x0.2 == x1.2 && x0.3 == x1.3 && x0.4 == x1.4) == true then bT (YE L (x0.5,x1.5,())) fun y=>some y else some false) fun y=>bT (bif y == true then bT (YE L (x0.6,x1.6,())) fun y=>some y else some false) fun y=>some y:=by kernel_rfl
def Bi (L:Nat):Nat→List (Sum tT)
 | 0=>[⟨179,[.row 8,.row 8],fun _=>.par _ none ((.one (.bool):RD).tv tT)⟩]
 | m + 1=>[⟨179,[.row 8,.row 8],fun x=>.par _ (fnT tF tG (qOf tF (Bi L m ++ [])) 0 L PE [.rnd [.slot 38 (.int .i64)]] (.one (.bool)) (tvL tT [.row 8,.row 8] x) []) ((.one (.bool):RD).tv tT)⟩]
theorem Bj {C:Cfg}{L:Nat}(h:St C L):∀ m,∀ s ∈ Bi L m,J5 C s
 | 0=>(Zl (Ir _ _ _) ZR)
 | m + 1=>have ih:=Bj h m
  (Zl (Xn QM h.L h.G (Jk QM (Dt ih ZR)) [.rnd [.slot 38 (.int .i64)]] (h.T _ _ rfl) (by kernel_rfl) fun _=>rfl) ZR)
def IC (L m:Nat)(x:Zu×Zu×PUnit):Option (Bool):=fnT tF tG (qOf tF (Bi L m ++ [])) 0 L PE [.rnd [.slot 38 (.int .i64)]] (.one (.bool)) (tvL tT [.row 8,.row 8] x) []
def TR (L:Nat)(x:Zu×Zu×PUnit):Option (Bool):=IC L L x
def NM (L:Nat):Sum tT:=⟨179,[.row 8,.row 8],fun x=>.par ((.one (.bool):RD).Ty tT) (TR L x) ((.one (.bool):RD).tv tT)⟩
theorem ZcP {C:Cfg}{L:Nat}(h:St C L):J5 C (NM L):=have ih:=Bj h L
 Xn QM h.L h.G (Jk QM (Dt ih ZR)) [.rnd [.slot 38 (.int .i64)]] (h.T _ _ rfl) (by kernel_rfl) fun _=>rfl
def Ih:Nat→Zu→Zu→Nat→(Int×PUnit→Option Bool)→Int×PUnit→Option Bool:=fun (m:Nat)=>fun x0 x1 L self acc=>bif decide (acc.1 < (↑x0.4.length:Int)) then bT (ZK x0.4 acc.1) fun y=>bT (ZK x1.4 acc.1) fun y_1=>bT (bT (IC L m (y,y_1,())) fun y=>some y) fun y=>bif !y then some false else self (Go.IntKind.i64.wrap (acc.1 + 1),()) else some true
theorem ZcA (L m:Nat)(x0:Zu)(x1:Zu):IC L (m + 1) (x0,x1,())=bif x0.1 != x1.1 || !x0.2 == x1.2 || x0.3 != x1.3 || (↑x0.4.length:Int) != (↑x1.4.length:Int) then some false else Zt (Ih m x0 x1 L) L (0,()):=by kernel_rfl
def Hw (L:Nat)(x:Zu×PUnit):Option Bool:=fT [NM L] L Zbr [] (.one .bool) [.row 8] x
def Zdh (L:Nat):Sum tT:=mU 145 [.row 8] (.one .bool) (Hw L)
theorem Zk1:SX Zdh:=fun h=>sT h (Zl (ZcP h) ZR) rfl (by kernel_rfl) fun _=>rfl
theorem ZjJ (L:Nat)(x0:Zu):Hw L (x0,())=bT (TR L (x0,Zu.mk 0 [] 0 [],())) fun y=>some y:=by kernel_rfl
def Iz (L:Nat)(x:YC×PUnit):Option Bool:=fT [TP L,Zdh L] L FT [] (.one .bool) [.row 15] x
def Zau (L:Nat):Sum tT:=mU 106 [.row 15] (.one .bool) (Iz L)
theorem Ziq:SX Zau:=fun h=>sT h (Zl (NJ h) (Zl (Zk1 h) ZR)) rfl (by kernel_rfl) fun _=>rfl
theorem ZhN (L:Nat)(x0:YC):Iz L (x0,())=bT (ZK Ii x0.1) fun y=>bT (bif ((y.2 != 0 || x0.2 == 0) && (y.3 != 0 || x0.3 == 0) && (y.4 || x0.4 == 0)) == true then bif y.5 == false then bT (Hw L (x0.5,())) fun y=>some y else some true else some false) fun y_1=>bT (bif y_1 == true then bif y.6 == false then bT (Hw L (x0.6,())) fun y=>some y else some true else some false) fun y_2=>bT (bif (y_2 && (y.7 || (↑x0.7.length:Int) == 0)) == true then bif y.8 == false then bT (VF L (x0.8,YT.mk 0 0 0 0 [] [],())) fun y=>some y else some true else some false) fun y_3=>some (y_3 && (y.9 || !x0.9)):=by kernel_rfl
def YS (L:Nat)(x:Xu×YC×PUnit):Option Int:=fT [Iw L,Hg L,Lj L,Iu L,Zfa L,Xz L,Zau L,Bo L] L UQ [.rnd [.slot 103 (.int .i64)]] (.one (.int .i64)) [.row 24,.row 15] x
def Kw (L:Nat):Sum tT:=mU 57 [.row 24,.row 15] (.one (.int .i64)) (YS L)
theorem D6:SX Kw:=fun h=>sT h (Zl (Bd h) (Zl (NF h) (Zl (ZaN h) (Zl (EJ h) (Zl (Zns h) (Zl (Jo h) (Zl (Ziq h) (Zl (Zam h) ZR)))))))) rfl (by kernel_rfl) fun _=>rfl
def YD:Xu→YC→Nat→IL→List Zu→(Int×PUnit→Option Int)→Int×PUnit→Option Int:=fun x0 x1 L y y_1 self acc=>bif decide (acc.1 < (↑y_1.length:Int)) then bT (ZK y_1 acc.1) fun y=>bT (Ql L (y,())) fun y_2=>bif y_2 != 0 then some y_2 else bT (Qd L (x0,y,())) fun y=>bif !y then some 2 else self (Go.IntKind.i64.wrap (acc.1 + 1),()) else bif y.8 then bT (Qy L (x1.8,())) fun y=>some y else some 0
def Uj:Xu→YC→Nat→IL→List Zu→(Int×PUnit→Option Int)→Int×PUnit→Option Int:=fun x0 x1 L y y_1 self acc=>bif decide (acc.1 < (↑y_1.length:Int)) then bT (ZK y_1 acc.1) fun y=>bT (Ql L (y,())) fun y_2=>bif y_2 != 0 then some y_2 else bT (Qd L (x0,y,())) fun y=>bif !y then some 2 else self (Go.IntKind.i64.wrap (acc.1 + 1),()) else bif y.8 then bT (Qy L (x1.8,())) fun y=>some y else some 0
def Uk:Xu→YC→Nat→IL→List Zu→(Int×PUnit→Option Int)→Int×PUnit→Option Int:=fun x0 x1 L y y_1 self acc=>bif decide (acc.1 < (↑y_1.length:Int)) then bT (ZK y_1 acc.1) fun y=>bT (Ql L (y,())) fun y_2=>bif y_2 != 0 then some y_2 else bT (Qd L (x0,y,())) fun y=>bif !y then some 2 else self (Go.IntKind.i64.wrap (acc.1 + 1),()) else bif y.8 then bT (Qy L (x1.8,())) fun y=>some y else some 0
theorem D5 (L:Nat)(x0:Xu)(x1:YC):YS L (x0,x1,())=bT (U7 L (x1.1,())) fun y=>bT (bif (!y) == false then bT (Iz L (x1,())) fun y=>some !y else some true) fun y=>bif y then some 1 else bT (ZK Ii x1.1) fun y=>bT (ZV L (x0,y.2,x1.2,0,())) fun y_1=>bif !y_1 && y.2 != 0 then some 2 else bif x1.1 == 14 then bT (Di L (x0.1,x0.2,x1.2,())) fun y_2=>bif !y_2.2.1 || y_2.1 != x1.4 then some 16 else bT (ZV L (x0,10,x1.3,x1.2,())) fun y_3=>bif !y_3 then some 2 else bT (ZK x0.p.2 x1.2) fun y_4=>bT (ZK y_4.2 x1.3) fun y_5=>bif (↑x1.7.length:Int) != y_5.2 then some 8 else bT (WG L (x1,())) fun y_6=>Zt (YD x0 x1 L y y_6) L (0,()) else bif x1.1 == 15 then bT (ZV L (x0,10,x1.3,x0.2,())) fun y_2=>bif !y_2 then some 2 else bT (ZK x0.p.2 x0.2) fun y_3=>bT (ZK y_3.2 x1.3) fun y_4=>bif (↑x1.7.length:Int) != y_4.2 then some 8 else bT (WG L (x1,())) fun y_5=>Zt (Uj x0 x1 L y y_5) L (0,()) else bT (bif (y.3 != 0) == true then bT (ZV L (x0,y.3,x1.3,0,())) fun y=>some !y else some false) fun y_2=>bif y_2 then some 2 else bT (WG L (x1,())) fun y_3=>Zt (Uk x0 x1 L y y_3) L (0,()):=by kernel_rfl
end Go.Proofs.YtgjcjbhhhlelnaaGreatDoor
end
noncomputable section
namespace Go.Proofs.YtgjcjbhhhlelnaaGreatDoor
open Go Go.Proofs.YtgjcjbhhhlelnaaGreatDoor.Abs Go.Proofs.YtgjcjbhhhlelnaaGreatDoor.Tl
set_option maxRecDepth 100000
set_option maxHeartbeats 0
def Y0 (L:Nat)(x:Zk×Int×YX×PUnit):Option Int:=fT [Kw L,WX L] L D8 [.rnd [.slot 66 (.int .i64)]] (.one (.int .i64)) [.row 19,.int .i64,.row 16] x
def Pz (L:Nat):Sum tT:=mU 37 [.row 19,.int .i64,.row 16] (.one (.int .i64)) (Y0 L)
theorem ZdS:SX Pz:=fun h=>sT h (Zl (D6 h) (Zl (Qs h) ZR)) rfl (by kernel_rfl) fun _=>rfl
def Je:Zk→Int→YX→Nat→(Int×PUnit→Option Int)→Int×PUnit→Option Int:=fun x0 x1 x2 L self acc=>bif decide (acc.1 < (↑x2.4.length:Int)) then bT (ZK x2.4 acc.1) fun y=>bT (YS L (Xu.mk x0 x1 x2,y,())) fun y=>bif y != 0 then some y else self (Go.IntKind.i64.wrap (acc.1 + 1),()) else bT (ZK x2.4 (Go.IntKind.i64.wrap ((↑x2.4.length:Int) - 1))) fun y=>bif y.1 != 19 && y.1 != 4 then some 8 else some 0
theorem Pv (L:Nat)(x0:Zk)(x1:Int)(x2:YX):Y0 L (x0,x1,x2,())=bif decide (x1 < 0) || decide (x1 ≥ (↑x0.2.length:Int)) then some 2 else bT (ZN L (x2.1,())) fun y=>bif y != 0 then some y else bif decide (x2.2 < 0) || decide (x2.2 > x2.3) || decide (x2.2 > 6) || decide (x2.3 > 16) then some 2 else bif (↑x2.4.length:Int) == 0 then some 7 else bif decide ((↑x2.4.length:Int) > 1000) then some 6 else Zt (Je x0 x1 x2 L) L (0,()):=by kernel_rfl
def Hu (L:Nat)(x:Zk×PUnit):Option Int:=fT [] L Zbq [.rnd [.slot 15 (.int .i64),.cont 1 (.map (.pint .i64))]] (.one (.int .i64)) [.row 19] x
def Zdg (L:Nat):Sum tT:=mU 36 [.row 19] (.one (.int .i64)) (Hu L)
theorem Zk0:SX Zdg:=fun h=>sT h ZR rfl (by kernel_rfl) fun _=>rfl
def Uu:Zk→(Int×List (Int×Int)×PUnit→Option Int)→Int×List (Int×Int)×PUnit→Option Int:=fun x0 self acc=>bif decide (acc.1 < (↑x0.3.length:Int)) then bT (ZK x0.3 acc.1) fun y=>bif decide ((if y.2 < y.1 then y.2 else y.1) < 0) || decide ((if y.2 > y.1 then y.2 else y.1) ≥ (↑x0.2.length:Int)) || y.1 == y.2 then some 2 else bif decide (y.3 < 1) || decide (y.3 > 1000000000) then some 2 else bif hasK (MK.pint Go.IntKind.i64) acc.2.1 (y.1,y.2) then some 4 else self (Go.IntKind.i64.wrap (acc.1 + 1),CP (MK.pint Go.IntKind.i64) acc.2.1 (y.1,y.2),()) else some 0
theorem ZjI (L:Nat)(x0:Zk):Hu L (x0,())=bif decide ((↑x0.3.length:Int) > 32) then some 6 else Zt (Uu x0) L (0,[],()):=by kernel_rfl
def Ht (L:Nat)(x:YX×ZT×PUnit):Option Bool:=fT [] L LD [] (.one .bool) [.row 16,.row 10] x
def Bl (L:Nat):Sum tT:=mU 56 [.row 16,.row 10] (.one .bool) (Ht L)
theorem ZcO:SX Bl:=fun h=>sT h ZR rfl (by kernel_rfl) fun _=>rfl
theorem Zc9 (L:Nat)(x0:YX)(x1:ZT):Ht L (x0,x1,())=some (x0.1 == x1.1 && x0.2 == (↑x1.2.length:Int) && (↑x1.4.length:Int) == 0):=by kernel_rfl
def ZdD:List (Inl tT):=[⟨55,ZZ,[.rnd [.slot 17 (.int .i64)]],.one (.bool),[]⟩]
def KQ (L:Nat)(x:ZO×PUnit):Option Bool:=fI [Bl L] L ZdD Su [] (.one .bool) [.row 17] x
def EU (L:Nat):Sum tT:=mU 35 [.row 17] (.one .bool) (KQ L)
theorem Zgo:SX EU:=fun h=>sI h (Zl (ZcO h) ZR) (Zl ⟨h.T _ _ rfl,by kernel_rfl⟩ ZR) rfl (by kernel_rfl) fun _=>rfl
def JZ:ZO→Nat→(Int×PUnit→Option Bool)→Int×PUnit→Option Bool:=fun x0 L self acc=>bif decide (acc.1 < (↑x0.2.length:Int)) then bT (ZK x0.2 acc.1) fun y=>bT (ZK x0.Decl.11 acc.1) fun y_1=>bT (Ht L (y,y_1,())) fun y=>bif !y then some false else self (Go.IntKind.i64.wrap (acc.1 + 1),()) else some true
theorem EC (L:Nat)(x0:ZO):KQ L (x0,())=bT (bif (↑x0.2.length:Int) != (↑x0.Decl.11.length:Int) then some false else Zt (JZ x0 L) L (0,())) fun y=>some y:=by kernel_rfl
def ZG (L:Nat)(x:Int×Int×Int×PUnit):Option Bool:=fT [] L DX [] (.one .bool) [.int .i64,.int .i64,.int .i64] x
def Q7 (L:Nat):Sum tT:=mU 78 [.int .i64,.int .i64,.int .i64] (.one .bool) (ZG L)
theorem Xk:SX Q7:=fun h=>sT h ZR rfl (by kernel_rfl) fun _=>rfl
theorem ZdM (L:Nat)(x0:Int)(x1:Int)(x2:Int):ZG L (x0,x1,x2,())=some (decide (x0 ≥ x1) && decide (x0≤x2)):=by kernel_rfl
def Zf5:List (Inl tT):=[⟨143,YB,[.rnd [.slot 8 (.int .i64)]],.one (.int .i64),[]⟩,⟨144,DC,[],.one (.bool),[]⟩]
def BD (L:Nat)(x:QP×(List UInt8)×PUnit):Option Int:=fI [] L Zf5 FY [] (.one (.int .i64)) [.row 21,.str] x
def Zay (L:Nat):Sum tT:=mU 104 [.row 21,.str] (.one (.int .i64)) (BD L)
theorem Ziu:SX Zay:=fun h=>sI h ZR (Zl ⟨h.T _ _ rfl,by kernel_rfl⟩ (Zl ⟨h.T _ _ rfl,by kernel_rfl⟩ ZR)) rfl (by kernel_rfl) fun _=>rfl
def ZdG:List (Inl tT):=[⟨102,J9,[.rnd [.slot 16 (.int .i64),.cont 1 (.map .pstr)]],.one (.int .i64),[(3,[.cont 1 (.map .pstr)])]⟩,⟨103,LQ,[],.one (.int .i64),[(4,[.cont 1 (.map .pstr)])]⟩]
def KX (L:Nat)(x:QP×PUnit):Option Int:=fI [Q7 L,Zay L] L ZdG SH [] (.one (.int .i64)) [.row 21] x
def Aa (L:Nat):Sum tT:=mU 54 [.row 21] (.one (.int .i64)) (KX L)
theorem Zgs:SX Aa:=fun h=>sI h (Zl (Xk h) (Zl (Ziu h) ZR)) (Zl ⟨h.T _ _ rfl,by kernel_rfl⟩ (Zl ⟨h.T _ _ rfl,by kernel_rfl⟩ ZR)) rfl (by kernel_rfl) fun _=>rfl
def Po:QP→Nat→(Int×List (List UInt8×List UInt8)×PUnit→Option (Int×List (List UInt8×List UInt8)×PUnit))→Int×List (List UInt8×List UInt8)×PUnit→Option (Int×List (List UInt8×List UInt8)×PUnit):=fun x0 L self acc=>bif decide (acc.1 < (↑x0.4.length:Int)) then bT (ZK x0.4 acc.1) fun y=>bT (bT (BD L (x0,y.1,())) fun y_1=>bT (bif decide (y_1 < 0) == false then bT (BD L (x0,y.2,())) fun y=>some (decide (y < 0)) else some true) fun y_2=>bif y_2 then some (5,acc.2.1,()) else bif y.1 == y.2 then some (1,acc.2.1,()) else bT (ZG L (y.3,1,1000000000,())) fun y_3=>bif !y_3 then some (2,acc.2.1,()) else bif hasK MK.pstr acc.2.1 (y.1,y.2) then some (4,acc.2.1,()) else some (0,CP MK.pstr acc.2.1 (y.1,y.2),())) fun y=>bif y.1 != 0 then some (y.1,y.2.1,()) else self (Go.IntKind.i64.wrap (acc.1 + 1),y.2.1,()) else some (0,acc.2.1,())
theorem Zgc (L:Nat)(x0:QP):KX L (x0,())=bT (bif decide ((↑x0.4.length:Int) > 32) then some (6,[],()) else Zt (Po x0 L) L (0,[],())) fun y=>some y.1:=by kernel_rfl
def W9 (L:Nat)(x:(List (List UInt8))×(List UInt8)×PUnit):Option Int:=fT [] L QR [.rnd [.slot 8 (.int .i64)]] (.one (.int .i64)) [.lst 1 .str,.str] x
def QW (L:Nat):Sum tT:=mU 170 [.lst 1 .str,.str] (.one (.int .i64)) (W9 L)
theorem U4:SX QW:=fun h=>sT h ZR rfl (by kernel_rfl) fun _=>rfl
def Wl:List (List UInt8)→List UInt8→(Int×PUnit→Option Int)→Int×PUnit→Option Int:=fun x0 x1 self acc=>bif decide (acc.1 < (↑x0.length:Int)) then bT (ZK x0 acc.1) fun y=>bif x1 == y then some acc.1 else self (Go.IntKind.i64.wrap (acc.1 + 1),()) else some (-1)
theorem U0 (L:Nat)(x0:(List (List UInt8)))(x1:(List UInt8)):W9 L (x0,x1,())=Zt (Wl x0 x1) L (0,()):=by kernel_rfl
def Ya (L:Nat)(x:(List (List UInt8))×(List UInt8)×PUnit):Option Bool:=fT [QW L] L Qm [] (.one .bool) [.lst 1 .str,.str] x
def YM (L:Nat):Sum tT:=mU 133 [.lst 1 .str,.str] (.one .bool) (Ya L)
theorem Qu:SX YM:=fun h=>sT h (Zl (U4 h) ZR) rfl (by kernel_rfl) fun _=>rfl
theorem Jm (L:Nat)(x0:(List (List UInt8)))(x1:(List UInt8)):Ya L (x0,x1,())=bT (W9 L (x0,x1,())) fun y=>some (decide (y ≥ 0)):=by kernel_rfl
def ZaC:List (Inl tT):=[⟨175,YI,[.rnd [.slot 8 (.int .i64)]],.one (.int .i64),[]⟩,⟨176,Ob,[],.one (.bool),[]⟩]
def Qh (L:Nat)(x:Zc×(List UInt8)×PUnit):Option Int:=fI [] L ZaC LP [] (.one (.int .i64)) [.row 14,.str] x
def Hq (L:Nat):Sum tT:=mU 136 [.row 14,.str] (.one (.int .i64)) (Qh L)
theorem Bf:SX Hq:=fun h=>sI h ZR (Zl ⟨h.T _ _ rfl,by kernel_rfl⟩ (Zl ⟨h.T _ _ rfl,by kernel_rfl⟩ ZR)) rfl (by kernel_rfl) fun _=>rfl
def UI:Zc→List UInt8→(Int×PUnit→Option Int)→Int×PUnit→Option Int:=fun x0 x1 self acc=>bif decide (acc.1 < (↑x0.11.length:Int)) then bT (ZK x0.11 acc.1) fun y=>bif y.1 == x1 then some acc.1 else self (Go.IntKind.i64.wrap (acc.1 + 1),()) else some (-1)
theorem ZcB (L:Nat)(x0:Zc)(x1:(List UInt8)):Qh L (x0,x1,())=bT (Zt (UI x0 x1) L (0,())) fun y=>some y:=by kernel_rfl
def Zf8:List (Inl tT):=[⟨177,Yy,[],.one (.bool),[]⟩,⟨198,Y6,[.rnd [.slot 8 (.int .i64)]],.one (.int .i64),[]⟩,⟨178,DW,[],.one (.bool),[]⟩]
end Go.Proofs.YtgjcjbhhhlelnaaGreatDoor
end
noncomputable section
namespace Go.Proofs.YtgjcjbhhhlelnaaGreatDoor
open Go Go.Proofs.YtgjcjbhhhlelnaaGreatDoor.Abs Go.Proofs.YtgjcjbhhhlelnaaGreatDoor.Tl
set_option maxRecDepth 100000
set_option maxHeartbeats 0
def I7 (L:Nat)(x:Zc×IY×PUnit):Option Int:=fI [Q7 L,YM L,Hq L] L Zf8 Ce [] (.one (.int .i64)) [.row 14,.row 12] x
def Za1 (L:Nat):Sum tT:=mU 141 [.row 14,.row 12] (.one (.int .i64)) (I7 L)
theorem Zix:SX Za1:=fun h=>sI h (Zl (Xk h) (Zl (Qu h) (Zl (Bf h) ZR))) (Zl ⟨h.T _ _ rfl,by kernel_rfl⟩ (Zl ⟨h.T _ _ rfl,by kernel_rfl⟩ (Zl ⟨h.T _ _ rfl,by kernel_rfl⟩ ZR))) rfl (by kernel_rfl) fun _=>rfl
def XX:Zc→IY→(Int×PUnit→Option Int)→Int×PUnit→Option Int:=fun x0 x1 self acc=>bif decide (acc.1 < (↑x0.4.length:Int)) then bT (ZK x0.4 acc.1) fun y=>bif y.1 == x1.3 then some acc.1 else self (Go.IntKind.i64.wrap (acc.1 + 1),()) else some (-1)
def Eu:Zc→IY→(Int×PUnit→Option Int)→Int×PUnit→Option Int:=fun x0 x1 self acc=>bif decide (acc.1 < (↑x0.4.length:Int)) then bT (ZK x0.4 acc.1) fun y=>bif y.1 == x1.3 then some acc.1 else self (Go.IntKind.i64.wrap (acc.1 + 1),()) else some (-1)
def Ew:Zc→IY→(Int×PUnit→Option Int)→Int×PUnit→Option Int:=fun x0 x1 self acc=>bif decide (acc.1 < (↑x0.4.length:Int)) then bT (ZK x0.4 acc.1) fun y=>bif y.1 == x1.3 then some acc.1 else self (Go.IntKind.i64.wrap (acc.1 + 1),()) else some (-1)
theorem ZhW (L:Nat)(x0:Zc)(x1:IY):I7 L (x0,x1,())=bif x1.2 == [99,114,101,97,116,101,100] then bT (Qh L (x0,x1.3,())) fun y=>bif !decide (y ≥ 0) then some 5 else bT (ZG L (x1.1,(-1000),1000,())) fun y=>bif !y || x1.1 == 0 then some 2 else some 0 else bif x1.2 == [101,110,100,101,100] then bT (Qh L (x0,x1.3,())) fun y=>bif !decide (y ≥ 0) then some 5 else bT (ZG L (x1.1,(-1000),1000,())) fun y=>bif !y || x1.1 == 0 then some 2 else some 0 else bif x1.2 == [105,110,115,105,100,101] then bT (Qh L (x0,x1.3,())) fun y=>bif !decide (y ≥ 0) then some 5 else bT (ZG L (x1.1,(-1000),1000,())) fun y=>bif !y || x1.1 == 0 then some 2 else some 0 else bif x1.2 == [115,116,111,114,101,100] then bT (bT (Zt (XX x0 x1) L (0,())) fun y=>some (decide (y ≥ 0))) fun y=>bif !y then some 5 else bT (ZG L (x1.1,(-1000),1000,())) fun y=>bif !y || x1.1 == 0 then some 2 else some 0 else bif x1.2 == [101,110,116,101,114,101,100] then bT (bT (Zt (Eu x0 x1) L (0,())) fun y=>some (decide (y ≥ 0))) fun y=>bif !y then some 5 else bT (ZG L (x1.1,(-1000),1000,())) fun y=>bif !y || x1.1 == 0 then some 2 else some 0 else bif x1.2 == [108,101,102,116] then bT (bT (Zt (Ew x0 x1) L (0,())) fun y=>some (decide (y ≥ 0))) fun y=>bif !y then some 5 else bT (ZG L (x1.1,(-1000),1000,())) fun y=>bif !y || x1.1 == 0 then some 2 else some 0 else bif x1.2 == [99,111,117,110,116,101,100] then bT (Ya L (x0.10,x1.3,())) fun y=>bif !y then some 5 else bT (ZG L (x1.1,(-1000),1000,())) fun y=>bif !y || x1.1 == 0 then some 2 else some 0 else some 1:=by kernel_rfl
def Zf6:List (Inl tT):=[⟨137,Uo,[.rnd [.slot 16 (.int .i64),.cont 1 (.map .str)]],.one (.int .i64),[(3,[.cont 1 (.map .str)])]⟩,⟨138,DD,[],.one (.int .i64),[(4,[.cont 1 (.map .str)])]⟩,⟨139,JA,[.rnd [.slot 16 (.int .i64),.cont 1 (.map .str)]],.one (.int .i64),[(5,[.cont 1 (.map .str)])]⟩,⟨140,MP,[],.one (.int .i64),[]⟩,⟨52,Ws,[],.one (.int .i64),[(5,[.cont 1 (.map .str)])]⟩]
def I4 (L:Nat)(x:Zc×PUnit):Option Int:=fI [Zbk L,Za1 L,WX L] L Zf6 Cb [] (.one (.int .i64)) [.row 14] x
def Zaz (L:Nat):Sum tT:=mU 101 [.row 14] (.one (.int .i64)) (I4 L)
theorem Ziv:SX Zaz:=fun h=>sI h (Zl (Zgu h) (Zl (Zix h) (Zl (Qs h) ZR))) (Zl ⟨h.T _ _ rfl,by kernel_rfl⟩ (Zl ⟨h.T _ _ rfl,by kernel_rfl⟩ (Zl ⟨h.T _ _ rfl,by kernel_rfl⟩ (Zl ⟨h.T _ _ rfl,by kernel_rfl⟩ (Zl ⟨h.T _ _ rfl,by kernel_rfl⟩ ZR))))) rfl (by kernel_rfl) fun _=>rfl
def KE:Zc→Nat→Zdz→(Int×List (List UInt8)×PUnit→Option (Int×List (List UInt8)×PUnit))→Int×List (List UInt8)×PUnit→Option (Int×List (List UInt8)×PUnit):=fun x0 L y self acc=>bif decide (acc.1 < (↑y.2.length:Int)) then bT (ZK y.2 acc.1) fun y=>bT (bT (I7 L (x0,y,())) fun y=>some y) fun y=>bif y != 0 then some (y,acc.2.1,()) else self (Go.IntKind.i64.wrap (acc.1 + 1),acc.2.1,()) else some (0,acc.2.1,())
def KF:Zc→Nat→(Int×List (List UInt8)×PUnit→Option (Int×List (List UInt8)×PUnit))→Int×List (List UInt8)×PUnit→Option (Int×List (List UInt8)×PUnit):=fun x0 L self acc=>bif decide (acc.1 < (↑x0.13.length:Int)) then bT (ZK x0.13 acc.1) fun y=>bT (bT (bT (ZN L (y.1,())) fun y_1=>bif y_1 != 0 then some (y_1,acc.2.1,()) else bif hasK MK.str acc.2.1 y.1 then some (4,acc.2.1,()) else some (0,CP MK.str acc.2.1 y.1,())) fun y_1=>bif y_1.1 != 0 then some (y_1.1,y_1.2.1,()) else bif (↑y.2.length:Int) == 0 then some (7,y_1.2.1,()) else bT (bif decide ((↑y.2.length:Int) > 8) then some (6,y_1.2.1,()) else Zt (KE x0 L y) L (0,y_1.2.1,())) fun y_2=>bif y_2.1 != 0 then some (y_2.1,y_2.2.1,()) else bT (Dj L (y.3,())) fun y=>bif !y then some (2,y_2.2.1,()) else some (0,y_2.2.1,())) fun y=>bif y.1 != 0 then some (y.1,y.2.1,()) else self (Go.IntKind.i64.wrap (acc.1 + 1),y.2.1,()) else some (0,acc.2.1,())
theorem ZhU (L:Nat)(x0:Zc):I4 L (x0,())=bT (bif decide ((↑x0.13.length:Int) > 32) then some (6,[],()) else Zt (KF x0 L) L (0,[],())) fun y=>some y.1:=by kernel_rfl
def VV (L:Nat)(x:Int×Int×PUnit):Option Bool:=fT [Q7 L,Zbk L] L FZ [] (.one .bool) [.int .i64,.int .i64] x
def Iy (L:Nat):Sum tT:=mU 131 [.int .i64,.int .i64] (.one .bool) (VV L)
theorem Bg:SX Iy:=fun h=>sT h (Zl (Xk h) (Zl (Zgu h) ZR)) rfl (by kernel_rfl) fun _=>rfl
theorem ZhT (L:Nat)(x0:Int)(x1:Int):VV L (x0,x1,())=bif x0 == 1 then bT (Dj L (x1,())) fun y=>some y else bif x0 == 2 then some (x1 == 0 || x1 == 1) else bif x0 == 3 then bT (ZG L (x1,0,1000000000,())) fun y=>some y else some false:=by kernel_rfl
def KY (L:Nat)(x:Zc×Xo×PUnit):Option Int:=fT [Q7 L,Iy L,Hq L] L SI [.rnd [.slot 30 (.int .i64)]] (.one (.int .i64)) [.row 14,.row 11] x
def Ac (L:Nat):Sum tT:=mU 99 [.row 14,.row 11] (.one (.int .i64)) (KY L)
theorem Zgt:SX Ac:=fun h=>sT h (Zl (Xk h) (Zl (Bg h) (Zl (Bf h) ZR))) rfl (by kernel_rfl) fun _=>rfl
def Ub:Xo→Nat→ZT→(Int×PUnit→Option Int)→Int×PUnit→Option Int:=fun x1 L y self acc=>bif decide (acc.1 < (↑x1.2.length:Int)) then bT (ZK x1.2 acc.1) fun y_1=>bT (ZK y.2 acc.1) fun y=>bT (VV L (y.2,y_1,())) fun y=>bif !y then some 2 else self (Go.IntKind.i64.wrap (acc.1 + 1),()) else bT (ZG L (x1.3,0,1000000000,())) fun y=>bT (bif (!y) == false then bT (ZG L (x1.4,0,1000000000,())) fun y=>some !y else some true) fun y=>bT (bif y == false then bT (ZG L (x1.5,0,1000000000,())) fun y=>some !y else some true) fun y=>bif y || x1.4 == 0 && x1.5 != 0 then some 2 else some 0
theorem Zgd (L:Nat)(x0:Zc)(x1:Xo):KY L (x0,x1,())=bT (Qh L (x0,x1.1,())) fun y=>bif decide (y < 0) then some 5 else bT (ZK x0.11 y) fun y=>bif (↑x1.2.length:Int) != (↑y.2.length:Int) then some 8 else Zt (Ub x1 L y) L (0,()):=by kernel_rfl
def U8 (L:Nat)(x:Zu×PUnit):Option Int:=fT [VC L] L FW [] (.one (.int .i64)) [.row 8] x
def Zav (L:Nat):Sum tT:=mU 208 [.row 8] (.one (.int .i64)) (U8 L)
theorem Zir:SX Zav:=fun h=>sT h (Zl (GY h) ZR) rfl (by kernel_rfl) fun _=>rfl
theorem ZhQ (L:Nat)(x0:Zu):U8 L (x0,())=bT (Qe L (QJ.mk false,x0,())) fun y=>some y:=by kernel_rfl
def IB (L:Nat)(x:ZA×Gs×PUnit):Option Int:=fT [Iw L,Zav L,WX L] L CJ [.rnd [.slot 4 (.int .i64),.slot 26 (.int .i64)],.rnd [.slot 4 (.int .i64),.slot 53 (.int .i64)],.rnd [.slot 74 (.int .i64)]] (.one (.int .i64)) [.row 9,.row 26] x
def BA (L:Nat):Sum tT:=mU 197 [.row 9,.row 26] (.one (.int .i64)) (IB L)
theorem Zan:SX BA:=fun h=>sT h (Zl (Bd h) (Zl (Zir h) (Zl (Qs h) ZR))) rfl (by kernel_rfl) fun _=>rfl
def KO:ZA→Gs→Nat→(Int×PUnit→Option Int)→Int×PUnit→Option Int:=fun x0 x1 L self acc=>bif decide (acc.1 < (↑x0.6.length:Int)) then bT (ZK x0.6 acc.1) fun y=>bT (U8 L (y,())) fun y=>bif y != 0 then some y else self (Go.IntKind.i64.wrap (acc.1 + 1),()) else bif x1.6 then bT (Qy L (x0.7,())) fun y=>some y else some 0
def TN:ZA→Gs→Nat→Int×Int×PUnit→(Int×Int×PUnit→Option Int)→Int×Int×PUnit→Option Int:=fun x0 x1 L acc self acc_1=>bif decide (acc_1.2.1 < (↑[O9.mk x1.3 x0.4,O9.mk x1.4 x0.5].length:Int)) then bT (ZK [O9.mk x1.3 x0.4,O9.mk x1.4 x0.5] acc_1.2.1) fun y=>bif !y.1 then self (acc_1.1,Go.IntKind.i64.wrap (acc_1.2.1 + 1),()) else bT (U8 L (y.2,())) fun y=>bif y != 0 then some y else self (acc_1.1,Go.IntKind.i64.wrap (acc_1.2.1 + 1),()) else bif decide ((↑x0.6.length:Int) > 6) then some 6 else Zt (KO x0 x1 L) L (0,())
def ER:ZA→Gs→Nat→(Int×Int×PUnit→Option Int)→Int×Int×PUnit→Option Int:=fun x0 x1 L self acc=>bif decide (acc.2.1 < (↑[OA.mk x1.1 x0.2,OA.mk x1.2 x0.3].length:Int)) then bT (ZK [OA.mk x1.1 x0.2,OA.mk x1.2 x0.3] acc.2.1) fun y=>bT (ZN L (y.2,())) fun y_1=>bif y.1 && y_1 != 0 then some y_1 else self (acc.1,Go.IntKind.i64.wrap (acc.2.1 + 1),()) else Zt (TN x0 x1 L acc) L (acc.1,0,())
theorem Zii (L:Nat)(x0:ZA)(x1:Gs):IB L (x0,x1,())=Zt (ER x0 x1 L) L (0,0,()):=by kernel_rfl
def Jy (L:Nat)(x:Zu×PUnit):Option Bool:=fT [NM L] L Ea [] (.one .bool) [.row 8] x
def Ae (L:Nat):Sum tT:=mU 207 [.row 8] (.one .bool) (Jy L)
theorem Zgv:SX Ae:=fun h=>sT h (Zl (ZcP h) ZR) rfl (by kernel_rfl) fun _=>rfl
theorem Zgk (L:Nat)(x0:Zu):Jy L (x0,())=bT (TR L (x0,Zu.mk 0 [] 0 [],())) fun y=>some y:=by kernel_rfl
def MG (L:Nat)(x:ZA×Gs×PUnit):Option Bool:=fT [TP L,Ae L] L ZbK [] (.one .bool) [.row 9,.row 26] x
def NU (L:Nat):Sum tT:=mU 196 [.row 9,.row 26] (.one .bool) (MG L)
theorem ZcT:SX NU:=fun h=>sT h (Zl (NJ h) (Zl (Zgv h) ZR)) rfl (by kernel_rfl) fun _=>rfl
theorem Zko (L:Nat)(x0:ZA)(x1:Gs):MG L (x0,x1,())=bT (bif ((x1.1 || x0.2 == []) && (x1.2 || x0.3 == [])) == true then bif x1.3 == false then bT (Jy L (x0.4,())) fun y=>some y else some true else some false) fun y=>bT (bif y == true then bif x1.4 == false then bT (Jy L (x0.5,())) fun y=>some y else some true else some false) fun y=>bT (bif (y && (x1.5 || (↑x0.6.length:Int) == 0)) == true then bif x1.6 == false then bT (VF L (x0.7,YT.mk 0 0 0 0 [] [],())) fun y=>some y else some true else some false) fun y=>some (y && (x1.7 || !x0.8) && (x1.8 || (↑x0.9.length:Int) == 0) && (x1.9 || (↑x0.10.length:Int) == 0)):=by kernel_rfl
def MH (L:Nat)(x:Int×PUnit):Option (Gs×Bool×PUnit):=fT [] L ZbL [] (.tup [.row 26,.bool]) [.int .i64] x
def NV (L:Nat):Sum tT:=mU 195 [.int .i64] (.tup [.row 26,.bool]) (MH L)
theorem ZcU:SX NV:=fun h=>sT h ZR rfl (by kernel_rfl) fun _=>rfl
theorem Zkp (L:Nat)(x0:Int):MH L (x0,())=bif x0 == 1 then some (Gs.mk true false true false false false false false false,true,()) else bif x0 == 7 then some (Gs.mk true false true false false false false false false,true,()) else bif x0 == 8 then some (Gs.mk true false true false false false false false false,true,()) else bif x0 == 12 then some (Gs.mk true false true false false false false false false,true,()) else bif x0 == 15 then some (Gs.mk true false true false false false false false false,true,()) else bif x0 == 16 then some (Gs.mk true false true false false false false false false,true,()) else bif x0 == 17 then some (Gs.mk true false true false false false false false false,true,()) else bif x0 == 2 then some (Gs.mk true true false false false true false false false,true,()) else bif x0 == 3 then some (Gs.mk false false true false false false false true true,true,()) else bif x0 == 4 then some (Gs.mk false false true false false false false true false,true,()) else bif x0 == 5 then some (Gs.mk false false true false false false false false false,true,()) else bif x0 == 6 then some (Gs.mk true false true true false false true false false,true,()) else bif x0 == 9 then some (Gs.mk true true false false false false false false false,true,()) else bif x0 == 10 then some (Gs.mk true false false false false false false false false,true,()) else bif x0 == 11 then some (Gs.mk true false false false false false false false false,true,()) else bif x0 == 13 then some (Gs.mk true true true false true false false false false,true,()) else bif x0 == 14 then some (Gs.mk true false true false true false false false false,true,()) else bif x0 == 18 then some (Gs.mk false false false false false false false false false,true,()) else some (Gs.mk false false false false false false false false false,false,()):=by kernel_rfl
def TJ (L:Nat):Nat→List (Sum tT)
 | 0=>[⟨174,[.lst 21 (.row 9)],fun _=>.par _ none ((.one (.int .i64):RD).tv tT)⟩]
 | m + 1=>[⟨174,[.lst 21 (.row 9)],fun x=>.par _ (fnT tF tG (qOf tF (TJ L m ++ [BA L,NU L,NV L])) 0 L Rj [.rnd [.slot 12 (.int .i64)]] (.one (.int .i64)) (tvL tT [.lst 21 (.row 9)] x) []) ((.one (.int .i64):RD).tv tT)⟩]
theorem Le {C:Cfg}{L:Nat}(h:St C L):∀ m,∀ s ∈ TJ L m,J5 C s
 | 0=>(Zl (Ir _ _ _) ZR)
 | m + 1=>have ih:=Le h m
  (Zl (Xn QM h.L h.G (Jk QM (Dt ih (Zl (Zan h) (Zl (ZcT h) (Zl (ZcU h) ZR))))) [.rnd [.slot 12 (.int .i64)]] (h.T _ _ rfl) (by kernel_rfl) fun _=>rfl) ZR)
def J4 (L m:Nat)(x:(List ZA)×PUnit):Option (Int):=fnT tF tG (qOf tF (TJ L m ++ [BA L,NU L,NV L])) 0 L Rj [.rnd [.slot 12 (.int .i64)]] (.one (.int .i64)) (tvL tT [.lst 21 (.row 9)] x) []
def BH (L:Nat)(x:(List ZA)×PUnit):Option (Int):=J4 L L x
def Za6 (L:Nat):Sum tT:=⟨174,[.lst 21 (.row 9)],fun x=>.par ((.one (.int .i64):RD).Ty tT) (BH L x) ((.one (.int .i64):RD).tv tT)⟩
theorem Zi1 {C:Cfg}{L:Nat}(h:St C L):J5 C (Za6 L):=have ih:=Le h L
 Xn QM h.L h.G (Jk QM (Dt ih (Zl (Zan h) (Zl (ZcT h) (Zl (ZcU h) ZR))))) [.rnd [.slot 12 (.int .i64)]] (h.T _ _ rfl) (by kernel_rfl) fun _=>rfl
def TM:Nat→List ZA→Nat→(Int×PUnit→Option Int)→Int×PUnit→Option Int:=fun (m:Nat)=>fun x0 L self acc=>bif decide (acc.1 < (↑x0.length:Int)) then bT (ZK x0 acc.1) fun y=>bT (MH L (y.1,())) fun y_1=>bT (bif (!y_1.2.1) == false then bT (MG L (y,y_1.1,())) fun y=>some !y else some true) fun y_2=>bif y_2 then some 1 else bT (IB L (y,y_1.1,())) fun y_3=>bif y_3 != 0 then some y_3 else bT (J4 L m (y.9,())) fun y_4=>bif y_4 != 0 then some y_4 else bT (J4 L m (y.10,())) fun y=>bif y != 0 then some y else self (Go.IntKind.i64.wrap (acc.1 + 1),()) else some 0
theorem Zih (L m:Nat)(x0:(List ZA)):J4 L (m + 1) (x0,())=Zt (TM m x0 L) L (0,()):=by kernel_rfl
end Go.Proofs.YtgjcjbhhhlelnaaGreatDoor
end
noncomputable section
namespace Go.Proofs.YtgjcjbhhhlelnaaGreatDoor
open Go Go.Proofs.YtgjcjbhhhlelnaaGreatDoor.Abs Go.Proofs.YtgjcjbhhhlelnaaGreatDoor.Tl
set_option maxRecDepth 100000
set_option maxHeartbeats 0
def TD (L:Nat):Nat→List (Sum tT)
 | 0=>[⟨173,[.lst 21 (.row 9)],fun _=>.par _ none ((.one (.int .i64):RD).tv tT)⟩]
 | m + 1=>[⟨173,[.lst 21 (.row 9)],fun x=>.par _ (fnT tF tG (qOf tF (TD L m ++ [])) 0 L Ri [.rnd [.slot 3 (.int .i64),.slot 8 (.int .i64)]] (.one (.int .i64)) (tvL tT [.lst 21 (.row 9)] x) []) ((.one (.int .i64):RD).tv tT)⟩]
theorem Ld {C:Cfg}{L:Nat}(h:St C L):∀ m,∀ s ∈ TD L m,J5 C s
 | 0=>(Zl (Ir _ _ _) ZR)
 | m + 1=>have ih:=Ld h m
  (Zl (Xn QM h.L h.G (Jk QM (Dt ih ZR)) [.rnd [.slot 3 (.int .i64),.slot 8 (.int .i64)]] (h.T _ _ rfl) (by kernel_rfl) fun _=>rfl) ZR)
def J3 (L m:Nat)(x:(List ZA)×PUnit):Option (Int):=fnT tF tG (qOf tF (TD L m ++ [])) 0 L Ri [.rnd [.slot 3 (.int .i64),.slot 8 (.int .i64)]] (.one (.int .i64)) (tvL tT [.lst 21 (.row 9)] x) []
def BG (L:Nat)(x:(List ZA)×PUnit):Option (Int):=J3 L L x
def Za5 (L:Nat):Sum tT:=⟨173,[.lst 21 (.row 9)],fun x=>.par ((.one (.int .i64):RD).Ty tT) (BG L x) ((.one (.int .i64):RD).tv tT)⟩
theorem Zi0 {C:Cfg}{L:Nat}(h:St C L):J5 C (Za5 L):=have ih:=Ld h L
 Xn QM h.L h.G (Jk QM (Dt ih ZR)) [.rnd [.slot 3 (.int .i64),.slot 8 (.int .i64)]] (h.T _ _ rfl) (by kernel_rfl) fun _=>rfl
def TL:Nat→List ZA→Nat→(Int×Int×PUnit→Option Int)→Int×Int×PUnit→Option Int:=fun (m:Nat)=>fun x0 L self acc=>bif decide (acc.2.1 < (↑x0.length:Int)) then bT (ZK x0 acc.2.1) fun y=>bT (bT (J3 L m (y.9,())) fun y=>some y) fun y_1=>bT (bT (J3 L m (y.10,())) fun y=>some y) fun y=>self (if Go.IntKind.i64.wrap (1 + y) > if Go.IntKind.i64.wrap (1 + y_1) > acc.1 then Go.IntKind.i64.wrap (1 + y_1) else acc.1 then Go.IntKind.i64.wrap (1 + y) else if Go.IntKind.i64.wrap (1 + y_1) > acc.1 then Go.IntKind.i64.wrap (1 + y_1) else acc.1,Go.IntKind.i64.wrap (acc.2.1 + 1),()) else some acc.1
theorem Zig (L m:Nat)(x0:(List ZA)):J3 L (m + 1) (x0,())=Zt (TL m x0 L) L (0,0,()):=by kernel_rfl
def TC (L:Nat):Nat→List (Sum tT)
 | 0=>[⟨172,[.lst 21 (.row 9)],fun _=>.par _ none ((.one (.int .i64):RD).tv tT)⟩]
 | m + 1=>[⟨172,[.lst 21 (.row 9)],fun x=>.par _ (fnT tF tG (qOf tF (TC L m ++ [])) 0 L Rh [.rnd [.slot 3 (.int .i64),.slot 10 (.int .i64)]] (.one (.int .i64)) (tvL tT [.lst 21 (.row 9)] x) []) ((.one (.int .i64):RD).tv tT)⟩]
theorem Lc {C:Cfg}{L:Nat}(h:St C L):∀ m,∀ s ∈ TC L m,J5 C s
 | 0=>(Zl (Ir _ _ _) ZR)
 | m + 1=>have ih:=Lc h m
  (Zl (Xn QM h.L h.G (Jk QM (Dt ih ZR)) [.rnd [.slot 3 (.int .i64),.slot 10 (.int .i64)]] (h.T _ _ rfl) (by kernel_rfl) fun _=>rfl) ZR)
def Jz (L m:Nat)(x:(List ZA)×PUnit):Option (Int):=fnT tF tG (qOf tF (TC L m ++ [])) 0 L Rh [.rnd [.slot 3 (.int .i64),.slot 10 (.int .i64)]] (.one (.int .i64)) (tvL tT [.lst 21 (.row 9)] x) []
def BF (L:Nat)(x:(List ZA)×PUnit):Option (Int):=Jz L L x
def Za4 (L:Nat):Sum tT:=⟨172,[.lst 21 (.row 9)],fun x=>.par ((.one (.int .i64):RD).Ty tT) (BF L x) ((.one (.int .i64):RD).tv tT)⟩
theorem Ziz {C:Cfg}{L:Nat}(h:St C L):J5 C (Za4 L):=have ih:=Lc h L
 Xn QM h.L h.G (Jk QM (Dt ih ZR)) [.rnd [.slot 3 (.int .i64),.slot 10 (.int .i64)]] (h.T _ _ rfl) (by kernel_rfl) fun _=>rfl
def TK:Nat→List ZA→Nat→(Int×Int×PUnit→Option Int)→Int×Int×PUnit→Option Int:=fun (m:Nat)=>fun x0 L self acc=>bif decide (acc.2.1 < (↑x0.length:Int)) then bT (ZK x0 acc.2.1) fun y=>bT (bT (Jz L m (y.9,())) fun y=>some y) fun y_1=>bT (bT (Jz L m (y.10,())) fun y=>some y) fun y=>self (Go.IntKind.i64.wrap (acc.1 + Go.IntKind.i64.wrap (y_1 + y)),Go.IntKind.i64.wrap (acc.2.1 + 1),()) else some acc.1
theorem Zif (L m:Nat)(x0:(List ZA)):Jz L (m + 1) (x0,())=Zt (TK m x0 L) L ((↑x0.length:Int),0,()):=by kernel_rfl
def IA (L:Nat)(x:(List ZA)×PUnit):Option Int:=fT [Za6 L,Za5 L,Za4 L] L CG [] (.one (.int .i64)) [.lst 21 (.row 9)] x
def Za3 (L:Nat):Sum tT:=mU 135 [.lst 21 (.row 9)] (.one (.int .i64)) (IA L)
theorem Ziy:SX Za3:=fun h=>sT h (Zl (Zi1 h) (Zl (Zi0 h) (Zl (Ziz h) ZR))) rfl (by kernel_rfl) fun _=>rfl
theorem Zie (L:Nat)(x0:(List ZA)):IA L (x0,())=bT (BF L (x0,())) fun y=>bif decide (y > 200) then some 6 else bT (BG L (x0,())) fun y=>bif decide (y > 12) then some 11 else bT (BH L (x0,())) fun y=>some y:=by kernel_rfl
def Vb (L:Nat)(x:Int×PUnit):Option Bool:=fT [] L SG [] (.one .bool) [.int .i64] x
def KP (L:Nat):Sum tT:=mU 130 [.int .i64] (.one .bool) (Vb L)
theorem Tv:SX KP:=fun h=>sT h ZR rfl (by kernel_rfl) fun _=>rfl
theorem Zgb (L:Nat)(x0:Int):Vb L (x0,())=some (decide (x0 ≥ 1) && decide (x0≤3)):=by kernel_rfl
def Yd (L:Nat)(x:(List (List WB))×PUnit):Option (List WB):=fT [Ztv] L WJ [.rnd [.slot 3 (.int .i64),.slot 11 (.int .i64)],.rnd [.slot 6 (.own 2 (.row 7)),.slot 27 (.int .i64)]] (.one (.lst 2 (.row 7))) [.lst 1 (.lst 2 (.row 7))] x
def WO (L:Nat):Sum tT:=mU 134 [.lst 1 (.lst 2 (.row 7))] (.one (.lst 2 (.row 7))) (Yd L)
theorem Vl:SX WO:=fun h=>sT h (Zl (Zyd h) ZR) rfl (by kernel_rfl) fun _=>rfl
def Y2:List (List WB)→(List WB×Int×PUnit→Option (List WB))→List WB×Int×PUnit→Option (List WB):=fun x0 self acc=>bif decide (acc.2.1 < (↑x0.length:Int)) then bT (ZK x0 acc.2.1) fun y=>bT (apT 24 acc.1 y) fun y=>self (y,Go.IntKind.i64.wrap (acc.2.1 + 1),()) else some acc.1
def WF:List (List WB)→Nat→(Int×Int×PUnit→Option (List WB))→Int×Int×PUnit→Option (List WB):=fun x0 L self acc=>bif decide (acc.2.1 < (↑x0.length:Int)) then bT (ZK x0 acc.2.1) fun y=>bif decide (Go.IntKind.i64.wrap (acc.1 + (↑y.length:Int)) < 0) then none else self (Go.IntKind.i64.wrap (acc.1 + (↑y.length:Int)),Go.IntKind.i64.wrap (acc.2.1 + 1),()) else bT (Zrl [] acc.1) fun y=>Zt (Y2 x0) L (y,0,())
theorem Vk (L:Nat)(x0:(List (List WB))):Yd L (x0,())=Zt (WF x0 L) L (0,0,()):=by kernel_rfl
def ZaD:List (Inl tT):=[⟨52,Ws,[],.one (.int .i64),[(3,[.cont 1 (.map .str)])]⟩]
def Ju (L:Nat)(x:ZT×PUnit):Option Int:=fI [Za3 L,KP L,WX L,WO L] L ZaD LU [.rnd [.slot 29 (.int .i64),.cont 1 (.map .str)]] (.one (.int .i64)) [.row 10] x
def Bv (L:Nat):Sum tT:=mU 95 [.row 10] (.one (.int .i64)) (Ju L)
theorem ZcR:SX Bv:=fun h=>sI h (Zl (Ziy h) (Zl (Tv h) (Zl (Qs h) (Zl (Vl h) ZR)))) (Zl ⟨h.T _ _ rfl,by kernel_rfl⟩ ZR) rfl (by kernel_rfl) fun _=>rfl
def Vx:ZT→Nat→List WB→(Int×List (List UInt8)×PUnit→Option Int)→Int×List (List UInt8)×PUnit→Option Int:=fun x0 L y self acc=>bif decide (acc.1 < (↑y.length:Int)) then bT (ZK y acc.1) fun y=>bT (bT (ZN L (y.1,())) fun y_1=>bif y_1 != 0 then some (y_1,acc.2.1,()) else bif hasK MK.str acc.2.1 y.1 then some (4,acc.2.1,()) else some (0,CP MK.str acc.2.1 y.1,())) fun y_1=>bif y_1.1 != 0 then some y_1.1 else bT (Vb L (y.2,())) fun y=>bif !y then some 1 else self (Go.IntKind.i64.wrap (acc.1 + 1),y_1.2.1,()) else bT (IA L (x0.4,())) fun y=>some y
theorem ZcC (L:Nat)(x0:ZT):Ju L (x0,())=bif decide ((↑x0.2.length:Int) > 6) || decide (Go.IntKind.i64.wrap ((↑x0.2.length:Int) + (↑x0.3.length:Int)) > 16) then some 6 else bT (Yd L ([x0.2,x0.3],())) fun y=>Zt (Vx x0 L y) L (0,[],()):=by kernel_rfl
def Vy (L:Nat)(x:Zc×LC×PUnit):Option Int:=fT [Iw L,YM L,TP L] L MO [] (.one (.int .i64)) [.row 14,.row 3] x
def Ll (L:Nat):Sum tT:=mU 80 [.row 14,.row 3] (.one (.int .i64)) (Vy L)
theorem ZaO:SX Ll:=fun h=>sT h (Zl (Bd h) (Zl (Qu h) (Zl (NJ h) ZR))) rfl (by kernel_rfl) fun _=>rfl
theorem ZaK (L:Nat)(x0:Zc)(x1:LC):Vy L (x0,x1,())=bT (bif (x1.1 == []) == true then bT (VF L (x1.2,YT.mk 0 0 0 0 [] [],())) fun y=>bif (!y) == false then bT (VF L (x1.3,YT.mk 0 0 0 0 [] [],())) fun y=>some !y else some true else some false) fun y=>bif y then some 1 else bif x1.1 == [] then some 0 else bT (Ya L (x0.7,x1.1,())) fun y=>bif !y then some 5 else bT (Qy L (x1.2,())) fun y=>bif y != 0 then some y else bT (Qy L (x1.3,())) fun y=>some y:=by kernel_rfl
def Vz (L:Nat)(x:Zy×PUnit):Option Int:=fT [Q7 L] L MQ [.rnd [.slot 25 (.int .i64)]] (.one (.int .i64)) [.row 4] x
def Lm (L:Nat):Sum tT:=mU 79 [.row 4] (.one (.int .i64)) (Vz L)
theorem ZaP:SX Lm:=fun h=>sT h (Zl (Xk h) ZR) rfl (by kernel_rfl) fun _=>rfl
def QL:Zy→Nat→(Int×PUnit→Option Int)→Int×PUnit→Option Int:=fun x0 L self acc=>bif decide (acc.1 < (↑x0.3.length:Int)) then bT (ZK x0.3 acc.1) fun y=>bT (ZG L (y.1,0,Go.IntKind.i64.wrap (x0.4 - 1),())) fun y_1=>bif !y_1 then some 2 else bT (ZG L (y.2,0,1000,())) fun y_2=>bif !y_2 then some 2 else bT (bif decide (acc.1 > 0) == true then bT (ZK x0.3 (Go.IntKind.i64.wrap (acc.1 - 1))) fun y_3=>some (decide (y.1≤y_3.1)) else some false) fun y=>bif y then some 12 else self (Go.IntKind.i64.wrap (acc.1 + 1),()) else some 0
theorem ZaL (L:Nat)(x0:Zy):Vz L (x0,())=bif (↑x0.3.length:Int) == 0 then bif x0.4 != 0 then some 1 else some 0 else bif decide ((↑x0.3.length:Int) > 20) then some 6 else bT (ZG L (x0.4,1,1000000000,())) fun y=>bif !y then some 2 else Zt (QL x0 L) L (0,()):=by kernel_rfl
def Zf7:List (Inl tT):=[⟨73,SE,[.unr 60],.one (.int .i64),[(5,[.cont 1 (.map .str)])]⟩,⟨100,LY,[],.one (.int .i64),[]⟩,⟨96,LX,[],.one (.int .i64),[(5,[.cont 1 (.map .str)])]⟩,⟨97,VZ,[.rnd [.slot 16 (.int .i64),.cont 1 (.map .str)]],.one (.int .i64),[(5,[.cont 1 (.map .str)])]⟩,⟨98,Oe,[],.one (.int .i64),[]⟩,⟨92,LW,[],.one (.int .i64),[(5,[.cont 1 (.map .str)])]⟩,⟨93,Vp,[.rnd [.slot 16 (.int .i64),.cont 1 (.map .str)]],.one (.int .i64),[(5,[.cont 1 (.map .str)])]⟩,⟨94,Oc,[],.one (.int .i64),[(6,[.cont 1 (.map .str)])]⟩,⟨52,Ws,[],.one (.int .i64),[(7,[.cont 1 (.map .str)]),(5,[.cont 1 (.map .str)])]⟩,⟨91,LV,[],.one (.int .i64),[(5,[.cont 1 (.map .str)])]⟩,⟨90,DV,[],.one (.int .i64),[(5,[.cont 1 (.map .str)])]⟩,⟨89,DU,[],.one (.int .i64),[(5,[.cont 1 (.map .str)])]⟩,⟨88,DT,[],.one (.int .i64),[(5,[.cont 1 (.map .str)])]⟩,⟨87,DR,[],.one (.int .i64),[(5,[.cont 1 (.map .str)])]⟩,⟨84,DN,[],.one (.int .i64),[(5,[.cont 1 (.map .str)])]⟩,⟨85,Ve,[.rnd [.slot 16 (.int .i64),.cont 1 (.map .str)]],.one (.int .i64),[(5,[.cont 1 (.map .str)])]⟩,⟨86,MV,[],.one (.int .i64),[(6,[.cont 1 (.map .str)])]⟩,⟨81,DL,[],.one (.int .i64),[(5,[.cont 1 (.map .str)])]⟩,⟨82,X7,[.rnd [.slot 16 (.int .i64),.cont 1 (.map .str)]],.one (.int .i64),[(5,[.cont 1 (.map .str)])]⟩,⟨83,MS,[],.one (.int .i64),[(6,[.cont 1 (.map .str)])]⟩,⟨75,DJ,[],.one (.int .i64),[(5,[.cont 1 (.map .str)])]⟩,⟨76,QQ,[.rnd [.slot 16 (.int .i64),.cont 1 (.map .str)]],.one (.int .i64),[(5,[.cont 1 (.map .str)])]⟩,⟨77,MR,[],.one (.int .i64),[(6,[.cont 1 (.map .str)])]⟩,⟨74,DI,[],.one (.int .i64),[(5,[.cont 1 (.map .str)])]⟩,⟨49,Xl,[],.one (.int .i64),[(5,[.cont 1 (.map .str)])]⟩,⟨69,QX,[.rnd [.slot 16 (.int .i64),.cont 1 (.map .str)]],.one (.int .i64),[(5,[.cont 1 (.map .str)])]⟩,⟨70,X6,[],.one (.int .i64),[(6,[.cont 1 (.map .str)])]⟩,⟨71,DF,[],.one (.int .i64),[(5,[.cont 1 (.map .str)])]⟩,⟨72,UR,[.rnd [.slot 16 (.int .i64),.cont 1 (.map .str)]],.one (.int .i64),[(5,[.cont 1 (.map .str)])]⟩]
def I5 (L:Nat)(x:Zc×PUnit):Option Int:=fI [Zaz L,Ac L,Bv L,WX L,Q7 L,Ll L,Lm L,Iy L,KP L] L Zf7 Cc [] (.one (.int .i64)) [.row 14] x
def Za0 (L:Nat):Sum tT:=mU 53 [.row 14] (.one (.int .i64)) (I5 L)
theorem Ziw:SX Za0:=fun h=>sI h (Zl (Ziv h) (Zl (Zgt h) (Zl (ZcR h) (Zl (Qs h) (Zl (Xk h) (Zl (ZaO h) (Zl (ZaP h) (Zl (Bg h) (Zl (Tv h) ZR))))))))) (Zl ⟨h.T _ _ rfl,by kernel_rfl⟩ (Zl ⟨h.T _ _ rfl,by kernel_rfl⟩ (Zl ⟨h.T _ _ rfl,by kernel_rfl⟩ (Zl ⟨h.T _ _ rfl,by kernel_rfl⟩ (Zl ⟨h.T _ _ rfl,by kernel_rfl⟩ (Zl ⟨h.T _ _ rfl,by kernel_rfl⟩ (Zl ⟨h.T _ _ rfl,by kernel_rfl⟩ (Zl ⟨h.T _ _ rfl,by kernel_rfl⟩ (Zl ⟨h.T _ _ rfl,by kernel_rfl⟩ (Zl ⟨h.T _ _ rfl,by kernel_rfl⟩ (Zl ⟨h.T _ _ rfl,by kernel_rfl⟩ (Zl ⟨h.T _ _ rfl,by kernel_rfl⟩ (Zl ⟨h.T _ _ rfl,by kernel_rfl⟩ (Zl ⟨h.T _ _ rfl,by kernel_rfl⟩ (Zl ⟨h.T _ _ rfl,by kernel_rfl⟩ (Zl ⟨h.T _ _ rfl,by kernel_rfl⟩ (Zl ⟨h.T _ _ rfl,by kernel_rfl⟩ (Zl ⟨h.T _ _ rfl,by kernel_rfl⟩ (Zl ⟨h.T _ _ rfl,by kernel_rfl⟩ (Zl ⟨h.T _ _ rfl,by kernel_rfl⟩ (Zl ⟨h.T _ _ rfl,by kernel_rfl⟩ (Zl ⟨h.T _ _ rfl,by kernel_rfl⟩ (Zl ⟨h.T _ _ rfl,by kernel_rfl⟩ (Zl ⟨h.T _ _ rfl,by kernel_rfl⟩ (Zl ⟨h.T _ _ rfl,by kernel_rfl⟩ (Zl ⟨h.T _ _ rfl,by kernel_rfl⟩ (Zl ⟨h.T _ _ rfl,by kernel_rfl⟩ (Zl ⟨h.T _ _ rfl,by kernel_rfl⟩ (Zl ⟨h.T _ _ rfl,by kernel_rfl⟩ ZR))))))))))))))))))))))))))))) rfl (by kernel_rfl) fun _=>rfl
def KG:Zc→Nat→(Int×List (List UInt8)×PUnit→Option (Int×List (List UInt8)×PUnit))→Int×List (List UInt8)×PUnit→Option (Int×List (List UInt8)×PUnit):=fun x0 L self acc=>bif decide (acc.1 < (↑x0.2.length:Int)) then bT (ZK x0.2 acc.1) fun y=>bT (bT (bT (ZN L (y.1,())) fun y_1=>bif y_1 != 0 then some (y_1,acc.2.1,()) else bif hasK MK.str acc.2.1 y.1 then some (4,acc.2.1,()) else some (0,CP MK.str acc.2.1 y.1,())) fun y_1=>bif y_1.1 != 0 then some (y_1.1,y_1.2.1,()) else bT (Vb L (y.2,())) fun y_2=>bif !y_2 then some (1,y_1.2.1,()) else bT (VV L (y.2,y.3,())) fun y=>bif !y then some (2,y_1.2.1,()) else some (0,y_1.2.1,())) fun y=>bif y.1 != 0 then some (y.1,y.2.1,()) else self (Go.IntKind.i64.wrap (acc.1 + 1),y.2.1,()) else some (0,acc.2.1,())
def KH:Zc→Nat→(Int×List (List UInt8)×PUnit→Option (Int×List (List UInt8)×PUnit))→Int×List (List UInt8)×PUnit→Option (Int×List (List UInt8)×PUnit):=fun x0 L self acc=>bif decide (acc.1 < (↑x0.3.length:Int)) then bT (ZK x0.3 acc.1) fun y=>bT (bT (bT (ZN L (y.1,())) fun y_1=>bif y_1 != 0 then some (y_1,acc.2.1,()) else bif hasK MK.str acc.2.1 y.1 then some (4,acc.2.1,()) else some (0,CP MK.str acc.2.1 y.1,())) fun y_1=>bif y_1.1 != 0 then some (y_1.1,y_1.2.1,()) else bT (ZG L (y.2,0,1000,())) fun y_2=>bif !y_2 then some (2,y_1.2.1,()) else bT (Vz L (y,())) fun y_3=>bif y_3 != 0 then some (y_3,y_1.2.1,()) else bT (Vy L (x0,y.5,())) fun y=>some (y,y_1.2.1,())) fun y=>bif y.1 != 0 then some (y.1,y.2.1,()) else self (Go.IntKind.i64.wrap (acc.1 + 1),y.2.1,()) else some (0,acc.2.1,())
def KI:Zc→Nat→(Int×List (List UInt8)×PUnit→Option (Int×List (List UInt8)×PUnit))→Int×List (List UInt8)×PUnit→Option (Int×List (List UInt8)×PUnit):=fun x0 L self acc=>bif decide (acc.1 < (↑x0.4.length:Int)) then bT (ZK x0.4 acc.1) fun y=>bT (bT (bT (ZN L (y.1,())) fun y_1=>bif y_1 != 0 then some (y_1,acc.2.1,()) else bif hasK MK.str acc.2.1 y.1 then some (4,acc.2.1,()) else some (0,CP MK.str acc.2.1 y.1,())) fun y_1=>bif y_1.1 != 0 then some (y_1.1,y_1.2.1,()) else bT (ZG L (y.2,1,1000,())) fun y_2=>bif !y_2 then some (2,y_1.2.1,()) else bif decide (y.3 < 1) || decide (y.3 > 3) then some (1,y_1.2.1,()) else some (0,y_1.2.1,())) fun y=>bif y.1 != 0 then some (y.1,y.2.1,()) else self (Go.IntKind.i64.wrap (acc.1 + 1),y.2.1,()) else some (0,acc.2.1,())
def KJ:Zc→Nat→(Int×List (List UInt8)×PUnit→Option (Int×List (List UInt8)×PUnit))→Int×List (List UInt8)×PUnit→Option (Int×List (List UInt8)×PUnit):=fun x0 L self acc=>bif decide (acc.1 < (↑x0.5.length:Int)) then bT (ZK x0.5 acc.1) fun y=>bT (bT (bT (ZN L (y.1,())) fun y_1=>bif y_1 != 0 then some (y_1,acc.2.1,()) else bif hasK MK.str acc.2.1 y.1 then some (4,acc.2.1,()) else some (0,CP MK.str acc.2.1 y.1,())) fun y_1=>bif y_1.1 != 0 then some (y_1.1,y_1.2.1,()) else bT (ZG L (y.2,1,1000,())) fun y_2=>bT (bif (!y_2) == false then bT (ZG L (y.3,1,1000,())) fun y=>some !y else some true) fun y=>bif y then some (2,y_1.2.1,()) else some (0,y_1.2.1,())) fun y=>bif y.1 != 0 then some (y.1,y.2.1,()) else self (Go.IntKind.i64.wrap (acc.1 + 1),y.2.1,()) else some (0,acc.2.1,())
def KL:Zc→Nat→(Int×List (List UInt8)×PUnit→Option (Int×List (List UInt8)×PUnit))→Int×List (List UInt8)×PUnit→Option (Int×List (List UInt8)×PUnit):=fun x0 L self acc=>bif decide (acc.1 < (↑x0.6.length:Int)) then bT (ZK x0.6 acc.1) fun y=>bT (bT (ZN L (y,())) fun y_1=>bif y_1 != 0 then some (y_1,acc.2.1,()) else bif hasK MK.str acc.2.1 y then some (4,acc.2.1,()) else some (0,CP MK.str acc.2.1 y,())) fun y=>bif y.1 != 0 then some (y.1,y.2.1,()) else self (Go.IntKind.i64.wrap (acc.1 + 1),y.2.1,()) else some (0,acc.2.1,())
def Eo:Zc→Nat→(Int×List (List UInt8)×PUnit→Option (Int×List (List UInt8)×PUnit))→Int×List (List UInt8)×PUnit→Option (Int×List (List UInt8)×PUnit):=fun x0 L self acc=>bif decide (acc.1 < (↑x0.7.length:Int)) then bT (ZK x0.7 acc.1) fun y=>bT (bT (ZN L (y,())) fun y_1=>bif y_1 != 0 then some (y_1,acc.2.1,()) else bif hasK MK.str acc.2.1 y then some (4,acc.2.1,()) else some (0,CP MK.str acc.2.1 y,())) fun y=>bif y.1 != 0 then some (y.1,y.2.1,()) else self (Go.IntKind.i64.wrap (acc.1 + 1),y.2.1,()) else some (0,acc.2.1,())
def Ep:Zc→Nat→(Int×List (List UInt8)×PUnit→Option (Int×List (List UInt8)×PUnit))→Int×List (List UInt8)×PUnit→Option (Int×List (List UInt8)×PUnit):=fun x0 L self acc=>bif decide (acc.1 < (↑x0.8.length:Int)) then bT (ZK x0.8 acc.1) fun y=>bT (bT (ZN L (y,())) fun y_1=>bif y_1 != 0 then some (y_1,acc.2.1,()) else bif hasK MK.str acc.2.1 y then some (4,acc.2.1,()) else some (0,CP MK.str acc.2.1 y,())) fun y=>bif y.1 != 0 then some (y.1,y.2.1,()) else self (Go.IntKind.i64.wrap (acc.1 + 1),y.2.1,()) else some (0,acc.2.1,())
def Es:Zc→Nat→(Int×List (List UInt8)×PUnit→Option (Int×List (List UInt8)×PUnit))→Int×List (List UInt8)×PUnit→Option (Int×List (List UInt8)×PUnit):=fun x0 L self acc=>bif decide (acc.1 < (↑x0.9.length:Int)) then bT (ZK x0.9 acc.1) fun y=>bT (bT (ZN L (y,())) fun y_1=>bif y_1 != 0 then some (y_1,acc.2.1,()) else bif hasK MK.str acc.2.1 y then some (4,acc.2.1,()) else some (0,CP MK.str acc.2.1 y,())) fun y=>bif y.1 != 0 then some (y.1,y.2.1,()) else self (Go.IntKind.i64.wrap (acc.1 + 1),y.2.1,()) else some (0,acc.2.1,())
def Et:Zc→Nat→(Int×List (List UInt8)×PUnit→Option (Int×List (List UInt8)×PUnit))→Int×List (List UInt8)×PUnit→Option (Int×List (List UInt8)×PUnit):=fun x0 L self acc=>bif decide (acc.1 < (↑x0.10.length:Int)) then bT (ZK x0.10 acc.1) fun y=>bT (bT (ZN L (y,())) fun y_1=>bif y_1 != 0 then some (y_1,acc.2.1,()) else bif hasK MK.str acc.2.1 y then some (4,acc.2.1,()) else some (0,CP MK.str acc.2.1 y,())) fun y=>bif y.1 != 0 then some (y.1,y.2.1,()) else self (Go.IntKind.i64.wrap (acc.1 + 1),y.2.1,()) else some (0,acc.2.1,())
def KN:Zc→Nat→(Int×List (List UInt8)×PUnit→Option (Int×List (List UInt8)×PUnit))→Int×List (List UInt8)×PUnit→Option (Int×List (List UInt8)×PUnit):=fun x0 L self acc=>bif decide (acc.1 < (↑x0.11.length:Int)) then bT (ZK x0.11 acc.1) fun y=>bT (bT (bT (ZN L (y.1,())) fun y_1=>bif y_1 != 0 then some (y_1,acc.2.1,()) else bif hasK MK.str acc.2.1 y.1 then some (4,acc.2.1,()) else some (0,CP MK.str acc.2.1 y.1,())) fun y_1=>bif y_1.1 != 0 then some (y_1.1,y_1.2.1,()) else bT (Ju L (y,())) fun y=>some (y,y_1.2.1,())) fun y=>bif y.1 != 0 then some (y.1,y.2.1,()) else self (Go.IntKind.i64.wrap (acc.1 + 1),y.2.1,()) else some (0,acc.2.1,())
def Xi:Zc→Nat→(Int×List (List UInt8)×PUnit→Option (Int×List (List UInt8)×PUnit))→Int×List (List UInt8)×PUnit→Option (Int×List (List UInt8)×PUnit):=fun x0 L self acc=>bif decide (acc.1 < (↑x0.12.length:Int)) then bT (ZK x0.12 acc.1) fun y=>bT (bT (KY L (x0,y,())) fun y=>some y) fun y=>bif y != 0 then some (y,acc.2.1,()) else self (Go.IntKind.i64.wrap (acc.1 + 1),acc.2.1,()) else some (0,acc.2.1,())
theorem ZhV (L:Nat)(x0:Zc):I5 L (x0,())=bT (bT (bT (bT (bif decide ((↑x0.2.length:Int) > 32) then some (6,[],()) else Zt (KG x0 L) L (0,[],())) fun y=>some (y.1,y.2.1,())) fun y=>some (y.1,y.2.1,())) fun y=>bif y.1 != 0 then some (y.1,y.2.1,()) else bT (bT (bif decide ((↑x0.3.length:Int) > 32) then some (6,y.2.1,()) else Zt (KH x0 L) L (0,y.2.1,())) fun y=>some (y.1,y.2.1,())) fun y=>bif y.1 != 0 then some (y.1,y.2.1,()) else bT (bT (bif decide ((↑x0.4.length:Int) > 32) then some (6,y.2.1,()) else Zt (KI x0 L) L (0,y.2.1,())) fun y=>some (y.1,y.2.1,())) fun y=>bif y.1 != 0 then some (y.1,y.2.1,()) else bT (bT (bif decide ((↑x0.5.length:Int) > 32) then some (6,y.2.1,()) else Zt (KJ x0 L) L (0,y.2.1,())) fun y=>some (y.1,y.2.1,())) fun y=>bif y.1 != 0 then some (y.1,y.2.1,()) else bT (bT (bT (bif decide ((↑x0.6.length:Int) > 32) then some (6,y.2.1,()) else Zt (KL x0 L) L (0,y.2.1,())) fun y=>some (y.1,y.2.1,())) fun y=>some (y.1,y.2.1,())) fun y=>bif y.1 != 0 then some (y.1,y.2.1,()) else bT (bT (bT (bif decide ((↑x0.7.length:Int) > 32) then some (6,y.2.1,()) else Zt (Eo x0 L) L (0,y.2.1,())) fun y=>some (y.1,y.2.1,())) fun y=>some (y.1,y.2.1,())) fun y=>bif y.1 != 0 then some (y.1,y.2.1,()) else bT (bT (bT (bif decide ((↑x0.8.length:Int) > 32) then some (6,y.2.1,()) else Zt (Ep x0 L) L (0,y.2.1,())) fun y=>some (y.1,y.2.1,())) fun y=>some (y.1,y.2.1,())) fun y=>bif y.1 != 0 then some (y.1,y.2.1,()) else bT (bT (bT (bif decide ((↑x0.9.length:Int) > 32) then some (6,y.2.1,()) else Zt (Es x0 L) L (0,y.2.1,())) fun y=>some (y.1,y.2.1,())) fun y=>some (y.1,y.2.1,())) fun y=>bif y.1 != 0 then some (y.1,y.2.1,()) else bT (bT (bT (bif decide ((↑x0.10.length:Int) > 32) then some (6,y.2.1,()) else Zt (Et x0 L) L (0,y.2.1,())) fun y=>some (y.1,y.2.1,())) fun y=>some (y.1,y.2.1,())) fun y=>bif y.1 != 0 then some (y.1,y.2.1,()) else bT (bT (bif decide ((↑x0.11.length:Int) > 16) then some (6,y.2.1,()) else Zt (KN x0 L) L (0,y.2.1,())) fun y=>some (y.1,y.2.1,())) fun y=>bif y.1 != 0 then some (y.1,y.2.1,()) else bT (bT (bif decide ((↑x0.12.length:Int) > 32) then some (6,y.2.1,()) else Zt (Xi x0 L) L (0,y.2.1,())) fun y=>some (y.1,y.2.1,())) fun y=>bif y.1 != 0 then some (y.1,y.2.1,()) else bT (bT (I4 L (x0,())) fun y=>some y) fun y_1=>bif y_1 != 0 then some (y_1,y.2.1,()) else some (0,y.2.1,())) fun y=>some y.1:=by kernel_rfl
def ZdF:List (Inl tT):=[⟨50,Vf,[.rnd [.slot 16 (.int .i64),.cont 1 (.map .str),.cont 2 (.map .str)]],.one (.int .i64),[(4,[.cont 1 (.map .str),.cont 2 (.map .str)])]⟩,⟨51,LM,[],.one (.int .i64),[(5,[.cont 2 (.map .str)])]⟩,⟨52,Ws,[],.one (.int .i64),[(4,[.cont 1 (.map .str)]),(6,[.cont 2 (.map .str)])]⟩,⟨49,Xl,[],.one (.int .i64),[(2,[.cont 1 (.map .str)])]⟩,⟨69,QX,[.rnd [.slot 16 (.int .i64),.cont 1 (.map .str)]],.one (.int .i64),[(2,[.cont 1 (.map .str)])]⟩,⟨70,X6,[],.one (.int .i64),[(3,[.cont 1 (.map .str)])]⟩]
def KW (L:Nat)(x:QP×PUnit):Option Int:=fI [Aa L,Za0 L,WX L,Iy L,KP L] L ZdF SC [] (.one (.int .i64)) [.row 21] x
def EZ (L:Nat):Sum tT:=mU 34 [.row 21] (.one (.int .i64)) (KW L)
theorem Zgr:SX EZ:=fun h=>sI h (Zl (Zgs h) (Zl (Ziw h) (Zl (Qs h) (Zl (Bg h) (Zl (Tv h) ZR))))) (Zl ⟨h.T _ _ rfl,by kernel_rfl⟩ (Zl ⟨h.T _ _ rfl,by kernel_rfl⟩ (Zl ⟨h.T _ _ rfl,by kernel_rfl⟩ (Zl ⟨h.T _ _ rfl,by kernel_rfl⟩ (Zl ⟨h.T _ _ rfl,by kernel_rfl⟩ (Zl ⟨h.T _ _ rfl,by kernel_rfl⟩ ZR)))))) rfl (by kernel_rfl) fun _=>rfl
def IR:QP→Nat→(Int×List (List UInt8)×PUnit→Option (Int×List (List UInt8)×PUnit))→Int×List (List UInt8)×PUnit→Option (Int×List (List UInt8)×PUnit):=fun x0 L self acc=>bif decide (acc.1 < (↑x0.2.length:Int)) then bT (ZK x0.2 acc.1) fun y=>bT (bT (bT (ZN L (y.1,())) fun y_1=>bif y_1 != 0 then some (y_1,acc.2.1,()) else bif hasK MK.str acc.2.1 y.1 then some (4,acc.2.1,()) else some (0,CP MK.str acc.2.1 y.1,())) fun y_1=>bif y_1.1 != 0 then some (y_1.1,y_1.2.1,()) else bT (Vb L (y.2,())) fun y_2=>bif !y_2 then some (1,y_1.2.1,()) else bT (VV L (y.2,y.3,())) fun y=>bif !y then some (2,y_1.2.1,()) else some (0,y_1.2.1,())) fun y=>bif y.1 != 0 then some (y.1,y.2.1,()) else self (Go.IntKind.i64.wrap (acc.1 + 1),y.2.1,()) else some (0,acc.2.1,())
def IU:QP→Nat→(Int×List (List UInt8)×List (List UInt8)×PUnit→Option (Int×List (List UInt8)×List (List UInt8)×PUnit))→Int×List (List UInt8)×List (List UInt8)×PUnit→Option (Int×List (List UInt8)×List (List UInt8)×PUnit):=fun x0 L self acc=>bif decide (acc.1 < (↑x0.3.length:Int)) then bT (ZK x0.3 acc.1) fun y=>bT (bT (bT (ZN L (y.1,())) fun y_1=>bif y_1 != 0 then some (y_1,acc.2.2.1,()) else bif hasK MK.str acc.2.2.1 y.1 then some (4,acc.2.2.1,()) else some (0,CP MK.str acc.2.2.1 y.1,())) fun y_1=>bif y_1.1 != 0 then some (y_1.1,y_1.2.1,()) else bT (I5 L (y,())) fun y=>some (y,y_1.2.1,())) fun y=>bif y.1 != 0 then some (y.1,acc.2.1,y.2.1,()) else self (Go.IntKind.i64.wrap (acc.1 + 1),acc.2.1,y.2.1,()) else some (0,acc.2.1,acc.2.2.1,())
theorem Zga (L:Nat)(x0:QP):KW L (x0,())=bT (ZN L (x0.1,())) fun y=>bif y != 0 then some y else bT (bT (bif decide ((↑x0.2.length:Int) > 32) then some (6,[],()) else Zt (IR x0 L) L (0,[],())) fun y=>some (y.1,y.2.1,())) fun y=>bif y.1 != 0 then some y.1 else bif (↑x0.3.length:Int) == 0 then some 7 else bT (bif decide ((↑x0.3.length:Int) > 16) then some (6,y.2.1,[],()) else Zt (IU x0 L) L (0,y.2.1,[],())) fun y=>bif y.1 != 0 then some y.1 else bT (KX L (x0,())) fun y=>some y:=by kernel_rfl
end Go.Proofs.YtgjcjbhhhlelnaaGreatDoor
end
noncomputable section
namespace Go.Proofs.YtgjcjbhhhlelnaaGreatDoor
open Go Go.Proofs.YtgjcjbhhhlelnaaGreatDoor.Abs Go.Proofs.YtgjcjbhhhlelnaaGreatDoor.Tl
set_option maxRecDepth 100000
set_option maxHeartbeats 0
def Wy (L:Nat)(x:Zk×PUnit):Option Int:=fT [Pz L,Zdg L,EU L,EZ L,WX L] L FQ [.rnd [.slot 2 (.int .i64),.slot 34 (.int .i64),.cont 1 (.map .str)],.rnd [.slot 2 (.int .i64),.slot 71 (.int .i64),.cont 1 (.map .str)],.rnd [.slot 2 (.int .i64),.slot 79 (.int .i64),.cont 1 (.map .str)]] (.one (.int .i64)) [.row 19] x
def ZiB (L:Nat):Sum tT:=mU 25 [.row 19] (.one (.int .i64)) (Wy L)
theorem Zip:SX ZiB:=fun h=>sT h (Zl (ZdS h) (Zl (Zk0 h) (Zl (Zgo h) (Zl (Zgr h) (Zl (Qs h) ZR))))) rfl (by kernel_rfl) fun _=>rfl
def Jc:Zk→Nat→(Int×Int×List (List UInt8)×PUnit→Option Int)→Int×Int×List (List UInt8)×PUnit→ZO→(Int×Int×List (List UInt8)×PUnit→Option Int)→Int×Int×List (List UInt8)×PUnit→Option Int:=fun x0 L self acc y self_1 acc_1=>bif decide (acc_1.2.1 < (↑y.2.length:Int)) then bT (ZK y.2 acc_1.2.1) fun y=>bT (Y0 L (x0,acc.2.1,y,())) fun y=>bif y != 0 then some y else self_1 (acc_1.1,Go.IntKind.i64.wrap (acc_1.2.1 + 1),acc_1.2.2.1,()) else self (acc_1.1,Go.IntKind.i64.wrap (acc.2.1 + 1),acc_1.2.2.1,())
def XR:Zk→Nat→(Int×Int×List (List UInt8)×PUnit→Option Int)→Int×Int×List (List UInt8)×PUnit→Option Int:=fun x0 L self acc=>bif decide (acc.2.1 < (↑x0.2.length:Int)) then bT (ZK x0.2 acc.2.1) fun y=>Zt (Jc x0 L self acc y) L (acc.1,0,acc.2.2.1,()) else some 0
def Jd:Zk→Nat→(Int×Int×List (List UInt8)×PUnit→Option Int)→Int×Int×List (List UInt8)×PUnit→Option Int:=fun x0 L self acc=>bif decide (acc.2.1 < (↑x0.2.length:Int)) then bT (ZK x0.2 acc.2.1) fun y=>bT (KW L (QP.mk x0.1 [] [y.1] [],())) fun y_1=>bif y_1 != 0 then some y_1 else bif hasK MK.str acc.2.2.1 y.Decl.1 then some 4 else bT (KQ L (y,())) fun y_2=>bif !y_2 then some 8 else self (acc.1,Go.IntKind.i64.wrap (acc.2.1 + 1),CP MK.str acc.2.2.1 y.Decl.1,()) else bT (Hu L (x0,())) fun y=>bif y != 0 then some y else Zt (XR x0 L) L (acc.1,0,acc.2.2.1,())
theorem Zab (L:Nat)(x0:Zk):Wy L (x0,())=bT (ZN L (x0.1,())) fun y=>bif y != 0 then some y else bif (↑x0.2.length:Int) == 0 then some 7 else bif decide ((↑x0.2.length:Int) > 16) then some 6 else Zt (Jd x0 L) L (0,0,[],()):=by kernel_rfl
def YN (L:Nat)(x:Int×Int×Int×PUnit):Option Bool:=fT [] L SL [] (.one .bool) [.int .i64,.int .i64,.int .i64] x
def Ad (L:Nat):Sum tT:=mU 167 [.int .i64,.int .i64,.int .i64] (.one .bool) (YN L)
theorem Zgf (L:Nat)(x0:Int)(x1:Int)(x2:Int):YN L (x0,x1,x2,())=some (decide (x0 ≥ x1) && decide (x0≤x2)):=by kernel_rfl
def TS (L:Nat)(x:YT×PUnit):Option Int:=fT [Ad L] L Zbx [.rnd [.slot 3 (.int .i64)]] (.one (.int .i64)) [.row 2] x
def Zk9 (L:Nat):Sum tT:=mU 168 [.row 2] (.one (.int .i64)) (TS L)
def RG:YT→Nat→(Int×PUnit→Option Int)→Int×PUnit→Option Int:=fun x0 L self acc=>bif decide (acc.1 < (↑x0.5.length:Int)) then bT (ZK x0.5 acc.1) fun y=>bT (YN L (y,0,1000000000,())) fun y=>bT (bif (!y) == false then bT (ZK x0.6 acc.1) fun y=>bT (YN L (y,1,1000,())) fun y=>some !y else some true) fun y=>bif y then some 2 else self (Go.IntKind.i64.wrap (acc.1 + 1),()) else some 0
theorem ZjO (L:Nat)(x0:YT):TS L (x0,())=bif (↑x0.5.length:Int) != (↑x0.6.length:Int) then some 8 else bif (↑x0.5.length:Int) == 0 then some 7 else bif decide ((↑x0.5.length:Int) > 20) then some 6 else Zt (RG x0 L) L (0,()):=by kernel_rfl
def I8 (L:Nat)(x:YT×PUnit):Option Bool:=fT [] L Cf [] (.one .bool) [.row 2] x
def ZiC (L:Nat):Sum tT:=mU 166 [.row 2] (.one .bool) (I8 L)
theorem ZhX (L:Nat)(x0:YT):I8 L (x0,())=bif x0.1 == 1 then some (x0.3 == 0 && x0.4 == 0 && ((↑x0.5.length:Int) == 0 && (↑x0.6.length:Int) == 0)) else bif x0.1 == 2 then some (x0.4 == 0 && ((↑x0.5.length:Int) == 0 && (↑x0.6.length:Int) == 0)) else bif x0.1 == 5 then some (x0.4 == 0 && ((↑x0.5.length:Int) == 0 && (↑x0.6.length:Int) == 0)) else bif x0.1 == 3 then some (x0.2 == 0 && x0.3 == 0 && x0.4 == 0) else bif x0.1 == 4 then some ((↑x0.5.length:Int) == 0 && (↑x0.6.length:Int) == 0) else some false:=by kernel_rfl
def VG (L:Nat)(x:YT×PUnit):Option Int:=fT [Zk9 L,Ad L,ZiC L] L Zbw [] (.one (.int .i64)) [.row 2] x
def NQ (L:Nat):Sum tT:=mU 129 [.row 2] (.one (.int .i64)) (VG L)
theorem ZjN (L:Nat)(x0:YT):VG L (x0,())=bT (I8 L (x0,())) fun y=>bif !y then some 1 else bif x0.1 == 1 then bT (YN L (x0.2,0,1000000000,())) fun y=>bif !y then some 2 else some 0 else bif x0.1 == 2 then bT (YN L (x0.2,0,x0.3,())) fun y=>bif !(y && decide (x0.3≤1000000000)) then some 2 else some 0 else bif x0.1 == 3 then bT (TS L (x0,())) fun y=>some y else bif x0.1 == 4 then bT (YN L (x0.4,1,20,())) fun y=>bT (bif y == true then bT (YN L (x0.2,0,x0.3,())) fun y=>some y else some false) fun y=>bif !(y && decide (x0.3≤1000000)) then some 2 else some 0 else bif x0.1 == 5 then bT (YN L (x0.2,1,1000,())) fun y=>bT (bif y == true then bT (YN L (x0.3,1,1000,())) fun y=>some y else some false) fun y=>bif !y then some 2 else some 0 else some 0:=by kernel_rfl
def Zda (L:Nat):Nat→List (Sum tT)
 | 0=>[⟨128,[.row 19,.int .i64,.row 16,.row 8],fun _=>.par _ none ((.one (.bool):RD).tv tT)⟩]
 | m + 1=>[⟨128,[.row 19,.int .i64,.row 16,.row 8],fun x=>.par _ (fnT tF tG (qOf tF (Zda L m ++ [])) 0 L A8 [.rnd [.slot 10 (.int .i64)]] (.one (.bool)) (tvL tT [.row 19,.int .i64,.row 16,.row 8] x) []) ((.one (.bool):RD).tv tT)⟩]
def ML (L m:Nat)(x:Zk×Int×YX×Zu×PUnit):Option (Bool):=fnT tF tG (qOf tF (Zda L m ++ [])) 0 L A8 [.rnd [.slot 10 (.int .i64)]] (.one (.bool)) (tvL tT [.row 19,.int .i64,.row 16,.row 8] x) []
def FO (L:Nat)(x:Zk×Int×YX×Zu×PUnit):Option (Bool):=ML L L x
def Zn7 (L:Nat):Sum tT:=⟨128,[.row 19,.int .i64,.row 16,.row 8],fun x=>.par ((.one (.bool):RD).Ty tT) (FO L x) ((.one (.bool):RD).tv tT)⟩
def Tq:Nat→Zk→Int→YX→Zu→Nat→(Int×PUnit→Option Bool)→Int×PUnit→Option Bool:=fun (m:Nat)=>fun x0 x1 x2 x3 L self acc=>bif decide (acc.1 < (↑x3.4.length:Int)) then bT (ZK x3.4 acc.1) fun y=>bT (bT (ML L m (x0,x1,x2,y,())) fun y=>some y) fun y=>bif !y then some false else self (Go.IntKind.i64.wrap (acc.1 + 1),()) else some true
theorem Znh (L m:Nat)(x0:Zk)(x1:Int)(x2:YX)(x3:Zu):ML L (m + 1) (x0,x1,x2,x3,())=bT (ZK x0.2 x1) fun y=>bif x3.1 == 25 && decide (x3.3 ≥ x2.3) then some false else bif x3.1 == 26 && decide (x3.3 ≥ (↑y.Decl.2.length:Int)) then some false else bif x3.1 == 22 && decide (x3.3 ≥ (↑y.Decl.3.length:Int)) then some false else bif x3.1 == 23 && decide (x3.3 ≥ (↑y.Decl.4.length:Int)) then some false else bif x3.1 == 24 && decide (x3.3 ≥ Go.IntKind.i64.wrap ((↑y.Decl.3.length:Int) + (↑y.Decl.6.length:Int))) then some false else Zt (Tq m x0 x1 x2 x3 L) L (0,()):=by kernel_rfl
def VW (L:Nat)(x:(List (List UInt8))×(List UInt8)×PUnit):Option Int:=fT [] L Zei [.rnd [.slot 5 (.int .i64)]] (.one (.int .i64)) [.lst 1 .str,.str] x
def O3 (L:Nat):Sum tT:=mU 113 [.lst 1 .str,.str] (.one (.int .i64)) (VW L)
def ND:List (List UInt8)→List UInt8→(Int×PUnit→Option Int)→Int×PUnit→Option Int:=fun x0 x1 self acc=>bif decide (acc.1 < (↑x0.length:Int)) then bT (ZK x0 acc.1) fun y=>bif y == x1 then some acc.1 else self (Go.IntKind.i64.wrap (acc.1 + 1),()) else some (-1)
theorem ZmW (L:Nat)(x0:(List (List UInt8)))(x1:(List UInt8)):VW L (x0,x1,())=Zt (ND x0 x1) L (0,()):=by kernel_rfl
def Ug (L:Nat)(x:PUnit):Option ((List (List UInt8))):=fT [] L Pe [] (.one (.lst 1 .str)) [] x
def ZdY (L:Nat):Sum tT:=mU 114 [] (.one (.lst 1 .str)) (Ug L)
theorem ZdP (L:Nat)  : Ug L ()=some [[97,100,100],[97,102,116,101,114],[97,110,100],[97,116],[98,101,108,116],[98,111,111,108],[99,111,110,115,101,114,118,101],[99,111,110,115,116],[99,111,117,110,116],[99,121,99,108,101],[100,111,119,110],[100,114,97,119],[100,117,114],[101,108,115,101],[101,110,100],[101,118,101,114,121],[102,97,108,115,101],[102,97,117,108,116],[102,105,102,111],[102,114,101,101],[102,114,111,109],[103,101,111,109],[103,101,116],[104,111,108,100],[105,102],[105,110,116],[105,110,116,111],[108,101,97,115,116],[108,101,118,101,108],[108,105,102,111],[108,105,110,107],[108,111,99,97,108],[109,97,120],[109,105,110],[109,111,100,101,108],[110,111,116],[110,111,119],[111,98,115,101,114,118,101],[111,114],[112,97,114,97,109],[112,114,101,101,109,112,116],[112,114,105,111],[112,117,116],[113,117,101,117,101],[114,101,108,101,97,115,101],[114,101,115,111,117,114,99,101],[114,105,100,101],[114,111,117,116,105,110,101],[115,101,105,122,101],[115,101,110,100],[115,101,116],[115,104,105,102,116],[115,105,103,110,97,108],[115,105,116,101],[115,105,122,101],[115,112,97,119,110],[115,116,97,114,116],[115,116,111,112],[115,116,111,114,101],[115,116,114,101,97,109],[115,117,109],[116,97,98,108,101],[116,97,108,108,121],[116,105,99,107,115],[116,105,109,101],[116,114,117,101],[117,110,105,102,111,114,109],[117,110,116,105,108],[117,112],[118,97,114],[119,97,105,116],[119,97,105,116,105,110,103],[119,104,105,108,101]]:=by kernel_rfl
def KZ (L:Nat)(x:(List UInt8)×PUnit):Option Bool:=fT [O3 L,ZdY L] L SN [] (.one .bool) [.str] x
def Zg2 (L:Nat):Sum tT:=mU 59 [.str] (.one .bool) (KZ L)
theorem Zgg (L:Nat)(x0:(List UInt8)):KZ L (x0,())=bT (Ug L ()) fun y=>bT (VW L (y,x0,())) fun y=>some (decide (y ≥ 0)):=by kernel_rfl
def U9 (L:Nat)(x:Int×PUnit):Option Bool:=fT [] L Ci [] (.one .bool) [.int .u8] x
def ZiD (L:Nat):Sum tT:=mU 58 [.int .u8] (.one .bool) (U9 L)
theorem ZhY (L:Nat)(x0:Int):U9 L (x0,())=some (decide (x0 ≥ 97) && decide (x0≤122)):=by kernel_rfl
end Go.Proofs.YtgjcjbhhhlelnaaGreatDoor
end
noncomputable section
namespace Go.Proofs.YtgjcjbhhhlelnaaGreatDoor
open Go Go.Proofs.YtgjcjbhhhlelnaaGreatDoor.Abs Go.Proofs.YtgjcjbhhhlelnaaGreatDoor.Tl
set_option maxRecDepth 100000
set_option maxHeartbeats 0
def Qi (L:Nat)(x:(List UInt8)×PUnit):Option Int:=fT [Zg2 L,ZiD L] L Zby [.rnd [.slot 3 (.int .i64)]] (.one (.int .i64)) [.str] x
def VD (L:Nat):Sum tT:=mU 39 [.str] (.one (.int .i64)) (Qi L)
def Il:List UInt8→Nat→(Int×PUnit→Option Int)→Int×PUnit→Option Int:=fun x0 L self acc=>bif decide (acc.1 < (↑x0.length:Int)) then bT (ZK x0 acc.1) fun y=>bT (U9 L ((↑y.toNat:Int),())) fun y=>bT (bif (!y) == true then bT (ZK x0 acc.1) fun y=>some ((↑y.toNat:Int) != 95) else some false) fun y=>bT (bif y == true then bT (ZK x0 acc.1) fun y=>bif decide ((↑y.toNat:Int) < 48) == false then bT (ZK x0 acc.1) fun y=>some (decide ((↑y.toNat:Int) > 57)) else some true else some false) fun y=>bif y then some 3 else self (Go.IntKind.i64.wrap (acc.1 + 1),()) else some 0
theorem ZjP (L:Nat)(x0:(List UInt8)):Qi L (x0,())=bT (bif (decide ((↑x0.length:Int) < 1) || decide ((↑x0.length:Int) > 24)) == false then bT (ZK x0 0) fun y=>bT (U9 L ((↑y.toNat:Int),())) fun y=>some !y else some true) fun y=>bT (bif y == false then bT (KZ L (x0,())) fun y=>some y else some true) fun y=>bif y then some 3 else Zt (Il x0 L) L (0,()):=by kernel_rfl
def Dl (L:Nat)(x:Int×PUnit):Option Int:=fT [] L Zej [] (.one (.int .i64)) [.int .i64] x
def Zfb (L:Nat):Sum tT:=mU 206 [.int .i64] (.one (.int .i64)) (Dl L)
theorem ZmY (L:Nat)(x0:Int):Dl L (x0,())=bif x0 == 25 then some 15 else bif x0 == 26 then some 31 else some 63:=by kernel_rfl
def Dk (L:Nat)(x:Int×PUnit):Option Bool:=fT [] L ZkU [] (.one .bool) [.int .i64] x
def Zbl (L:Nat):Sum tT:=mU 154 [.int .i64] (.one .bool) (Dk L)
theorem Zsn (L:Nat)(x0:Int):Dk L (x0,())=some (decide (x0 ≥ (-1000000000000)) && decide (x0≤1000000000000)):=by kernel_rfl
def UA (L:Nat)(x:Int×PUnit):Option Bool:=fT [] L Cj [] (.one .bool) [.int .i64] x
def Za2 (L:Nat):Sum tT:=mU 205 [.int .i64] (.one .bool) (UA L)
theorem ZhZ (L:Nat)(x0:Int):UA L (x0,())=some (decide (x0 ≥ 22) && decide (x0≤24)):=by kernel_rfl
def TU (L:Nat)(x:Int×PUnit):Option Int:=fT [] L Zbz [] (.one (.int .i64)) [.int .i64] x
def Zdj (L:Nat):Sum tT:=mU 204 [.int .i64] (.one (.int .i64)) (TU L)
theorem ZjQ (L:Nat)(x0:Int):TU L (x0,())=bif decide (x0 < 1) || decide (x0 > 26) then some (-1) else bif decide (x0 ≥ 5) && decide (x0≤8) then some 1 else bif decide (x0 ≥ 9) && decide (x0≤21) then some 2 else some 0:=by kernel_rfl
def ZcY (L:Nat):Nat→List (Sum tT)
 | 0=>[⟨194,[.row 8,.bool],fun _=>.par _ none ((.one (.int .i64):RD).tv tT)⟩]
 | m + 1=>[⟨194,[.row 8,.bool],fun x=>.par _ (fnT tF tG (qOf tF (ZcY L m ++ [VD L,Zfb L,Zbl L,Za2 L,Zdj L])) 0 L Az [.rnd [.slot 10 (.int .i64)]] (.one (.int .i64)) (tvL tT [.row 8,.bool] x) []) ((.one (.int .i64):RD).tv tT)⟩]
def MJ (L m:Nat)(x:Zu×Bool×PUnit):Option (Int):=fnT tF tG (qOf tF (ZcY L m ++ [VD L,Zfb L,Zbl L,Za2 L,Zdj L])) 0 L Az [.rnd [.slot 10 (.int .i64)]] (.one (.int .i64)) (tvL tT [.row 8,.bool] x) []
def FK (L:Nat)(x:Zu×Bool×PUnit):Option (Int):=MJ L L x
def Zny (L:Nat):Sum tT:=⟨194,[.row 8,.bool],fun x=>.par ((.one (.int .i64):RD).Ty tT) (FK L x) ((.one (.int .i64):RD).tv tT)⟩
def Tj:Nat→Zu→Bool→Nat→(Int×PUnit→Option Int)→Int×PUnit→Option Int:=fun (m:Nat)=>fun x0 x1 L self acc=>bif decide (acc.1 < (↑x0.4.length:Int)) then bT (ZK x0.4 acc.1) fun y=>bT (MJ L m (y,x1,())) fun y=>bif y != 0 then some y else self (Go.IntKind.i64.wrap (acc.1 + 1),()) else some 0
theorem ZmZ (L m:Nat)(x0:Zu)(x1:Bool):MJ L (m + 1) (x0,x1,())=bT (TU L (x0.1,())) fun y=>bT (bif (!x1) == true then bif (x0.1 == 3) == false then bT (UA L (x0.1,())) fun y=>some y else some true else some false) fun y_1=>bT (bif x1 == true then bT (UA L (x0.1,())) fun y=>some (y || x0.1 == 25 || x0.1 == 26) else some false) fun y_2=>bif !(decide (y ≥ 0) && (x1 && x0.1 != 3 || !x1 && decide (x0.1≤24))) || !y_1 && !x0.2 == [] || !(x0.1 == 1 || x0.1 == 2 || y_2) && x0.3 != 0 || (↑x0.4.length:Int) != y then some 1 else bT (bif (x0.1 == 1) == true then bT (bT (Dk L (x0.3,())) fun y=>some y) fun y=>some !y else some false) fun y=>bT (bif (y || x0.1 == 2 && x0.3 != 0 && x0.3 != 1) == false then bif y_2 == true then bif decide (x0.3 < 0) == false then bT (bT (Dl L (x0.1,())) fun y=>some y) fun y=>some (decide (x0.3 > y)) else some true else some false else some true) fun y=>bif y then some 2 else bT (bif y_1 == true then bT (Qi L (x0.2,())) fun y=>some (y != 0) else some false) fun y=>bif y then bT (Qi L (x0.2,())) fun y=>some y else Zt (Tj m x0 x1 L) L (0,()):=by kernel_rfl
def Zao (L:Nat):Nat→List (Sum tT)
 | 0=>[⟨193,[.row 8],fun _=>.par _ none ((.one (.int .i64):RD).tv tT)⟩]
 | m + 1=>[⟨193,[.row 8],fun x=>.par _ (fnT tF tG (qOf tF (Zao L m ++ [])) 0 L PG [.rnd [.slot 3 (.int .i64),.slot 4 (.int .i64)]] (.one (.int .i64)) (tvL tT [.row 8] x) []) ((.one (.int .i64):RD).tv tT)⟩]
def IE (L m:Nat)(x:Zu×PUnit):Option (Int):=fnT tF tG (qOf tF (Zao L m ++ [])) 0 L PG [.rnd [.slot 3 (.int .i64),.slot 4 (.int .i64)]] (.one (.int .i64)) (tvL tT [.row 8] x) []
def NZ (L:Nat)(x:Zu×PUnit):Option (Int):=IE L L x
def ZkB (L:Nat):Sum tT:=⟨193,[.row 8],fun x=>.par ((.one (.int .i64):RD).Ty tT) (NZ L x) ((.one (.int .i64):RD).tv tT)⟩
def RH:Nat→Zu→Nat→(Int×Int×PUnit→Option Int)→Int×Int×PUnit→Option Int:=fun (m:Nat)=>fun x0 L self acc=>bif decide (acc.2.1 < (↑x0.4.length:Int)) then bT (ZK x0.4 acc.2.1) fun y=>bT (IE L m (y,())) fun y=>self (if y > acc.1 then y else acc.1,Go.IntKind.i64.wrap (acc.2.1 + 1),()) else some (Go.IntKind.i64.wrap (acc.1 + 1))
theorem ZjS (L m:Nat)(x0:Zu):IE L (m + 1) (x0,())=Zt (RH m x0 L) L (0,0,()):=by kernel_rfl
def Zap (L:Nat):Nat→List (Sum tT)
 | 0=>[⟨192,[.row 8],fun _=>.par _ none ((.one (.int .i64):RD).tv tT)⟩]
 | m + 1=>[⟨192,[.row 8],fun x=>.par _ (fnT tF tG (qOf tF (Zap L m ++ [])) 0 L PH [.rnd [.slot 3 (.int .i64),.slot 4 (.int .i64)]] (.one (.int .i64)) (tvL tT [.row 8] x) []) ((.one (.int .i64):RD).tv tT)⟩]
def IG (L m:Nat)(x:Zu×PUnit):Option (Int):=fnT tF tG (qOf tF (Zap L m ++ [])) 0 L PH [.rnd [.slot 3 (.int .i64),.slot 4 (.int .i64)]] (.one (.int .i64)) (tvL tT [.row 8] x) []
def Si (L:Nat)(x:Zu×PUnit):Option (Int):=IG L L x
def ZkC (L:Nat):Sum tT:=⟨192,[.row 8],fun x=>.par ((.one (.int .i64):RD).Ty tT) (Si L x) ((.one (.int .i64):RD).tv tT)⟩
def RI:Nat→Zu→Nat→(Int×Int×PUnit→Option Int)→Int×Int×PUnit→Option Int:=fun (m:Nat)=>fun x0 L self acc=>bif decide (acc.2.1 < (↑x0.4.length:Int)) then bT (ZK x0.4 acc.2.1) fun y=>bT (IG L m (y,())) fun y=>self (Go.IntKind.i64.wrap (acc.1 + y),Go.IntKind.i64.wrap (acc.2.1 + 1),()) else some acc.1
theorem ZjT (L m:Nat)(x0:Zu):IG L (m + 1) (x0,())=Zt (RI m x0 L) L (1,0,()):=by kernel_rfl
def Hz (L:Nat)(x:Zu×Bool×PUnit):Option Int:=fT [Zny L,ZkB L,ZkC L] L Zb1 [] (.one (.int .i64)) [.row 8,.bool] x
def Zdl (L:Nat):Sum tT:=mU 165 [.row 8,.bool] (.one (.int .i64)) (Hz L)
theorem ZjU (L:Nat)(x0:Zu)(x1:Bool):Hz L (x0,x1,())=bT (Si L (x0,())) fun y=>bif decide (y > 60) then some 6 else bT (NZ L (x0,())) fun y=>bif decide (y > 12) then some 11 else bT (FK L (x0,x1,())) fun y=>some y:=by kernel_rfl
def Jw (L:Nat)(x:Zu×PUnit):Option Int:=fT [Zdl L] L Rf [] (.one (.int .i64)) [.row 8] x
def Zdk (L:Nat):Sum tT:=mU 127 [.row 8] (.one (.int .i64)) (Jw L)
theorem ZcE (L:Nat)(x0:Zu):Jw L (x0,())=bT (Hz L (x0,true,())) fun y=>some y:=by kernel_rfl
end Go.Proofs.YtgjcjbhhhlelnaaGreatDoor
end
noncomputable section
namespace Go.Proofs.YtgjcjbhhhlelnaaGreatDoor
open Go Go.Proofs.YtgjcjbhhhlelnaaGreatDoor.Abs Go.Proofs.YtgjcjbhhhlelnaaGreatDoor.Tl
set_option maxRecDepth 100000
set_option maxHeartbeats 0
def XO (L:Nat)(x:PUnit):Option (List V3):=fT [] L ZbE [] (.one (.lst 9 (.row 23))) [] x
def NT (L:Nat):Sum tT:=mU 159 [] (.one (.lst 9 (.row 23))) (XO L)
theorem Zki (L:Nat)  : XO L ()=some [V3.mk [] [] [] false false false false false false,V3.mk [115,108,111,116] [115,108,111,116] [] false true false false false false,V3.mk [118,97,114] [118,97,114] [] false true false false false false,V3.mk [100,114,97,119] [115,108,111,116] [115,116,114,101,97,109] false false false false false true,V3.mk [106,117,109,112] [105,110,115,116,114] [] false false false false false false,V3.mk [98,114,97,110,99,104] [105,110,115,116,114] [] false true false false false false,V3.mk [104,111,108,100] [] [] false true false false false false,V3.mk [115,101,105,122,101] [114,101,115,111,117,114,99,101] [] false true true true false false,V3.mk [114,101,108,101,97,115,101] [114,101,115,111,117,114,99,101] [] false true false false false false,V3.mk [112,117,116] [115,116,111,114,101] [] false true false false false false,V3.mk [103,101,116] [115,116,111,114,101] [115,108,111,116] false false false false false false,V3.mk [114,105,100,101] [98,101,108,116] [] false false false false false false,V3.mk [119,97,105,116] [113,117,101,117,101] [] false false false false false false,V3.mk [115,105,103,110,97,108] [113,117,101,117,101] [] false true false false false false,V3.mk [115,101,110,100] [115,105,116,101] [114,111,117,116,105,110,101] true true false false true false,V3.mk [115,112,97,119,110] [] [114,111,117,116,105,110,101] false true false false true false,V3.mk [111,98,115,101,114,118,101] [116,97,108,108,121] [] false true false false false false,V3.mk [108,101,118,101,108] [108,101,118,101,108] [] false true false false false false,V3.mk [99,111,117,110,116] [99,111,117,110,116] [] false true false false false false,V3.mk [101,110,100] [] [] false false false false false false]:=by kernel_rfl
def H6 (L:Nat)(x:Int×PUnit):Option Bool:=fT [] L ZbI [] (.one .bool) [.int .i64] x
def Zdm (L:Nat):Sum tT:=mU 123 [.int .i64] (.one .bool) (H6 L)
theorem Zkm (L:Nat)(x0:Int):H6 L (x0,())=some (decide (x0 ≥ 1) && decide (x0≤19)):=by kernel_rfl
def MB (L:Nat)(x:YC×PUnit):Option (List Zu):=fT [NT L,Zdm L] L ZbD [] (.one (.lst 4 (.row 8))) [.row 15] x
def ZkL (L:Nat):Sum tT:=mU 126 [.row 15] (.one (.lst 4 (.row 8))) (MB L)
theorem Zkh (L:Nat)(x0:YC):MB L (x0,())=bT (H6 L (x0.1,())) fun y=>bif !y then some [] else bT (bT (XO L ()) fun y=>some y) fun y=>bT (ZK y x0.1) fun y=>bif y.5 then bT (apT 56 [] [x0.5]) fun y_1=>bif y.6 then bT (apT 56 y_1 [x0.6]) fun y_2=>bif y.8 then bT (apT 56 y_2 x0.7) fun y=>some y else some y_2 else bif y.8 then bT (apT 56 y_1 x0.7) fun y=>some y else some y_1 else bif y.6 then bT (apT 56 [] [x0.6]) fun y_1=>bif y.8 then bT (apT 56 y_1 x0.7) fun y=>some y else some y_1 else bif y.8 then bT (apT 56 [] x0.7) fun y=>some y else some []:=by kernel_rfl
def Ak (L:Nat)(x:Zk×Int×Int×PUnit):Option (Int×Bool×PUnit):=fT [] L ZgL [.rnd [.slot 8 (.int .i64)]] (.tup [.int .i64,.bool]) [.row 19,.int .i64,.int .i64] x
def Zqt (L:Nat):Sum tT:=mU 164 [.row 19,.int .i64,.int .i64] (.tup [.int .i64,.bool]) (Ak L)
def Fv:Zk→Int→Int→(Int×PUnit→Option (Int×Bool×PUnit))→Int×PUnit→Option (Int×Bool×PUnit):=fun x0 x1 x2 self acc=>bif decide (acc.1 < (↑x0.3.length:Int)) then bT (ZK x0.3 acc.1) fun y=>bT (bif (y.1 == x1) == true then bT (ZK x0.3 acc.1) fun y=>some (y.2 == x2) else some false) fun y=>bif y then bT (ZK x0.3 acc.1) fun y=>some (y.3,true,()) else self (Go.IntKind.i64.wrap (acc.1 + 1),()) else some (0,false,())
theorem ZpU (L:Nat)(x0:Zk)(x1:Int)(x2:Int):Ak L (x0,x1,x2,())=Zt (Fv x0 x1 x2) L (0,()):=by kernel_rfl
def JW (L:Nat)(x:Zk×Int×YC×PUnit):Option Int:=fT [] L ZbF [] (.one (.int .i64)) [.row 19,.int .i64,.row 15] x
def ZkM (L:Nat):Sum tT:=mU 163 [.row 19,.int .i64,.row 15] (.one (.int .i64)) (JW L)
theorem Zkj (L:Nat)(x0:Zk)(x1:Int)(x2:YC):JW L (x0,x1,x2,())=bT (ZK x0.2 x1) fun y=>bif decide (x2.3 < 0) || decide (x2.3 ≥ (↑y.2.length:Int)) then some 2 else bT (ZK y.2 x2.3) fun y=>bif (↑x2.7.length:Int) != y.2 then some 8 else some 0:=by kernel_rfl
def Sm (L:Nat)(x:Zk×Int×YX×(List UInt8)×PUnit):Option Int:=fT [] L ZbG [] (.one (.int .i64)) [.row 19,.int .i64,.row 16,.str] x
def ZkN (L:Nat):Sum tT:=mU 191 [.row 19,.int .i64,.row 16,.str] (.one (.int .i64)) (Sm L)
theorem Zkk (L:Nat)(x0:Zk)(x1:Int)(x2:YX)(x3:(List UInt8)):Sm L (x0,x1,x2,x3,())=bT (ZK x0.2 x1) fun y=>bif x3 == [115,108,111,116] then some x2.3 else bif x3 == [105,110,115,116,114] then some (↑x2.4.length:Int) else bif x3 == [115,105,116,101] then some (↑x0.2.length:Int) else bif x3 == [118,97,114] then some (↑y.Decl.2.length:Int) else bif x3 == [114,101,115,111,117,114,99,101] then some (↑y.Decl.3.length:Int) else bif x3 == [115,116,111,114,101] then some (↑y.Decl.4.length:Int) else bif x3 == [98,101,108,116] then some (↑y.Decl.5.length:Int) else bif x3 == [113,117,101,117,101] then some (↑y.Decl.6.length:Int) else bif x3 == [115,116,114,101,97,109] then some (↑y.Decl.7.length:Int) else bif x3 == [116,97,108,108,121] then some (↑y.Decl.8.length:Int) else bif x3 == [108,101,118,101,108] then some (↑y.Decl.9.length:Int) else some (↑y.Decl.10.length:Int):=by kernel_rfl
def UB (L:Nat)(x:Zk×Int×YX×(List UInt8)×Int×PUnit):Option Bool:=fT [ZkN L] L CE [] (.one .bool) [.row 19,.int .i64,.row 16,.str,.int .i64] x
def ZiG (L:Nat):Sum tT:=mU 162 [.row 19,.int .i64,.row 16,.str,.int .i64] (.one .bool) (UB L)
theorem Zid (L:Nat)(x0:Zk)(x1:Int)(x2:YX)(x3:(List UInt8))(x4:Int):UB L (x0,x1,x2,x3,x4,())=bT (bif (x3 == []) == false then bif decide (x4 ≥ 0) == true then bT (Sm L (x0,x1,x2,x3,())) fun y=>some (decide (x4 < y)) else some false else some true) fun y=>some y:=by kernel_rfl
def MC (L:Nat)(x:Zk×Int×YX×YC×PUnit):Option Int:=fT [Zqt L,ZkM L,ZiG L,NT L] L SY [] (.one (.int .i64)) [.row 19,.int .i64,.row 16,.row 15] x
def Zg6 (L:Nat):Sum tT:=mU 125 [.row 19,.int .i64,.row 16,.row 15] (.one (.int .i64)) (MC L)
theorem Zgj (L:Nat)(x0:Zk)(x1:Int)(x2:YX)(x3:YC):MC L (x0,x1,x2,x3,())=bT (bT (XO L ()) fun y=>some y) fun y=>bT (ZK y x3.1) fun y=>bT (UB L (x0,x1,x2,y.2,x3.2,())) fun y_1=>bif !y_1 then some 2 else bif x3.1 == 15 then bT (JW L (x0,x1,x3,())) fun y=>some y else bif x3.1 == 14 then bT (Ak L (x0,x1,x3.2,())) fun y=>bif !y.2.1 || y.1 != x3.4 then some 16 else bT (JW L (x0,x3.2,x3,())) fun y=>some y else bT (UB L (x0,x1,x2,y.3,x3.3,())) fun y=>bif !y then some 2 else some 0:=by kernel_rfl
def Vw (L:Nat)(x:(List Int)×(List Int)×PUnit):Option Bool:=fT [] L DZ [.rnd [.slot 5 (.int .i64)]] (.one .bool) [.lst 1 (.int .i64),.lst 1 (.int .i64)] x
def ZdX (L:Nat):Sum tT:=mU 190 [.lst 1 (.int .i64),.lst 1 (.int .i64)] (.one .bool) (Vw L)
def GK:List Int→List Int→(Int×PUnit→Option Bool)→Int×PUnit→Option Bool:=fun x0 x1 self acc=>bif decide (acc.1 < (↑x0.length:Int)) then bT (ZK x0 acc.1) fun y=>bT (ZK x1 acc.1) fun y_1=>bif y != y_1 then some false else self (Go.IntKind.i64.wrap (acc.1 + 1),()) else some true
theorem ZdO (L:Nat)(x0:(List Int))(x1:(List Int)):Vw L (x0,x1,())=bif (↑x0.length:Int) != (↑x1.length:Int) then some false else Zt (GK x0 x1) L (0,()):=by kernel_rfl
def JU (L:Nat)(x:YT×YT×PUnit):Option Bool:=fT [ZdX L] L Zeh [] (.one .bool) [.row 2,.row 2] x
def FH (L:Nat):Sum tT:=mU 161 [.row 2,.row 2] (.one .bool) (JU L)
theorem ZmV (L:Nat)(x0:YT)(x1:YT):JU L (x0,x1,())=bT (bif (x0.1 == x1.1 && x0.2 == x1.2 && x0.3 == x1.3 && x0.4 == x1.4) == true then bT (Vw L (x0.5,x1.5,())) fun y=>some y else some false) fun y=>bT (bif y == true then bT (Vw L (x0.6,x1.6,())) fun y=>some y else some false) fun y=>some y:=by kernel_rfl
end Go.Proofs.YtgjcjbhhhlelnaaGreatDoor
end
noncomputable section
namespace Go.Proofs.YtgjcjbhhhlelnaaGreatDoor
open Go Go.Proofs.YtgjcjbhhhlelnaaGreatDoor.Abs Go.Proofs.YtgjcjbhhhlelnaaGreatDoor.Tl
set_option maxRecDepth 100000
set_option maxHeartbeats 0
def WW (L:Nat):Nat→List (Sum tT)
 | 0=>[⟨189,[.lst 4 (.row 8),.lst 4 (.row 8)],fun _=>.par _ none ((.one (.bool):RD).tv tT)⟩,⟨160,[.row 8,.row 8],fun _=>.par _ none ((.one (.bool):RD).tv tT)⟩]
 | m + 1=>[⟨189,[.lst 4 (.row 8),.lst 4 (.row 8)],fun x=>.par _ (fnT tF tG (qOf tF (WW L m ++ [])) 0 L OB [.rnd [.slot 5 (.int .i64)]] (.one (.bool)) (tvL tT [.lst 4 (.row 8),.lst 4 (.row 8)] x) []) ((.one (.bool):RD).tv tT)⟩,⟨160,[.row 8,.row 8],fun x=>.par _ (fnT tF tG (qOf tF (WW L m ++ [])) 0 L Aw [] (.one (.bool)) (tvL tT [.row 8,.row 8] x) []) ((.one (.bool):RD).tv tT)⟩]
def IV (L m:Nat)(x:(List Zu)×(List Zu)×PUnit):Option (Bool):=fnT tF tG (qOf tF (WW L m ++ [])) 0 L OB [.rnd [.slot 5 (.int .i64)]] (.one (.bool)) (tvL tT [.lst 4 (.row 8),.lst 4 (.row 8)] x) []
def MI (L m:Nat)(x:Zu×Zu×PUnit):Option (Bool):=fnT tF tG (qOf tF (WW L m ++ [])) 0 L Aw [] (.one (.bool)) (tvL tT [.row 8,.row 8] x) []
def O4 (L:Nat)(x:Zu×Zu×PUnit):Option (Bool):=MI L L x
def Znx (L:Nat):Sum tT:=⟨160,[.row 8,.row 8],fun x=>.par ((.one (.bool):RD).Ty tT) (O4 L x) ((.one (.bool):RD).tv tT)⟩
def Ud:Nat→List Zu→List Zu→Nat→(Int×PUnit→Option Bool)→Int×PUnit→Option Bool:=fun (m:Nat)=>fun x0 x1 L self acc=>bif decide (acc.1 < (↑x0.length:Int)) then bT (ZK x0 acc.1) fun y=>bT (ZK x1 acc.1) fun y_1=>bT (bT (MI L m (y,y_1,())) fun y=>some y) fun y=>bif !y then some false else self (Go.IntKind.i64.wrap (acc.1 + 1),()) else some true
theorem EE (L m:Nat)(x0:(List Zu))(x1:(List Zu)):IV L (m + 1) (x0,x1,())=bif (↑x0.length:Int) != (↑x1.length:Int) then some false else Zt (Ud m x0 x1 L) L (0,()):=by kernel_rfl
theorem ZmX (L m:Nat)(x0:Zu)(x1:Zu):MI L (m + 1) (x0,x1,())=bif x0.1 != x1.1 || !x0.2 == x1.2 || x0.3 != x1.3 then some false else bT (IV L m (x0.4,x1.4,())) fun y=>some y:=by kernel_rfl
def MF (L:Nat)(x:YC×PUnit):Option Bool:=fT [FH L,Znx L,NT L] L ZbJ [] (.one .bool) [.row 15] x
def ZkP (L:Nat):Sum tT:=mU 124 [.row 15] (.one .bool) (MF L)
theorem Zkn (L:Nat)(x0:YC):MF L (x0,())=bT (bT (XO L ()) fun y=>some y) fun y=>bT (ZK y x0.1) fun y=>bif y.2 == [] && x0.2 != 0 then some false else bif y.3 == [] && x0.3 != 0 then some false else bif !y.4 && x0.4 != 0 then some false else bif !y.7 && x0.9 then some false else bT (bif (!y.5) == true then bT (O4 L (x0.5,Zu.mk 0 [] 0 [],())) fun y=>some !y else some false) fun y_1=>bif y_1 then some false else bT (bif (!y.6) == true then bT (O4 L (x0.6,Zu.mk 0 [] 0 [],())) fun y=>some !y else some false) fun y_2=>bif y_2 then some false else bif !y.8 && decide ((↑x0.7.length:Int) > 0) then some false else bT (bif y.9 == false then bT (JU L (x0.8,YT.mk 0 0 0 0 [] [],())) fun y=>some y else some true) fun y=>some y:=by kernel_rfl
def XP (L:Nat)(x:Zk×Int×YX×YC×PUnit):Option Int:=fT [NQ L,Zn7 L,Zdk L,ZkL L,Zg6 L,ZkP L,Zdm L] L ZbH [.rnd [.slot 11 (.int .i64)]] (.one (.int .i64)) [.row 19,.int .i64,.row 16,.row 15] x
def ZkO (L:Nat):Sum tT:=mU 66 [.row 19,.int .i64,.row 16,.row 15] (.one (.int .i64)) (XP L)
def Ip:Zk→Int→YX→YC→Nat→List Zu→(Int×PUnit→Option Int)→Int×PUnit→Option Int:=fun x0 x1 x2 x3 L y self acc=>bif decide (acc.1 < (↑y.length:Int)) then bT (ZK y acc.1) fun y_1=>bT (Jw L (y_1,())) fun y_2=>bT (bif (y_2 == 0) == true then bT (ZK y acc.1) fun y=>bT (bT (FO L (x0,x1,x2,y,())) fun y=>some y) fun y=>some !y else some false) fun y=>bif y then some 2 else bif y_2 != 0 then some y_2 else self (Go.IntKind.i64.wrap (acc.1 + 1),()) else bif x3.1 == 3 then bT (VG L (x3.8,())) fun y=>some y else some 0
theorem Zkl (L:Nat)(x0:Zk)(x1:Int)(x2:YX)(x3:YC):XP L (x0,x1,x2,x3,())=bT (H6 L (x3.1,())) fun y=>bT (bif (!y) == false then bT (MF L (x3,())) fun y=>some !y else some true) fun y=>bif y then some 1 else bT (MC L (x0,x1,x2,x3,())) fun y=>bif y != 0 then some y else bT (MB L (x3,())) fun y=>Zt (Ip x0 x1 x2 x3 L y) L (0,()):=by kernel_rfl
def YP (L:Nat)(x:Zk×Int×YX×PUnit):Option Int:=fT [ZkO L,VD L] L SV [.rnd [.slot 8 (.int .i64)]] (.one (.int .i64)) [.row 19,.int .i64,.row 16] x
def Zg5 (L:Nat):Sum tT:=mU 43 [.row 19,.int .i64,.row 16] (.one (.int .i64)) (YP L)
def Uf:Zk→Int→YX→Nat→(Int×PUnit→Option Int)→Int×PUnit→Option Int:=fun x0 x1 x2 L self acc=>bif decide (acc.1 < (↑x2.4.length:Int)) then bT (ZK x2.4 acc.1) fun y=>bT (bT (XP L (x0,x1,x2,y,())) fun y=>some y) fun y=>bif y != 0 then some y else self (Go.IntKind.i64.wrap (acc.1 + 1),()) else bT (ZK x2.4 (Go.IntKind.i64.wrap ((↑x2.4.length:Int) - 1))) fun y=>bif y.1 != 19 && y.1 != 4 then some 8 else some 0
theorem EF (L:Nat)(x0:Zk)(x1:Int)(x2:YX):YP L (x0,x1,x2,())=bif decide (x1 < 0) || decide (x1 ≥ (↑x0.2.length:Int)) then some 2 else bT (Qi L (x2.1,())) fun y=>bif y != 0 then some y else bif decide (x2.2 < 0) || decide (x2.2 > x2.3) || decide (x2.2 > 6) || decide (x2.3 > 16) then some 2 else bif (↑x2.4.length:Int) == 0 then some 7 else bif decide ((↑x2.4.length:Int) > 1000) then some 6 else Zt (Uf x0 x1 x2 L) L (0,()):=by kernel_rfl
def O7 (L:Nat)(x:Zk×PUnit):Option Int:=fT [] L Zeq [.rnd [.slot 2 (.int .i64),.slot 4 (.int .i64)],.rnd [.slot 2 (.int .i64),.slot 6 (.int .i64)]] (.one (.int .i64)) [.row 19] x
def Zn5 (L:Nat):Sum tT:=mU 42 [.row 19] (.one (.int .i64)) (O7 L)
def GN:Zk→(Int×Int×PUnit→Option Int)→Int×Int×PUnit→ZgB→(Int×Int×PUnit→Option Int)→Int×Int×PUnit→Option Int:=fun x0 self acc y self_1 acc_1=>bif decide (acc_1.2.1 < acc.2.1) then bT (ZK x0.3 acc_1.2.1) fun y_1=>bT (bif (y_1.1 == y.1) == true then bT (ZK x0.3 acc_1.2.1) fun y_2=>some (y_2.2 == y.2) else some false) fun y=>bif y then some 4 else self_1 (acc_1.1,Go.IntKind.i64.wrap (acc_1.2.1 + 1),()) else self (acc_1.1,Go.IntKind.i64.wrap (acc.2.1 + 1),())
def GU:Zk→Nat→(Int×Int×PUnit→Option Int)→Int×Int×PUnit→Option Int:=fun x0 L self acc=>bif decide (acc.2.1 < (↑x0.3.length:Int)) then bT (ZK x0.3 acc.2.1) fun y=>bif decide (y.1 < 0) || decide (y.1 ≥ (↑x0.2.length:Int)) || decide (y.2 < 0) || decide (y.2 ≥ (↑x0.2.length:Int)) || y.1 == y.2 || decide (y.3 < 1) || decide (y.3 > 1000000000) then some 2 else Zt (GN x0 self acc y) L (acc.1,0,()) else some 0
theorem Zng (L:Nat)(x0:Zk):O7 L (x0,())=bif decide ((↑x0.3.length:Int) > 32) then some 6 else Zt (GU x0 L) L (0,0,()):=by kernel_rfl
def O8 (L:Nat)(x:ZO×PUnit):Option Bool:=fT [] L Zer [.rnd [.slot 3 (.int .i64)]] (.one .bool) [.row 17] x
def Zn6 (L:Nat):Sum tT:=mU 41 [.row 17] (.one .bool) (O8 L)
def Tn:ZO→(Int×PUnit→Option Bool)→Int×PUnit→Option Bool:=fun x0 self acc=>bif decide (acc.1 < (↑x0.2.length:Int)) then bT (ZK x0.Decl.11 acc.1) fun y=>bT (bif decide ((↑y.4.length:Int) > 0) == false then bT (ZK x0.2 acc.1) fun y_1=>some !y.1 == y_1.1 else some true) fun y_1=>bT (bif y_1 == false then bT (ZK x0.2 acc.1) fun y_2=>some ((↑y.2.length:Int) != y_2.2) else some true) fun y=>bif y then some false else self (Go.IntKind.i64.wrap (acc.1 + 1),()) else some true
theorem ZeN (L:Nat)(x0:ZO):O8 L (x0,())=bif (↑x0.2.length:Int) != (↑x0.Decl.11.length:Int) then some false else Zt (Tn x0) L (0,()):=by kernel_rfl
def ZP (L:Nat)(x:Int×Int×Int×PUnit):Option Bool:=fT [] L CB [] (.one .bool) [.int .i64,.int .i64,.int .i64] x
def XL (L:Nat):Sum tT:=mU 122 [.int .i64,.int .i64,.int .i64] (.one .bool) (ZP L)
theorem Zic (L:Nat)(x0:Int)(x1:Int)(x2:Int):ZP L (x0,x1,x2,())=some (decide (x0 ≥ x1) && decide (x0≤x2)):=by kernel_rfl
def FN (L:Nat)(x:QP×(List UInt8)×PUnit):Option Int:=fT [] L Zen [.rnd [.slot 5 (.int .i64)]] (.one (.int .i64)) [.row 21,.str] x
def Zn2 (L:Nat):Sum tT:=mU 121 [.row 21,.str] (.one (.int .i64)) (FN L)
def Mc (L:Nat)(x:QP×PUnit):Option Int:=fT [XL L,Zn2 L] L Zb8 [.rnd [.slot 2 (.int .i64),.slot 3 (.int .i64)],.rnd [.slot 2 (.int .i64),.slot 5 (.int .i64)]] (.one (.int .i64)) [.row 21] x
def ZkI (L:Nat):Sum tT:=mU 65 [.row 21] (.one (.int .i64)) (Mc L)
def Zij:QP→(Int×Int×PUnit→Option Int)→Int×Int×PUnit→ZgF→(Int×Int×PUnit→Option Int)→Int×Int×PUnit→Option Int:=fun x0 self acc y self_1 acc_1=>bif decide (acc_1.2.1 < acc.2.1) then bT (ZK x0.4 acc_1.2.1) fun y_1=>bT (bif (y_1.1 == y.1) == true then bT (ZK x0.4 acc_1.2.1) fun y_2=>some (y_2.2 == y.2) else some false) fun y=>bif y then some 4 else self_1 (acc_1.1,Go.IntKind.i64.wrap (acc_1.2.1 + 1),()) else self (acc_1.1,Go.IntKind.i64.wrap (acc.2.1 + 1),())
def Zaj:QP→Nat→(Int×Int×PUnit→Option Int)→Int×Int×PUnit→Option Int:=fun x0 L self acc=>bif decide (acc.2.1 < (↑x0.4.length:Int)) then bT (ZK x0.4 acc.2.1) fun y=>bT (FN L (x0,y.1,())) fun y_1=>bT (bif decide (y_1 < 0) == false then bT (FN L (x0,y.2,())) fun y=>some (decide (y < 0)) else some true) fun y_2=>bif y_2 then some 5 else bif y.1 == y.2 then some 1 else bT (ZP L (y.3,1,1000000000,())) fun y_3=>bif !y_3 then some 2 else Zt (Zij x0 self acc y) L (acc.1,0,()) else some 0
theorem Zkd (L:Nat)(x0:QP):Mc L (x0,())=bif decide ((↑x0.4.length:Int) > 32) then some 6 else Zt (Zaj x0 L) L (0,0,()):=by kernel_rfl
def ZB (L:Nat)(x:Int×Int×PUnit):Option Int:=fT [] L Zb7 [] (.one (.int .i64)) [.int .i64,.int .i64] x
def Xc (L:Nat):Sum tT:=mU 60 [.int .i64,.int .i64] (.one (.int .i64)) (ZB L)
theorem Zkc (L:Nat)(x0:Int)(x1:Int):ZB L (x0,x1,())=bif x0 != 0 then some x0 else some x1:=by kernel_rfl
end Go.Proofs.YtgjcjbhhhlelnaaGreatDoor
end
noncomputable section
namespace Go.Proofs.YtgjcjbhhhlelnaaGreatDoor
open Go Go.Proofs.YtgjcjbhhhlelnaaGreatDoor.Abs Go.Proofs.YtgjcjbhhhlelnaaGreatDoor.Tl
set_option maxRecDepth 100000
set_option maxHeartbeats 0
def JV (L:Nat)(x:Zc×PUnit):Option ((List (List (List UInt8)))):=fT [] L Zb5 [.rnd [.slot 4 (.int .i64),.cell 1 0 (.own 1 .str),.cell 1 1 (.own 1 .str),.cell 1 2 (.own 1 .str),.cell 1 3 (.own 1 .str),.cell 1 4 (.lst 1 .str),.cell 1 5 (.lst 1 .str),.cell 1 6 (.lst 1 .str),.cell 1 7 (.lst 1 .str),.cell 1 8 (.lst 1 .str),.cell 1 9 (.own 1 .str)],.rnd [.slot 5 (.int .i64),.cell 1 0 (.own 1 .str),.cell 1 1 (.own 1 .str),.cell 1 2 (.own 1 .str),.cell 1 3 (.own 1 .str),.cell 1 4 (.lst 1 .str),.cell 1 5 (.lst 1 .str),.cell 1 6 (.lst 1 .str),.cell 1 7 (.lst 1 .str),.cell 1 8 (.lst 1 .str),.cell 1 9 (.own 1 .str)],.rnd [.slot 6 (.int .i64),.cell 1 0 (.own 1 .str),.cell 1 1 (.own 1 .str),.cell 1 2 (.own 1 .str),.cell 1 3 (.own 1 .str),.cell 1 4 (.lst 1 .str),.cell 1 5 (.lst 1 .str),.cell 1 6 (.lst 1 .str),.cell 1 7 (.lst 1 .str),.cell 1 8 (.lst 1 .str),.cell 1 9 (.own 1 .str)],.rnd [.slot 7 (.int .i64),.cell 1 0 (.own 1 .str),.cell 1 1 (.own 1 .str),.cell 1 2 (.own 1 .str),.cell 1 3 (.own 1 .str),.cell 1 4 (.lst 1 .str),.cell 1 5 (.lst 1 .str),.cell 1 6 (.lst 1 .str),.cell 1 7 (.lst 1 .str),.cell 1 8 (.lst 1 .str),.cell 1 9 (.own 1 .str)],.rnd [.slot 8 (.int .i64),.cell 1 0 (.own 1 .str),.cell 1 1 (.own 1 .str),.cell 1 2 (.own 1 .str),.cell 1 3 (.own 1 .str),.cell 1 4 (.lst 1 .str),.cell 1 5 (.lst 1 .str),.cell 1 6 (.lst 1 .str),.cell 1 7 (.lst 1 .str),.cell 1 8 (.lst 1 .str),.cell 1 9 (.own 1 .str)]] (.one (.lst 1 (.lst 1 .str))) [.row 14] x
def NR (L:Nat):Sum tT:=mU 117 [.row 14] (.one (.lst 1 (.lst 1 .str))) (JV L)
def RS:Zc→(Int×List (List UInt8)×List (List UInt8)×List (List UInt8)×List (List UInt8)×List (List UInt8)×List (List UInt8)×List (List UInt8)×List (List UInt8)×List (List UInt8)×List (List UInt8)×PUnit→Option (List (List (List UInt8))))→Int×List (List UInt8)×List (List UInt8)×List (List UInt8)×List (List UInt8)×List (List UInt8)×List (List UInt8)×List (List UInt8)×List (List UInt8)×List (List UInt8)×List (List UInt8)×PUnit→Option (List (List (List UInt8))):=fun (x0:Zc) (self:Int×List (List UInt8)×List (List UInt8)×List (List UInt8)×List (List UInt8)×List (List UInt8)×List (List UInt8)×List (List UInt8)×List (List UInt8)×List (List UInt8)×List (List UInt8)×PUnit→Option (List (List (List UInt8)))) (acc:Int×List (List UInt8)×List (List UInt8)×List (List UInt8)×List (List UInt8)×List (List UInt8)×List (List UInt8)×List (List UInt8)×List (List UInt8)×List (List UInt8)×List (List UInt8)×PUnit)=>bif decide (acc.1 < (↑x0.11.length:Int)) then bT (ZK x0.11 acc.1) fun y=>bT (apT 16 acc.2.2.2.2.2.2.2.2.2.2.1 [y.1]) fun y=>self (Go.IntKind.i64.wrap (acc.1 + 1),acc.2.1,acc.2.2.1,acc.2.2.2.1,acc.2.2.2.2.1,acc.2.2.2.2.2.1,acc.2.2.2.2.2.2.1,acc.2.2.2.2.2.2.2.1,acc.2.2.2.2.2.2.2.2.1,acc.2.2.2.2.2.2.2.2.2.1,y,()) else some [acc.2.1,acc.2.2.1,acc.2.2.2.1,acc.2.2.2.2.1,acc.2.2.2.2.2.1,acc.2.2.2.2.2.2.1,acc.2.2.2.2.2.2.2.1,acc.2.2.2.2.2.2.2.2.1,acc.2.2.2.2.2.2.2.2.2.1,acc.2.2.2.2.2.2.2.2.2.2.1]
def RU:Zc→Nat→(Int×List (List UInt8)×List (List UInt8)×List (List UInt8)×List (List UInt8)×List (List UInt8)×List (List UInt8)×List (List UInt8)×List (List UInt8)×List (List UInt8)×List (List UInt8)×PUnit→Option (List (List (List UInt8))))→Int×List (List UInt8)×List (List UInt8)×List (List UInt8)×List (List UInt8)×List (List UInt8)×List (List UInt8)×List (List UInt8)×List (List UInt8)×List (List UInt8)×List (List UInt8)×PUnit→Option (List (List (List UInt8))):=fun (x0:Zc) (L:Nat) (self:Int×List (List UInt8)×List (List UInt8)×List (List UInt8)×List (List UInt8)×List (List UInt8)×List (List UInt8)×List (List UInt8)×List (List UInt8)×List (List UInt8)×List (List UInt8)×PUnit→Option (List (List (List UInt8)))) (acc:Int×List (List UInt8)×List (List UInt8)×List (List UInt8)×List (List UInt8)×List (List UInt8)×List (List UInt8)×List (List UInt8)×List (List UInt8)×List (List UInt8)×List (List UInt8)×PUnit)=>bif decide (acc.1 < (↑x0.5.length:Int)) then bT (ZK x0.5 acc.1) fun y=>bT (apT 16 acc.2.2.2.2.1 [y.1]) fun y=>self (Go.IntKind.i64.wrap (acc.1 + 1),acc.2.1,acc.2.2.1,acc.2.2.2.1,y,acc.2.2.2.2.2.1,acc.2.2.2.2.2.2.1,acc.2.2.2.2.2.2.2.1,acc.2.2.2.2.2.2.2.2.1,acc.2.2.2.2.2.2.2.2.2.1,acc.2.2.2.2.2.2.2.2.2.2.1,()) else Zt (RS x0) L (0,acc.2.1,acc.2.2.1,acc.2.2.2.1,acc.2.2.2.2.1,x0.6,x0.7,x0.8,x0.9,x0.10,acc.2.2.2.2.2.2.2.2.2.2.1,())
def RV:Zc→Nat→(Int×List (List UInt8)×List (List UInt8)×List (List UInt8)×List (List UInt8)×List (List UInt8)×List (List UInt8)×List (List UInt8)×List (List UInt8)×List (List UInt8)×List (List UInt8)×PUnit→Option (List (List (List UInt8))))→Int×List (List UInt8)×List (List UInt8)×List (List UInt8)×List (List UInt8)×List (List UInt8)×List (List UInt8)×List (List UInt8)×List (List UInt8)×List (List UInt8)×List (List UInt8)×PUnit→Option (List (List (List UInt8))):=fun (x0:Zc) (L:Nat) (self:Int×List (List UInt8)×List (List UInt8)×List (List UInt8)×List (List UInt8)×List (List UInt8)×List (List UInt8)×List (List UInt8)×List (List UInt8)×List (List UInt8)×List (List UInt8)×PUnit→Option (List (List (List UInt8)))) (acc:Int×List (List UInt8)×List (List UInt8)×List (List UInt8)×List (List UInt8)×List (List UInt8)×List (List UInt8)×List (List UInt8)×List (List UInt8)×List (List UInt8)×List (List UInt8)×PUnit)=>bif decide (acc.1 < (↑x0.4.length:Int)) then bT (ZK x0.4 acc.1) fun y=>bT (apT 16 acc.2.2.2.1 [y.1]) fun y=>self (Go.IntKind.i64.wrap (acc.1 + 1),acc.2.1,acc.2.2.1,y,acc.2.2.2.2.1,acc.2.2.2.2.2.1,acc.2.2.2.2.2.2.1,acc.2.2.2.2.2.2.2.1,acc.2.2.2.2.2.2.2.2.1,acc.2.2.2.2.2.2.2.2.2.1,acc.2.2.2.2.2.2.2.2.2.2.1,()) else Zt (RU x0 L) L (0,acc.2.1,acc.2.2.1,acc.2.2.2.1,acc.2.2.2.2.1,acc.2.2.2.2.2.1,acc.2.2.2.2.2.2.1,acc.2.2.2.2.2.2.2.1,acc.2.2.2.2.2.2.2.2.1,acc.2.2.2.2.2.2.2.2.2.1,acc.2.2.2.2.2.2.2.2.2.2.1,())
def RX:Zc→Nat→(Int×List (List UInt8)×List (List UInt8)×List (List UInt8)×List (List UInt8)×List (List UInt8)×List (List UInt8)×List (List UInt8)×List (List UInt8)×List (List UInt8)×List (List UInt8)×PUnit→Option (List (List (List UInt8))))→Int×List (List UInt8)×List (List UInt8)×List (List UInt8)×List (List UInt8)×List (List UInt8)×List (List UInt8)×List (List UInt8)×List (List UInt8)×List (List UInt8)×List (List UInt8)×PUnit→Option (List (List (List UInt8))):=fun (x0:Zc) (L:Nat) (self:Int×List (List UInt8)×List (List UInt8)×List (List UInt8)×List (List UInt8)×List (List UInt8)×List (List UInt8)×List (List UInt8)×List (List UInt8)×List (List UInt8)×List (List UInt8)×PUnit→Option (List (List (List UInt8)))) (acc:Int×List (List UInt8)×List (List UInt8)×List (List UInt8)×List (List UInt8)×List (List UInt8)×List (List UInt8)×List (List UInt8)×List (List UInt8)×List (List UInt8)×List (List UInt8)×PUnit)=>bif decide (acc.1 < (↑x0.3.length:Int)) then bT (ZK x0.3 acc.1) fun y=>bT (apT 16 acc.2.2.1 [y.1]) fun y=>self (Go.IntKind.i64.wrap (acc.1 + 1),acc.2.1,y,acc.2.2.2.1,acc.2.2.2.2.1,acc.2.2.2.2.2.1,acc.2.2.2.2.2.2.1,acc.2.2.2.2.2.2.2.1,acc.2.2.2.2.2.2.2.2.1,acc.2.2.2.2.2.2.2.2.2.1,acc.2.2.2.2.2.2.2.2.2.2.1,()) else Zt (RV x0 L) L (0,acc.2.1,acc.2.2.1,acc.2.2.2.1,acc.2.2.2.2.1,acc.2.2.2.2.2.1,acc.2.2.2.2.2.2.1,acc.2.2.2.2.2.2.2.1,acc.2.2.2.2.2.2.2.2.1,acc.2.2.2.2.2.2.2.2.2.1,acc.2.2.2.2.2.2.2.2.2.2.1,())
def RY:Zc→Nat→(Int×List (List UInt8)×List (List UInt8)×List (List UInt8)×List (List UInt8)×List (List UInt8)×List (List UInt8)×List (List UInt8)×List (List UInt8)×List (List UInt8)×List (List UInt8)×PUnit→Option (List (List (List UInt8))))→Int×List (List UInt8)×List (List UInt8)×List (List UInt8)×List (List UInt8)×List (List UInt8)×List (List UInt8)×List (List UInt8)×List (List UInt8)×List (List UInt8)×List (List UInt8)×PUnit→Option (List (List (List UInt8))):=fun (x0:Zc) (L:Nat) (self:Int×List (List UInt8)×List (List UInt8)×List (List UInt8)×List (List UInt8)×List (List UInt8)×List (List UInt8)×List (List UInt8)×List (List UInt8)×List (List UInt8)×List (List UInt8)×PUnit→Option (List (List (List UInt8)))) (acc:Int×List (List UInt8)×List (List UInt8)×List (List UInt8)×List (List UInt8)×List (List UInt8)×List (List UInt8)×List (List UInt8)×List (List UInt8)×List (List UInt8)×List (List UInt8)×PUnit)=>bif decide (acc.1 < (↑x0.2.length:Int)) then bT (ZK x0.2 acc.1) fun y=>bT (apT 16 acc.2.1 [y.1]) fun y=>self (Go.IntKind.i64.wrap (acc.1 + 1),y,acc.2.2.1,acc.2.2.2.1,acc.2.2.2.2.1,acc.2.2.2.2.2.1,acc.2.2.2.2.2.2.1,acc.2.2.2.2.2.2.2.1,acc.2.2.2.2.2.2.2.2.1,acc.2.2.2.2.2.2.2.2.2.1,acc.2.2.2.2.2.2.2.2.2.2.1,()) else Zt (RX x0 L) L (0,acc.2.1,acc.2.2.1,acc.2.2.2.1,acc.2.2.2.2.1,acc.2.2.2.2.2.1,acc.2.2.2.2.2.2.1,acc.2.2.2.2.2.2.2.1,acc.2.2.2.2.2.2.2.2.1,acc.2.2.2.2.2.2.2.2.2.1,acc.2.2.2.2.2.2.2.2.2.2.1,())
theorem Zka (L:Nat)(x0:Zc):JV L (x0,())=Zt (RY x0 L) L (0,[],[],[],[],[],[],[],[],[],[],()):=by kernel_rfl
def QN (L:Nat)(x:Zc×(List UInt8)×PUnit):Option (List UInt8):=fT [O3 L,NR L] L Zem [.rnd [.slot 7 (.int .i64)]] (.one .str) [.row 14,.str] x
def Zn1 (L:Nat):Sum tT:=mU 188 [.row 14,.str] (.one .str) (QN L)
def Tm:List UInt8→Nat→List (List (List UInt8))→(Int×PUnit→Option (List UInt8))→Int×PUnit→Option (List UInt8):=fun x1 L y self acc=>bif decide (acc.1 < (↑y.length:Int)) then bT (ZK y acc.1) fun y=>bT (VW L (y,x1,())) fun y=>bif decide (y ≥ 0) then bT (ZK [[118,97,114],[114,101,115,111,117,114,99,101],[115,116,111,114,101],[98,101,108,116],[113,117,101,117,101],[115,116,114,101,97,109],[116,97,108,108,121],[108,101,118,101,108],[99,111,117,110,116],[114,111,117,116,105,110,101]] acc.1) fun y=>some y else self (Go.IntKind.i64.wrap (acc.1 + 1),()) else some []
theorem Znd (L:Nat)(x0:Zc)(x1:(List UInt8)):QN L (x0,x1,())=bT (JV L (x0,())) fun (y:List (List (List UInt8)))=>Zt (Tm x1 L y) L (0,()):=by kernel_rfl
def Zr (L:Nat)(x:Bool×Int×PUnit):Option Int:=fT [] L C9 [] (.one (.int .i64)) [.bool,.int .i64] x
def WZ (L:Nat):Sum tT:=mU 61 [.bool,.int .i64] (.one (.int .i64)) (Zr L)
theorem Zib (L:Nat)(x0:Bool)(x1:Int):Zr L (x0,x1,())=bif x0 then some 0 else some x1:=by kernel_rfl
def Dp (L:Nat)(x:Zc×IY×PUnit):Option Int:=fT [XL L,Xc L,Zn1 L,WZ L] L Zep [] (.one (.int .i64)) [.row 14,.row 12] x
def Zn4 (L:Nat):Sum tT:=mU 158 [.row 14,.row 12] (.one (.int .i64)) (Dp L)
theorem Znf (L:Nat)(x0:Zc)(x1:IY):Dp L (x0,x1,())=bif x1.2 == [99,114,101,97,116,101,100] then bT (bT (Zr L (!([114,111,117,116,105,110,101]:List UInt8) == [],1,())) fun y=>some y) fun y=>bT (bT (QN L (x0,x1.3,())) fun y=>some y) fun y_1=>bT (bT (Zr L (y_1 == [114,111,117,116,105,110,101],5,())) fun y=>some y) fun y_2=>bT (bT (ZB L (y,y_2,())) fun y=>some y) fun y=>bT (ZP L (x1.1,(-1000),1000,())) fun y_3=>bT (Zr L (y_3 && x1.1 != 0,2,())) fun y_4=>bT (ZB L (y,y_4,())) fun y=>some y else bif x1.2 == [101,110,100,101,100] then bT (bT (Zr L (!([114,111,117,116,105,110,101]:List UInt8) == [],1,())) fun y=>some y) fun y=>bT (bT (QN L (x0,x1.3,())) fun y=>some y) fun y_1=>bT (bT (Zr L (y_1 == [114,111,117,116,105,110,101],5,())) fun y=>some y) fun y_2=>bT (bT (ZB L (y,y_2,())) fun y=>some y) fun y=>bT (ZP L (x1.1,(-1000),1000,())) fun y_3=>bT (Zr L (y_3 && x1.1 != 0,2,())) fun y_4=>bT (ZB L (y,y_4,())) fun y=>some y else bif x1.2 == [105,110,115,105,100,101] then bT (bT (Zr L (!([114,111,117,116,105,110,101]:List UInt8) == [],1,())) fun y=>some y) fun y=>bT (bT (QN L (x0,x1.3,())) fun y=>some y) fun y_1=>bT (bT (Zr L (y_1 == [114,111,117,116,105,110,101],5,())) fun y=>some y) fun y_2=>bT (bT (ZB L (y,y_2,())) fun y=>some y) fun y=>bT (ZP L (x1.1,(-1000),1000,())) fun y_3=>bT (Zr L (y_3 && x1.1 != 0,2,())) fun y_4=>bT (ZB L (y,y_4,())) fun y=>some y else bif x1.2 == [115,116,111,114,101,100] then bT (bT (Zr L (!([115,116,111,114,101]:List UInt8) == [],1,())) fun y=>some y) fun y=>bT (bT (QN L (x0,x1.3,())) fun y=>some y) fun y_1=>bT (bT (Zr L (y_1 == [115,116,111,114,101],5,())) fun y=>some y) fun y_2=>bT (bT (ZB L (y,y_2,())) fun y=>some y) fun y=>bT (ZP L (x1.1,(-1000),1000,())) fun y_3=>bT (Zr L (y_3 && x1.1 != 0,2,())) fun y_4=>bT (ZB L (y,y_4,())) fun y=>some y else bif x1.2 == [101,110,116,101,114,101,100] then bT (bT (Zr L (!([115,116,111,114,101]:List UInt8) == [],1,())) fun y=>some y) fun y=>bT (bT (QN L (x0,x1.3,())) fun y=>some y) fun y_1=>bT (bT (Zr L (y_1 == [115,116,111,114,101],5,())) fun y=>some y) fun y_2=>bT (bT (ZB L (y,y_2,())) fun y=>some y) fun y=>bT (ZP L (x1.1,(-1000),1000,())) fun y_3=>bT (Zr L (y_3 && x1.1 != 0,2,())) fun y_4=>bT (ZB L (y,y_4,())) fun y=>some y else bif x1.2 == [108,101,102,116] then bT (bT (Zr L (!([115,116,111,114,101]:List UInt8) == [],1,())) fun y=>some y) fun y=>bT (bT (QN L (x0,x1.3,())) fun y=>some y) fun y_1=>bT (bT (Zr L (y_1 == [115,116,111,114,101],5,())) fun y=>some y) fun y_2=>bT (bT (ZB L (y,y_2,())) fun y=>some y) fun y=>bT (ZP L (x1.1,(-1000),1000,())) fun y_3=>bT (Zr L (y_3 && x1.1 != 0,2,())) fun y_4=>bT (ZB L (y,y_4,())) fun y=>some y else bif x1.2 == [99,111,117,110,116,101,100] then bT (bT (Zr L (!([99,111,117,110,116]:List UInt8) == [],1,())) fun y=>some y) fun y=>bT (bT (QN L (x0,x1.3,())) fun y=>some y) fun y_1=>bT (bT (Zr L (y_1 == [99,111,117,110,116],5,())) fun y=>some y) fun y_2=>bT (bT (ZB L (y,y_2,())) fun y=>some y) fun y=>bT (ZP L (x1.1,(-1000),1000,())) fun y_3=>bT (Zr L (y_3 && x1.1 != 0,2,())) fun y_4=>bT (ZB L (y,y_4,())) fun y=>some y else bT (bT (Zr L (!([]:List UInt8) == [],1,())) fun y=>some y) fun y=>bT (bT (QN L (x0,x1.3,())) fun y=>some y) fun y_1=>bT (bT (Zr L (y_1 == [],5,())) fun y=>some y) fun y_2=>bT (bT (ZB L (y,y_2,())) fun y=>some y) fun y=>bT (ZP L (x1.1,(-1000),1000,())) fun y_3=>bT (Zr L (y_3 && x1.1 != 0,2,())) fun y_4=>bT (ZB L (y,y_4,())) fun y=>some y:=by kernel_rfl
def VH (L:Nat)(x:(List UInt8)×(List (List UInt8))×PUnit):Option Int:=fT [Xc L,WZ L,O3 L,VD L] L Zb9 [] (.one (.int .i64)) [.str,.lst 1 .str] x
def Hr (L:Nat):Sum tT:=mU 63 [.str,.lst 1 .str] (.one (.int .i64)) (VH L)
theorem Zke (L:Nat)(x0:(List UInt8))(x1:(List (List UInt8))):VH L (x0,x1,())=bT (Qi L (x0,())) fun y=>bT (VW L (x1,x0,())) fun y_1=>bT (Zr L (decide (y_1 < 0),4,())) fun y_2=>bT (ZB L (y,y_2,())) fun y=>some y:=by kernel_rfl
def Aj (L:Nat)(x:Zc×Zdz×(List (List UInt8))×PUnit):Option Int:=fT [Zbl L,Zn4 L,Xc L,WZ L,Hr L] L ZgK [.rnd [.slot 7 (.int .i64),.slot 8 (.int .i64)]] (.one (.int .i64)) [.row 14,.row 13,.lst 1 .str] x
def Zqs (L:Nat):Sum tT:=mU 120 [.row 14,.row 13,.lst 1 .str] (.one (.int .i64)) (Aj L)
def BV:Zc→Zdz→Nat→(Int×Int×PUnit→Option Int)→Int×Int×PUnit→Option Int:=fun x0 x1 L self acc=>bif decide (acc.2.1 < (↑x1.2.length:Int)) then bT (ZK x1.2 acc.2.1) fun y=>bT (bT (Dp L (x0,y,())) fun y=>some y) fun y=>bT (bT (ZB L (acc.1,y,())) fun y=>some y) fun y=>self (y,Go.IntKind.i64.wrap (acc.2.1 + 1),()) else bT (Dk L (x1.3,())) fun y=>bT (Zr L (y,2,())) fun y=>bT (ZB L (acc.1,y,())) fun y=>some y
theorem ZpT (L:Nat)(x0:Zc)(x1:Zdz)(x2:(List (List UInt8))):Aj L (x0,x1,x2,())=bT (VH L (x1.1,x2,())) fun y=>bT (Zr L (decide ((↑x1.2.length:Int) > 0),7,())) fun y_1=>bT (ZB L (y,y_1,())) fun y=>bT (Zr L (decide ((↑x1.2.length:Int)≤8),6,())) fun y_2=>bT (ZB L (y,y_2,())) fun y=>Zt (BV x0 x1 L) L (y,0,()):=by kernel_rfl
def O6 (L:Nat)(x:Int×Int×PUnit):Option Bool:=fT [XL L,Zbl L] L Zel [] (.one .bool) [.int .i64,.int .i64] x
def FI (L:Nat):Sum tT:=mU 116 [.int .i64,.int .i64] (.one .bool) (O6 L)
theorem Znc (L:Nat)(x0:Int)(x1:Int):O6 L (x0,x1,())=bif x0 == 1 then bT (Dk L (x1,())) fun y=>some y else bif x0 == 2 then some (x1 == 0 || x1 == 1) else bif x0 == 3 then bT (ZP L (x1,0,1000000000,())) fun y=>some y else some false:=by kernel_rfl
def Gf (L:Nat)(x:Zc×(List UInt8)×PUnit):Option Int:=fT [O3 L,NR L] L SQ [] (.one (.int .i64)) [.row 14,.str] x
def Zg3 (L:Nat):Sum tT:=mU 157 [.row 14,.str] (.one (.int .i64)) (Gf L)
theorem Zgh (L:Nat)(x0:Zc)(x1:(List UInt8)):Gf L (x0,x1,())=bT (JV L (x0,())) fun (y:List (List (List UInt8)))=>bT (ZK y 9) fun y=>bT (VW L (y,x1,())) fun y=>some y:=by kernel_rfl
def Md (L:Nat)(x:Zc×Xo×PUnit):Option Int:=fT [WZ L,XL L,FI L,Zg3 L] L ZbA [.rnd [.slot 7 (.int .i64)]] (.one (.int .i64)) [.row 14,.row 11] x
def ZkJ (L:Nat):Sum tT:=mU 119 [.row 14,.row 11] (.one (.int .i64)) (Md L)
def Io:Xo→Nat→ZT→(Int×PUnit→Option Int)→Int×PUnit→Option Int:=fun x1 L y self acc=>bif decide (acc.1 < (↑y.2.length:Int)) then bT (ZK y.2 acc.1) fun y=>bT (ZK x1.2 acc.1) fun y_1=>bT (bT (O6 L (y.2,y_1,())) fun y=>some y) fun y=>bif !y then some 2 else self (Go.IntKind.i64.wrap (acc.1 + 1),()) else bT (ZP L (x1.3,0,1000000000,())) fun y=>bT (bif y == true then bT (ZP L (x1.4,0,1000000000,())) fun y=>some y else some false) fun y=>bT (bif y == true then bT (ZP L (x1.5,0,1000000000,())) fun y=>some y else some false) fun y=>bT (Zr L (y && (x1.4 != 0 || x1.5 == 0),2,())) fun y=>some y
theorem Zkf (L:Nat)(x0:Zc)(x1:Xo):Md L (x0,x1,())=bT (Gf L (x0,x1.1,())) fun y=>bif decide (y < 0) then some 5 else bT (ZK x0.11 y) fun y=>bif (↑x1.2.length:Int) != (↑y.2.length:Int) then some 8 else Zt (Io x1 L y) L (0,()):=by kernel_rfl
def YO (L:Nat)(x:Zu×PUnit):Option Int:=fT [Zdl L] L Zb0 [] (.one (.int .i64)) [.row 8] x
def ZkA (L:Nat):Sum tT:=mU 219 [.row 8] (.one (.int .i64)) (YO L)
theorem ZjR (L:Nat)(x0:Zu):YO L (x0,())=bT (Hz L (x0,false,())) fun y=>some y:=by kernel_rfl
end Go.Proofs.YtgjcjbhhhlelnaaGreatDoor
end
noncomputable section
namespace Go.Proofs.YtgjcjbhhhlelnaaGreatDoor
open Go Go.Proofs.YtgjcjbhhhlelnaaGreatDoor.Abs Go.Proofs.YtgjcjbhhhlelnaaGreatDoor.Tl
set_option maxRecDepth 100000
set_option maxHeartbeats 0
def TY (L:Nat)(x:ZA×YK×PUnit):Option Int:=fT [ZkA L] L Zb3 [.rnd [.slot 5 (.int .i64),.slot 6 (.int .i64)]] (.one (.int .i64)) [.row 9,.row 27] x
def ZkG (L:Nat):Sum tT:=mU 217 [.row 9,.row 27] (.one (.int .i64)) (TY L)
def Wv:ZA→Nat→(Int×Int×PUnit→Option Int)→Int×Int×PUnit→Option Int:=fun x0 L self acc=>bif acc.1 == 0 && decide (acc.2.1 < (↑x0.6.length:Int)) then bT (ZK x0.6 acc.2.1) fun y=>bT (YO L (y,())) fun y=>self (y,Go.IntKind.i64.wrap (acc.2.1 + 1),()) else some acc.1
def Zac:ZA→Nat→(Int×Int×PUnit→Option Int)→Int×Int×PUnit→Option Int:=fun x0 L self acc=>bif acc.1 == 0 && decide (acc.2.1 < (↑x0.6.length:Int)) then bT (ZK x0.6 acc.2.1) fun y=>bT (YO L (y,())) fun y=>self (y,Go.IntKind.i64.wrap (acc.2.1 + 1),()) else some acc.1
def Zad:ZA→Nat→(Int×Int×PUnit→Option Int)→Int×Int×PUnit→Option Int:=fun x0 L self acc=>bif acc.1 == 0 && decide (acc.2.1 < (↑x0.6.length:Int)) then bT (ZK x0.6 acc.2.1) fun y=>bT (YO L (y,())) fun y=>self (y,Go.IntKind.i64.wrap (acc.2.1 + 1),()) else some acc.1
def Zae:ZA→Nat→(Int×Int×PUnit→Option Int)→Int×Int×PUnit→Option Int:=fun x0 L self acc=>bif acc.1 == 0 && decide (acc.2.1 < (↑x0.6.length:Int)) then bT (ZK x0.6 acc.2.1) fun y=>bT (YO L (y,())) fun y=>self (y,Go.IntKind.i64.wrap (acc.2.1 + 1),()) else some acc.1
def Zaf:ZA→Nat→(Int×Int×PUnit→Option Int)→Int×Int×PUnit→Option Int:=fun x0 L self acc=>bif acc.1 == 0 && decide (acc.2.1 < (↑x0.6.length:Int)) then bT (ZK x0.6 acc.2.1) fun y=>bT (YO L (y,())) fun y=>self (y,Go.IntKind.i64.wrap (acc.2.1 + 1),()) else some acc.1
def Zag:ZA→Nat→(Int×Int×PUnit→Option Int)→Int×Int×PUnit→Option Int:=fun x0 L self acc=>bif acc.1 == 0 && decide (acc.2.1 < (↑x0.6.length:Int)) then bT (ZK x0.6 acc.2.1) fun y=>bT (YO L (y,())) fun y=>self (y,Go.IntKind.i64.wrap (acc.2.1 + 1),()) else some acc.1
def Zah:ZA→Nat→(Int×Int×PUnit→Option Int)→Int×Int×PUnit→Option Int:=fun x0 L self acc=>bif acc.1 == 0 && decide (acc.2.1 < (↑x0.6.length:Int)) then bT (ZK x0.6 acc.2.1) fun y=>bT (YO L (y,())) fun y=>self (y,Go.IntKind.i64.wrap (acc.2.1 + 1),()) else some acc.1
def Zai:ZA→Nat→(Int×Int×PUnit→Option Int)→Int×Int×PUnit→Option Int:=fun x0 L self acc=>bif acc.1 == 0 && decide (acc.2.1 < (↑x0.6.length:Int)) then bT (ZK x0.6 acc.2.1) fun y=>bT (YO L (y,())) fun y=>self (y,Go.IntKind.i64.wrap (acc.2.1 + 1),()) else some acc.1
theorem ZjY (L:Nat)(x0:ZA)(x1:YK):TY L (x0,x1,())=bif x1.3 then bT (YO L (x0.4,())) fun y=>bif y == 0 && x1.4 then bT (YO L (x0.5,())) fun y=>bif y == 0 && decide ((↑x0.6.length:Int) > 6) then Zt (Wv x0 L) L (6,0,()) else Zt (Zac x0 L) L (y,0,()) else bif y == 0 && decide ((↑x0.6.length:Int) > 6) then Zt (Zad x0 L) L (6,0,()) else Zt (Zae x0 L) L (y,0,()) else bif 0 == 0 && x1.4 then bT (YO L (x0.5,())) fun y=>bif y == 0 && decide ((↑x0.6.length:Int) > 6) then Zt (Zaf x0 L) L (6,0,()) else Zt (Zag x0 L) L (y,0,()) else bif 0 == 0 && decide ((↑x0.6.length:Int) > 6) then Zt (Zah x0 L) L (6,0,()) else Zt (Zai x0 L) L (0,0,()):=by kernel_rfl
def O5 (L:Nat)(x:Zu×PUnit):Option Bool:=fT [] L Zek [] (.one .bool) [.row 8] x
def Zn0 (L:Nat):Sum tT:=mU 218 [.row 8] (.one .bool) (O5 L)
theorem Znb (L:Nat)(x0:Zu):O5 L (x0,())=some (x0.1 == 0 && x0.2 == [] && x0.3 == 0 && (↑x0.4.length:Int) == 0):=by kernel_rfl
def Ah (L:Nat)(x:Int×PUnit):Option (YK×Bool×PUnit):=fT [] L ZkV [] (.tup [.row 27,.bool]) [.int .i64] x
def Zmf (L:Nat):Sum tT:=mU 215 [.int .i64] (.tup [.row 27,.bool]) (Ah L)
theorem Zso (L:Nat)(x0:Int):Ah L (x0,())=bif x0 == 1 then some (YK.mk true false true false false false false false false,true,()) else bif x0 == 7 then some (YK.mk true false true false false false false false false,true,()) else bif x0 == 8 then some (YK.mk true false true false false false false false false,true,()) else bif x0 == 12 then some (YK.mk true false true false false false false false false,true,()) else bif x0 == 15 then some (YK.mk true false true false false false false false false,true,()) else bif x0 == 16 then some (YK.mk true false true false false false false false false,true,()) else bif x0 == 17 then some (YK.mk true false true false false false false false false,true,()) else bif x0 == 2 then some (YK.mk true true false false false true false false false,true,()) else bif x0 == 3 then some (YK.mk false false true false false false false true true,true,()) else bif x0 == 4 then some (YK.mk false false true false false false false true false,true,()) else bif x0 == 5 then some (YK.mk false false true false false false false false false,true,()) else bif x0 == 6 then some (YK.mk true false true true false false true false false,true,()) else bif x0 == 9 then some (YK.mk true true false false false false false false false,true,()) else bif x0 == 10 then some (YK.mk true false false false false false false false false,true,()) else bif x0 == 11 then some (YK.mk true false false false false false false false false,true,()) else bif x0 == 13 then some (YK.mk true true true false true false false false false,true,()) else bif x0 == 14 then some (YK.mk true false true false true false false false false,true,()) else bif x0 == 18 then some (YK.mk false false false false false false false false false,true,()) else some (YK.mk false false false false false false false false false,false,()):=by kernel_rfl
def I9 (L:Nat)(x:ZA×PUnit):Option Bool:=fT [FH L,Zn0 L,Zmf L] L Cm [] (.one .bool) [.row 9] x
def ZiE (L:Nat):Sum tT:=mU 216 [.row 9] (.one .bool) (I9 L)
theorem Zia (L:Nat)(x0:ZA):I9 L (x0,())=bT (Ah L (x0.1,())) fun y=>bT (bif y.1.3 == false then bT (O5 L (x0.4,())) fun y=>some y else some true) fun y_1=>bT (bif y_1 == true then bif y.1.4 == false then bT (O5 L (x0.5,())) fun y=>some y else some true else some false) fun y_2=>bT (bif (y.2.1 && ((y.1.1 || x0.2 == []) && (y.1.2 || x0.3 == [])) && (y_2 && (y.1.5 || (↑x0.6.length:Int) == 0)) && ((y.1.8 || (↑x0.9.length:Int) == 0) && (y.1.9 || (↑x0.10.length:Int) == 0))) == true then bif y.1.6 == false then bT (JU L (x0.7,YT.mk 0 0 0 0 [] [],())) fun y=>some y else some true else some false) fun y_3=>some (y_3 && (y.1.7 || !x0.8)):=by kernel_rfl
def Ai (L:Nat)(x:ZA×PUnit):Option Int:=fT [NQ L,ZkG L,VD L,ZiE L,Zmf L] L ZgJ [] (.one (.int .i64)) [.row 9] x
def ZiF (L:Nat):Sum tT:=mU 213 [.row 9] (.one (.int .i64)) (Ai L)
theorem ZpS (L:Nat)(x0:ZA):Ai L (x0,())=bT (Ah L (x0.1,())) fun y=>bT (I9 L (x0,())) fun y_1=>bif !y_1 then some 1 else bT (bif y.1.1 == true then bT (Qi L (x0.2,())) fun y=>some (y != 0) else some false) fun y_2=>bT (bif y_2 == false then bif y.1.2 == true then bT (Qi L (x0.3,())) fun y=>some (y != 0) else some false else some true) fun y_3=>bif y_3 then some 3 else bT (TY L (x0,y.1,())) fun y_4=>bif y_4 == 0 && y.1.6 then bT (VG L (x0.7,())) fun y=>some y else some y_4:=by kernel_rfl
def ZcZ (L:Nat):Nat→List (Sum tT)
 | 0=>[⟨203,[.lst 21 (.row 9)],fun _=>.par _ none ((.one (.int .i64):RD).tv tT)⟩]
 | m + 1=>[⟨203,[.lst 21 (.row 9)],fun x=>.par _ (fnT tF tG (qOf tF (ZcZ L m ++ [ZiF L])) 0 L A7 [.rnd [.slot 3 (.int .i64)]] (.one (.int .i64)) (tvL tT [.lst 21 (.row 9)] x) []) ((.one (.int .i64):RD).tv tT)⟩]
def JX (L m:Nat)(x:(List ZA)×PUnit):Option (Int):=fnT tF tG (qOf tF (ZcZ L m ++ [ZiF L])) 0 L A7 [.rnd [.slot 3 (.int .i64)]] (.one (.int .i64)) (tvL tT [.lst 21 (.row 9)] x) []
def FM (L:Nat)(x:(List ZA)×PUnit):Option (Int):=JX L L x
def Znz (L:Nat):Sum tT:=⟨203,[.lst 21 (.row 9)],fun x=>.par ((.one (.int .i64):RD).Ty tT) (FM L x) ((.one (.int .i64):RD).tv tT)⟩
def NE:Nat→List ZA→Nat→(Int×PUnit→Option Int)→Int×PUnit→Option Int:=fun (m:Nat)=>fun x0 L self acc=>bif decide (acc.1 < (↑x0.length:Int)) then bT (ZK x0 acc.1) fun y=>bT (Ai L (y,())) fun y=>bif y == 0 then bT (ZK x0 acc.1) fun y=>bT (JX L m (y.9,())) fun y=>bif y == 0 then bT (ZK x0 acc.1) fun y=>bT (JX L m (y.10,())) fun y=>bif y != 0 then some y else self (Go.IntKind.i64.wrap (acc.1 + 1),()) else bif y != 0 then some y else self (Go.IntKind.i64.wrap (acc.1 + 1),()) else bif y == 0 then bT (ZK x0 acc.1) fun y=>bT (JX L m (y.10,())) fun y=>bif y != 0 then some y else self (Go.IntKind.i64.wrap (acc.1 + 1),()) else bif y != 0 then some y else self (Go.IntKind.i64.wrap (acc.1 + 1),()) else some 0
theorem Zna (L m:Nat)(x0:(List ZA)):JX L (m + 1) (x0,())=Zt (NE m x0 L) L (0,()):=by kernel_rfl
def Zar (L:Nat):Nat→List (Sum tT)
 | 0=>[⟨202,[.lst 21 (.row 9)],fun _=>.par _ none ((.one (.int .i64):RD).tv tT)⟩]
 | m + 1=>[⟨202,[.lst 21 (.row 9)],fun x=>.par _ (fnT tF tG (qOf tF (Zar L m ++ [])) 0 L PK [.rnd [.slot 3 (.int .i64),.slot 4 (.int .i64)]] (.one (.int .i64)) (tvL tT [.lst 21 (.row 9)] x) []) ((.one (.int .i64):RD).tv tT)⟩]
def UD (L m:Nat)(x:(List ZA)×PUnit):Option (Int):=fnT tF tG (qOf tF (Zar L m ++ [])) 0 L PK [.rnd [.slot 3 (.int .i64),.slot 4 (.int .i64)]] (.one (.int .i64)) (tvL tT [.lst 21 (.row 9)] x) []
def Sl (L:Nat)(x:(List ZA)×PUnit):Option (Int):=UD L L x
def ZkF (L:Nat):Sum tT:=⟨202,[.lst 21 (.row 9)],fun x=>.par ((.one (.int .i64):RD).Ty tT) (Sl L x) ((.one (.int .i64):RD).tv tT)⟩
def RN:Nat→List ZA→Nat→(Int×Int×PUnit→Option Int)→Int×Int×PUnit→Option Int:=fun (m:Nat)=>fun x0 L self acc=>bif decide (acc.2.1 < (↑x0.length:Int)) then bT (ZK x0 acc.2.1) fun y=>bT (bT (UD L m (y.9,())) fun y=>some y) fun y=>bT (ZK x0 acc.2.1) fun y_1=>bT (bT (UD L m (y_1.10,())) fun y=>some y) fun y_2=>self (if Go.IntKind.i64.wrap (1 + y_2) > if Go.IntKind.i64.wrap (1 + y) > acc.1 then Go.IntKind.i64.wrap (1 + y) else acc.1 then Go.IntKind.i64.wrap (1 + y_2) else if Go.IntKind.i64.wrap (1 + y) > acc.1 then Go.IntKind.i64.wrap (1 + y) else acc.1,Go.IntKind.i64.wrap (acc.2.1 + 1),()) else some acc.1
theorem ZjX (L m:Nat)(x0:(List ZA)):UD L (m + 1) (x0,())=Zt (RN m x0 L) L (0,0,()):=by kernel_rfl
def Zaq (L:Nat):Nat→List (Sum tT)
 | 0=>[⟨201,[.lst 21 (.row 9)],fun _=>.par _ none ((.one (.int .i64):RD).tv tT)⟩]
 | m + 1=>[⟨201,[.lst 21 (.row 9)],fun x=>.par _ (fnT tF tG (qOf tF (Zaq L m ++ [])) 0 L PI [.rnd [.slot 3 (.int .i64),.slot 4 (.int .i64)]] (.one (.int .i64)) (tvL tT [.lst 21 (.row 9)] x) []) ((.one (.int .i64):RD).tv tT)⟩]
def UC (L m:Nat)(x:(List ZA)×PUnit):Option (Int):=fnT tF tG (qOf tF (Zaq L m ++ [])) 0 L PI [.rnd [.slot 3 (.int .i64),.slot 4 (.int .i64)]] (.one (.int .i64)) (tvL tT [.lst 21 (.row 9)] x) []
def Sj (L:Nat)(x:(List ZA)×PUnit):Option (Int):=UC L L x
def ZkE (L:Nat):Sum tT:=⟨201,[.lst 21 (.row 9)],fun x=>.par ((.one (.int .i64):RD).Ty tT) (Sj L x) ((.one (.int .i64):RD).tv tT)⟩
def RJ:Nat→List ZA→Nat→(Int×Int×PUnit→Option Int)→Int×Int×PUnit→Option Int:=fun (m:Nat)=>fun x0 L self acc=>bif decide (acc.2.1 < (↑x0.length:Int)) then bT (ZK x0 acc.2.1) fun y=>bT (bT (UC L m (y.9,())) fun y=>some y) fun y=>bT (ZK x0 acc.2.1) fun y_1=>bT (bT (UC L m (y_1.10,())) fun y=>some y) fun y_2=>self (Go.IntKind.i64.wrap (Go.IntKind.i64.wrap (Go.IntKind.i64.wrap (acc.1 + 1) + y) + y_2),Go.IntKind.i64.wrap (acc.2.1 + 1),()) else some acc.1
theorem ZjW (L m:Nat)(x0:(List ZA)):UC L (m + 1) (x0,())=Zt (RJ m x0 L) L (0,0,()):=by kernel_rfl
def TW (L:Nat)(x:(List ZA)×PUnit):Option Int:=fT [Znz L,ZkF L,ZkE L] L Zb2 [] (.one (.int .i64)) [.lst 21 (.row 9)] x
def ZkD (L:Nat):Sum tT:=mU 187 [.lst 21 (.row 9)] (.one (.int .i64)) (TW L)
theorem ZjV (L:Nat)(x0:(List ZA)):TW L (x0,())=bT (Sj L (x0,())) fun y=>bif decide (y > 200) then some 6 else bT (Sl L (x0,())) fun y=>bif decide (y > 12) then some 11 else bT (FM L (x0,())) fun y=>some y:=by kernel_rfl
def H5 (L:Nat)(x:Int×PUnit):Option Bool:=fT [] L Zb6 [] (.one .bool) [.int .i64] x
def NS (L:Nat):Sum tT:=mU 115 [.int .i64] (.one .bool) (H5 L)
theorem Zkb (L:Nat)(x0:Int):H5 L (x0,())=some (x0 == 1 || x0 == 2 || x0 == 3):=by kernel_rfl
end Go.Proofs.YtgjcjbhhhlelnaaGreatDoor
end
noncomputable section
namespace Go.Proofs.YtgjcjbhhhlelnaaGreatDoor
open Go Go.Proofs.YtgjcjbhhhlelnaaGreatDoor.Abs Go.Proofs.YtgjcjbhhhlelnaaGreatDoor.Tl
set_option maxRecDepth 100000
set_option maxHeartbeats 0
def Gg (L:Nat)(x:ZT×PUnit):Option Int:=fT [ZkD L,Xc L,WZ L,NS L,Hr L] L SS [.rnd [.slot 3 (.own 1 .str),.slot 5 (.int .i64)]] (.one (.int .i64)) [.row 10] x
def Zg4 (L:Nat):Sum tT:=mU 156 [.row 10] (.one (.int .i64)) (Gg L)
def Ue:ZT→Nat→List WB→(List (List UInt8)×Int×PUnit→Option Int)→List (List UInt8)×Int×PUnit→Option Int:=fun x0 L y self acc=>bif decide (acc.2.1 < (↑y.length:Int)) then bT (ZK y acc.2.1) fun y_1=>bT (bT (VH L (y_1.1,acc.1,())) fun y=>some y) fun y_2=>bT (ZK y acc.2.1) fun y_3=>bT (bT (H5 L (y_3.2,())) fun y=>some y) fun y_4=>bT (bT (Zr L (y_4,1,())) fun y=>some y) fun y_5=>bT (bT (ZB L (y_2,y_5,())) fun y=>some y) fun y_6=>bif y_6 != 0 then some y_6 else bT (ZK y acc.2.1) fun y=>bT (apT 16 acc.1 [y.1]) fun y=>self (y,Go.IntKind.i64.wrap (acc.2.1 + 1),()) else bT (TW L (x0.4,())) fun y=>some y
theorem Zgi (L:Nat)(x0:ZT):Gg L (x0,())=bif decide ((↑x0.2.length:Int) > 6) || decide (Go.IntKind.i64.wrap ((↑x0.2.length:Int) + (↑x0.3.length:Int)) > 16) then some 6 else bT (apT 24 [] x0.2) fun y=>bT (apT 24 y x0.3) fun y=>Zt (Ue x0 L y) L ([],0,()):=by kernel_rfl
def Uh (L:Nat)(x:Zy×PUnit):Option Int:=fT [XL L,WZ L] L Pg [.rnd [.slot 3 (.int .i64)]] (.one (.int .i64)) [.row 4] x
def ZdZ (L:Nat):Sum tT:=mU 186 [.row 4] (.one (.int .i64)) (Uh L)
def XH:Zy→Nat→(Int×PUnit→Option Int)→Int×PUnit→Option Int:=fun x0 L self acc=>bif decide (acc.1 < (↑x0.3.length:Int)) then bT (ZK x0.3 acc.1) fun y=>bT (ZP L (y.1,0,Go.IntKind.i64.wrap (x0.4 - 1),())) fun y_1=>bT (bif (!y_1) == false then bT (ZP L (y.2,0,1000,())) fun y=>some !y else some true) fun y_2=>bif y_2 then some 2 else bT (bif decide (acc.1 > 0) == true then bT (ZK x0.3 (Go.IntKind.i64.wrap (acc.1 - 1))) fun y_3=>some (decide (y.1≤y_3.1)) else some false) fun y=>bif y then some 12 else self (Go.IntKind.i64.wrap (acc.1 + 1),()) else some 0
theorem ZdQ (L:Nat)(x0:Zy):Uh L (x0,())=bif (↑x0.3.length:Int) == 0 then bT (Zr L (x0.4 == 0,1,())) fun y=>some y else bif decide ((↑x0.3.length:Int) > 20) then some 6 else bT (ZP L (x0.4,1,1000000000,())) fun y=>bif !y then some 2 else Zt (XH x0 L) L (0,()):=by kernel_rfl
def Ui (L:Nat)(x:Zc×Zy×PUnit):Option Int:=fT [NQ L,O3 L,FH L,Xc L,ZdZ L,WZ L,XL L] L Pi [] (.one (.int .i64)) [.row 14,.row 4] x
def Zeb (L:Nat):Sum tT:=mU 155 [.row 14,.row 4] (.one (.int .i64)) (Ui L)
theorem ZdR (L:Nat)(x0:Zc)(x1:Zy):Ui L (x0,x1,())=bT (bT (ZP L (x1.2,0,1000,())) fun y=>some y) fun y=>bT (bT (Zr L (y,2,())) fun y=>some y) fun y=>bT (bT (Uh L (x1,())) fun y=>some y) fun y_1=>bT (bT (ZB L (y,y_1,())) fun y=>some y) fun y=>bif y != 0 then some y else bif x1.Fault.1 == [] then bT (JU L (x1.Fault.2,YT.mk 0 0 0 0 [] [],())) fun y=>bT (bif y == true then bT (JU L (x1.Fault.3,YT.mk 0 0 0 0 [] [],())) fun y=>some y else some false) fun y=>bT (Zr L (y,1,())) fun y=>some y else bT (VW L (x0.7,x1.Fault.1,())) fun y=>bif decide (y < 0) then some 5 else bT (bT (VG L (x1.Fault.2,())) fun y=>some y) fun y=>bT (bT (VG L (x1.Fault.3,())) fun y=>some y) fun y_2=>bT (bT (ZB L (y,y_2,())) fun y=>some y) fun y=>some y:=by kernel_rfl
def YJ (L:Nat)(x:Zc×Int×Int×PUnit):Option Int:=fT [Zg4 L,XL L,Zeb L,Xc L,FI L,WZ L,NS L] L Ph [] (.one (.int .i64)) [.row 14,.int .i64,.int .i64] x
def Zea (L:Nat):Sum tT:=mU 118 [.row 14,.int .i64,.int .i64] (.one (.int .i64)) (YJ L)
theorem Xj (L:Nat)(x0:Zc)(x1:Int)(x2:Int):YJ L (x0,x1,x2,())=bif x1 == 0 then bT (ZK x0.2 x2) fun y=>bT (bT (H5 L (y.2,())) fun y=>some y) fun y=>bT (bT (Zr L (y,1,())) fun y=>some y) fun y=>bT (ZK x0.2 x2) fun y_1=>bT (ZK x0.2 x2) fun y_2=>bT (bT (O6 L (y_1.2,y_2.3,())) fun y=>some y) fun y_3=>bT (bT (Zr L (y_3,2,())) fun y=>some y) fun y_4=>bT (bT (ZB L (y,y_4,())) fun y=>some y) fun y=>some y else bif x1 == 1 then bT (ZK x0.3 x2) fun y=>bT (bT (Ui L (x0,y,())) fun y=>some y) fun y=>some y else bif x1 == 2 then bT (ZK x0.4 x2) fun y=>bT (ZK x0.4 x2) fun y_1=>bT (ZP L (y_1.2,1,1000,())) fun y_2=>bT (Zr L (y_2,2,())) fun y_3=>bT (Zr L (decide (y.3 ≥ 1) && decide (y.3≤3),1,())) fun y=>bT (ZB L (y_3,y,())) fun y=>some y else bif x1 == 3 then bT (ZK x0.5 x2) fun y=>bT (ZP L (y.2,1,1000,())) fun y=>bT (bif y == true then bT (ZK x0.5 x2) fun y=>bT (ZP L (y.3,1,1000,())) fun y=>some y else some false) fun y=>bT (Zr L (y,2,())) fun y=>some y else bif x1 == 9 then bT (ZK x0.11 x2) fun y=>bT (Gg L (y,())) fun y=>some y else some 0:=by kernel_rfl
def Dn (L:Nat)(x:Zc×PUnit):Option Int:=fT [Zqs L,ZkJ L,Xc L,Zea L,Hr L,NR L] L Zeo [.rnd [.slot 2 (.int .i64),.slot 3 (.own 1 .str),.slot 5 (.int .i64)],.rnd [.slot 2 (.int .i64),.slot 3 (.own 1 .str),.slot 6 (.int .i64)],.rnd [.slot 2 (.int .i64),.slot 8 (.int .i64)],.rnd [.slot 10 (.own 1 .str),.slot 11 (.int .i64)]] (.one (.int .i64)) [.row 14] x
def Zn3 (L:Nat):Sum tT:=mU 64 [.row 14] (.one (.int .i64)) (Dn L)
def GL:Zc→Nat→List (List (List UInt8))→(Int×List (List UInt8)×Int×PUnit→Option Int)→Int×List (List UInt8)×Int×PUnit→(Int×List (List UInt8)×Int×PUnit→Option Int)→Int×List (List UInt8)×Int×PUnit→Option Int:=fun x0 L y self acc self_1 acc_1=>bT (ZK y acc.2.2.1) fun y_1=>bif decide (acc_1.2.2.1 < (↑y_1.length:Int)) then bT (ZK y acc.2.2.1) fun y_2=>bT (ZK y_2 acc_1.2.2.1) fun y_3=>bT (bT (VH L (y_3,acc_1.2.1,())) fun y=>some y) fun y_4=>bT (bT (YJ L (x0,acc.2.2.1,acc_1.2.2.1,())) fun y=>some y) fun y_5=>bT (bT (ZB L (y_4,y_5,())) fun y=>some y) fun y_6=>bif y_6 != 0 then some y_6 else bT (ZK y acc.2.2.1) fun y=>bT (ZK y acc_1.2.2.1) fun y=>bT (apT 16 acc_1.2.1 [y]) fun y=>self_1 (acc_1.1,y,Go.IntKind.i64.wrap (acc_1.2.2.1 + 1),()) else self (acc_1.1,acc_1.2.1,Go.IntKind.i64.wrap (acc.2.2.1 + 1),())
def JQ:Zc→Nat→(List (List UInt8)×Int×PUnit→Option Int)→List (List UInt8)×Int×PUnit→Option Int:=fun x0 L self acc=>bif decide (acc.2.1 < (↑x0.13.length:Int)) then bT (ZK x0.13 acc.2.1) fun y=>bT (bT (Aj L (x0,y,acc.1,())) fun y=>some y) fun y=>bif y != 0 then some y else bT (ZK x0.13 acc.2.1) fun y=>bT (apT 16 acc.1 [y.1]) fun y=>self (y,Go.IntKind.i64.wrap (acc.2.1 + 1),()) else some 0
def GM:Zc→Nat→(Int×Int×PUnit→Option Int)→Int×Int×PUnit→Option Int:=fun x0 L self acc=>bif decide (acc.2.1 < (↑x0.12.length:Int)) then bT (ZK x0.12 acc.2.1) fun y=>bT (bT (Md L (x0,y,())) fun y=>some y) fun y=>bif y != 0 then some y else self (acc.1,Go.IntKind.i64.wrap (acc.2.1 + 1),()) else bif decide ((↑x0.13.length:Int) > 32) then some 6 else Zt (JQ x0 L) L ([],0,())
def JR:Zc→Nat→List (List (List UInt8))→(Int×List (List UInt8)×Int×PUnit→Option Int)→Int×List (List UInt8)×Int×PUnit→Option Int:=fun x0 L y self acc=>bif decide (acc.2.2.1 < (↑y.length:Int)) then bT (ZK y acc.2.2.1) fun y_1=>bT (bif decide ((↑y_1.length:Int) > 32) == false then bif (acc.2.2.1 == 9) == true then bT (ZK y acc.2.2.1) fun y=>some (decide ((↑y.length:Int) > 16)) else some false else some true) fun y_2=>bif y_2 then some 6 else Zt (GL x0 L y self acc) L (acc.1,acc.2.1,0,()) else bif decide ((↑x0.12.length:Int) > 32) then some 6 else Zt (GM x0 L) L (acc.1,0,())
theorem Zne (L:Nat)(x0:Zc):Dn L (x0,())=bT (JV L (x0,())) fun (y:List (List (List UInt8)))=>Zt (JR x0 L y) L (0,[],0,()):=by kernel_rfl
def Zdu (L:Nat)(x:VK×(List (List UInt8))×PUnit):Option Int:=fT [FI L,Xc L,WZ L,NS L,Hr L] L ZbB [] (.one (.int .i64)) [.row 0,.lst 1 .str] x
def ZkK (L:Nat):Sum tT:=mU 62 [.row 0,.lst 1 .str] (.one (.int .i64)) (Zdu L)
def TZ (L:Nat)(x:QP×PUnit):Option Int:=fT [ZkI L,Zn3 L,Hr L,ZkK L,Xc L,WZ L,VD L] L Zb4 [.rnd [.slot 2 (.int .i64),.slot 4 (.own 1 .str),.slot 5 (.int .i64)],.rnd [.slot 6 (.own 1 .str),.slot 7 (.int .i64)]] (.one (.int .i64)) [.row 21] x
def ZkH (L:Nat):Sum tT:=mU 40 [.row 21] (.one (.int .i64)) (TZ L)
def RP:QP→Nat→(List (List UInt8)×Int×PUnit→Option Int)→List (List UInt8)×Int×PUnit→Option Int:=fun x0 L self acc=>bif decide (acc.2.1 < (↑x0.3.length:Int)) then bT (ZK x0.3 acc.2.1) fun y=>bT (bT (VH L (y.1,acc.1,())) fun y=>some y) fun y=>bT (ZK x0.3 acc.2.1) fun y_1=>bT (bT (Dn L (y_1,())) fun y=>some y) fun y_2=>bT (bT (ZB L (y,y_2,())) fun y=>some y) fun y=>bif y != 0 then some y else bT (ZK x0.3 acc.2.1) fun y=>bT (apT 16 acc.1 [y.1]) fun y=>self (y,Go.IntKind.i64.wrap (acc.2.1 + 1),()) else bT (Mc L (x0,())) fun y=>some y
def RQ:QP→Nat→(Int×List (List UInt8)×Int×PUnit→Option Int)→Int×List (List UInt8)×Int×PUnit→Option Int:=fun x0 L self acc=>bif decide (acc.2.2.1 < (↑x0.2.length:Int)) then bT (ZK x0.2 acc.2.2.1) fun y=>bT (Zdu L (y,acc.2.1,())) fun y=>bif y != 0 then some y else bT (ZK x0.2 acc.2.2.1) fun y=>bT (apT 16 acc.2.1 [y.1]) fun y=>self (acc.1,y,Go.IntKind.i64.wrap (acc.2.2.1 + 1),()) else bT (bT (Zr L (decide ((↑x0.3.length:Int) > 0),7,())) fun y=>some y) fun y=>bT (bT (Zr L (decide ((↑x0.3.length:Int)≤16),6,())) fun y=>some y) fun y_1=>bT (bT (ZB L (y,y_1,())) fun y=>some y) fun y=>bif y != 0 then some y else Zt (RP x0 L) L ([],0,())
theorem ZjZ (L:Nat)(x0:QP):TZ L (x0,())=bT (bT (Qi L (x0.1,())) fun y=>some y) fun y=>bT (bT (Zr L (decide ((↑x0.2.length:Int)≤32),6,())) fun y=>some y) fun y_1=>bT (bT (ZB L (y,y_1,())) fun y=>some y) fun y=>bif y != 0 then some y else Zt (RQ x0 L) L (0,[],0,()):=by kernel_rfl
def Me (L:Nat)(x:Zk×PUnit):Option Int:=fT [Zg5 L,Zn5 L,Zn6 L,ZkH L,VD L] L ZbC [.rnd [.slot 2 (.int .i64),.slot 4 (.int .i64)],.rnd [.slot 2 (.int .i64),.slot 5 (.int .i64)],.rnd [.slot 3 (.int .i64),.slot 6 (.int .i64)],.rnd [.slot 3 (.int .i64),.slot 7 (.int .i64)]] (.one (.int .i64)) [.row 19] x
def U1:Zk→Nat→(Int×Int×PUnit→Option Int)→Int×Int×PUnit→(Int×Int×PUnit→Option Int)→Int×Int×PUnit→Option Int:=fun x0 L self acc self_1 acc_1=>bif decide (acc_1.2.1 < acc.2.1) then bT (ZK x0.2 acc_1.2.1) fun y=>bT (ZK x0.2 acc.2.1) fun y_1=>bif y.Decl.1 == y_1.Decl.1 then some 4 else self_1 (acc_1.1,Go.IntKind.i64.wrap (acc_1.2.1 + 1),()) else bT (ZK x0.2 acc.2.1) fun y=>bT (O8 L (y,())) fun y=>bif !y then some 8 else self (acc_1.1,Go.IntKind.i64.wrap (acc.2.1 + 1),())
def U2:Zk→Nat→(Int×Int×PUnit→Option Int)→Int×Int×PUnit→(Int×Int×PUnit→Option Int)→Int×Int×PUnit→Option Int:=fun x0 L self acc self_1 acc_1=>bT (ZK x0.2 acc.2.1) fun y=>bif decide (acc_1.2.1 < (↑y.2.length:Int)) then bif acc_1.1 == 0 then bT (ZK x0.2 acc.2.1) fun y=>bT (ZK y.2 acc_1.2.1) fun y=>bT (bT (YP L (x0,acc.2.1,y,())) fun y=>some y) fun y=>self_1 (y,Go.IntKind.i64.wrap (acc_1.2.1 + 1),()) else self_1 (acc_1.1,Go.IntKind.i64.wrap (acc_1.2.1 + 1),()) else self (acc_1.1,Go.IntKind.i64.wrap (acc.2.1 + 1),())
def QV:Zk→Nat→(Int×Int×PUnit→Option Int)→Int×Int×PUnit→Option Int:=fun x0 L self acc=>bif decide (acc.2.1 < (↑x0.2.length:Int)) then Zt (U2 x0 L self acc) L (acc.1,0,()) else some acc.1
def U3:Zk→Nat→(Int×Int×PUnit→Option Int)→Int×Int×PUnit→Option Int:=fun x0 L self acc=>bif decide (acc.2.1 < (↑x0.2.length:Int)) then bT (ZK x0.2 acc.2.1) fun y=>bT (bT (TZ L (QP.mk x0.1 [] [y.1] [],())) fun y=>some y) fun y=>bif y != 0 then some y else Zt (U1 x0 L self acc) L (acc.1,0,()) else bT (O7 L (x0,())) fun y=>Zt (QV x0 L) L (y,0,())
theorem Zkg (L:Nat)(x0:Zk):Me L (x0,())=bT (Qi L (x0.1,())) fun y=>bif y != 0 then some y else bif (↑x0.2.length:Int) == 0 then some 7 else bif decide ((↑x0.2.length:Int) > 16) then some 6 else Zt (U3 x0 L) L (0,0,()):=by kernel_rfl
end Go.Proofs.YtgjcjbhhhlelnaaGreatDoor
end
section
namespace Go.Proofs.YtgjcjbhhhlelnaaGreatDoor
open Go Go.Proofs.YtgjcjbhhhlelnaaGreatDoor.Abs Go.Proofs.YtgjcjbhhhlelnaaGreatDoor.Tl
set_option maxRecDepth 100000
theorem Zw9 (g o len k:Nat)(i:Int)(h0:0≤i)(h1:i < len):V8 (.slice k) (.arr g o len k) (.int .i64 i)=some (.ptr g (o + i.toNat * k)):=by simp [V8,h0,h1]
end Go.Proofs.YtgjcjbhhhlelnaaGreatDoor
end
section
namespace Go.Proofs.YtgjcjbhhhlelnaaGreatDoor
open Go Go.Proofs.YtgjcjbhhhlelnaaGreatDoor.Abs Go.Proofs.YtgjcjbhhhlelnaaGreatDoor.Tl
set_option maxRecDepth 100000
theorem cells_at {c:AV}{l:List AV}{hp:HP}{g:Nat}{t:TypeId}{cs:List AV}(hg:hp[g]? = some (.cells cs t))(h:cs.map AV.ro=l)(i:Nat)(e:l[i]? = some c):Y1 hp (.ptr g i)=some c:=by
 rw [Zjp hg,← List.getElem?_map,h,e]
theorem ZqF {C:Cfg}{f:FuncId}{y:Zk×PUnit→Option Int}(hs:J5 C (mU f [.row 19] (.one (.int .i64)) y))(p:Zk){e:Int}(he:y (p,())=some e)(hp:HP):Ev fun n=>Zv C n f [.agg (Xv p)] hp=some (.int .i64 e,hp,none):=by
 obtain ⟨a,h1,h2⟩:=hs (p,()) hp [.agg (Xv p)] (.cons _ _ (.row _ _ _ (QM.ro 19 p)) _ _ .nil) e he
 have:=VR.int (h1 [])
 subst this
 exact h2
end Go.Proofs.YtgjcjbhhhlelnaaGreatDoor
end
section
namespace Go.Proofs.YtgjcjbhhhlelnaaGreatDoor
open Go Go.Proofs.YtgjcjbhhhlelnaaGreatDoor.Abs Go.Proofs.YtgjcjbhhhlelnaaGreatDoor.Tl
set_option maxRecDepth 100000
abbrev YL (l:List Int):List AV:=l.map (AV.int .i64)
theorem ZbT:∀ (l:List AV),chunk 1 l.length l=l.map fun a=>[a]
 | []=>rfl
 | a :: l=>by rw [List.length_cons,chunk,List.take_succ_cons,List.take_zero,List.drop_succ_cons,List.drop_zero,ZbT l,List.map_cons]
theorem Zh0 (bs:Nat)(hp:HP)(d:Nat):∀ l:List Int,(YL l).mapM (ZaX bs hp d)=some (YL l)
 | []=>rfl
 | n :: l=>by
  have ih:=Zh0 bs hp d l
  simp only [YL] at ih
  rw [YL,List.map_cons,List.mapM_cons,ih]
  cases d <;> rfl
theorem ZoO (l:List Int):(YL l).all AV.noId1=true:=by simp [YL,AV.noId1]
theorem Zo9 {bs:Nat}{hp:HP}{d g n:Nat}{l:List Int}{t:TypeId}(hb:bs≤g)(hg:hp[g]? = some (.cells (YL l) t))(hn:l.length=n):ZaX bs hp (d + 1) (.arr g 0 n 1)=some (.lst 1 (l.map fun x=>[.int .i64 x])):=by
 have h0:¬ g < bs:=by omega
 have hl:(YL l).length=n:=by rw [List.length_map]; exact hn
 rw [ZaX,if_neg h0]
 simp only [hg]
 rw [if_pos (by omega),List.drop_zero,List.take_of_length_le (by omega),Zh0]
 simp only [Option.bind_some]
 rw [if_pos (ZoO l),← hl,ZbT,List.map_map]; rfl
theorem Zs0 {h:HP}{u:List Int}{t:TypeId}{g k:Nat}(hg:h[g]? = some (.cells (YL u) t))(hk:k < u.length)(x:Int)(bs:Nat)(hb:bs≤g)(ef:Eff):Zq6 bs (.ptr g k) (.int .i64 x) h ef=some (h.set g (.cells (YL (u.set k x)) t),ef):=by
 have h0:¬ g < bs:=by omega
 simp only [Zq6,hg,Nl,if_neg h0]
 rw [if_pos ⟨rfl,by rw [List.length_map]; exact hk⟩,YL,YL,List.map_set]
theorem Eg (a:AV):∀ N:Nat,(List.replicate N [a]).flatten=List.replicate N a
 | 0=>rfl
 | N + 1=>by rw [List.replicate_succ,List.replicate_succ,List.flatten_cons,Eg a N]; rfl
end Go.Proofs.YtgjcjbhhhlelnaaGreatDoor
end
noncomputable section
namespace Go.Proofs.YtgjcjbhhhlelnaaGreatDoor
open Go Go.Proofs.YtgjcjbhhhlelnaaGreatDoor.Abs Go.Proofs.YtgjcjbhhhlelnaaGreatDoor.Tl
set_option maxRecDepth 100000
set_option maxHeartbeats 0
def NY (L:Nat)(x:Zk×(List Int)×PUnit):Option Bool:=fT [] L Zbu [] (.one .bool) [.row 19,.lst 1 (.int .i64)] x
def Zdi (L:Nat):Sum tT:=mU 9 [.row 19,.lst 1 (.int .i64)] (.one .bool) (NY L)
theorem Zk2:SX Zdi:=fun h=>sT h ZR rfl (by kernel_rfl) fun _=>rfl
theorem ZjM (L:Nat)(x0:Zk)(x1:(List Int)):NY L (x0,x1,())=some (decide ((↑x0.2.length:Int)≤20) && decide ((↑x0.3.length:Int)≤40) && decide ((↑x1.length:Int)≤40)):=by kernel_rfl
def Vt (L:Nat)(x:(List (List Int))×Int×PUnit):Option Bool:=fT [] L D9 [.rnd [.slot 5 (.int .i64)]] (.one .bool) [.lst 1 (.lst 1 (.int .i64)),.int .i64] x
def P5 (L:Nat):Sum tT:=mU 23 [.lst 1 (.lst 1 (.int .i64)),.int .i64] (.one .bool) (Vt L)
theorem ZdT:SX P5:=fun h=>sT h ZR rfl (by kernel_rfl) fun _=>rfl
def Jj:List (List Int)→Int→(Int×PUnit→Option Bool)→Int×PUnit→Option Bool:=fun x0 x1 self acc=>bif decide (acc.1 < x1) then bT (ZK x0 acc.1) fun y=>bif (↑y.length:Int) != x1 then some false else self (Go.IntKind.i64.wrap (acc.1 + 1),()) else some true
theorem ZdL (L:Nat)(x0:(List (List Int)))(x1:Int):Vt L (x0,x1,())=bif (↑x0.length:Int) != x1 then some false else Zt (Jj x0 x1) L (0,()):=by kernel_rfl
end Go.Proofs.YtgjcjbhhhlelnaaGreatDoor
end
section
namespace Go.Proofs.YtgjcjbhhhlelnaaGreatDoor
open Go Go.Proofs.YtgjcjbhhhlelnaaGreatDoor.Abs Go.Proofs.YtgjcjbhhhlelnaaGreatDoor.Tl
set_option maxRecDepth 100000
theorem Zn {α:Type}(c:Bool)(a b:α):(bif c then some a else some b)=some (bif c then a else b):=by cases c <;> rfl
theorem Zq (c:Bool)(x:Option Bool):(bif c == true then x else some false)=bif c then x else some false:=by cases c <;> rfl
theorem condC (c:Bool)(x:Option Bool):(bif c == false then x else some true)=bif c then some true else x:=by cases c <;> rfl
theorem Zi (c x:Bool):(bif c == true then x else false)=(c && x):=by cases c <;> rfl
theorem Zh (c x:Bool):(bif c == false then x else true)=(c || x):=by cases c <;> rfl
theorem Xh {α:Type}(c:Prop)[Decidable c](a b:α):(if c then some a else some b)=some (if c then a else b):=by split <;> rfl
theorem Yo {α:Type}(c:Bool)(a b:α):(bif c then a else b)=if c=true then a else b:=by cases c <;> rfl
theorem Za {α:Type}(o:Option α):bT o (fun y=>some y)=o:=by cases o <;> rfl
theorem ZE {α:Type}[DecidableEq α](a b:α):(a != b)=!decide (a=b):=by
 by_cases h:a=b <;> simp [bne,h]
theorem ZL (a b:Int):(a == b)=decide (a=b):=by
 by_cases h:a=b <;> simp [h]
theorem ZU (a b:List UInt8):(a == b)=decide (a=b):=by
 by_cases h:a=b <;> simp [h]
abbrev Len {α:Type}(l:List α):Prop:=l.length≤4611686018427387
theorem Zcr {τ ρ:Type}{f:(τ→Option ρ)→τ→Option ρ}(n:Nat)(pk:Int→τ)(R:Nat→Option ρ)
  (h1:∀ self (i:Nat),i < n→self (pk ((i:Int) + 1))=R (i + 1)→f self (pk i)=R i)
  (h2:∀ self,f self (pk n)=R n):∀ (m i:Nat),i≤n→n - i < m→Zt f m (pk i)=R i
 | 0,_,_,h=>absurd h (Nat.not_lt_zero _)
 | m + 1,i,hi,hm=>by
  show f (Zt f m) (pk i)=_
  rcases Nat.lt_or_ge i n with hlt | hge
  ·exact h1 _ i hlt (Zcr n pk R h1 h2 m (i + 1) hlt (by omega))
  ·have:i=n:=by omega
   subst this
   exact h2 _
theorem Zcs {τ α σ ρ:Type}{f:(τ→Option ρ)→τ→Option ρ}(l:List α)(pk:σ→Int→τ)(R:List α→σ→Option ρ)
  (h1:∀ self s (i:Nat) x r,l[i]? = some x→i < l.length→x ∈ l→(∀ s',self (pk s' ((i:Int) + 1))=R r s')→f self (pk s i)=R (x :: r) s)
  (h2:∀ self s,f self (pk s (l.length:Nat))=R [] s):∀ (m i:Nat) (s:σ),i≤l.length→l.length - i < m→Zt f m (pk s i)=R (l.drop i) s
 | 0,_,_,_,h=>absurd h (Nat.not_lt_zero _)
 | m + 1,i,s,hi,hm=>by
  show f (Zt f m) (pk s i)=_
  rcases Nat.lt_or_ge i l.length with hlt | hge
  ·have hx:=List.getElem?_eq_getElem hlt
   rw [List.drop_eq_getElem_cons hlt]
   exact h1 _ s i _ _ hx hlt (List.getElem_mem hlt) fun s'=>Zcs l pk R h1 h2 m (i + 1) s' hlt (by omega)
  ·have:i=l.length:=by omega
   subst this
   rw [h2,List.drop_length]
theorem Fj {α ρ:Type}{f:(Int×PUnit→Option ρ)→Int×PUnit→Option ρ}(l:List α)(R:List α→Option ρ){m:Nat}(hm:l.length < m)
  (h1:∀ self (i:Nat) x r,l[i]? = some x→i < l.length→x ∈ l→self ((i:Int) + 1,())=R r→f self ((i:Int),())=R (x :: r))
  (h2:∀ self,f self ((l.length:Int),())=R []):Zt f m (0,())=R l :=
 Zcs (σ := Unit) l (fun _ i=>(i,())) (fun l _=>R l) (fun self _ i x r a b c d=>h1 self i x r a b c (d ())) (fun self _=>h2 self) m 0 () (Nat.zero_le _) (by omega)
theorem Zjs {α ρ:Type}{f:(Int×PUnit→Option ρ)→Int×PUnit→Option ρ}(l:List α)(R:List α→Int→Option ρ){m:Nat}(hm:l.length < m)
  (h1:∀ self (i:Nat) x r,l[i]? = some x→i < l.length→x ∈ l→self ((i:Int) + 1,())=R r ((i:Int) + 1)→f self ((i:Int),())=R (x :: r) i)
  (h2:∀ self,f self ((l.length:Int),())=R [] l.length):Zt f m (0,())=R l 0:=by
 have:=Zcr (f := f) l.length (fun i=>(i,())) (fun i=>R (l.drop i) i) (fun self i hi e=>by
  have hx:=List.getElem?_eq_getElem hi
  rw [List.drop_eq_getElem_cons hi]
  exact h1 self i _ _ hx hi (List.getElem_mem hi) e) (fun self=>by rw [List.drop_length]; exact h2 self) m 0 (Nat.zero_le _) (by omega)
 exact this
theorem ZaF {α σ ρ:Type}{f:(σ×Int×PUnit→Option ρ)→σ×Int×PUnit→Option ρ}(l:List α)(R:List α→σ→Option ρ){m:Nat}(hm:l.length < m)(s:σ)
  (h1:∀ self s (i:Nat) x r,l[i]? = some x→i < l.length→x ∈ l→(∀ s',self (s',(i:Int) + 1,())=R r s')→f self (s,(i:Int),())=R (x :: r) s)
  (h2:∀ self s,f self (s,(l.length:Int),())=R [] s):Zt f m (s,0,())=R l s :=
 Zcs l (fun s i=>(s,i,())) R h1 h2 m 0 s (Nat.zero_le _) (by omega)
theorem ZdJ {α β ρ:Type}{f:(Int×PUnit→Option ρ)→Int×PUnit→Option ρ}(l:List α)(l':List β)(hl:l.length=l'.length)(R:List α→List β→Option ρ){m:Nat}(hm:l.length < m)
  (h1:∀ self (i:Nat) x y r r',l[i]? = some x→l'[i]? = some y→i < l.length→x ∈ l→self ((i:Int) + 1,())=R r r'→f self ((i:Int),())=R (x :: r) (y :: r'))
  (h2:∀ self,f self ((l.length:Int),())=R [] []):Zt f m (0,())=R l l':=by
 have:=Zcr (f := f) l.length (fun i=>(i,())) (fun i=>R (l.drop i) (l'.drop i)) (fun self i hi e=>by
  have hx:=List.getElem?_eq_getElem hi
  have hy:=List.getElem?_eq_getElem (show i < l'.length by omega)
  rw [List.drop_eq_getElem_cons hi,List.drop_eq_getElem_cons (show i < l'.length by omega)]
  exact h1 self i _ _ _ _ hx hy hi (List.getElem_mem hi) e) (fun self=>by rw [List.drop_length,hl,List.drop_length]; rw [← hl]; exact h2 self) m 0 (Nat.zero_le _) (by omega)
 exact this
end Go.Proofs.YtgjcjbhhhlelnaaGreatDoor
end
section
namespace Go.Proofs.YtgjcjbhhhlelnaaGreatDoor
open Go Go.Proofs.YtgjcjbhhhlelnaaGreatDoor.Abs Go.Proofs.YtgjcjbhhhlelnaaGreatDoor.Tl
set_option maxRecDepth 100000
theorem ZlI (L:Nat)(n:Int):Vu L (n,())=some (ZsX n):=ZdN L n
theorem Zc4 (L:Nat)(n:Int):U9 L (n,())=some (ZsX n):=ZhY L n
theorem chainB (x:List UInt8):∀ l:List (List UInt8),(l.foldr (fun k r=>bif x == k then some true else r) (some false):Option Bool)=some (l.any fun k=>decide (x=k))
 | []=>rfl
 | k :: l=>by
  rw [List.foldr_cons,chainB x l,ZU,List.any_cons]
  cases decide (x=k) <;> rfl
theorem Zp5 (L:Nat)(s:List UInt8):Jv L (s,())=some (kwB s):=(ZcD L s).trans (chainB s kws)
theorem ZhB (L:Nat)(l:List (List UInt8))(s:List UInt8)(hl:Len l)(hL:l.length < L):VW L (l,s,())=some (G8 (fun k=>decide (k=s)) l 0):=by
 rw [ZmW]
 refine Zjs l (fun l i=>some (G8 (fun k=>decide (k=s)) l i)) hL (fun self i x r hx hi _ e=>?_) (fun self=>?_)
 ·rw [ND]; simp only [Zj,Zd,cond_true,cond_false,Zf,Z5,Za,Zq,condC,Zi,Zh,Zn,ZL,ZU,ZE,hi,hx,wrap_succ hi (by omega),e,G8]; simp only [Yo,Xh,if_true,if_false,Bool.false_eq_true,ne_eq,decide_not,gt_iff_lt,ge_iff_le]
 ·rw [ND]; simp only [Zj,Zd,cond_true,cond_false,Zf,Z5,Za,Zq,condC,Zi,Zh,Zn,ZL,ZU,ZE,G8]
theorem ZhF (L:Nat)(s:List UInt8)(hL:100≤L):KZ L (s,())=some (kwB s):=by
 rw [Zgg,show Ug L ()=some kws from ZdP L,Z5,ZhB L kws s (by decide) (by have:kws.length=73:=rfl; omega),Z5]
 have:=Fa (fun k=>decide (k=s)) kws 0 (Int.le_refl _)
 rw [show decide (G8 (fun k=>decide (k=s)) kws 0 ≥ 0)=_ from this]
 unfold kwB
 congr 2; funext k; exact decide_eq_decide.2 ⟨Eq.symm,Eq.symm⟩
theorem Zl7 (s:List UInt8):V9 s=bif (decide (s=[]) || decide ((s.length:Int) > 24)) || (!ZsX ((s.headD 0).toNat)) || kwB s then 3 else bif s.all (fun x=>Zfp x.toNat) then 0 else 3:=by
 cases s with
 | nil=>simp [V9]
 | cons c r =>
  simp only [V9,List.headD_cons,reduceCtorEq,decide_false,Bool.false_or]
  rw [show (decide ((((c :: r).length:Nat):Int) > 24))=decide (24 < (c :: r).length) from decide_eq_decide.2 (by omega)]
  by_cases h1:24 < (c :: r).length <;> cases ZsX (c.toNat:Int) <;> cases kwB (c :: r) <;> cases (c :: r).all (fun x=>Zfp x.toNat) <;> simp [h1]
theorem Zuz (c:Bool)(x:UInt8):(!c && (decide ((x.toNat:Int) < 48) || decide ((x.toNat:Int) > 57)) && (!decide ((x.toNat:Int)=95)))=!(c || decide ((x.toNat:Int)=95) || (decide (48≤(x.toNat:Int)) && decide ((x.toNat:Int)≤57))):=by
 rw [show decide (48≤(x.toNat:Int))=!decide ((x.toNat:Int) < 48) by rw [← decide_not]; congr 1; exact propext Int.not_lt.symm,show decide ((x.toNat:Int)≤57)=!decide ((x.toNat:Int) > 57) by rw [← decide_not]; congr 1; exact propext Int.not_lt.symm]
 cases c <;> cases decide ((x.toNat:Int)=95) <;> cases decide ((x.toNat:Int) < 48) <;> cases decide ((x.toNat:Int) > 57) <;> rfl
theorem Zuy (L:Nat)(s:List UInt8)(h:Len s)(hL:s.length < L):Zt (Uc s L) L (0,())=some (bif s.all (fun x=>Zfp x.toNat) then 0 else 3):=by
 refine Fj s (fun s=>some (bif s.all (fun x=>Zfp x.toNat) then 0 else 3)) hL (fun self i x r hx hi _ e=>?_) (fun self=>?_)
 ·rw [Uc]
  simp only [Zj,Zd,cond_true,cond_false,Zf,Z5,Za,Zq,condC,Zi,Zh,Zn,ZL,ZU,ZE,hi,hx,ZlI,wrap_succ hi (by omega),e,ZE,Zuz,List.all_cons,Zfp]
  cases (ZsX (x.toNat:Int) || decide ((x.toNat:Int)=95) || (decide (48≤(x.toNat:Int)) && decide ((x.toNat:Int)≤57))) <;> rfl
 ·rw [Uc]; simp only [Zj,Zd,cond_true,cond_false,Zf,Z5,Za,Zq,condC,Zi,Zh,Zn,ZL,ZU,ZE,List.all_nil]
theorem QH (L:Nat)(s:List UInt8)(h:Len s)(hL:s.length < L):ZN L (s,())=some (V9 s):=by
 rw [Zge,Zuy L s h hL,Zl7,ZsR]
 cases s with
 | nil=>rfl
 | cons c r =>
  simp only [Zj,Zd,cond_true,cond_false,Zf,Z5,Za,Zq,condC,Zi,Zh,Zn,ZL,ZU,ZE,List.getElem?_cons_zero,ZlI,Zp5,List.headD_cons,reduceCtorEq,decide_false,Bool.false_or,Bool.or_assoc]
theorem Zsq (L:Nat)(s:List UInt8)(h:Len s)(hL:s.length < L):Zt (Il s L) L (0,())=some (bif s.all (fun x=>Zfp x.toNat) then 0 else 3):=by
 refine Fj s (fun s=>some (bif s.all (fun x=>Zfp x.toNat) then 0 else 3)) hL (fun self i x r hx hi _ e=>?_) (fun self=>?_)
 ·rw [Il]
  simp only [Zj,Zd,cond_true,cond_false,Zf,Z5,Za,Zq,condC,Zi,Zh,Zn,ZL,ZU,ZE,hi,hx,Zc4,wrap_succ hi (by omega),e,ZE,List.all_cons,Zfp,Zq,condC,Zn]
  rw [show decide (48≤(x.toNat:Int))=!decide ((x.toNat:Int) < 48) by rw [← decide_not]; congr 1; exact propext Int.not_lt.symm,show decide ((x.toNat:Int)≤57)=!decide ((x.toNat:Int) > 57) by rw [← decide_not]; congr 1; exact propext Int.not_lt.symm]
  cases ZsX (x.toNat:Int) <;> cases decide ((x.toNat:Int)=95) <;> cases decide ((x.toNat:Int) < 48) <;> cases decide ((x.toNat:Int) > 57) <;> rfl
 ·rw [Il]; simp only [Zj,Zd,cond_true,cond_false,Zf,Z5,Za,Zq,condC,Zi,Zh,Zn,ZL,ZU,ZE,List.all_nil]
theorem JP (L:Nat)(s:List UInt8)(h:Len s)(hL:s.length < L)(h1:100≤L):Qi L (s,())=some (V9 s):=by
 rw [ZjP,Zsq L s h hL,Zl7,ZsR]
 cases s with
 | nil=>rfl
 | cons c r =>
  have:decide ((((c :: r).length:Nat):Int) < 1)=false:=by simp only [List.length_cons,decide_eq_false_iff_not]; omega
  simp only [Zj,Zd,cond_true,cond_false,Zf,Z5,Za,Zq,condC,Zi,Zh,Zn,ZL,ZU,ZE,List.getElem?_cons_zero,Zc4,ZhF L _ h1,List.headD_cons,this,reduceCtorEq,decide_false,Bool.false_or,Bool.or_assoc]
theorem ZI {α:Type}[SizeOf α]:∀ l:List α,l.length < SizeOf.sizeOf l
 | []=>by simp
 | x :: l=>by have:=ZI l; simp only [List.length_cons,List.cons.sizeOf_spec]; omega
theorem Zs5 (d:YT):SizeOf.sizeOf d.Values < SizeOf.sizeOf d∧SizeOf.sizeOf d.Weights < SizeOf.sizeOf d:=by cases d; simp; omega
theorem ZhC (L:Nat)(a b c:Int):YN L (a,b,c,())=some (btw a b c):=Zgf L a b c
theorem Zbd (L:Nat)(lo hi:Int)(l:List Int)(h:Len l)(hL:l.length < L):Y9 L (lo,hi,l,())=some (Qc lo hi l):=by
 have:=Zjs (f := Ua lo hi l) l (fun l i=>some (G8 (Ztf lo hi) l i)) hL (fun self i x r hx hi' _ e=>by
  rw [Ua]; simp only [Zj,Zd,cond_true,cond_false,Zf,Z5,Za,Zq,condC,Zi,Zh,Zn,ZL,ZU,ZE,hi',hx,wrap_succ hi' (by omega),e,G8]; simp only [Yo,Xh,if_true,if_false,Bool.false_eq_true,ne_eq,decide_not,gt_iff_lt,ge_iff_le]; rfl) (fun self=>by rw [Ua]; simp only [Zj,Zd,cond_true,cond_false,Zf,Z5,Za,Zq,condC,Zi,Zh,Zn,ZL,ZU,ZE,G8])
 have h2:decide (G8 (Ztf lo hi) l 0 ≥ 0)=l.any (Ztf lo hi):=Fa (Ztf lo hi) l 0 (Int.le_refl _)
 simp only [ZfY,this,Z5,h2,Qc]
theorem ZpH (L:Nat)(h:2 < L)(lo hi a:Int):Y9 L (lo,hi,[a],())=some (Qc lo hi [a]):=Zbd L lo hi [a] (by simp [Len]) (by simp; omega)
theorem ZpI (L:Nat)(h:2 < L)(lo hi a b:Int):Y9 L (lo,hi,[a,b],())=some (Qc lo hi [a,b]):=Zbd L lo hi [a,b] (by simp [Len]) (by simpa using h)
theorem Zsg (L:Nat)(d:YT)(h:J8 d):KU L (d,())=some (NW d):=by
 simp only [Zj,Zd,cond_true,cond_false,Zf,Z5,Za,Zq,condC,Zi,Zh,Zn,ZL,ZU,ZE,ZfX,h.wr,NW]; simp only [Yo,Xh,if_true,if_false,Bool.false_eq_true,ne_eq,decide_not,gt_iff_lt,ge_iff_le]
theorem Ti (L:Nat)(d:YT)(h:J8 d)(hL:SizeOf.sizeOf d < L)(h1:100≤L):Qy L (d,())=some (L6 d):=by
 have hs:d.Values.length < L∧d.Weights.length < L:=by
  have:=ZI d.Values; have:=ZI d.Weights; have:=Zs5 d; omega
 simp only [Zj,Zd,cond_true,cond_false,Zf,Z5,Za,Zq,condC,Zi,Zh,Zn,ZL,ZU,ZE,ZhP,Zsg L d h,L6,Zbd L _ _ _ h.v hs.1,Zbd L _ _ _ h.w hs.2,ZpH L (by omega),ZpI L (by omega)]
 simp only [Yo,Xh,if_true,if_false,Bool.false_eq_true,ne_eq,decide_not,gt_iff_lt,ge_iff_le]
theorem Zj9 (L:Nat)(d:YT):I8 L (d,())=some (Zdp d):=by
 simp only [Zj,Zd,cond_true,cond_false,Zf,Z5,Za,Zq,condC,Zi,Zh,Zn,ZL,ZU,ZE,ZhX,Zdp]; simp only [Yo,Xh,if_true,if_false,Bool.false_eq_true,ne_eq,decide_not,gt_iff_lt,ge_iff_le]
theorem ZuZ (L:Nat)(d:YT)(h:J8 d)(hL:SizeOf.sizeOf d < L):TS L (d,())=some (Zmd d):=by
 have hs:d.Values.length < L∧d.Weights.length < L:=by
  have:=ZI d.Values; have:=ZI d.Weights; have:=Zs5 d; omega
 rw [ZjO,Zmd]
 by_cases hl:d.Values.length=d.Weights.length
 ·rw [ZdJ d.Values d.Weights hl (fun l m=>some (Ztt l m)) hs.1 (fun self i x y r r' hx hy hi _ e=>by
   have hv:=h.v
   rw [RG]; simp only [Zj,Zd,cond_true,cond_false,Zf,Z5,Za,Zq,condC,Zi,Zh,Zn,ZL,ZU,ZE,hi,hx,hy,ZhC,wrap_succ hi (by omega),e,Ztt]; simp only [Yo,Xh,if_true,if_false,Bool.false_eq_true,ne_eq,decide_not,gt_iff_lt,ge_iff_le]) (fun self=>by rw [RG]; simp only [Zj,Zd,cond_true,cond_false,Zf,Z5,Za,Zq,condC,Zi,Zh,Zn,ZL,ZU,ZE,Ztt])]
  simp only [Zj,Zd,cond_true,cond_false,Zf,Z5,Za,Zq,condC,Zi,Zh,Zn,ZL,ZU,ZE]; simp only [Yo,Xh,if_true,if_false,Bool.false_eq_true,ne_eq,decide_not,gt_iff_lt,ge_iff_le]
 ·simp only [Yo,Xh,if_true,if_false,Bool.false_eq_true,ne_eq,decide_not,gt_iff_lt,ge_iff_le,ZL,ZE,Bool.not_false,show decide ((d.Values.length:Int)=d.Weights.length)=false by simp only [decide_eq_false_iff_not]; omega]
theorem BR (L:Nat)(d:YT)(h:J8 d)(hL:SizeOf.sizeOf d < L):VG L (d,())=some (L6 d):=by
 rw [← Zft]
 simp only [Zj,Zd,cond_true,cond_false,Zf,Z5,Za,Zq,condC,Zi,Zh,Zn,ZL,ZU,ZE,ZjN,Zj9,ZqV,ZhC,ZuZ L d h hL]; simp only [Yo,Xh,if_true,if_false,Bool.false_eq_true,ne_eq,decide_not,gt_iff_lt,ge_iff_le]
end Go.Proofs.YtgjcjbhhhlelnaaGreatDoor
end
section
namespace Go.Proofs.YtgjcjbhhhlelnaaGreatDoor
open Go Go.Proofs.YtgjcjbhhhlelnaaGreatDoor.Abs Go.Proofs.YtgjcjbhhhlelnaaGreatDoor.Tl
set_option maxRecDepth 100000
theorem Zqq (e:Zu):SizeOf.sizeOf e.Kids < SizeOf.sizeOf e∧SizeOf.sizeOf e.Name < SizeOf.sizeOf e:=by cases e; simp; omega
theorem Yf.nl {e:Zu}(h:Yf e):Len e.Name:=by have:=h.n; unfold Len; omega
theorem ZhK (L:Nat):∀ (m:Nat) (e:Zu),Yf e→SizeOf.sizeOf e≤m→m≤L→Gi L m (e,())=some (Zor e)
 | 0,e,h,hs,_=>absurd hs (by have:=Py e; omega)
 | m + 1,e,h,hs,hm=>by
  have hk:=ZI e.Kids; have hz:=Zqq e; have hl:=h.k
  rw [ZhS,Zos]
  refine ZaF e.Kids (fun l s=>some (sumW Zor l s)) (by omega) 1 (fun self s i x r hx hi mem e'=>?_) (fun self s=>?_)
  ·have ih:=ZhK L m x (h.Kids.2 x mem) (by have:=Em mem; omega) (by omega)
   rw [Tf]; simp only [Zj,Zd,cond_true,cond_false,Zf,Z5,Za,Zq,condC,Zi,Zh,Zn,ZL,ZU,ZE,hi,hx,ih,wrap_succ hi (by omega),e',sumW]
  ·rw [Tf]; simp only [Zj,Zd,cond_true,cond_false,Zf,Z5,Za,Zq,condC,Zi,Zh,Zn,ZL,ZU,ZE,sumW]
theorem ZhM (L:Nat):∀ (m:Nat) (e:Zu),Yf e→SizeOf.sizeOf e≤m→m≤L→IG L m (e,())=some (Zor e)
 | 0,e,h,hs,_=>absurd hs (by have:=Py e; omega)
 | m + 1,e,h,hs,hm=>by
  have hk:=ZI e.Kids; have hz:=Zqq e; have hl:=h.k
  rw [ZjT,Zos]
  refine ZaF e.Kids (fun l s=>some (sumW Zor l s)) (by omega) 1 (fun self s i x r hx hi mem e'=>?_) (fun self s=>?_)
  ·have ih:=ZhM L m x (h.Kids.2 x mem) (by have:=Em mem; omega) (by omega)
   rw [RI]; simp only [Zj,Zd,cond_true,cond_false,Zf,Z5,Za,Zq,condC,Zi,Zh,Zn,ZL,ZU,ZE,hi,hx,ih,wrap_succ hi (by omega),e',sumW]
  ·rw [RI]; simp only [Zj,Zd,cond_true,cond_false,Zf,Z5,Za,Zq,condC,Zi,Zh,Zn,ZL,ZU,ZE,sumW]
theorem ZhJ (L:Nat):∀ (m:Nat) (e:Zu),Yf e→SizeOf.sizeOf e≤m→m≤L→Gh L m (e,())=some (Zn9 e)
 | 0,e,h,hs,_=>absurd hs (by have:=Py e; omega)
 | m + 1,e,h,hs,hm=>by
  have hk:=ZI e.Kids; have hz:=Zqq e; have hl:=h.k
  rw [ZhR,Zow]
  refine ZaF e.Kids (fun l s=>some (IntKind.i64.wrap (Zr6 Zn9 l s + 1))) (by omega) 0 (fun self s i x r hx hi mem e'=>?_) (fun self s=>?_)
  ·have ih:=ZhJ L m x (h.Kids.2 x mem) (by have:=Em mem; omega) (by omega)
   rw [Td]; simp only [Zj,Zd,cond_true,cond_false,Zf,Z5,Za,Zq,condC,Zi,Zh,Zn,ZL,ZU,ZE,hi,hx,ih,wrap_succ hi (by omega),e',Zr6]
  ·rw [Td]; simp only [Zj,Zd,cond_true,cond_false,Zf,Z5,Za,Zq,condC,Zi,Zh,Zn,ZL,ZU,ZE,Zr6]
theorem ZhL (L:Nat):∀ (m:Nat) (e:Zu),Yf e→SizeOf.sizeOf e≤m→m≤L→IE L m (e,())=some (Zn9 e)
 | 0,e,h,hs,_=>absurd hs (by have:=Py e; omega)
 | m + 1,e,h,hs,hm=>by
  have hk:=ZI e.Kids; have hz:=Zqq e; have hl:=h.k
  rw [ZjS,Zow]
  refine ZaF e.Kids (fun l s=>some (IntKind.i64.wrap (Zr6 Zn9 l s + 1))) (by omega) 0 (fun self s i x r hx hi mem e'=>?_) (fun self s=>?_)
  ·have ih:=ZhL L m x (h.Kids.2 x mem) (by have:=Em mem; omega) (by omega)
   rw [RH]; simp only [Zj,Zd,cond_true,cond_false,Zf,Z5,Za,Zq,condC,Zi,Zh,Zn,ZL,ZU,ZE,hi,hx,ih,wrap_succ hi (by omega),e',Zr6]
  ·rw [RH]; simp only [Zj,Zd,cond_true,cond_false,Zf,Z5,Za,Zq,condC,Zi,Zh,Zn,ZL,ZU,ZE,Zr6]
theorem ZlK (L:Nat)(n:Int):Jt L (n,())=some (Zpr n):=ZfZ L n
theorem Zti (L:Nat)(n:Int):Hy L (n,())=some (Zhw n):=by
 simp only [Zj,Zd,cond_true,cond_false,Zf,Z5,Za,Zq,condC,Zi,Zh,Zn,ZL,ZU,ZE,ZjL,Zhw]; simp only [Yo,Xh,if_true,if_false,Bool.false_eq_true,ne_eq,decide_not,gt_iff_lt,ge_iff_le]
theorem ZuQ (L:Nat)(k:QJ)(n:Int):Xd L (k,n,())=some (Zcp k.1 n):=by
 simp only [Zj,Zd,cond_true,cond_false,Zf,Z5,Za,Zq,condC,Zi,Zh,Zn,ZL,ZU,ZE,N8,Zti,Zcp]; simp only [Yo,Xh,if_true,if_false,Bool.false_eq_true,ne_eq,decide_not,gt_iff_lt,ge_iff_le]
theorem ZuR (L:Nat)(k:QJ)(n:Int):Qg L (k,n,())=some (ZeD k.1 n):=by
 simp only [Zj,Zd,cond_true,cond_false,Zf,Z5,Za,Zq,condC,Zi,Zh,Zn,ZL,ZU,ZE,N9,ZlK,ZeD]
theorem ZpB (L:Nat)(k:QJ)(n:Int):Qx L (k,n,())=some ((Zq0 k.1 n).1,(Zq0 k.1 n).2.1,(Zq0 k.1 n).2.2,()):=by
 simp only [Zj,Zd,cond_true,cond_false,Zf,Z5,Za,Zq,condC,Zi,Zh,Zn,ZL,ZU,ZE,Rz,ZlK,Zq0]
 cases decide (n=2) <;> cases decide (n=25) <;> cases decide (n=26) <;> cases Zpr n <;> cases k.1 <;> rfl
theorem Zz7 (L:Nat)(n:Int):Dj L (n,())=some (inB n):=Zsm L n
theorem ZxC (L:Nat)(k:QJ)(e:Zu)(h:Yf e)(hL:SizeOf.sizeOf e≤L):X0 L (k,e,())=some (ZaH k.1 e):=by
 have hn:=QH L e.Name h.nl (by have:=ZI e.Name; have:=Zqq e; omega)
 simp only [Zj,Zd,cond_true,cond_false,Zf,Z5,Za,Zq,condC,Zi,Zh,Zn,ZL,ZU,ZE,E8,ZuQ,Zti,ZuR,ZpB,Zz7,hn,ZaH]; simp only [Yo,Xh,if_true,if_false,Bool.false_eq_true,ne_eq,decide_not,gt_iff_lt,ge_iff_le,Bool.or_assoc]
theorem ZlQ (L:Nat)(k:QJ):∀ (m:Nat) (e:Zu),Yf e→SizeOf.sizeOf e≤m→m≤L→QI L m (k,e,())=some (JB k.1 e)
 | 0,e,h,hs,_=>absurd hs (by have:=Py e; omega)
 | m + 1,e,h,hs,hm=>by
  have hk:=ZI e.Kids; have hz:=Zqq e; have hl:=h.k
  have lp:Zt (Q8 m k e L) L (0,())=some (Yh (JB k.1) e.Kids):=by
   refine Fj e.Kids (fun l=>some (Yh (JB k.1) l)) (by omega) (fun self i x r hx hi mem e'=>?_) (fun self=>?_)
   ·have ih:=ZlQ L k m x (h.Kids.2 x mem) (by have:=Em mem; omega) (by omega)
    rw [Q8]; simp only [Zj,Zd,cond_true,cond_false,Zf,Z5,Za,Zq,condC,Zi,Zh,Zn,ZL,ZU,ZE,hi,hx,ih,wrap_succ hi (by omega),e',Yh]; simp only [Yo,Xh,if_true,if_false,Bool.false_eq_true,ne_eq,decide_not,gt_iff_lt,ge_iff_le]
   ·rw [Q8]; simp only [Zj,Zd,cond_true,cond_false,Zf,Z5,Za,Zq,condC,Zi,Zh,Zn,ZL,ZU,ZE,Yh]
  rw [NC,Zcw,lp,ZxC L k e h (by omega)]
  simp only [Zj,Zd,cond_true,cond_false,Zf,Z5,Za,Zq,condC,Zi,Zh,Zn,ZL,ZU,ZE]; simp only [Yo,Xh,if_true,if_false,Bool.false_eq_true,ne_eq,decide_not,gt_iff_lt,ge_iff_le]
theorem ZlH (L:Nat)(k:QJ)(e:Zu)(h:Yf e)(hL:SizeOf.sizeOf e≤L):Qe L (k,e,())=some (Qp k.1 e):=by
 simp only [Zj,Zd,cond_true,cond_false,Zf,Z5,Za,Zq,condC,Zi,Zh,Zn,ZL,ZU,ZE,N7,show BC L (e,())=_ from ZhK L L e h hL (Nat.le_refl _),show BB L (e,())=_ from ZhJ L L e h hL (Nat.le_refl _),show VE L (k,e,())=_ from ZlQ L k L e h hL (Nat.le_refl _),Qp]; simp only [Yo,Xh,if_true,if_false,Bool.false_eq_true,ne_eq,decide_not,gt_iff_lt,ge_iff_le]
theorem Zj7 (L:Nat)(e:Zu)(h:Yf e)(hL:SizeOf.sizeOf e≤L):Ql L (e,())=some (Qp true e):=by
 simp only [Zj,Zd,cond_true,cond_false,Zf,Z5,Za,Zq,condC,Zi,Zh,Zn,ZL,ZU,ZE,ZaJ,ZlH L _ e h hL]
theorem ZfQ (L:Nat)(e:Zu)(h:Yf e)(hL:SizeOf.sizeOf e≤L):U8 L (e,())=some (Qp false e):=by
 simp only [Zj,Zd,cond_true,cond_false,Zf,Z5,Za,Zq,condC,Zi,Zh,Zn,ZL,ZU,ZE,ZhQ,ZlH L _ e h hL]
theorem ZuU (L:Nat)(n:Int):Dk L (n,())=some (inB n):=Zsn L n
theorem ZpD (L:Nat)(n:Int):UA L (n,())=some (Zpr n):=ZhZ L n
theorem ZuN (L:Nat)(n:Int):TU L (n,())=some (ZbN n):=by
 simp only [Zj,Zd,cond_true,cond_false,Zf,Z5,Za,Zq,condC,Zi,Zh,Zn,ZL,ZU,ZE,ZjQ,ZbN]; simp only [Yo,Xh,if_true,if_false,Bool.false_eq_true,ne_eq,decide_not,gt_iff_lt,ge_iff_le]
theorem ZxB (L:Nat)(n:Int):Dl L (n,())=some (Zr9 n):=by
 simp only [Zj,Zd,cond_true,cond_false,Zf,Z5,Za,Zq,condC,Zi,Zh,Zn,ZL,ZU,ZE,ZmY,Zr9]; simp only [Yo,Xh,if_true,if_false,Bool.false_eq_true,ne_eq,decide_not,gt_iff_lt,ge_iff_le]
theorem Zwh (a b d:Bool)(n r:Int):(if a=true then 1 else if b=true then 2 else if (d && !decide (n=0))=true then n else r) =
  if (!decide ((if a=true then 1 else if b=true then 2 else if (d && !decide (n=0))=true then n else 0)=0))=true then (if a=true then 1 else if b=true then 2 else if (d && !decide (n=0))=true then n else 0) else r:=by
 cases a <;> cases b <;> cases d <;> by_cases h:n=0 <;> simp [h]
theorem ZlS (L:Nat)(c:Bool)(h1:100≤L):∀ (m:Nat) (e:Zu),Yf e→SizeOf.sizeOf e≤m→m≤L→MJ L m (e,c,())=some (JB c e)
 | 0,e,h,hs,_=>absurd hs (by have:=Py e; omega)
 | m + 1,e,h,hs,hm=>by
  have hk:=ZI e.Kids; have hz:=Zqq e; have hl:=h.k
  have lp:Zt (Tj m e c L) L (0,())=some (Yh (JB c) e.Kids):=by
   refine Fj e.Kids (fun l=>some (Yh (JB c) l)) (by omega) (fun self i x r hx hi mem e'=>?_) (fun self=>?_)
   ·have ih:=ZlS L c h1 m x (h.Kids.2 x mem) (by have:=Em mem; omega) (by omega)
    rw [Tj]; simp only [Zj,Zd,cond_true,cond_false,Zf,Z5,Za,Zq,condC,Zi,Zh,Zn,ZL,ZU,ZE,hi,hx,ih,wrap_succ hi (by omega),e',Yh]; simp only [Yo,Xh,if_true,if_false,Bool.false_eq_true,ne_eq,decide_not,gt_iff_lt,ge_iff_le]
   ·rw [Tj]; simp only [Zj,Zd,cond_true,cond_false,Zf,Z5,Za,Zq,condC,Zi,Zh,Zn,ZL,ZU,ZE,Yh]
  have hn:=JP L e.Name h.nl (by have:=ZI e.Name; omega) h1
  rw [← Zpq]
  simp only [Zj,Zd,cond_true,cond_false,Zf,Z5,Za,Zq,condC,Zi,Zh,Zn,ZL,ZU,ZE,ZmZ,lp,ZuN,ZpD,ZuU,ZxB,hn,Zm9]; simp only [Yo,Xh,if_true,if_false,Bool.false_eq_true,ne_eq,decide_not,gt_iff_lt,ge_iff_le,Bool.or_assoc]
  exact congrArg some (Zwh _ _ _ _ _)
theorem ZlL (L:Nat)(c:Bool)(h1:100≤L)(e:Zu)(h:Yf e)(hL:SizeOf.sizeOf e≤L):Hz L (e,c,())=some (Qp c e):=by
 simp only [Zj,Zd,cond_true,cond_false,Zf,Z5,Za,Zq,condC,Zi,Zh,Zn,ZL,ZU,ZE,ZjU,show Si L (e,())=_ from ZhM L L e h hL (Nat.le_refl _),show NZ L (e,())=_ from ZhL L L e h hL (Nat.le_refl _),show FK L (e,c,())=_ from ZlS L c h1 L e h hL (Nat.le_refl _),Qp]; simp only [Yo,Xh,if_true,if_false,Bool.false_eq_true,ne_eq,decide_not,gt_iff_lt,ge_iff_le]
theorem ZhG (L:Nat)(h1:100≤L)(e:Zu)(h:Yf e)(hL:SizeOf.sizeOf e≤L):Jw L (e,())=some (Qp true e):=by
 simp only [Zj,Zd,cond_true,cond_false,Zf,Z5,Za,Zq,condC,Zi,Zh,Zn,ZL,ZU,ZE,ZcE,ZlL L _ h1 e h hL]
theorem ZfR (L:Nat)(h1:100≤L)(e:Zu)(h:Yf e)(hL:SizeOf.sizeOf e≤L):YO L (e,())=some (Qp false e):=by
 simp only [Zj,Zd,cond_true,cond_false,Zf,Z5,Za,Zq,condC,Zi,Zh,Zn,ZL,ZU,ZE,ZjR,ZlL L _ h1 e h hL]
theorem ZlF (L:Nat)(a b:List Int)(h:Len a)(hL:a.length < L):YE L (a,b,())=some (decide (a=b)):=by
 rw [Ot]
 by_cases hl:a.length=b.length
 ·rw [ZdJ a b hl (fun l m=>some (decide (l=m))) hL (fun self i x y r r' hx hy hi _ e=>by
   rw [Q5]; simp only [Zj,Zd,cond_true,cond_false,Zf,Z5,Za,Zq,condC,Zi,Zh,Zn,ZL,ZU,ZE,hi,hx,hy,wrap_succ hi (by omega),e,List.cons.injEq,Bool.decide_and]; cases decide (x=y) <;> rfl) (fun self=>by rw [Q5]; simp only [Zj,Zd,cond_true,cond_false,Zf,Z5,Za,Zq,condC,Zi,Zh,Zn,ZL,ZU,ZE,decide_true])]
  rw [ZE,show decide ((a.length:Int)=b.length)=true by simp only [decide_eq_true_eq]; omega]; rfl
 ·rw [ZE,show decide ((a.length:Int)=b.length)=false by simp only [decide_eq_false_iff_not]; omega]
  have:a≠b:=fun e=>hl (by rw [e])
  simp [this]
theorem ZeM (L:Nat)(a b:List Int)(h:Len a)(hL:a.length < L):Vw L (a,b,())=some (decide (a=b)):=by
 rw [ZdO]
 by_cases hl:a.length=b.length
 ·rw [ZdJ a b hl (fun l m=>some (decide (l=m))) hL (fun self i x y r r' hx hy hi _ e=>by
   rw [GK]; simp only [Zj,Zd,cond_true,cond_false,Zf,Z5,Za,Zq,condC,Zi,Zh,Zn,ZL,ZU,ZE,hi,hx,hy,wrap_succ hi (by omega),e,List.cons.injEq,Bool.decide_and]; cases decide (x=y) <;> rfl) (fun self=>by rw [GK]; simp only [Zj,Zd,cond_true,cond_false,Zf,Z5,Za,Zq,condC,Zi,Zh,Zn,ZL,ZU,ZE,decide_true])]
  rw [ZE,show decide ((a.length:Int)=b.length)=true by simp only [decide_eq_true_eq]; omega]; rfl
 ·rw [ZE,show decide ((a.length:Int)=b.length)=false by simp only [decide_eq_false_iff_not]; omega]
  have:a≠b:=fun e=>hl (by rw [e])
  simp [this]
theorem ZfP (L:Nat)(a b:YT)(h:J8 a)(hL:SizeOf.sizeOf a≤L):VF L (a,b,())=some (Zoy a b):=by
 have h1:=ZI a.Values; have h2:=ZI a.Weights; have h3:=Zs5 a
 simp only [Zj,Zd,cond_true,cond_false,Zf,Z5,Za,Zq,condC,Zi,Zh,Zn,ZL,ZU,ZE,ZjK,ZlF L a.Values _ h.v (by omega),ZlF L a.Weights _ h.w (by omega),Zoy]
theorem Zbb (L:Nat)(a b:YT)(h:J8 a)(hL:SizeOf.sizeOf a≤L):JU L (a,b,())=some (Zoy a b):=by
 have h1:=ZI a.Values; have h2:=ZI a.Weights; have h3:=Zs5 a
 simp only [Zj,Zd,cond_true,cond_false,Zf,Z5,Za,Zq,condC,Zi,Zh,Zn,ZL,ZU,ZE,ZmV,ZeM L a.Values _ h.v (by omega),ZeM L a.Weights _ h.w (by omega),Zoy]
theorem ZvF {α β:Type}(a:List α)(b:List β):(a.length=b.length∧decide ((a.length:Int)=(b.length:Int))=true)∨(a.length≠b.length∧decide ((a.length:Int)=(b.length:Int))=false):=by
 by_cases h:a.length=b.length
 ·exact .inl ⟨h,by simp only [decide_eq_true_eq]; omega⟩
 ·exact .inr ⟨h,by simp only [decide_eq_false_iff_not]; omega⟩
theorem ZlP (L:Nat):∀ (m:Nat) (a b:Zu),Yf a→SizeOf.sizeOf a≤m→m≤L→IC L m (a,b,())=some (EL a b)
 | 0,e,_,h,hs,_=>absurd hs (by have:=Py e; omega)
 | m + 1,e,b,h,hs,hm=>by
  have hk:=ZI e.Kids; have hz:=Zqq e; have hl:=h.k
  rw [Zbi]
  rcases ZvF e.Kids b.Kids with ⟨hl1,hl2⟩ | ⟨hl1,hl2⟩
  ·have lp:Zt (Ih m e b L) L (0,())=some (all2 EL e.Kids b.Kids):=by
    refine ZdJ e.Kids b.Kids hl1 (fun l l'=>some (all2 EL l l')) (by omega) (fun self i x y r r' hx hy hi mem e'=>?_) (fun self=>?_)
    ·have ih:=ZlP L m x y (h.Kids.2 x mem) (by have:=Em mem; omega) (by omega)
     rw [Ih]; simp only [Zj,Zd,cond_true,cond_false,Zf,Z5,Za,Zq,condC,Zi,Zh,Zn,ZL,ZU,ZE,hi,hx,hy,ih,wrap_succ hi (by omega),e',all2]; simp only [Yo,Xh,if_true,if_false,Bool.false_eq_true,ne_eq,decide_not,gt_iff_lt,ge_iff_le]
    ·rw [Ih]; simp only [Zj,Zd,cond_true,cond_false,Zf,Z5,Za,Zq,condC,Zi,Zh,Zn,ZL,ZU,ZE,all2]
   simp only [Zj,Zd,cond_true,cond_false,Zf,Z5,Za,Zq,condC,Zi,Zh,Zn,ZL,ZU,ZE,ZcA,lp,Zjl,hl2]; simp only [Yo,Xh,if_true,if_false,Bool.false_eq_true,ne_eq,decide_not,gt_iff_lt,ge_iff_le,hl2]
  ·simp only [Zj,Zd,cond_true,cond_false,Zf,Z5,Za,Zq,condC,Zi,Zh,Zn,ZL,ZU,ZE,ZcA,Zjl,hl2,Bool.not_false,Bool.or_true]; simp only [Yo,Xh,if_true,if_false,Bool.false_eq_true,ne_eq,decide_not,gt_iff_lt,ge_iff_le,hl2,Bool.not_false,Bool.or_true]
theorem Zp8 (L:Nat)(a b:Zu)(h:Yf a)(hL:SizeOf.sizeOf a≤L):TR L (a,b,())=some (EL a b):=ZlP L L a b h hL (Nat.le_refl _)
end Go.Proofs.YtgjcjbhhhlelnaaGreatDoor
end
