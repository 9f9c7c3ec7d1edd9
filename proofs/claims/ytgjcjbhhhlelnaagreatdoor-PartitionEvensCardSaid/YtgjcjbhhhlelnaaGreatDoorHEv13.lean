import Derived.Test.YtgjcjbhhhlelnaaGreatDoorHEv12
set_option linter.all false
noncomputable section
namespace Go.Proofs.YtgjcjbhhhlelnaaGreatDoor
open Go Go.Proofs.YtgjcjbhhhlelnaaGreatDoor.Abs Go.Proofs.YtgjcjbhhhlelnaaGreatDoor.Tl
set_option maxRecDepth 100000
set_option maxHeartbeats 0
def Zdv:List (Inl tT):=[⟨184,Q3,[],.one (.bool),[]⟩,⟨200,Xj,[.rnd [.slot 8 (.int .i64)]],.one (.int .i64),[]⟩,⟨185,Lc,[],.one (.bool),[]⟩]
def YA (L:Nat)(x:Int×Int×(List Int)×PUnit):Option Bool:=fI [] L Zdv N8 [] (.one .bool) [.int .i64,.int .i64,.lst 1 (.int .i64)] x
def Eo (L:Nat):Sum tT:=mU 153 [.int .i64,.int .i64,.lst 1 (.int .i64)] (.one .bool) (YA L)
theorem ZfV:SX Eo:=fun h=>sI h ZQ (Zj ⟨h.T _ _ rfl,by kernel_rfl⟩ (Zj ⟨h.T _ _ rfl,by kernel_rfl⟩ (Zj ⟨h.T _ _ rfl,by kernel_rfl⟩ ZQ))) rfl (by kernel_rfl) fun _=>rfl
def JL:Int→Int→List Int→(Int×PUnit→Option Int)→Int×PUnit→Option Int:=fun x0 x1 x2 self acc=>bif decide (acc.1 < (↑x2.length:Int)) then bT (ZM x2 acc.1) fun y=>bif decide (y < x0) || decide (y > x1) then some acc.1 else self (Go.IntKind.i64.wrap (acc.1 + 1),()) else some (-1)
theorem ZfB (L:Nat)(x0:Int)(x1:Int)(x2:(List Int)):YA L (x0,x1,x2,())=bT (bT (Zt (JL x0 x1 x2) L (0,())) fun y=>some (decide (y ≥ 0))) fun y=>some !y:=by kernel_rfl
def Ky (L:Nat)(x:YT×PUnit):Option Bool:=fT [] L N7 [] (.one .bool) [.row 2] x
def En (L:Nat):Sum tT:=mU 152 [.row 2] (.one .bool) (Ky L)
theorem ZfU:SX En:=fun h=>sT h ZQ rfl (by kernel_rfl) fun _=>rfl
theorem ZfA (L:Nat)(x0:YT):Ky L (x0,())=bif x0.1 == 1 then some (Go.IntKind.i64.wrap ((↑x0.5.length:Int) + (↑x0.6.length:Int)) == 0 && x0.3 == 0 && x0.4 == 0) else bif x0.1 == 2 then some (Go.IntKind.i64.wrap ((↑x0.5.length:Int) + (↑x0.6.length:Int)) == 0 && x0.4 == 0) else bif x0.1 == 5 then some (Go.IntKind.i64.wrap ((↑x0.5.length:Int) + (↑x0.6.length:Int)) == 0 && x0.4 == 0) else bif x0.1 == 4 then some (Go.IntKind.i64.wrap ((↑x0.5.length:Int) + (↑x0.6.length:Int)) == 0) else bif x0.1 == 3 then some (x0.2 == 0 && x0.3 == 0 && x0.4 == 0) else some false:=by kernel_rfl
def Qq (L:Nat)(x:YT×PUnit):Option Int:=fT [Eo L,En L] L Fg [] (.one (.int .i64)) [.row 2] x
def Hz (L:Nat):Sum tT:=mU 112 [.row 2] (.one (.int .i64)) (Qq L)
theorem Rw:SX Hz:=fun h=>sT h (Zj (ZfV h) (Zj (ZfU h) ZQ)) rfl (by kernel_rfl) fun _=>rfl
theorem Zhy (L:Nat)(x0:YT):Qq L (x0,())=bT (Ky L (x0,())) fun y=>bif !y then some 1 else bif x0.1 == 1 then bT (YA L (0,1000000000,[x0.2],())) fun y=>bif !y then some 2 else some 0 else bif x0.1 == 2 then bT (YA L (0,1000000000,[x0.2,x0.3],())) fun y=>bif !(y && decide (x0.2≤x0.3)) then some 2 else some 0 else bif x0.1 == 4 then bT (YA L (1,20,[x0.4],())) fun y=>bT (bif y == true then bT (YA L (0,1000000,[x0.2,x0.3],())) fun y=>some y else some false) fun y=>bif !(y && decide (x0.2≤x0.3)) then some 2 else some 0 else bif x0.1 == 5 then bT (YA L (1,1000,[x0.2,x0.3],())) fun y=>bif !y then some 2 else some 0 else bif x0.1 == 3 then bif (↑x0.5.length:Int) != (↑x0.6.length:Int) then some 8 else bif (↑x0.5.length:Int) == 0 then some 7 else bif decide ((↑x0.5.length:Int) > 20) then some 6 else bT (YA L (0,1000000000,x0.5,())) fun y=>bT (bif y == true then bT (YA L (1,1000,x0.6,())) fun y=>some y else some false) fun y=>bif !y then some 2 else some 0 else some 2:=by kernel_rfl
def Yz (L:Nat)(x:Xm×Int×Int×PUnit):Option Int:=fT [] L KU [] (.one (.int .i64)) [.row 24,.int .i64,.int .i64] x
def QQ (L:Nat):Sum tT:=mU 146 [.row 24,.int .i64,.int .i64] (.one (.int .i64)) (Yz L)
theorem Vt:SX QQ:=fun h=>sT h ZQ rfl (by kernel_rfl) fun _=>rfl
theorem Vs (L:Nat)(x0:Xm)(x1:Int)(x2:Int):Yz L (x0,x1,x2,())=bT (ZM x0.p.2 x0.2) fun y=>bif x1 == 1 then some x0.c.3 else bif x1 == 2 then some (↑y.Decl.2.length:Int) else bif x1 == 3 then some (↑y.Decl.7.length:Int) else bif x1 == 4 then some (↑x0.c.4.length:Int) else bif x1 == 5 then some (↑y.Decl.3.length:Int) else bif x1 == 6 then some (↑y.Decl.4.length:Int) else bif x1 == 7 then some (↑y.Decl.5.length:Int) else bif x1 == 8 then some (↑y.Decl.6.length:Int) else bif x1 == 9 then some (↑x0.p.2.length:Int) else bif x1 == 10 then bT (ZM x0.p.2 x2) fun y=>some (↑y.2.length:Int) else bif x1 == 11 then some (↑y.Decl.8.length:Int) else bif x1 == 12 then some (↑y.Decl.9.length:Int) else bif x1 == 13 then some (↑y.Decl.10.length:Int) else some 1:=by kernel_rfl
def ZV (L:Nat)(x:Xm×Int×Int×Int×PUnit):Option Bool:=fT [QQ L] L GY [] (.one .bool) [.row 24,.int .i64,.int .i64,.int .i64] x
def Xp (L:Nat):Sum tT:=mU 107 [.row 24,.int .i64,.int .i64,.int .i64] (.one .bool) (ZV L)
theorem VW:SX Xp:=fun h=>sT h (Zj (Vt h) ZQ) rfl (by kernel_rfl) fun _=>rfl
theorem VU (L:Nat)(x0:Xm)(x1:Int)(x2:Int)(x3:Int):ZV L (x0,x1,x2,x3,())=bT (bif decide (x2 ≥ 0) == true then bT (Yz L (x0,x1,x3,())) fun y=>some (decide (x2 < y)) else some false) fun y=>some y:=by kernel_rfl
def UI:List (Inl tT):=[⟨150,YY,[],.one (.bool),[]⟩,⟨183,WC,[.rnd [.slot 8 (.int .i64)]],.one (.int .i64),[]⟩,⟨151,JY,[],.one (.bool),[]⟩]
def XT (L:Nat):Nat→List (Sum tT)
 | 0=>[⟨111,[.row 24,.row 8],fun _=>.par _ none ((.one (.bool):RD).tv tT)⟩]
 | m + 1=>[⟨111,[.row 24,.row 8],fun x=>.par _ (fnT tF tG (Zie tF tG (qOf tF (XT L m ++ [QQ L,Xp L])) L UI 8) 0 L Vo [] (.one (.bool)) (tvL tT [.row 24,.row 8] x) []) ((.one (.bool):RD).tv tT)⟩]
theorem VX {C:Cfg}{L:Nat}(h:St C L):∀ m,∀ s ∈ XT L m,Jj C s
 | 0=>(Zj (Hw _ _ _) ZQ)
 | m + 1=>have ih:=VX h m
  (Zj (Xg Q7 h.L h.G (Eg Q7 h.L h.G (VT Q7 (BG ih (Zj (Vt h) (Zj (VW h) ZQ)))) (Zj ⟨h.T _ _ rfl,by kernel_rfl⟩ (Zj ⟨h.T _ _ rfl,by kernel_rfl⟩ (Zj ⟨h.T _ _ rfl,by kernel_rfl⟩ ZQ))) 8) [] (h.T _ _ rfl) (by kernel_rfl) fun _=>rfl) ZQ)
def Yf (L m:Nat)(x:Xm×Zr×PUnit):Option (Bool):=fnT tF tG (Zie tF tG (qOf tF (XT L m ++ [QQ L,Xp L])) L UI 8) 0 L Vo [] (.one (.bool)) (tvL tT [.row 24,.row 8] x) []
def WW (L:Nat)(x:Xm×Zr×PUnit):Option (Bool):=Yf L L x
def Gz (L:Nat):Sum tT:=⟨111,[.row 24,.row 8],fun x=>.par ((.one (.bool):RD).Ty tT) (WW L x) ((.one (.bool):RD).tv tT)⟩
theorem PS {C:Cfg}{L:Nat}(h:St C L):Jj C (Gz L):=have ih:=VX h L
 Xg Q7 h.L h.G (Eg Q7 h.L h.G (VT Q7 (BG ih (Zj (Vt h) (Zj (VW h) ZQ)))) (Zj ⟨h.T _ _ rfl,by kernel_rfl⟩ (Zj ⟨h.T _ _ rfl,by kernel_rfl⟩ (Zj ⟨h.T _ _ rfl,by kernel_rfl⟩ ZQ))) 8) [] (h.T _ _ rfl) (by kernel_rfl) fun _=>rfl
def Yd:Nat→Xm→Zr→Nat→(Int×PUnit→Option Int)→Int×PUnit→Option Int:=fun (m:Nat)=>fun x0 x1 L self acc=>bif decide (acc.1 < (↑x1.4.length:Int)) then bT (ZM x1.4 acc.1) fun y=>bT (bT (Yf L m (x0,y,())) fun y=>some !y) fun y=>bif y then some acc.1 else self (Go.IntKind.i64.wrap (acc.1 + 1),()) else some (-1)
def U7:Nat→Xm→Zr→Nat→(Int×PUnit→Option Int)→Int×PUnit→Option Int:=fun (m:Nat)=>fun x0 x1 L self acc=>bif decide (acc.1 < (↑x1.4.length:Int)) then bT (ZM x1.4 acc.1) fun y=>bT (bT (Yf L m (x0,y,())) fun y=>some !y) fun y=>bif y then some acc.1 else self (Go.IntKind.i64.wrap (acc.1 + 1),()) else some (-1)
def U8:Nat→Xm→Zr→Nat→(Int×PUnit→Option Int)→Int×PUnit→Option Int:=fun (m:Nat)=>fun x0 x1 L self acc=>bif decide (acc.1 < (↑x1.4.length:Int)) then bT (ZM x1.4 acc.1) fun y=>bT (bT (Yf L m (x0,y,())) fun y=>some !y) fun y=>bif y then some acc.1 else self (Go.IntKind.i64.wrap (acc.1 + 1),()) else some (-1)
def U9:Nat→Xm→Zr→Nat→(Int×PUnit→Option Int)→Int×PUnit→Option Int:=fun (m:Nat)=>fun x0 x1 L self acc=>bif decide (acc.1 < (↑x1.4.length:Int)) then bT (ZM x1.4 acc.1) fun y=>bT (bT (Yf L m (x0,y,())) fun y=>some !y) fun y=>bif y then some acc.1 else self (Go.IntKind.i64.wrap (acc.1 + 1),()) else some (-1)
def UA:Nat→Xm→Zr→Nat→(Int×PUnit→Option Int)→Int×PUnit→Option Int:=fun (m:Nat)=>fun x0 x1 L self acc=>bif decide (acc.1 < (↑x1.4.length:Int)) then bT (ZM x1.4 acc.1) fun y=>bT (bT (Yf L m (x0,y,())) fun y=>some !y) fun y=>bif y then some acc.1 else self (Go.IntKind.i64.wrap (acc.1 + 1),()) else some (-1)
def UB:Nat→Xm→Zr→Nat→(Int×PUnit→Option Int)→Int×PUnit→Option Int:=fun (m:Nat)=>fun x0 x1 L self acc=>bif decide (acc.1 < (↑x1.4.length:Int)) then bT (ZM x1.4 acc.1) fun y=>bT (bT (Yf L m (x0,y,())) fun y=>some !y) fun y=>bif y then some acc.1 else self (Go.IntKind.i64.wrap (acc.1 + 1),()) else some (-1)
theorem PK (L m:Nat)(x0:Xm)(x1:Zr):Yf L (m + 1) (x0,x1,())=bif x1.1 == 25 then bT (ZV L (x0,1,x1.3,0,())) fun y=>bT (bif y == true then bT (bT (Zt (Yd m x0 x1 L) L (0,())) fun y=>some (decide (y ≥ 0))) fun y=>some !y else some false) fun y=>some y else bif x1.1 == 26 then bT (ZV L (x0,2,x1.3,0,())) fun y=>bT (bif y == true then bT (bT (Zt (U7 m x0 x1 L) L (0,())) fun y=>some (decide (y ≥ 0))) fun y=>some !y else some false) fun y=>some y else bif x1.1 == 22 then bT (ZV L (x0,5,x1.3,0,())) fun y=>bT (bif y == true then bT (bT (Zt (U8 m x0 x1 L) L (0,())) fun y=>some (decide (y ≥ 0))) fun y=>some !y else some false) fun y=>some y else bif x1.1 == 23 then bT (ZV L (x0,6,x1.3,0,())) fun y=>bT (bif y == true then bT (bT (Zt (U9 m x0 x1 L) L (0,())) fun y=>some (decide (y ≥ 0))) fun y=>some !y else some false) fun y=>some y else bif x1.1 == 24 then bT (bT (Yz L (x0,5,0,())) fun y=>some y) fun y=>bT (bT (Yz L (x0,8,0,())) fun y=>some y) fun y_1=>bT (bif decide (x1.3 < Go.IntKind.i64.wrap (y + y_1)) == true then bT (bT (Zt (UA m x0 x1 L) L (0,())) fun y=>some (decide (y ≥ 0))) fun y=>some !y else some false) fun y=>some y else bT (bT (bT (Zt (UB m x0 x1 L) L (0,())) fun y=>some (decide (y ≥ 0))) fun y=>some !y) fun y=>some y:=by kernel_rfl
def Jd (L:Nat)(x:(List UInt8)×PUnit):Option Bool:=fT [] L L6 [] (.one .bool) [.str] x
def RN (L:Nat):Sum tT:=mU 48 [.str] (.one .bool) (Jd L)
theorem ZcC:SX RN:=fun h=>sT h ZQ rfl (by kernel_rfl) fun _=>rfl
theorem Zcx (L:Nat)(x0:(List UInt8)):Jd L (x0,())=bif x0 == [97,100,100] then some true else bif x0 == [97,102,116,101,114] then some true else bif x0 == [97,110,100] then some true else bif x0 == [97,116] then some true else bif x0 == [98,101,108,116] then some true else bif x0 == [98,111,111,108] then some true else bif x0 == [99,111,110,115,101,114,118,101] then some true else bif x0 == [99,111,110,115,116] then some true else bif x0 == [99,111,117,110,116] then some true else bif x0 == [99,121,99,108,101] then some true else bif x0 == [100,111,119,110] then some true else bif x0 == [100,114,97,119] then some true else bif x0 == [100,117,114] then some true else bif x0 == [101,108,115,101] then some true else bif x0 == [101,110,100] then some true else bif x0 == [101,118,101,114,121] then some true else bif x0 == [102,97,108,115,101] then some true else bif x0 == [102,97,117,108,116] then some true else bif x0 == [102,105,102,111] then some true else bif x0 == [102,114,101,101] then some true else bif x0 == [102,114,111,109] then some true else bif x0 == [103,101,111,109] then some true else bif x0 == [103,101,116] then some true else bif x0 == [104,111,108,100] then some true else bif x0 == [105,102] then some true else bif x0 == [105,110,116] then some true else bif x0 == [105,110,116,111] then some true else bif x0 == [108,101,97,115,116] then some true else bif x0 == [108,101,118,101,108] then some true else bif x0 == [108,105,102,111] then some true else bif x0 == [108,105,110,107] then some true else bif x0 == [108,111,99,97,108] then some true else bif x0 == [109,97,120] then some true else bif x0 == [109,105,110] then some true else bif x0 == [109,111,100,101,108] then some true else bif x0 == [110,111,116] then some true else bif x0 == [110,111,119] then some true else bif x0 == [111,98,115,101,114,118,101] then some true else bif x0 == [111,114] then some true else bif x0 == [112,97,114,97,109] then some true else bif x0 == [112,114,101,101,109,112,116] then some true else bif x0 == [112,114,105,111] then some true else bif x0 == [112,117,116] then some true else bif x0 == [113,117,101,117,101] then some true else bif x0 == [114,101,108,101,97,115,101] then some true else bif x0 == [114,101,115,111,117,114,99,101] then some true else bif x0 == [114,105,100,101] then some true else bif x0 == [114,111,117,116,105,110,101] then some true else bif x0 == [115,101,105,122,101] then some true else bif x0 == [115,101,110,100] then some true else bif x0 == [115,101,116] then some true else bif x0 == [115,104,105,102,116] then some true else bif x0 == [115,105,103,110,97,108] then some true else bif x0 == [115,105,116,101] then some true else bif x0 == [115,105,122,101] then some true else bif x0 == [115,112,97,119,110] then some true else bif x0 == [115,116,97,114,116] then some true else bif x0 == [115,116,111,112] then some true else bif x0 == [115,116,111,114,101] then some true else bif x0 == [115,116,114,101,97,109] then some true else bif x0 == [115,117,109] then some true else bif x0 == [116,97,98,108,101] then some true else bif x0 == [116,97,108,108,121] then some true else bif x0 == [116,105,99,107,115] then some true else bif x0 == [116,105,109,101] then some true else bif x0 == [116,114,117,101] then some true else bif x0 == [117,110,105,102,111,114,109] then some true else bif x0 == [117,110,116,105,108] then some true else bif x0 == [117,112] then some true else bif x0 == [118,97,114] then some true else bif x0 == [119,97,105,116] then some true else bif x0 == [119,97,105,116,105,110,103] then some true else bif x0 == [119,104,105,108,101] then some true else some false:=by kernel_rfl
def Vb (L:Nat)(x:Int×PUnit):Option Bool:=fT [] L Dt [] (.one .bool) [.int .u8] x
def DN (L:Nat):Sum tT:=mU 47 [.int .u8] (.one .bool) (Vb L)
theorem ZdA:SX DN:=fun h=>sT h ZQ rfl (by kernel_rfl) fun _=>rfl
theorem Zd4 (L:Nat)(x0:Int):Vb L (x0,())=some (decide (x0 ≥ 97) && decide (x0≤122)):=by kernel_rfl
def ZJ (L:Nat)(x:(List UInt8)×PUnit):Option Int:=fT [RN L,DN L] L NJ [.rnd [.slot 24 (.int .i64)]] (.one (.int .i64)) [.str] x
def WO (L:Nat):Sum tT:=mU 33 [.str] (.one (.int .i64)) (ZJ L)
theorem Ql:SX WO:=fun h=>sT h (Zj (ZcC h) (Zj (ZdA h) ZQ)) rfl (by kernel_rfl) fun _=>rfl
def JO:List UInt8→Nat→(Int×PUnit→Option Int)→Int×PUnit→Option Int:=fun x0 L self acc=>bif decide (acc.1 < (↑x0.length:Int)) then bT (ZM x0 acc.1) fun y=>bT (Vb L ((↑y.toNat:Int),())) fun y_1=>bif !y_1 && (decide ((↑y.toNat:Int) < 48) || decide ((↑y.toNat:Int) > 57)) && (↑y.toNat:Int) != 95 then some 3 else self (Go.IntKind.i64.wrap (acc.1 + 1),()) else some 0
theorem ZfH (L:Nat)(x0:(List UInt8)):ZJ L (x0,())=bT (bif (x0 == [] || decide ((↑x0.length:Int) > 24)) == false then bT (ZM x0 0) fun y=>bT (Vb L ((↑y.toNat:Int),())) fun y=>some !y else some true) fun y=>bT (bif y == false then bT (Jd L (x0,())) fun y=>some y else some true) fun y=>bif y then some 3 else Zt (JO x0 L) L (0,()):=by kernel_rfl
def Jb (L:Nat)(x:Int×PUnit):Option Bool:=fT [] L N9 [] (.one .bool) [.int .i64] x
def OX (L:Nat):Sum tT:=mU 214 [.int .i64] (.one .bool) (Jb L)
theorem Ec:SX OX:=fun h=>sT h ZQ rfl (by kernel_rfl) fun _=>rfl
theorem ZfC (L:Nat)(x0:Int):Jb L (x0,())=some (decide (x0 ≥ 22) && decide (x0≤24)):=by kernel_rfl
end Go.Proofs.YtgjcjbhhhlelnaaGreatDoor
end
noncomputable section
namespace Go.Proofs.YtgjcjbhhhlelnaaGreatDoor
open Go Go.Proofs.YtgjcjbhhhlelnaaGreatDoor.Abs Go.Proofs.YtgjcjbhhhlelnaaGreatDoor.Tl
set_option maxRecDepth 100000
set_option maxHeartbeats 0
def Qo (L:Nat)(x:Qz×Int×PUnit):Option (Int×Int×Bool×PUnit):=fT [OX L] L JZ [] (.tup [.int .i64,.int .i64,.bool]) [.row 25,.int .i64] x
def Um (L:Nat):Sum tT:=mU 212 [.row 25,.int .i64] (.tup [.int .i64,.int .i64,.bool]) (Qo L)
theorem Ru:SX Um:=fun h=>sT h (Zj (Ec h) ZQ) rfl (by kernel_rfl) fun _=>rfl
theorem LV (L:Nat)(x0:Qz)(x1:Int):Qo L (x0,x1,())=bif x1 == 2 then some (0,1,true,()) else bif x1 == 25 then some (0,15,true,()) else bif x1 == 26 then some (0,31,true,()) else bT (Jb L (x1,())) fun y=>bif y && x0.1 then some (0,63,true,()) else some (0,0,false,()):=by kernel_rfl
def Bz (L:Nat)(x:Int×PUnit):Option Bool:=fT [] L Zkx [] (.one .bool) [.int .i64] x
def ZaN (L:Nat):Sum tT:=mU 142 [.int .i64] (.one .bool) (Bz L)
theorem ZfZ:SX ZaN:=fun h=>sT h ZQ rfl (by kernel_rfl) fun _=>rfl
theorem Zr8 (L:Nat)(x0:Int):Bz L (x0,())=some (decide (x0 ≥ (-1000000000000)) && decide (x0≤1000000000000)):=by kernel_rfl
def WY (L:Nat)(x:Qz×Int×PUnit):Option Bool:=fT [OX L] L KY [] (.one .bool) [.row 25,.int .i64] x
def G6 (L:Nat):Sum tT:=mU 211 [.row 25,.int .i64] (.one .bool) (WY L)
theorem PU:SX G6:=fun h=>sT h (Zj (Ec h) ZQ) rfl (by kernel_rfl) fun _=>rfl
theorem PN (L:Nat)(x0:Qz)(x1:Int):WY L (x0,x1,())=bT (bif (x1 == 3) == false then bT (Jb L (x1,())) fun y=>some (y && !x0.1) else some true) fun y=>some y:=by kernel_rfl
def GK (L:Nat)(x:Int×PUnit):Option Int:=fT [] L ZaU [] (.one (.int .i64)) [.int .i64] x
def PZ (L:Nat):Sum tT:=mU 210 [.int .i64] (.one (.int .i64)) (GK L)
theorem ZcA:SX PZ:=fun h=>sT h ZQ rfl (by kernel_rfl) fun _=>rfl
theorem Zjq (L:Nat)(x0:Int):GK L (x0,())=bif x0 == 1 || x0 == 2 || x0 == 3 || x0 == 4 then some 0 else bif decide (x0 ≥ 5) && decide (x0≤8) then some 1 else bif decide (x0 ≥ 9) && decide (x0≤21) then some 2 else bif decide (x0 ≥ 22) && decide (x0≤26) then some 0 else some (-1):=by kernel_rfl
def QU (L:Nat)(x:Qz×Int×PUnit):Option Bool:=fT [PZ L] L KX [] (.one .bool) [.row 25,.int .i64] x
def G5 (L:Nat):Sum tT:=mU 209 [.row 25,.int .i64] (.one .bool) (QU L)
theorem PT:SX G5:=fun h=>sT h (Zj (ZcA h) ZQ) rfl (by kernel_rfl) fun _=>rfl
theorem PM (L:Nat)(x0:Qz)(x1:Int):QU L (x0,x1,())=bif x1 == 3 then some !x0.1 else bif x1 == 25 then some x0.1 else bif x1 == 26 then some x0.1 else bT (GK L (x1,())) fun y=>some (decide (y ≥ 0)):=by kernel_rfl
def Xq (L:Nat)(x:Qz×Zr×PUnit):Option Int:=fT [WO L,Um L,ZaN L,G6 L,PZ L,G5 L] L GZ [] (.one (.int .i64)) [.row 25,.row 8] x
def Ja (L:Nat):Sum tT:=mU 199 [.row 25,.row 8] (.one (.int .i64)) (Xq L)
theorem Hu:SX Ja:=fun h=>sT h (Zj (Ql h) (Zj (Ru h) (Zj (ZfZ h) (Zj (PU h) (Zj (ZcA h) (Zj (PT h) ZQ)))))) rfl (by kernel_rfl) fun _=>rfl
theorem SK (L:Nat)(x0:Qz)(x1:Zr):Xq L (x0,x1,())=bT (bT (QU L (x0,x1.1,())) fun y=>some y) fun y=>bT (bif (!y) == false then bT (bT (GK L (x1.1,())) fun y=>some y) fun y=>some ((↑x1.4.length:Int) != y) else some true) fun y=>bT (bif y == false then bif (!x1.2 == []) == true then bT (bT (WY L (x0,x1.1,())) fun y=>some y) fun y=>some !y else some false else some true) fun y=>bif y then some 1 else bif x1.1 == 1 then bT (Bz L (x1.3,())) fun y=>bif !y then some 2 else some 0 else bT (Qo L (x0,x1.1,())) fun y=>bif !y.2.2.1 && x1.3 != 0 then some 1 else bif y.2.2.1 && (decide (x1.3 < y.1) || decide (x1.3 > y.2.1)) then some 2 else bT (WY L (x0,x1.1,())) fun y=>bif y then bT (ZJ L (x1.2,())) fun y=>some y else some 0:=by kernel_rfl
def XU (L:Nat):Nat→List (Sum tT)
 | 0=>[⟨182,[.row 25,.row 8],fun _=>.par _ none ((.one (.int .i64):RD).tv tT)⟩]
 | m + 1=>[⟨182,[.row 25,.row 8],fun x=>.par _ (fnT tF tG (qOf tF (XU L m ++ [Ja L])) 0 L Vp [.rnd [.slot 18 (.int .i64)]] (.one (.int .i64)) (tvL tT [.row 25,.row 8] x) []) ((.one (.int .i64):RD).tv tT)⟩]
theorem VY {C:Cfg}{L:Nat}(h:St C L):∀ m,∀ s ∈ XU L m,Jj C s
 | 0=>(Zj (Hw _ _ _) ZQ)
 | m + 1=>have ih:=VY h m
  (Zj (Xg Q7 h.L h.G (VT Q7 (BG ih (Zj (Hu h) ZQ))) [.rnd [.slot 18 (.int .i64)]] (h.T _ _ rfl) (by kernel_rfl) fun _=>rfl) ZQ)
def Qy (L m:Nat)(x:Qz×Zr×PUnit):Option (Int):=fnT tF tG (qOf tF (XU L m ++ [Ja L])) 0 L Vp [.rnd [.slot 18 (.int .i64)]] (.one (.int .i64)) (tvL tT [.row 25,.row 8] x) []
def Vx (L:Nat)(x:Qz×Zr×PUnit):Option (Int):=Qy L L x
def G7 (L:Nat):Sum tT:=⟨182,[.row 25,.row 8],fun x=>.par ((.one (.int .i64):RD).Ty tT) (Vx L x) ((.one (.int .i64):RD).tv tT)⟩
theorem PV {C:Cfg}{L:Nat}(h:St C L):Jj C (G7 L):=have ih:=VY h L
 Xg Q7 h.L h.G (VT Q7 (BG ih (Zj (Hu h) ZQ))) [.rnd [.slot 18 (.int .i64)]] (h.T _ _ rfl) (by kernel_rfl) fun _=>rfl
def Qv:Nat→Qz→Zr→Nat→(Int×PUnit→Option Int)→Int×PUnit→Option Int:=fun (m:Nat)=>fun x0 x1 L self acc=>bif decide (acc.1 < (↑x1.4.length:Int)) then bT (ZM x1.4 acc.1) fun y=>bT (Qy L m (x0,y,())) fun y=>bif y != 0 then some y else self (Go.IntKind.i64.wrap (acc.1 + 1),()) else some 0
theorem PO (L m:Nat)(x0:Qz)(x1:Zr):Qy L (m + 1) (x0,x1,())=bT (Xq L (x0,x1,())) fun y=>bif y != 0 then some y else Zt (Qv m x0 x1 L) L (0,()):=by kernel_rfl
def OH (L:Nat):Nat→List (Sum tT)
 | 0=>[⟨181,[.row 8],fun _=>.par _ none ((.one (.int .i64):RD).tv tT)⟩]
 | m + 1=>[⟨181,[.row 8],fun x=>.par _ (fnT tF tG (qOf tF (OH L m ++ [])) 0 L Ld [.rnd [.slot 3 (.int .i64),.slot 9 (.int .i64)]] (.one (.int .i64)) (tvL tT [.row 8] x) []) ((.one (.int .i64):RD).tv tT)⟩]
theorem TU {C:Cfg}{L:Nat}(h:St C L):∀ m,∀ s ∈ OH L m,Jj C s
 | 0=>(Zj (Hw _ _ _) ZQ)
 | m + 1=>have ih:=TU h m
  (Zj (Xg Q7 h.L h.G (VT Q7 (BG ih ZQ)) [.rnd [.slot 3 (.int .i64),.slot 9 (.int .i64)]] (h.T _ _ rfl) (by kernel_rfl) fun _=>rfl) ZQ)
def KG (L m:Nat)(x:Zr×PUnit):Option (Int):=fnT tF tG (qOf tF (OH L m ++ [])) 0 L Ld [.rnd [.slot 3 (.int .i64),.slot 9 (.int .i64)]] (.one (.int .i64)) (tvL tT [.row 8] x) []
def RQ (L:Nat)(x:Zr×PUnit):Option (Int):=KG L L x
def CV (L:Nat):Sum tT:=⟨181,[.row 8],fun x=>.par ((.one (.int .i64):RD).Ty tT) (RQ L x) ((.one (.int .i64):RD).tv tT)⟩
theorem ZhQ {C:Cfg}{L:Nat}(h:St C L):Jj C (CV L):=have ih:=TU h L
 Xg Q7 h.L h.G (VT Q7 (BG ih ZQ)) [.rnd [.slot 3 (.int .i64),.slot 9 (.int .i64)]] (h.T _ _ rfl) (by kernel_rfl) fun _=>rfl
def O4:Nat→Zr→Nat→(Int×Int×PUnit→Option Int)→Int×Int×PUnit→Option Int:=fun (m:Nat)=>fun x0 L self acc=>bif decide (acc.2.1 < (↑x0.4.length:Int)) then bT (ZM x0.4 acc.2.1) fun y=>bT (KG L m (y,())) fun y=>self (if y > acc.1 then y else acc.1,Go.IntKind.i64.wrap (acc.2.1 + 1),()) else some (Go.IntKind.i64.wrap (acc.1 + 1))
theorem Zh0 (L m:Nat)(x0:Zr):KG L (m + 1) (x0,())=Zt (O4 m x0 L) L (0,0,()):=by kernel_rfl
def OI (L:Nat):Nat→List (Sum tT)
 | 0=>[⟨180,[.row 8],fun _=>.par _ none ((.one (.int .i64):RD).tv tT)⟩]
 | m + 1=>[⟨180,[.row 8],fun x=>.par _ (fnT tF tG (qOf tF (OI L m ++ [])) 0 L Le [.rnd [.slot 3 (.int .i64),.slot 9 (.int .i64)]] (.one (.int .i64)) (tvL tT [.row 8] x) []) ((.one (.int .i64):RD).tv tT)⟩]
theorem TW {C:Cfg}{L:Nat}(h:St C L):∀ m,∀ s ∈ OI L m,Jj C s
 | 0=>(Zj (Hw _ _ _) ZQ)
 | m + 1=>have ih:=TW h m
  (Zj (Xg Q7 h.L h.G (VT Q7 (BG ih ZQ)) [.rnd [.slot 3 (.int .i64),.slot 9 (.int .i64)]] (h.T _ _ rfl) (by kernel_rfl) fun _=>rfl) ZQ)
def KH (L m:Nat)(x:Zr×PUnit):Option (Int):=fnT tF tG (qOf tF (OI L m ++ [])) 0 L Le [.rnd [.slot 3 (.int .i64),.slot 9 (.int .i64)]] (.one (.int .i64)) (tvL tT [.row 8] x) []
def RS (L:Nat)(x:Zr×PUnit):Option (Int):=KH L L x
def CX (L:Nat):Sum tT:=⟨180,[.row 8],fun x=>.par ((.one (.int .i64):RD).Ty tT) (RS L x) ((.one (.int .i64):RD).tv tT)⟩
theorem ZhR {C:Cfg}{L:Nat}(h:St C L):Jj C (CX L):=have ih:=TW h L
 Xg Q7 h.L h.G (VT Q7 (BG ih ZQ)) [.rnd [.slot 3 (.int .i64),.slot 9 (.int .i64)]] (h.T _ _ rfl) (by kernel_rfl) fun _=>rfl
def O5:Nat→Zr→Nat→(Int×Int×PUnit→Option Int)→Int×Int×PUnit→Option Int:=fun (m:Nat)=>fun x0 L self acc=>bif decide (acc.2.1 < (↑x0.4.length:Int)) then bT (ZM x0.4 acc.2.1) fun y=>bT (KH L m (y,())) fun y=>self (Go.IntKind.i64.wrap (acc.1 + y),Go.IntKind.i64.wrap (acc.2.1 + 1),()) else some acc.1
theorem Zh1 (L m:Nat)(x0:Zr):KH L (m + 1) (x0,())=Zt (O5 m x0 L) L (1,0,()):=by kernel_rfl
def WX (L:Nat)(x:Qz×Zr×PUnit):Option Int:=fT [G7 L,CV L,CX L] L KW [] (.one (.int .i64)) [.row 25,.row 8] x
def Vu (L:Nat):Sum tT:=mU 149 [.row 25,.row 8] (.one (.int .i64)) (WX L)
theorem Gw:SX Vu:=fun h=>sT h (Zj (PV h) (Zj (ZhQ h) (Zj (ZhR h) ZQ))) rfl (by kernel_rfl) fun _=>rfl
theorem PL (L:Nat)(x0:Qz)(x1:Zr):WX L (x0,x1,())=bT (RS L (x1,())) fun y=>bif decide (y > 60) then some 6 else bT (RQ L (x1,())) fun y=>bif decide (y > 12) then some 11 else bT (Vx L (x0,x1,())) fun y=>some y:=by kernel_rfl
end Go.Proofs.YtgjcjbhhhlelnaaGreatDoor
end
noncomputable section
namespace Go.Proofs.YtgjcjbhhhlelnaaGreatDoor
open Go Go.Proofs.YtgjcjbhhhlelnaaGreatDoor.Abs Go.Proofs.YtgjcjbhhhlelnaaGreatDoor.Tl
set_option maxRecDepth 100000
set_option maxHeartbeats 0
def Qd (L:Nat)(x:Zr×PUnit):Option Int:=fT [Vu L] L TJ [] (.one (.int .i64)) [.row 8] x
def Me (L:Nat):Sum tT:=mU 110 [.row 8] (.one (.int .i64)) (Qd L)
theorem Zaz:SX Me:=fun h=>sT h (Zj (Gw h) ZQ) rfl (by kernel_rfl) fun _=>rfl
theorem Zav (L:Nat)(x0:Zr):Qd L (x0,())=bT (WX L (Qz.mk true,x0,())) fun y=>some y:=by kernel_rfl
def Un (L:Nat)(x:Int×PUnit):Option Bool:=fT [] L Ff [] (.one .bool) [.int .i64] x
def RI (L:Nat):Sum tT:=mU 105 [.int .i64] (.one .bool) (Un L)
theorem Cm:SX RI:=fun h=>sT h ZQ rfl (by kernel_rfl) fun _=>rfl
theorem Zhx (L:Nat)(x0:Int):Un L (x0,())=some (decide (x0 ≥ 1) && decide (x0≤19)):=by kernel_rfl
def WF (L:Nat)(x:YE×PUnit):Option (List Zr):=fT [RI L] L Ha [] (.one (.lst 4 (.row 8))) [.row 15] x
def Hy (L:Nat):Sum tT:=mU 109 [.row 15] (.one (.lst 4 (.row 8))) (WF L)
theorem Eb:SX Hy:=fun h=>sT h (Zj (Cm h) ZQ) rfl (by kernel_rfl) fun _=>rfl
theorem SN (L:Nat)(x0:YE):WF L (x0,())=bT (Un L (x0.1,())) fun y=>bif !y then some [] else bT (ZM Hm x0.1) fun y=>bif y.5 then bT (apT 56 [] [x0.5]) fun y_1=>bif y.6 then bT (apT 56 y_1 [x0.6]) fun y_2=>bif y.7 then bT (apT 56 y_2 x0.7) fun y=>some y else some y_2 else bif y.7 then bT (apT 56 y_1 x0.7) fun y=>some y else some y_1 else bif y.6 then bT (apT 56 [] [x0.6]) fun y_1=>bif y.7 then bT (apT 56 y_1 x0.7) fun y=>some y else some y_1 else bif y.7 then bT (apT 56 [] x0.7) fun y=>some y else some []:=by kernel_rfl
def ZiF:List (Inl tT):=[⟨147,WP,[.rnd [.slot 8 (.int .i64)]],.one (.int .i64),[]⟩,⟨148,Fa,[],.one (.bool),[]⟩]
def Bv (L:Nat)(x:Zk×Int×Int×PUnit):Option (Int×Bool×PUnit):=fI [] L ZiF ZdL [] (.tup [.int .i64,.bool]) [.row 19,.int .i64,.int .i64] x
def ZeE (L:Nat):Sum tT:=mU 108 [.row 19,.int .i64,.int .i64] (.tup [.int .i64,.bool]) (Bv L)
theorem ZmI:SX ZeE:=fun h=>sI h ZQ (Zj ⟨h.T _ _ rfl,by kernel_rfl⟩ (Zj ⟨h.T _ _ rfl,by kernel_rfl⟩ ZQ)) rfl (by kernel_rfl) fun _=>rfl
def Pm:Zk→Int→Int→(Int×PUnit→Option Int)→Int×PUnit→Option Int:=fun x0 x1 x2 self acc=>bif decide (acc.1 < (↑x0.3.length:Int)) then bT (ZM x0.3 acc.1) fun y=>bif y.1 == x1 && y.2 == x2 then some acc.1 else self (Go.IntKind.i64.wrap (acc.1 + 1),()) else some (-1)
theorem Zmu (L:Nat)(x0:Zk)(x1:Int)(x2:Int):Bv L (x0,x1,x2,())=bT (Zt (Pm x0 x1 x2) L (0,())) fun y=>bif decide (y < 0) then some (0,false,()) else bT (ZM x0.3 y) fun y=>some (y.3,true,()):=by kernel_rfl
def YG (L:Nat)(x:(List Int)×(List Int)×PUnit):Option Bool:=fT [] L V7 [.rnd [.slot 13 (.int .i64)]] (.one .bool) [.lst 1 (.int .i64),.lst 1 (.int .i64)] x
def VE (L:Nat):Sum tT:=mU 169 [.lst 1 (.int .i64),.lst 1 (.int .i64)] (.one .bool) (YG L)
theorem Ob:SX VE:=fun h=>sT h ZQ rfl (by kernel_rfl) fun _=>rfl
def Qs:List Int→List Int→(Int×PUnit→Option Bool)→Int×PUnit→Option Bool:=fun x0 x1 self acc=>bif decide (acc.1 < (↑x0.length:Int)) then bT (ZM x0 acc.1) fun y=>bT (ZM x1 acc.1) fun y_1=>bif y != y_1 then some false else self (Go.IntKind.i64.wrap (acc.1 + 1),()) else some true
theorem IX (L:Nat)(x0:(List Int))(x1:(List Int)):YG L (x0,x1,())=bif (↑x0.length:Int) != (↑x1.length:Int) then some false else Zt (Qs x0 x1) L (0,()):=by kernel_rfl
def Vy (L:Nat)(x:YT×YT×PUnit):Option Bool:=fT [VE L] L ZaT [] (.one .bool) [.row 2,.row 2] x
def OW (L:Nat):Sum tT:=mU 132 [.row 2,.row 2] (.one .bool) (Vy L)
theorem PW:SX OW:=fun h=>sT h (Zj (Ob h) ZQ) rfl (by kernel_rfl) fun _=>rfl
theorem Zjp (L:Nat)(x0:YT)(x1:YT):Vy L (x0,x1,())=bT (bif (x0.1 == x1.1 && x0.2 == x1.2 && x0.3 == x1.3 && x0.4 == x1.4) == true then bT (YG L (x0.5,x1.5,())) fun y=>some y else some false) fun y=>bT (bif y == true then bT (YG L (x0.6,x1.6,())) fun y=>some y else some false) fun y=>some y:=by kernel_rfl
def RF (L:Nat):Nat→List (Sum tT)
 | 0=>[⟨179,[.row 8,.row 8],fun _=>.par _ none ((.one (.bool):RD).tv tT)⟩]
 | m + 1=>[⟨179,[.row 8,.row 8],fun x=>.par _ (fnT tF tG (qOf tF (RF L m ++ [])) 0 L DU [.rnd [.slot 38 (.int .i64)]] (.one (.bool)) (tvL tT [.row 8,.row 8] x) []) ((.one (.bool):RD).tv tT)⟩]
theorem RG {C:Cfg}{L:Nat}(h:St C L):∀ m,∀ s ∈ RF L m,Jj C s
 | 0=>(Zj (Hw _ _ _) ZQ)
 | m + 1=>have ih:=RG h m
  (Zj (Xg Q7 h.L h.G (VT Q7 (BG ih ZQ)) [.rnd [.slot 38 (.int .i64)]] (h.T _ _ rfl) (by kernel_rfl) fun _=>rfl) ZQ)
def Ie (L m:Nat)(x:Zr×Zr×PUnit):Option (Bool):=fnT tF tG (qOf tF (RF L m ++ [])) 0 L DU [.rnd [.slot 38 (.int .i64)]] (.one (.bool)) (tvL tT [.row 8,.row 8] x) []
def OY (L:Nat)(x:Zr×Zr×PUnit):Option (Bool):=Ie L L x
def PY (L:Nat):Sum tT:=⟨179,[.row 8,.row 8],fun x=>.par ((.one (.bool):RD).Ty tT) (OY L x) ((.one (.bool):RD).tv tT)⟩
theorem Zc9 {C:Cfg}{L:Nat}(h:St C L):Jj C (PY L):=have ih:=RG h L
 Xg Q7 h.L h.G (VT Q7 (BG ih ZQ)) [.rnd [.slot 38 (.int .i64)]] (h.T _ _ rfl) (by kernel_rfl) fun _=>rfl
def Hl:Nat→Zr→Zr→Nat→(Int×PUnit→Option Bool)→Int×PUnit→Option Bool:=fun (m:Nat)=>fun x0 x1 L self acc=>bif decide (acc.1 < (↑x0.4.length:Int)) then bT (ZM x0.4 acc.1) fun y=>bT (ZM x1.4 acc.1) fun y_1=>bT (bT (Ie L m (y,y_1,())) fun y=>some y) fun y=>bif !y then some false else self (Go.IntKind.i64.wrap (acc.1 + 1),()) else some true
theorem Zcu (L m:Nat)(x0:Zr)(x1:Zr):Ie L (m + 1) (x0,x1,())=bif x0.1 != x1.1 || !x0.2 == x1.2 || x0.3 != x1.3 || (↑x0.4.length:Int) != (↑x1.4.length:Int) then some false else Zt (Hl m x0 x1 L) L (0,()):=by kernel_rfl
def GI (L:Nat)(x:Zr×PUnit):Option Bool:=fT [PY L] L ZaS [] (.one .bool) [.row 8] x
def ZcT (L:Nat):Sum tT:=mU 145 [.row 8] (.one .bool) (GI L)
theorem ZjU:SX ZcT:=fun h=>sT h (Zj (Zc9 h) ZQ) rfl (by kernel_rfl) fun _=>rfl
theorem Zjo (L:Nat)(x0:Zr):GI L (x0,())=bT (OY L (x0,Zr.mk 0 [] 0 [],())) fun y=>some y:=by kernel_rfl
def H6 (L:Nat)(x:YE×PUnit):Option Bool:=fT [OW L,ZcT L] L Fe [] (.one .bool) [.row 15] x
def CS (L:Nat):Sum tT:=mU 106 [.row 15] (.one .bool) (H6 L)
theorem ZhO:SX CS:=fun h=>sT h (Zj (PW h) (Zj (ZjU h) ZQ)) rfl (by kernel_rfl) fun _=>rfl
theorem Zhw (L:Nat)(x0:YE):H6 L (x0,())=bT (ZM Hm x0.1) fun y=>bT (bif ((y.2 != 0 || x0.2 == 0) && (y.3 != 0 || x0.3 == 0) && (y.4 || x0.4 == 0)) == true then bif y.5 == false then bT (GI L (x0.5,())) fun y=>some y else some true else some false) fun y_1=>bT (bif y_1 == true then bif y.6 == false then bT (GI L (x0.6,())) fun y=>some y else some true else some false) fun y_2=>bT (bif (y_2 && (y.7 || (↑x0.7.length:Int) == 0)) == true then bif y.8 == false then bT (Vy L (x0.8,YT.mk 0 0 0 0 [] [],())) fun y=>some y else some true else some false) fun y_3=>some (y_3 && (y.9 || !x0.9)):=by kernel_rfl
def YS (L:Nat)(x:Xm×YE×PUnit):Option Int:=fT [Hz L,Gz L,Me L,Hy L,ZeE L,Xp L,CS L,RI L] L UC [.rnd [.slot 103 (.int .i64)]] (.one (.int .i64)) [.row 24,.row 15] x
def UM (L:Nat):Sum tT:=mU 57 [.row 24,.row 15] (.one (.int .i64)) (YS L)
theorem BP:SX UM:=fun h=>sT h (Zj (Rw h) (Zj (PS h) (Zj (Zaz h) (Zj (Eb h) (Zj (ZmI h) (Zj (VW h) (Zj (ZhO h) (Zj (Cm h) ZQ)))))))) rfl (by kernel_rfl) fun _=>rfl
def YF:Xm→YE→Nat→Iq→List Zr→(Int×PUnit→Option Int)→Int×PUnit→Option Int:=fun x0 x1 L y y_1 self acc=>bif decide (acc.1 < (↑y_1.length:Int)) then bT (ZM y_1 acc.1) fun y=>bT (Qd L (y,())) fun y_2=>bif y_2 != 0 then some y_2 else bT (WW L (x0,y,())) fun y=>bif !y then some 2 else self (Go.IntKind.i64.wrap (acc.1 + 1),()) else bif y.8 then bT (Qq L (x1.8,())) fun y=>some y else some 0
def JW:Xm→YE→Nat→Iq→List Zr→(Int×PUnit→Option Int)→Int×PUnit→Option Int:=fun x0 x1 L y y_1 self acc=>bif decide (acc.1 < (↑y_1.length:Int)) then bT (ZM y_1 acc.1) fun y=>bT (Qd L (y,())) fun y_2=>bif y_2 != 0 then some y_2 else bT (WW L (x0,y,())) fun y=>bif !y then some 2 else self (Go.IntKind.i64.wrap (acc.1 + 1),()) else bif y.8 then bT (Qq L (x1.8,())) fun y=>some y else some 0
def JX:Xm→YE→Nat→Iq→List Zr→(Int×PUnit→Option Int)→Int×PUnit→Option Int:=fun x0 x1 L y y_1 self acc=>bif decide (acc.1 < (↑y_1.length:Int)) then bT (ZM y_1 acc.1) fun y=>bT (Qd L (y,())) fun y_2=>bif y_2 != 0 then some y_2 else bT (WW L (x0,y,())) fun y=>bif !y then some 2 else self (Go.IntKind.i64.wrap (acc.1 + 1),()) else bif y.8 then bT (Qq L (x1.8,())) fun y=>some y else some 0
theorem BO (L:Nat)(x0:Xm)(x1:YE):YS L (x0,x1,())=bT (Un L (x1.1,())) fun y=>bT (bif (!y) == false then bT (H6 L (x1,())) fun y=>some !y else some true) fun y=>bif y then some 1 else bT (ZM Hm x1.1) fun y=>bT (ZV L (x0,y.2,x1.2,0,())) fun y_1=>bif !y_1 && y.2 != 0 then some 2 else bif x1.1 == 14 then bT (Bv L (x0.1,x0.2,x1.2,())) fun y_2=>bif !y_2.2.1 || y_2.1 != x1.4 then some 16 else bT (ZV L (x0,10,x1.3,x1.2,())) fun y_3=>bif !y_3 then some 2 else bT (ZM x0.p.2 x1.2) fun y_4=>bT (ZM y_4.2 x1.3) fun y_5=>bif (↑x1.7.length:Int) != y_5.2 then some 8 else bT (WF L (x1,())) fun y_6=>Zt (YF x0 x1 L y y_6) L (0,()) else bif x1.1 == 15 then bT (ZV L (x0,10,x1.3,x0.2,())) fun y_2=>bif !y_2 then some 2 else bT (ZM x0.p.2 x0.2) fun y_3=>bT (ZM y_3.2 x1.3) fun y_4=>bif (↑x1.7.length:Int) != y_4.2 then some 8 else bT (WF L (x1,())) fun y_5=>Zt (JW x0 x1 L y y_5) L (0,()) else bT (bif (y.3 != 0) == true then bT (ZV L (x0,y.3,x1.3,0,())) fun y=>some !y else some false) fun y_2=>bif y_2 then some 2 else bT (WF L (x1,())) fun y_3=>Zt (JX x0 x1 L y y_3) L (0,()):=by kernel_rfl
end Go.Proofs.YtgjcjbhhhlelnaaGreatDoor
end
noncomputable section
namespace Go.Proofs.YtgjcjbhhhlelnaaGreatDoor
open Go Go.Proofs.YtgjcjbhhhlelnaaGreatDoor.Abs Go.Proofs.YtgjcjbhhhlelnaaGreatDoor.Tl
set_option maxRecDepth 100000
set_option maxHeartbeats 0
def Y0 (L:Nat)(x:Zk×Int×YX×PUnit):Option Int:=fT [UM L,WO L] L BU [.rnd [.slot 66 (.int .i64)]] (.one (.int .i64)) [.row 19,.int .i64,.row 16] x
def DL (L:Nat):Sum tT:=mU 37 [.row 19,.int .i64,.row 16] (.one (.int .i64)) (Y0 L)
theorem Zd9:SX DL:=fun h=>sT h (Zj (BP h) (Zj (Ql h) ZQ)) rfl (by kernel_rfl) fun _=>rfl
def VN:Zk→Int→YX→Nat→(Int×PUnit→Option Int)→Int×PUnit→Option Int:=fun x0 x1 x2 L self acc=>bif decide (acc.1 < (↑x2.4.length:Int)) then bT (ZM x2.4 acc.1) fun y=>bT (YS L (Xm.mk x0 x1 x2,y,())) fun y=>bif y != 0 then some y else self (Go.IntKind.i64.wrap (acc.1 + 1),()) else bT (ZM x2.4 (Go.IntKind.i64.wrap ((↑x2.4.length:Int) - 1))) fun y=>bif y.1 != 19 && y.1 != 4 then some 8 else some 0
theorem DF (L:Nat)(x0:Zk)(x1:Int)(x2:YX):Y0 L (x0,x1,x2,())=bif decide (x1 < 0) || decide (x1 ≥ (↑x0.2.length:Int)) then some 2 else bT (ZJ L (x2.1,())) fun y=>bif y != 0 then some y else bif decide (x2.2 < 0) || decide (x2.2 > x2.3) || decide (x2.2 > 6) || decide (x2.3 > 16) then some 2 else bif (↑x2.4.length:Int) == 0 then some 7 else bif decide ((↑x2.4.length:Int) > 1000) then some 6 else Zt (VN x0 x1 x2 L) L (0,()):=by kernel_rfl
def GH (L:Nat)(x:Zk×PUnit):Option Int:=fT [] L ZaR [.rnd [.slot 15 (.int .i64),.cont 1 (.map (.pint .i64))]] (.one (.int .i64)) [.row 19] x
def ZcS (L:Nat):Sum tT:=mU 36 [.row 19] (.one (.int .i64)) (GH L)
theorem ZjT:SX ZcS:=fun h=>sT h ZQ rfl (by kernel_rfl) fun _=>rfl
def Ub:Zk→(Int×List (Int×Int)×PUnit→Option Int)→Int×List (Int×Int)×PUnit→Option Int:=fun x0 self acc=>bif decide (acc.1 < (↑x0.3.length:Int)) then bT (ZM x0.3 acc.1) fun y=>bif decide ((if y.2 < y.1 then y.2 else y.1) < 0) || decide ((if y.2 > y.1 then y.2 else y.1) ≥ (↑x0.2.length:Int)) || y.1 == y.2 then some 2 else bif decide (y.3 < 1) || decide (y.3 > 1000000000) then some 2 else bif hasK (MK.pint Go.IntKind.i64) acc.2.1 (y.1,y.2) then some 4 else self (Go.IntKind.i64.wrap (acc.1 + 1),FK (MK.pint Go.IntKind.i64) acc.2.1 (y.1,y.2),()) else some 0
theorem Zjn (L:Nat)(x0:Zk):GH L (x0,())=bif decide ((↑x0.3.length:Int) > 32) then some 6 else Zt (Ub x0) L (0,[],()):=by kernel_rfl
def GG (L:Nat)(x:YX×ZR×PUnit):Option Bool:=fT [] L La [] (.one .bool) [.row 16,.row 10] x
def RH (L:Nat):Sum tT:=mU 56 [.row 16,.row 10] (.one .bool) (GG L)
theorem Zc8:SX RH:=fun h=>sT h ZQ rfl (by kernel_rfl) fun _=>rfl
theorem Zct (L:Nat)(x0:YX)(x1:ZR):GG L (x0,x1,())=some (x0.1 == x1.1 && x0.2 == (↑x1.2.length:Int) && (↑x1.4.length:Int) == 0):=by kernel_rfl
def Zdu:List (Inl tT):=[⟨55,Ya,[.rnd [.slot 17 (.int .i64)]],.one (.bool),[]⟩]
def Kw (L:Nat)(x:ZK×PUnit):Option Bool:=fI [RH L] L Zdu Nz [] (.one .bool) [.row 17] x
def Em (L:Nat):Sum tT:=mU 35 [.row 17] (.one .bool) (Kw L)
theorem ZfT:SX Em:=fun h=>sI h (Zj (Zc8 h) ZQ) (Zj ⟨h.T _ _ rfl,by kernel_rfl⟩ ZQ) rfl (by kernel_rfl) fun _=>rfl
def JK:ZK→Nat→(Int×PUnit→Option Bool)→Int×PUnit→Option Bool:=fun x0 L self acc=>bif decide (acc.1 < (↑x0.2.length:Int)) then bT (ZM x0.2 acc.1) fun y=>bT (ZM x0.Decl.11 acc.1) fun y_1=>bT (GG L (y,y_1,())) fun y=>bif !y then some false else self (Go.IntKind.i64.wrap (acc.1 + 1),()) else some true
theorem SL (L:Nat)(x0:ZK):Kw L (x0,())=bT (bif (↑x0.2.length:Int) != (↑x0.Decl.11.length:Int) then some false else Zt (JK x0 L) L (0,())) fun y=>some y:=by kernel_rfl
def ZE (L:Nat)(x:Int×Int×Int×PUnit):Option Bool:=fT [] L Dq [] (.one .bool) [.int .i64,.int .i64,.int .i64] x
def Qu (L:Nat):Sum tT:=mU 78 [.int .i64,.int .i64,.int .i64] (.one .bool) (ZE L)
theorem Xd:SX Qu:=fun h=>sT h ZQ rfl (by kernel_rfl) fun _=>rfl
theorem Zd3 (L:Nat)(x0:Int)(x1:Int)(x2:Int):ZE L (x0,x1,x2,())=some (decide (x0 ≥ x1) && decide (x0≤x2)):=by kernel_rfl
def Zfg:List (Inl tT):=[⟨143,YC,[.rnd [.slot 8 (.int .i64)]],.one (.int .i64),[]⟩,⟨144,BV,[],.one (.bool),[]⟩]
def RU (L:Nat)(x:QC×(List UInt8)×PUnit):Option Int:=fI [] L Zfg Fp [] (.one (.int .i64)) [.row 21,.str] x
def CY (L:Nat):Sum tT:=mU 104 [.row 21,.str] (.one (.int .i64)) (RU L)
theorem ZhS:SX CY:=fun h=>sI h ZQ (Zj ⟨h.T _ _ rfl,by kernel_rfl⟩ (Zj ⟨h.T _ _ rfl,by kernel_rfl⟩ ZQ)) rfl (by kernel_rfl) fun _=>rfl
def Zdx:List (Inl tT):=[⟨102,Jt,[.rnd [.slot 16 (.int .i64),.cont 1 (.map .pstr)]],.one (.int .i64),[(3,[.cont 1 (.map .pstr)])]⟩,⟨103,Lm,[],.one (.int .i64),[(4,[.cont 1 (.map .pstr)])]⟩]
def KA (L:Nat)(x:QC×PUnit):Option Int:=fI [Qu L,CY L] L Zdx NH [] (.one (.int .i64)) [.row 21] x
def Es (L:Nat):Sum tT:=mU 54 [.row 21] (.one (.int .i64)) (KA L)
theorem ZfX:SX Es:=fun h=>sI h (Zj (Xd h) (Zj (ZhS h) ZQ)) (Zj ⟨h.T _ _ rfl,by kernel_rfl⟩ (Zj ⟨h.T _ _ rfl,by kernel_rfl⟩ ZQ)) rfl (by kernel_rfl) fun _=>rfl
def DC:QC→Nat→(Int×List (List UInt8×List UInt8)×PUnit→Option (Int×List (List UInt8×List UInt8)×PUnit))→Int×List (List UInt8×List UInt8)×PUnit→Option (Int×List (List UInt8×List UInt8)×PUnit):=fun x0 L self acc=>bif decide (acc.1 < (↑x0.4.length:Int)) then bT (ZM x0.4 acc.1) fun y=>bT (bT (RU L (x0,y.1,())) fun y_1=>bT (bif decide (y_1 < 0) == false then bT (RU L (x0,y.2,())) fun y=>some (decide (y < 0)) else some true) fun y_2=>bif y_2 then some (5,acc.2.1,()) else bif y.1 == y.2 then some (1,acc.2.1,()) else bT (ZE L (y.3,1,1000000000,())) fun y_3=>bif !y_3 then some (2,acc.2.1,()) else bif hasK MK.pstr acc.2.1 (y.1,y.2) then some (4,acc.2.1,()) else some (0,FK MK.pstr acc.2.1 (y.1,y.2),())) fun y=>bif y.1 != 0 then some (y.1,y.2.1,()) else self (Go.IntKind.i64.wrap (acc.1 + 1),y.2.1,()) else some (0,acc.2.1,())
theorem ZfF (L:Nat)(x0:QC):KA L (x0,())=bT (bif decide ((↑x0.4.length:Int) > 32) then some (6,[],()) else Zt (DC x0 L) L (0,[],())) fun y=>some y.1:=by kernel_rfl
def WA (L:Nat)(x:(List (List UInt8))×(List UInt8)×PUnit):Option Int:=fT [] L QE [.rnd [.slot 8 (.int .i64)]] (.one (.int .i64)) [.lst 1 .str,.str] x
def QK (L:Nat):Sum tT:=mU 170 [.lst 1 .str,.str] (.one (.int .i64)) (WA L)
theorem Uk:SX QK:=fun h=>sT h ZQ rfl (by kernel_rfl) fun _=>rfl
def Wi:List (List UInt8)→List UInt8→(Int×PUnit→Option Int)→Int×PUnit→Option Int:=fun x0 x1 self acc=>bif decide (acc.1 < (↑x0.length:Int)) then bT (ZM x0 acc.1) fun y=>bif x1 == y then some acc.1 else self (Go.IntKind.i64.wrap (acc.1 + 1),()) else some (-1)
theorem Uf (L:Nat)(x0:(List (List UInt8)))(x1:(List UInt8)):WA L (x0,x1,())=Zt (Wi x0 x1) L (0,()):=by kernel_rfl
def Yb (L:Nat)(x:(List (List UInt8))×(List UInt8)×PUnit):Option Bool:=fT [QK L] L Qe [] (.one .bool) [.lst 1 .str,.str] x
def YN (L:Nat):Sum tT:=mU 133 [.lst 1 .str,.str] (.one .bool) (Yb L)
theorem Qm:SX YN:=fun h=>sT h (Zj (Uk h) ZQ) rfl (by kernel_rfl) fun _=>rfl
theorem VV (L:Nat)(x0:(List (List UInt8)))(x1:(List UInt8)):Yb L (x0,x1,())=bT (WA L (x0,x1,())) fun y=>some (decide (y ≥ 0)):=by kernel_rfl
def Zam:List (Inl tT):=[⟨175,YJ,[.rnd [.slot 8 (.int .i64)]],.one (.int .i64),[]⟩,⟨176,IA,[],.one (.bool),[]⟩]
def WZ (L:Nat)(x:Zc×(List UInt8)×PUnit):Option Int:=fI [] L Zam Ll [] (.one (.int .i64)) [.row 14,.str] x
def G8 (L:Nat):Sum tT:=mU 136 [.row 14,.str] (.one (.int .i64)) (WZ L)
theorem Rx:SX G8:=fun h=>sI h ZQ (Zj ⟨h.T _ _ rfl,by kernel_rfl⟩ (Zj ⟨h.T _ _ rfl,by kernel_rfl⟩ ZQ)) rfl (by kernel_rfl) fun _=>rfl
def U3:Zc→List UInt8→(Int×PUnit→Option Int)→Int×PUnit→Option Int:=fun x0 x1 self acc=>bif decide (acc.1 < (↑x0.11.length:Int)) then bT (ZM x0.11 acc.1) fun y=>bif y.1 == x1 then some acc.1 else self (Go.IntKind.i64.wrap (acc.1 + 1),()) else some (-1)
theorem Zcv (L:Nat)(x0:Zc)(x1:(List UInt8)):WZ L (x0,x1,())=bT (Zt (U3 x0 x1) L (0,())) fun y=>some y:=by kernel_rfl
def Zfj:List (Inl tT):=[⟨177,Yy,[],.one (.bool),[]⟩,⟨198,Y6,[.rnd [.slot 8 (.int .i64)]],.one (.int .i64),[]⟩,⟨178,Dp,[],.one (.bool),[]⟩]
end Go.Proofs.YtgjcjbhhhlelnaaGreatDoor
end
noncomputable section
namespace Go.Proofs.YtgjcjbhhhlelnaaGreatDoor
open Go Go.Proofs.YtgjcjbhhhlelnaaGreatDoor.Abs Go.Proofs.YtgjcjbhhhlelnaaGreatDoor.Tl
set_option maxRecDepth 100000
set_option maxHeartbeats 0
def H9 (L:Nat)(x:Zc×I7×PUnit):Option Int:=fI [Qu L,YN L,G8 L] L Zfj F5 [] (.one (.int .i64)) [.row 14,.row 12] x
def Zab (L:Nat):Sum tT:=mU 141 [.row 14,.row 12] (.one (.int .i64)) (H9 L)
theorem ZhV:SX Zab:=fun h=>sI h (Zj (Xd h) (Zj (Qm h) (Zj (Rx h) ZQ))) (Zj ⟨h.T _ _ rfl,by kernel_rfl⟩ (Zj ⟨h.T _ _ rfl,by kernel_rfl⟩ (Zj ⟨h.T _ _ rfl,by kernel_rfl⟩ ZQ))) rfl (by kernel_rfl) fun _=>rfl
def XE:Zc→I7→(Int×PUnit→Option Int)→Int×PUnit→Option Int:=fun x0 x1 self acc=>bif decide (acc.1 < (↑x0.4.length:Int)) then bT (ZM x0.4 acc.1) fun y=>bif y.1 == x1.3 then some acc.1 else self (Go.IntKind.i64.wrap (acc.1 + 1),()) else some (-1)
def SB:Zc→I7→(Int×PUnit→Option Int)→Int×PUnit→Option Int:=fun x0 x1 self acc=>bif decide (acc.1 < (↑x0.4.length:Int)) then bT (ZM x0.4 acc.1) fun y=>bif y.1 == x1.3 then some acc.1 else self (Go.IntKind.i64.wrap (acc.1 + 1),()) else some (-1)
def SC:Zc→I7→(Int×PUnit→Option Int)→Int×PUnit→Option Int:=fun x0 x1 self acc=>bif decide (acc.1 < (↑x0.4.length:Int)) then bT (ZM x0.4 acc.1) fun y=>bif y.1 == x1.3 then some acc.1 else self (Go.IntKind.i64.wrap (acc.1 + 1),()) else some (-1)
theorem Zh5 (L:Nat)(x0:Zc)(x1:I7):H9 L (x0,x1,())=bif x1.2 == [99,114,101,97,116,101,100] then bT (WZ L (x0,x1.3,())) fun y=>bif !decide (y ≥ 0) then some 5 else bT (ZE L (x1.1,(-1000),1000,())) fun y=>bif !y || x1.1 == 0 then some 2 else some 0 else bif x1.2 == [101,110,100,101,100] then bT (WZ L (x0,x1.3,())) fun y=>bif !decide (y ≥ 0) then some 5 else bT (ZE L (x1.1,(-1000),1000,())) fun y=>bif !y || x1.1 == 0 then some 2 else some 0 else bif x1.2 == [105,110,115,105,100,101] then bT (WZ L (x0,x1.3,())) fun y=>bif !decide (y ≥ 0) then some 5 else bT (ZE L (x1.1,(-1000),1000,())) fun y=>bif !y || x1.1 == 0 then some 2 else some 0 else bif x1.2 == [115,116,111,114,101,100] then bT (bT (Zt (XE x0 x1) L (0,())) fun y=>some (decide (y ≥ 0))) fun y=>bif !y then some 5 else bT (ZE L (x1.1,(-1000),1000,())) fun y=>bif !y || x1.1 == 0 then some 2 else some 0 else bif x1.2 == [101,110,116,101,114,101,100] then bT (bT (Zt (SB x0 x1) L (0,())) fun y=>some (decide (y ≥ 0))) fun y=>bif !y then some 5 else bT (ZE L (x1.1,(-1000),1000,())) fun y=>bif !y || x1.1 == 0 then some 2 else some 0 else bif x1.2 == [108,101,102,116] then bT (bT (Zt (SC x0 x1) L (0,())) fun y=>some (decide (y ≥ 0))) fun y=>bif !y then some 5 else bT (ZE L (x1.1,(-1000),1000,())) fun y=>bif !y || x1.1 == 0 then some 2 else some 0 else bif x1.2 == [99,111,117,110,116,101,100] then bT (Yb L (x0.10,x1.3,())) fun y=>bif !y then some 5 else bT (ZE L (x1.1,(-1000),1000,())) fun y=>bif !y || x1.1 == 0 then some 2 else some 0 else some 1:=by kernel_rfl
def Zfh:List (Inl tT):=[⟨137,Ua,[.rnd [.slot 16 (.int .i64),.cont 1 (.map .str)]],.one (.int .i64),[(3,[.cont 1 (.map .str)])]⟩,⟨138,BX,[],.one (.int .i64),[(4,[.cont 1 (.map .str)])]⟩,⟨139,Ju,[.rnd [.slot 16 (.int .i64),.cont 1 (.map .str)]],.one (.int .i64),[(5,[.cont 1 (.map .str)])]⟩,⟨140,TL,[],.one (.int .i64),[]⟩,⟨52,Wp,[],.one (.int .i64),[(5,[.cont 1 (.map .str)])]⟩]
def H7 (L:Nat)(x:Zc×PUnit):Option Int:=fI [ZaN L,Zab L,WO L] L Zfh Fv [] (.one (.int .i64)) [.row 14] x
def CZ (L:Nat):Sum tT:=mU 101 [.row 14] (.one (.int .i64)) (H7 L)
theorem ZhT:SX CZ:=fun h=>sI h (Zj (ZfZ h) (Zj (ZhV h) (Zj (Ql h) ZQ))) (Zj ⟨h.T _ _ rfl,by kernel_rfl⟩ (Zj ⟨h.T _ _ rfl,by kernel_rfl⟩ (Zj ⟨h.T _ _ rfl,by kernel_rfl⟩ (Zj ⟨h.T _ _ rfl,by kernel_rfl⟩ (Zj ⟨h.T _ _ rfl,by kernel_rfl⟩ ZQ))))) rfl (by kernel_rfl) fun _=>rfl
def UW:Zc→Nat→Zdi→(Int×List (List UInt8)×PUnit→Option (Int×List (List UInt8)×PUnit))→Int×List (List UInt8)×PUnit→Option (Int×List (List UInt8)×PUnit):=fun x0 L y self acc=>bif decide (acc.1 < (↑y.2.length:Int)) then bT (ZM y.2 acc.1) fun y=>bT (bT (H9 L (x0,y,())) fun y=>some y) fun y=>bif y != 0 then some (y,acc.2.1,()) else self (Go.IntKind.i64.wrap (acc.1 + 1),acc.2.1,()) else some (0,acc.2.1,())
def UX:Zc→Nat→(Int×List (List UInt8)×PUnit→Option (Int×List (List UInt8)×PUnit))→Int×List (List UInt8)×PUnit→Option (Int×List (List UInt8)×PUnit):=fun x0 L self acc=>bif decide (acc.1 < (↑x0.13.length:Int)) then bT (ZM x0.13 acc.1) fun y=>bT (bT (bT (ZJ L (y.1,())) fun y_1=>bif y_1 != 0 then some (y_1,acc.2.1,()) else bif hasK MK.str acc.2.1 y.1 then some (4,acc.2.1,()) else some (0,FK MK.str acc.2.1 y.1,())) fun y_1=>bif y_1.1 != 0 then some (y_1.1,y_1.2.1,()) else bif (↑y.2.length:Int) == 0 then some (7,y_1.2.1,()) else bT (bif decide ((↑y.2.length:Int) > 8) then some (6,y_1.2.1,()) else Zt (UW x0 L y) L (0,y_1.2.1,())) fun y_2=>bif y_2.1 != 0 then some (y_2.1,y_2.2.1,()) else bT (Bz L (y.3,())) fun y=>bif !y then some (2,y_2.2.1,()) else some (0,y_2.2.1,())) fun y=>bif y.1 != 0 then some (y.1,y.2.1,()) else self (Go.IntKind.i64.wrap (acc.1 + 1),y.2.1,()) else some (0,acc.2.1,())
theorem Zh3 (L:Nat)(x0:Zc):H7 L (x0,())=bT (bif decide ((↑x0.13.length:Int) > 32) then some (6,[],()) else Zt (UX x0 L) L (0,[],())) fun y=>some y.1:=by kernel_rfl
def VF (L:Nat)(x:Int×Int×PUnit):Option Bool:=fT [Qu L,ZaN L] L Fq [] (.one .bool) [.int .i64,.int .i64] x
def H5 (L:Nat):Sum tT:=mU 131 [.int .i64,.int .i64] (.one .bool) (VF L)
theorem Ry:SX H5:=fun h=>sT h (Zj (Xd h) (Zj (ZfZ h) ZQ)) rfl (by kernel_rfl) fun _=>rfl
theorem Zh2 (L:Nat)(x0:Int)(x1:Int):VF L (x0,x1,())=bif x0 == 1 then bT (Bz L (x1,())) fun y=>some y else bif x0 == 2 then some (x1 == 0 || x1 == 1) else bif x0 == 3 then bT (ZE L (x1,0,1000000000,())) fun y=>some y else some false:=by kernel_rfl
def KC (L:Nat)(x:Zc×Xi×PUnit):Option Int:=fT [Qu L,H5 L,G8 L] L NI [.rnd [.slot 30 (.int .i64)]] (.one (.int .i64)) [.row 14,.row 11] x
def Et (L:Nat):Sum tT:=mU 99 [.row 14,.row 11] (.one (.int .i64)) (KC L)
theorem ZfY:SX Et:=fun h=>sT h (Zj (Xd h) (Zj (Ry h) (Zj (Rx h) ZQ))) rfl (by kernel_rfl) fun _=>rfl
def JM:Xi→Nat→ZR→(Int×PUnit→Option Int)→Int×PUnit→Option Int:=fun x1 L y self acc=>bif decide (acc.1 < (↑x1.2.length:Int)) then bT (ZM x1.2 acc.1) fun y_1=>bT (ZM y.2 acc.1) fun y=>bT (VF L (y.2,y_1,())) fun y=>bif !y then some 2 else self (Go.IntKind.i64.wrap (acc.1 + 1),()) else bT (ZE L (x1.3,0,1000000000,())) fun y=>bT (bif (!y) == false then bT (ZE L (x1.4,0,1000000000,())) fun y=>some !y else some true) fun y=>bT (bif y == false then bT (ZE L (x1.5,0,1000000000,())) fun y=>some !y else some true) fun y=>bif y || x1.4 == 0 && x1.5 != 0 then some 2 else some 0
theorem ZfG (L:Nat)(x0:Zc)(x1:Xi):KC L (x0,x1,())=bT (WZ L (x0,x1.1,())) fun y=>bif decide (y < 0) then some 5 else bT (ZM x0.11 y) fun y=>bif (↑x1.2.length:Int) != (↑y.2.length:Int) then some 8 else Zt (JM x1 L y) L (0,()):=by kernel_rfl
def Uo (L:Nat)(x:Zr×PUnit):Option Int:=fT [Vu L] L Fh [] (.one (.int .i64)) [.row 8] x
def CU (L:Nat):Sum tT:=mU 208 [.row 8] (.one (.int .i64)) (Uo L)
theorem ZhP:SX CU:=fun h=>sT h (Zj (Gw h) ZQ) rfl (by kernel_rfl) fun _=>rfl
theorem Zhz (L:Nat)(x0:Zr):Uo L (x0,())=bT (WX L (Qz.mk false,x0,())) fun y=>some y:=by kernel_rfl
def Ic (L:Nat)(x:Z7×KQ×PUnit):Option Int:=fT [Hz L,CU L,WO L] L FI [.rnd [.slot 4 (.int .i64),.slot 26 (.int .i64)],.rnd [.slot 4 (.int .i64),.slot 53 (.int .i64)],.rnd [.slot 74 (.int .i64)]] (.one (.int .i64)) [.row 9,.row 26] x
def RP (L:Nat):Sum tT:=mU 197 [.row 9,.row 26] (.one (.int .i64)) (Ic L)
theorem C9:SX RP:=fun h=>sT h (Zj (Rw h) (Zj (ZhP h) (Zj (Ql h) ZQ))) rfl (by kernel_rfl) fun _=>rfl
def Ku:Z7→KQ→Nat→(Int×PUnit→Option Int)→Int×PUnit→Option Int:=fun x0 x1 L self acc=>bif decide (acc.1 < (↑x0.6.length:Int)) then bT (ZM x0.6 acc.1) fun y=>bT (Uo L (y,())) fun y=>bif y != 0 then some y else self (Go.IntKind.i64.wrap (acc.1 + 1),()) else bif x1.6 then bT (Qq L (x0.7,())) fun y=>some y else some 0
def OV:Z7→KQ→Nat→Int×Int×PUnit→(Int×Int×PUnit→Option Int)→Int×Int×PUnit→Option Int:=fun x0 x1 L acc self acc_1=>bif decide (acc_1.2.1 < (↑[Oq.mk x1.3 x0.4,Oq.mk x1.4 x0.5].length:Int)) then bT (ZM [Oq.mk x1.3 x0.4,Oq.mk x1.4 x0.5] acc_1.2.1) fun y=>bif !y.1 then self (acc_1.1,Go.IntKind.i64.wrap (acc_1.2.1 + 1),()) else bT (Uo L (y.2,())) fun y=>bif y != 0 then some y else self (acc_1.1,Go.IntKind.i64.wrap (acc_1.2.1 + 1),()) else bif decide ((↑x0.6.length:Int) > 6) then some 6 else Zt (Ku x0 x1 L) L (0,())
def Eh:Z7→KQ→Nat→(Int×Int×PUnit→Option Int)→Int×Int×PUnit→Option Int:=fun x0 x1 L self acc=>bif decide (acc.2.1 < (↑[Ot.mk x1.1 x0.2,Ot.mk x1.2 x0.3].length:Int)) then bT (ZM [Ot.mk x1.1 x0.2,Ot.mk x1.2 x0.3] acc.2.1) fun y=>bT (ZJ L (y.2,())) fun y_1=>bif y.1 && y_1 != 0 then some y_1 else self (acc.1,Go.IntKind.i64.wrap (acc.2.1 + 1),()) else Zt (OV x0 x1 L acc) L (acc.1,0,())
theorem ZhH (L:Nat)(x0:Z7)(x1:KQ):Ic L (x0,x1,())=Zt (Eh x0 x1 L) L (0,0,()):=by kernel_rfl
def Jf (L:Nat)(x:Zr×PUnit):Option Bool:=fT [PY L] L NS [] (.one .bool) [.row 8] x
def Ew (L:Nat):Sum tT:=mU 207 [.row 8] (.one .bool) (Jf L)
theorem Zga:SX Ew:=fun h=>sT h (Zj (Zc9 h) ZQ) rfl (by kernel_rfl) fun _=>rfl
theorem ZfN (L:Nat)(x0:Zr):Jf L (x0,())=bT (OY L (x0,Zr.mk 0 [] 0 [],())) fun y=>some y:=by kernel_rfl
def Tv (L:Nat)(x:Z7×KQ×PUnit):Option Bool:=fT [OW L,Ew L] L Zbv [] (.one .bool) [.row 9,.row 26] x
def Nj (L:Nat):Sum tT:=mU 196 [.row 9,.row 26] (.one .bool) (Tv L)
theorem ZcD:SX Nj:=fun h=>sT h (Zj (PW h) (Zj (Zga h) ZQ)) rfl (by kernel_rfl) fun _=>rfl
theorem ZjJ (L:Nat)(x0:Z7)(x1:KQ):Tv L (x0,x1,())=bT (bif ((x1.1 || x0.2 == []) && (x1.2 || x0.3 == [])) == true then bif x1.3 == false then bT (Jf L (x0.4,())) fun y=>some y else some true else some false) fun y=>bT (bif y == true then bif x1.4 == false then bT (Jf L (x0.5,())) fun y=>some y else some true else some false) fun y=>bT (bif (y && (x1.5 || (↑x0.6.length:Int) == 0)) == true then bif x1.6 == false then bT (Vy L (x0.7,YT.mk 0 0 0 0 [] [],())) fun y=>some y else some true else some false) fun y=>some (y && (x1.7 || !x0.8) && (x1.8 || (↑x0.9.length:Int) == 0) && (x1.9 || (↑x0.10.length:Int) == 0)):=by kernel_rfl
def Tz (L:Nat)(x:Int×PUnit):Option (KQ×Bool×PUnit):=fT [] L Zbw [] (.tup [.row 26,.bool]) [.int .i64] x
def Nk (L:Nat):Sum tT:=mU 195 [.int .i64] (.tup [.row 26,.bool]) (Tz L)
theorem ZcE:SX Nk:=fun h=>sT h ZQ rfl (by kernel_rfl) fun _=>rfl
theorem ZjK (L:Nat)(x0:Int):Tz L (x0,())=bif x0 == 1 then some (KQ.mk true false true false false false false false false,true,()) else bif x0 == 7 then some (KQ.mk true false true false false false false false false,true,()) else bif x0 == 8 then some (KQ.mk true false true false false false false false false,true,()) else bif x0 == 12 then some (KQ.mk true false true false false false false false false,true,()) else bif x0 == 15 then some (KQ.mk true false true false false false false false false,true,()) else bif x0 == 16 then some (KQ.mk true false true false false false false false false,true,()) else bif x0 == 17 then some (KQ.mk true false true false false false false false false,true,()) else bif x0 == 2 then some (KQ.mk true true false false false true false false false,true,()) else bif x0 == 3 then some (KQ.mk false false true false false false false true true,true,()) else bif x0 == 4 then some (KQ.mk false false true false false false false true false,true,()) else bif x0 == 5 then some (KQ.mk false false true false false false false false false,true,()) else bif x0 == 6 then some (KQ.mk true false true true false false true false false,true,()) else bif x0 == 9 then some (KQ.mk true true false false false false false false false,true,()) else bif x0 == 10 then some (KQ.mk true false false false false false false false false,true,()) else bif x0 == 11 then some (KQ.mk true false false false false false false false false,true,()) else bif x0 == 13 then some (KQ.mk true true true false true false false false false,true,()) else bif x0 == 14 then some (KQ.mk true false true false true false false false false,true,()) else bif x0 == 18 then some (KQ.mk false false false false false false false false false,true,()) else some (KQ.mk false false false false false false false false false,false,()):=by kernel_rfl
def OO (L:Nat):Nat→List (Sum tT)
 | 0=>[⟨174,[.lst 21 (.row 9)],fun _=>.par _ none ((.one (.int .i64):RD).tv tT)⟩]
 | m + 1=>[⟨174,[.lst 21 (.row 9)],fun x=>.par _ (fnT tF tG (qOf tF (OO L m ++ [RP L,Nj L,Nk L])) 0 L LD [.rnd [.slot 12 (.int .i64)]] (.one (.int .i64)) (tvL tT [.lst 21 (.row 9)] x) []) ((.one (.int .i64):RD).tv tT)⟩]
theorem Mc {C:Cfg}{L:Nat}(h:St C L):∀ m,∀ s ∈ OO L m,Jj C s
 | 0=>(Zj (Hw _ _ _) ZQ)
 | m + 1=>have ih:=Mc h m
  (Zj (Xg Q7 h.L h.G (VT Q7 (BG ih (Zj (C9 h) (Zj (ZcD h) (Zj (ZcE h) ZQ))))) [.rnd [.slot 12 (.int .i64)]] (h.T _ _ rfl) (by kernel_rfl) fun _=>rfl) ZQ)
def Ji (L m:Nat)(x:(List Z7)×PUnit):Option (Int):=fnT tF tG (qOf tF (OO L m ++ [RP L,Nj L,Nk L])) 0 L LD [.rnd [.slot 12 (.int .i64)]] (.one (.int .i64)) (tvL tT [.lst 21 (.row 9)] x) []
def RY (L:Nat)(x:(List Z7)×PUnit):Option (Int):=Ji L L x
def Zag (L:Nat):Sum tT:=⟨174,[.lst 21 (.row 9)],fun x=>.par ((.one (.int .i64):RD).Ty tT) (RY L x) ((.one (.int .i64):RD).tv tT)⟩
theorem ZhZ {C:Cfg}{L:Nat}(h:St C L):Jj C (Zag L):=have ih:=Mc h L
 Xg Q7 h.L h.G (VT Q7 (BG ih (Zj (C9 h) (Zj (ZcD h) (Zj (ZcE h) ZQ))))) [.rnd [.slot 12 (.int .i64)]] (h.T _ _ rfl) (by kernel_rfl) fun _=>rfl
def OU:Nat→List Z7→Nat→(Int×PUnit→Option Int)→Int×PUnit→Option Int:=fun (m:Nat)=>fun x0 L self acc=>bif decide (acc.1 < (↑x0.length:Int)) then bT (ZM x0 acc.1) fun y=>bT (Tz L (y.1,())) fun y_1=>bT (bif (!y_1.2.1) == false then bT (Tv L (y,y_1.1,())) fun y=>some !y else some true) fun y_2=>bif y_2 then some 1 else bT (Ic L (y,y_1.1,())) fun y_3=>bif y_3 != 0 then some y_3 else bT (Ji L m (y.9,())) fun y_4=>bif y_4 != 0 then some y_4 else bT (Ji L m (y.10,())) fun y=>bif y != 0 then some y else self (Go.IntKind.i64.wrap (acc.1 + 1),()) else some 0
theorem ZhG (L m:Nat)(x0:(List Z7)):Ji L (m + 1) (x0,())=Zt (OU m x0 L) L (0,()):=by kernel_rfl
end Go.Proofs.YtgjcjbhhhlelnaaGreatDoor
end
noncomputable section
namespace Go.Proofs.YtgjcjbhhhlelnaaGreatDoor
open Go Go.Proofs.YtgjcjbhhhlelnaaGreatDoor.Abs Go.Proofs.YtgjcjbhhhlelnaaGreatDoor.Tl
set_option maxRecDepth 100000
set_option maxHeartbeats 0
def OL (L:Nat):Nat→List (Sum tT)
 | 0=>[⟨173,[.lst 21 (.row 9)],fun _=>.par _ none ((.one (.int .i64):RD).tv tT)⟩]
 | m + 1=>[⟨173,[.lst 21 (.row 9)],fun x=>.par _ (fnT tF tG (qOf tF (OL L m ++ [])) 0 L LC [.rnd [.slot 3 (.int .i64),.slot 8 (.int .i64)]] (.one (.int .i64)) (tvL tT [.lst 21 (.row 9)] x) []) ((.one (.int .i64):RD).tv tT)⟩]
theorem TZ {C:Cfg}{L:Nat}(h:St C L):∀ m,∀ s ∈ OL L m,Jj C s
 | 0=>(Zj (Hw _ _ _) ZQ)
 | m + 1=>have ih:=TZ h m
  (Zj (Xg Q7 h.L h.G (VT Q7 (BG ih ZQ)) [.rnd [.slot 3 (.int .i64),.slot 8 (.int .i64)]] (h.T _ _ rfl) (by kernel_rfl) fun _=>rfl) ZQ)
def Jh (L m:Nat)(x:(List Z7)×PUnit):Option (Int):=fnT tF tG (qOf tF (OL L m ++ [])) 0 L LC [.rnd [.slot 3 (.int .i64),.slot 8 (.int .i64)]] (.one (.int .i64)) (tvL tT [.lst 21 (.row 9)] x) []
def RX (L:Nat)(x:(List Z7)×PUnit):Option (Int):=Jh L L x
def Zaf (L:Nat):Sum tT:=⟨173,[.lst 21 (.row 9)],fun x=>.par ((.one (.int .i64):RD).Ty tT) (RX L x) ((.one (.int .i64):RD).tv tT)⟩
theorem ZhY {C:Cfg}{L:Nat}(h:St C L):Jj C (Zaf L):=have ih:=TZ h L
 Xg Q7 h.L h.G (VT Q7 (BG ih ZQ)) [.rnd [.slot 3 (.int .i64),.slot 8 (.int .i64)]] (h.T _ _ rfl) (by kernel_rfl) fun _=>rfl
def OT:Nat→List Z7→Nat→(Int×Int×PUnit→Option Int)→Int×Int×PUnit→Option Int:=fun (m:Nat)=>fun x0 L self acc=>bif decide (acc.2.1 < (↑x0.length:Int)) then bT (ZM x0 acc.2.1) fun y=>bT (bT (Jh L m (y.9,())) fun y=>some y) fun y_1=>bT (bT (Jh L m (y.10,())) fun y=>some y) fun y=>self (if Go.IntKind.i64.wrap (1 + y) > if Go.IntKind.i64.wrap (1 + y_1) > acc.1 then Go.IntKind.i64.wrap (1 + y_1) else acc.1 then Go.IntKind.i64.wrap (1 + y) else if Go.IntKind.i64.wrap (1 + y_1) > acc.1 then Go.IntKind.i64.wrap (1 + y_1) else acc.1,Go.IntKind.i64.wrap (acc.2.1 + 1),()) else some acc.1
theorem ZhF (L m:Nat)(x0:(List Z7)):Jh L (m + 1) (x0,())=Zt (OT m x0 L) L (0,0,()):=by kernel_rfl
def OJ (L:Nat):Nat→List (Sum tT)
 | 0=>[⟨172,[.lst 21 (.row 9)],fun _=>.par _ none ((.one (.int .i64):RD).tv tT)⟩]
 | m + 1=>[⟨172,[.lst 21 (.row 9)],fun x=>.par _ (fnT tF tG (qOf tF (OJ L m ++ [])) 0 L L9 [.rnd [.slot 3 (.int .i64),.slot 10 (.int .i64)]] (.one (.int .i64)) (tvL tT [.lst 21 (.row 9)] x) []) ((.one (.int .i64):RD).tv tT)⟩]
theorem TY {C:Cfg}{L:Nat}(h:St C L):∀ m,∀ s ∈ OJ L m,Jj C s
 | 0=>(Zj (Hw _ _ _) ZQ)
 | m + 1=>have ih:=TY h m
  (Zj (Xg Q7 h.L h.G (VT Q7 (BG ih ZQ)) [.rnd [.slot 3 (.int .i64),.slot 10 (.int .i64)]] (h.T _ _ rfl) (by kernel_rfl) fun _=>rfl) ZQ)
def Jg (L m:Nat)(x:(List Z7)×PUnit):Option (Int):=fnT tF tG (qOf tF (OJ L m ++ [])) 0 L L9 [.rnd [.slot 3 (.int .i64),.slot 10 (.int .i64)]] (.one (.int .i64)) (tvL tT [.lst 21 (.row 9)] x) []
def RV (L:Nat)(x:(List Z7)×PUnit):Option (Int):=Jg L L x
def Zae (L:Nat):Sum tT:=⟨172,[.lst 21 (.row 9)],fun x=>.par ((.one (.int .i64):RD).Ty tT) (RV L x) ((.one (.int .i64):RD).tv tT)⟩
theorem ZhX {C:Cfg}{L:Nat}(h:St C L):Jj C (Zae L):=have ih:=TY h L
 Xg Q7 h.L h.G (VT Q7 (BG ih ZQ)) [.rnd [.slot 3 (.int .i64),.slot 10 (.int .i64)]] (h.T _ _ rfl) (by kernel_rfl) fun _=>rfl
def OQ:Nat→List Z7→Nat→(Int×Int×PUnit→Option Int)→Int×Int×PUnit→Option Int:=fun (m:Nat)=>fun x0 L self acc=>bif decide (acc.2.1 < (↑x0.length:Int)) then bT (ZM x0 acc.2.1) fun y=>bT (bT (Jg L m (y.9,())) fun y=>some y) fun y_1=>bT (bT (Jg L m (y.10,())) fun y=>some y) fun y=>self (Go.IntKind.i64.wrap (acc.1 + Go.IntKind.i64.wrap (y_1 + y)),Go.IntKind.i64.wrap (acc.2.1 + 1),()) else some acc.1
theorem ZhE (L m:Nat)(x0:(List Z7)):Jg L (m + 1) (x0,())=Zt (OQ m x0 L) L ((↑x0.length:Int),0,()):=by kernel_rfl
def Ib (L:Nat)(x:(List Z7)×PUnit):Option Int:=fT [Zag L,Zaf L,Zae L] L FH [] (.one (.int .i64)) [.lst 21 (.row 9)] x
def Zad (L:Nat):Sum tT:=mU 135 [.lst 21 (.row 9)] (.one (.int .i64)) (Ib L)
theorem ZhW:SX Zad:=fun h=>sT h (Zj (ZhZ h) (Zj (ZhY h) (Zj (ZhX h) ZQ))) rfl (by kernel_rfl) fun _=>rfl
theorem ZhD (L:Nat)(x0:(List Z7)):Ib L (x0,())=bT (RV L (x0,())) fun y=>bif decide (y > 200) then some 6 else bT (RX L (x0,())) fun y=>bif decide (y > 12) then some 11 else bT (RY L (x0,())) fun y=>some y:=by kernel_rfl
def XI (L:Nat)(x:Int×PUnit):Option Bool:=fT [] L NG [] (.one .bool) [.int .i64] x
def Kv (L:Nat):Sum tT:=mU 130 [.int .i64] (.one .bool) (XI L)
theorem OE:SX Kv:=fun h=>sT h ZQ rfl (by kernel_rfl) fun _=>rfl
theorem ZfE (L:Nat)(x0:Int):XI L (x0,())=some (decide (x0 ≥ 1) && decide (x0≤3)):=by kernel_rfl
def Ye (L:Nat)(x:(List (List WB))×PUnit):Option (List WB):=fT [ZsG] L WG [.rnd [.slot 3 (.int .i64),.slot 11 (.int .i64)],.rnd [.slot 6 (.own 2 (.row 7)),.slot 27 (.int .i64)]] (.one (.lst 2 (.row 7))) [.lst 1 (.lst 2 (.row 7))] x
def WJ (L:Nat):Sum tT:=mU 134 [.lst 1 (.lst 2 (.row 7))] (.one (.lst 2 (.row 7))) (Ye L)
theorem XR:SX WJ:=fun h=>sT h (Zj (Zxo h) ZQ) rfl (by kernel_rfl) fun _=>rfl
def Y1:List (List WB)→(List WB×Int×PUnit→Option (List WB))→List WB×Int×PUnit→Option (List WB):=fun x0 self acc=>bif decide (acc.2.1 < (↑x0.length:Int)) then bT (ZM x0 acc.2.1) fun y=>bT (apT 24 acc.1 y) fun y=>self (y,Go.IntKind.i64.wrap (acc.2.1 + 1),()) else some acc.1
def WE:List (List WB)→Nat→(Int×Int×PUnit→Option (List WB))→Int×Int×PUnit→Option (List WB):=fun x0 L self acc=>bif decide (acc.2.1 < (↑x0.length:Int)) then bT (ZM x0 acc.2.1) fun y=>bif decide (Go.IntKind.i64.wrap (acc.1 + (↑y.length:Int)) < 0) then none else self (Go.IntKind.i64.wrap (acc.1 + (↑y.length:Int)),Go.IntKind.i64.wrap (acc.2.1 + 1),()) else bT (Zq6 [] acc.1) fun y=>Zt (Y1 x0) L (y,0,())
theorem XQ (L:Nat)(x0:(List (List WB))):Ye L (x0,())=Zt (WE x0 L) L (0,0,()):=by kernel_rfl
def Zan:List (Inl tT):=[⟨52,Wp,[],.one (.int .i64),[(3,[.cont 1 (.map .str)])]⟩]
def Jc (L:Nat)(x:ZR×PUnit):Option Int:=fI [Zad L,Kv L,WO L,WJ L] L Zan Lp [.rnd [.slot 29 (.int .i64),.cont 1 (.map .str)]] (.one (.int .i64)) [.row 10] x
def RJ (L:Nat):Sum tT:=mU 95 [.row 10] (.one (.int .i64)) (Jc L)
theorem ZcB:SX RJ:=fun h=>sI h (Zj (ZhW h) (Zj (OE h) (Zj (Ql h) (Zj (XR h) ZQ)))) (Zj ⟨h.T _ _ rfl,by kernel_rfl⟩ ZQ) rfl (by kernel_rfl) fun _=>rfl
def Vg:ZR→Nat→List WB→(Int×List (List UInt8)×PUnit→Option Int)→Int×List (List UInt8)×PUnit→Option Int:=fun x0 L y self acc=>bif decide (acc.1 < (↑y.length:Int)) then bT (ZM y acc.1) fun y=>bT (bT (ZJ L (y.1,())) fun y_1=>bif y_1 != 0 then some (y_1,acc.2.1,()) else bif hasK MK.str acc.2.1 y.1 then some (4,acc.2.1,()) else some (0,FK MK.str acc.2.1 y.1,())) fun y_1=>bif y_1.1 != 0 then some y_1.1 else bT (XI L (y.2,())) fun y=>bif !y then some 1 else self (Go.IntKind.i64.wrap (acc.1 + 1),y_1.2.1,()) else bT (Ib L (x0.4,())) fun y=>some y
theorem Zcw (L:Nat)(x0:ZR):Jc L (x0,())=bif decide ((↑x0.2.length:Int) > 6) || decide (Go.IntKind.i64.wrap ((↑x0.2.length:Int) + (↑x0.3.length:Int)) > 16) then some 6 else bT (Ye L ([x0.2,x0.3],())) fun y=>Zt (Vg x0 L y) L (0,[],()):=by kernel_rfl
def Vk (L:Nat)(x:Zc×MZ×PUnit):Option Int:=fT [Hz L,YN L,OW L] L TK [] (.one (.int .i64)) [.row 14,.row 3] x
def MB (L:Nat):Sum tT:=mU 80 [.row 14,.row 3] (.one (.int .i64)) (Vk L)
theorem Za0:SX MB:=fun h=>sT h (Zj (Rw h) (Zj (Qm h) (Zj (PW h) ZQ))) rfl (by kernel_rfl) fun _=>rfl
theorem Zaw (L:Nat)(x0:Zc)(x1:MZ):Vk L (x0,x1,())=bT (bif (x1.1 == []) == true then bT (Vy L (x1.2,YT.mk 0 0 0 0 [] [],())) fun y=>bif (!y) == false then bT (Vy L (x1.3,YT.mk 0 0 0 0 [] [],())) fun y=>some !y else some true else some false) fun y=>bif y then some 1 else bif x1.1 == [] then some 0 else bT (Yb L (x0.7,x1.1,())) fun y=>bif !y then some 5 else bT (Qq L (x1.2,())) fun y=>bif y != 0 then some y else bT (Qq L (x1.3,())) fun y=>some y:=by kernel_rfl
def Vl (L:Nat)(x:Zu×PUnit):Option Int:=fT [Qu L] L TM [.rnd [.slot 25 (.int .i64)]] (.one (.int .i64)) [.row 4] x
def MC (L:Nat):Sum tT:=mU 79 [.row 4] (.one (.int .i64)) (Vl L)
theorem Za1:SX MC:=fun h=>sT h (Zj (Xd h) ZQ) rfl (by kernel_rfl) fun _=>rfl
def Q4:Zu→Nat→(Int×PUnit→Option Int)→Int×PUnit→Option Int:=fun x0 L self acc=>bif decide (acc.1 < (↑x0.3.length:Int)) then bT (ZM x0.3 acc.1) fun y=>bT (ZE L (y.1,0,Go.IntKind.i64.wrap (x0.4 - 1),())) fun y_1=>bif !y_1 then some 2 else bT (ZE L (y.2,0,1000,())) fun y_2=>bif !y_2 then some 2 else bT (bif decide (acc.1 > 0) == true then bT (ZM x0.3 (Go.IntKind.i64.wrap (acc.1 - 1))) fun y_3=>some (decide (y.1≤y_3.1)) else some false) fun y=>bif y then some 12 else self (Go.IntKind.i64.wrap (acc.1 + 1),()) else some 0
theorem Zax (L:Nat)(x0:Zu):Vl L (x0,())=bif (↑x0.3.length:Int) == 0 then bif x0.4 != 0 then some 1 else some 0 else bif decide ((↑x0.3.length:Int) > 20) then some 6 else bT (ZE L (x0.4,1,1000000000,())) fun y=>bif !y then some 2 else Zt (Q4 x0 L) L (0,()):=by kernel_rfl
def Zfi:List (Inl tT):=[⟨73,NF,[.unr 60],.one (.int .i64),[(5,[.cont 1 (.map .str)])]⟩,⟨100,Lu,[],.one (.int .i64),[]⟩,⟨96,Lt,[],.one (.int .i64),[(5,[.cont 1 (.map .str)])]⟩,⟨97,VI,[.rnd [.slot 16 (.int .i64),.cont 1 (.map .str)]],.one (.int .i64),[(5,[.cont 1 (.map .str)])]⟩,⟨98,IC,[],.one (.int .i64),[]⟩,⟨92,Ls,[],.one (.int .i64),[(5,[.cont 1 (.map .str)])]⟩,⟨93,XV,[.rnd [.slot 16 (.int .i64),.cont 1 (.map .str)]],.one (.int .i64),[(5,[.cont 1 (.map .str)])]⟩,⟨94,IB,[],.one (.int .i64),[(6,[.cont 1 (.map .str)])]⟩,⟨52,Wp,[],.one (.int .i64),[(7,[.cont 1 (.map .str)]),(5,[.cont 1 (.map .str)])]⟩,⟨91,Lr,[],.one (.int .i64),[(5,[.cont 1 (.map .str)])]⟩,⟨90,Dn,[],.one (.int .i64),[(5,[.cont 1 (.map .str)])]⟩,⟨89,Dl,[],.one (.int .i64),[(5,[.cont 1 (.map .str)])]⟩,⟨88,Dk,[],.one (.int .i64),[(5,[.cont 1 (.map .str)])]⟩,⟨87,Dj,[],.one (.int .i64),[(5,[.cont 1 (.map .str)])]⟩,⟨84,Di,[],.one (.int .i64),[(5,[.cont 1 (.map .str)])]⟩,⟨85,XL,[.rnd [.slot 16 (.int .i64),.cont 1 (.map .str)]],.one (.int .i64),[(5,[.cont 1 (.map .str)])]⟩,⟨86,TQ,[],.one (.int .i64),[(6,[.cont 1 (.map .str)])]⟩,⟨81,Dh,[],.one (.int .i64),[(5,[.cont 1 (.map .str)])]⟩,⟨82,Xw,[.rnd [.slot 16 (.int .i64),.cont 1 (.map .str)]],.one (.int .i64),[(5,[.cont 1 (.map .str)])]⟩,⟨83,TP,[],.one (.int .i64),[(6,[.cont 1 (.map .str)])]⟩,⟨75,Df,[],.one (.int .i64),[(5,[.cont 1 (.map .str)])]⟩,⟨76,QD,[.rnd [.slot 16 (.int .i64),.cont 1 (.map .str)]],.one (.int .i64),[(5,[.cont 1 (.map .str)])]⟩,⟨77,TN,[],.one (.int .i64),[(6,[.cont 1 (.map .str)])]⟩,⟨74,Dc,[],.one (.int .i64),[(5,[.cont 1 (.map .str)])]⟩,⟨49,Xe,[],.one (.int .i64),[(5,[.cont 1 (.map .str)])]⟩,⟨69,QL,[.rnd [.slot 16 (.int .i64),.cont 1 (.map .str)]],.one (.int .i64),[(5,[.cont 1 (.map .str)])]⟩,⟨70,Xv,[],.one (.int .i64),[(6,[.cont 1 (.map .str)])]⟩,⟨71,BZ,[],.one (.int .i64),[(5,[.cont 1 (.map .str)])]⟩,⟨72,UD,[.rnd [.slot 16 (.int .i64),.cont 1 (.map .str)]],.one (.int .i64),[(5,[.cont 1 (.map .str)])]⟩]
def H8 (L:Nat)(x:Zc×PUnit):Option Int:=fI [CZ L,Et L,RJ L,WO L,Qu L,MB L,MC L,H5 L,Kv L] L Zfi Fz [] (.one (.int .i64)) [.row 14] x
def Zaa (L:Nat):Sum tT:=mU 53 [.row 14] (.one (.int .i64)) (H8 L)
theorem ZhU:SX Zaa:=fun h=>sI h (Zj (ZhT h) (Zj (ZfY h) (Zj (ZcB h) (Zj (Ql h) (Zj (Xd h) (Zj (Za0 h) (Zj (Za1 h) (Zj (Ry h) (Zj (OE h) ZQ))))))))) (Zj ⟨h.T _ _ rfl,by kernel_rfl⟩ (Zj ⟨h.T _ _ rfl,by kernel_rfl⟩ (Zj ⟨h.T _ _ rfl,by kernel_rfl⟩ (Zj ⟨h.T _ _ rfl,by kernel_rfl⟩ (Zj ⟨h.T _ _ rfl,by kernel_rfl⟩ (Zj ⟨h.T _ _ rfl,by kernel_rfl⟩ (Zj ⟨h.T _ _ rfl,by kernel_rfl⟩ (Zj ⟨h.T _ _ rfl,by kernel_rfl⟩ (Zj ⟨h.T _ _ rfl,by kernel_rfl⟩ (Zj ⟨h.T _ _ rfl,by kernel_rfl⟩ (Zj ⟨h.T _ _ rfl,by kernel_rfl⟩ (Zj ⟨h.T _ _ rfl,by kernel_rfl⟩ (Zj ⟨h.T _ _ rfl,by kernel_rfl⟩ (Zj ⟨h.T _ _ rfl,by kernel_rfl⟩ (Zj ⟨h.T _ _ rfl,by kernel_rfl⟩ (Zj ⟨h.T _ _ rfl,by kernel_rfl⟩ (Zj ⟨h.T _ _ rfl,by kernel_rfl⟩ (Zj ⟨h.T _ _ rfl,by kernel_rfl⟩ (Zj ⟨h.T _ _ rfl,by kernel_rfl⟩ (Zj ⟨h.T _ _ rfl,by kernel_rfl⟩ (Zj ⟨h.T _ _ rfl,by kernel_rfl⟩ (Zj ⟨h.T _ _ rfl,by kernel_rfl⟩ (Zj ⟨h.T _ _ rfl,by kernel_rfl⟩ (Zj ⟨h.T _ _ rfl,by kernel_rfl⟩ (Zj ⟨h.T _ _ rfl,by kernel_rfl⟩ (Zj ⟨h.T _ _ rfl,by kernel_rfl⟩ (Zj ⟨h.T _ _ rfl,by kernel_rfl⟩ (Zj ⟨h.T _ _ rfl,by kernel_rfl⟩ (Zj ⟨h.T _ _ rfl,by kernel_rfl⟩ ZQ))))))))))))))))))))))))))))) rfl (by kernel_rfl) fun _=>rfl
def UY:Zc→Nat→(Int×List (List UInt8)×PUnit→Option (Int×List (List UInt8)×PUnit))→Int×List (List UInt8)×PUnit→Option (Int×List (List UInt8)×PUnit):=fun x0 L self acc=>bif decide (acc.1 < (↑x0.2.length:Int)) then bT (ZM x0.2 acc.1) fun y=>bT (bT (bT (ZJ L (y.1,())) fun y_1=>bif y_1 != 0 then some (y_1,acc.2.1,()) else bif hasK MK.str acc.2.1 y.1 then some (4,acc.2.1,()) else some (0,FK MK.str acc.2.1 y.1,())) fun y_1=>bif y_1.1 != 0 then some (y_1.1,y_1.2.1,()) else bT (XI L (y.2,())) fun y_2=>bif !y_2 then some (1,y_1.2.1,()) else bT (VF L (y.2,y.3,())) fun y=>bif !y then some (2,y_1.2.1,()) else some (0,y_1.2.1,())) fun y=>bif y.1 != 0 then some (y.1,y.2.1,()) else self (Go.IntKind.i64.wrap (acc.1 + 1),y.2.1,()) else some (0,acc.2.1,())
def UZ:Zc→Nat→(Int×List (List UInt8)×PUnit→Option (Int×List (List UInt8)×PUnit))→Int×List (List UInt8)×PUnit→Option (Int×List (List UInt8)×PUnit):=fun x0 L self acc=>bif decide (acc.1 < (↑x0.3.length:Int)) then bT (ZM x0.3 acc.1) fun y=>bT (bT (bT (ZJ L (y.1,())) fun y_1=>bif y_1 != 0 then some (y_1,acc.2.1,()) else bif hasK MK.str acc.2.1 y.1 then some (4,acc.2.1,()) else some (0,FK MK.str acc.2.1 y.1,())) fun y_1=>bif y_1.1 != 0 then some (y_1.1,y_1.2.1,()) else bT (ZE L (y.2,0,1000,())) fun y_2=>bif !y_2 then some (2,y_1.2.1,()) else bT (Vl L (y,())) fun y_3=>bif y_3 != 0 then some (y_3,y_1.2.1,()) else bT (Vk L (x0,y.5,())) fun y=>some (y,y_1.2.1,())) fun y=>bif y.1 != 0 then some (y.1,y.2.1,()) else self (Go.IntKind.i64.wrap (acc.1 + 1),y.2.1,()) else some (0,acc.2.1,())
def Ko:Zc→Nat→(Int×List (List UInt8)×PUnit→Option (Int×List (List UInt8)×PUnit))→Int×List (List UInt8)×PUnit→Option (Int×List (List UInt8)×PUnit):=fun x0 L self acc=>bif decide (acc.1 < (↑x0.4.length:Int)) then bT (ZM x0.4 acc.1) fun y=>bT (bT (bT (ZJ L (y.1,())) fun y_1=>bif y_1 != 0 then some (y_1,acc.2.1,()) else bif hasK MK.str acc.2.1 y.1 then some (4,acc.2.1,()) else some (0,FK MK.str acc.2.1 y.1,())) fun y_1=>bif y_1.1 != 0 then some (y_1.1,y_1.2.1,()) else bT (ZE L (y.2,1,1000,())) fun y_2=>bif !y_2 then some (2,y_1.2.1,()) else bif decide (y.3 < 1) || decide (y.3 > 3) then some (1,y_1.2.1,()) else some (0,y_1.2.1,())) fun y=>bif y.1 != 0 then some (y.1,y.2.1,()) else self (Go.IntKind.i64.wrap (acc.1 + 1),y.2.1,()) else some (0,acc.2.1,())
def Kq:Zc→Nat→(Int×List (List UInt8)×PUnit→Option (Int×List (List UInt8)×PUnit))→Int×List (List UInt8)×PUnit→Option (Int×List (List UInt8)×PUnit):=fun x0 L self acc=>bif decide (acc.1 < (↑x0.5.length:Int)) then bT (ZM x0.5 acc.1) fun y=>bT (bT (bT (ZJ L (y.1,())) fun y_1=>bif y_1 != 0 then some (y_1,acc.2.1,()) else bif hasK MK.str acc.2.1 y.1 then some (4,acc.2.1,()) else some (0,FK MK.str acc.2.1 y.1,())) fun y_1=>bif y_1.1 != 0 then some (y_1.1,y_1.2.1,()) else bT (ZE L (y.2,1,1000,())) fun y_2=>bT (bif (!y_2) == false then bT (ZE L (y.3,1,1000,())) fun y=>some !y else some true) fun y=>bif y then some (2,y_1.2.1,()) else some (0,y_1.2.1,())) fun y=>bif y.1 != 0 then some (y.1,y.2.1,()) else self (Go.IntKind.i64.wrap (acc.1 + 1),y.2.1,()) else some (0,acc.2.1,())
def Kr:Zc→Nat→(Int×List (List UInt8)×PUnit→Option (Int×List (List UInt8)×PUnit))→Int×List (List UInt8)×PUnit→Option (Int×List (List UInt8)×PUnit):=fun x0 L self acc=>bif decide (acc.1 < (↑x0.6.length:Int)) then bT (ZM x0.6 acc.1) fun y=>bT (bT (ZJ L (y,())) fun y_1=>bif y_1 != 0 then some (y_1,acc.2.1,()) else bif hasK MK.str acc.2.1 y then some (4,acc.2.1,()) else some (0,FK MK.str acc.2.1 y,())) fun y=>bif y.1 != 0 then some (y.1,y.2.1,()) else self (Go.IntKind.i64.wrap (acc.1 + 1),y.2.1,()) else some (0,acc.2.1,())
def Sv:Zc→Nat→(Int×List (List UInt8)×PUnit→Option (Int×List (List UInt8)×PUnit))→Int×List (List UInt8)×PUnit→Option (Int×List (List UInt8)×PUnit):=fun x0 L self acc=>bif decide (acc.1 < (↑x0.7.length:Int)) then bT (ZM x0.7 acc.1) fun y=>bT (bT (ZJ L (y,())) fun y_1=>bif y_1 != 0 then some (y_1,acc.2.1,()) else bif hasK MK.str acc.2.1 y then some (4,acc.2.1,()) else some (0,FK MK.str acc.2.1 y,())) fun y=>bif y.1 != 0 then some (y.1,y.2.1,()) else self (Go.IntKind.i64.wrap (acc.1 + 1),y.2.1,()) else some (0,acc.2.1,())
def Sz:Zc→Nat→(Int×List (List UInt8)×PUnit→Option (Int×List (List UInt8)×PUnit))→Int×List (List UInt8)×PUnit→Option (Int×List (List UInt8)×PUnit):=fun x0 L self acc=>bif decide (acc.1 < (↑x0.8.length:Int)) then bT (ZM x0.8 acc.1) fun y=>bT (bT (ZJ L (y,())) fun y_1=>bif y_1 != 0 then some (y_1,acc.2.1,()) else bif hasK MK.str acc.2.1 y then some (4,acc.2.1,()) else some (0,FK MK.str acc.2.1 y,())) fun y=>bif y.1 != 0 then some (y.1,y.2.1,()) else self (Go.IntKind.i64.wrap (acc.1 + 1),y.2.1,()) else some (0,acc.2.1,())
def S9:Zc→Nat→(Int×List (List UInt8)×PUnit→Option (Int×List (List UInt8)×PUnit))→Int×List (List UInt8)×PUnit→Option (Int×List (List UInt8)×PUnit):=fun x0 L self acc=>bif decide (acc.1 < (↑x0.9.length:Int)) then bT (ZM x0.9 acc.1) fun y=>bT (bT (ZJ L (y,())) fun y_1=>bif y_1 != 0 then some (y_1,acc.2.1,()) else bif hasK MK.str acc.2.1 y then some (4,acc.2.1,()) else some (0,FK MK.str acc.2.1 y,())) fun y=>bif y.1 != 0 then some (y.1,y.2.1,()) else self (Go.IntKind.i64.wrap (acc.1 + 1),y.2.1,()) else some (0,acc.2.1,())
def SA:Zc→Nat→(Int×List (List UInt8)×PUnit→Option (Int×List (List UInt8)×PUnit))→Int×List (List UInt8)×PUnit→Option (Int×List (List UInt8)×PUnit):=fun x0 L self acc=>bif decide (acc.1 < (↑x0.10.length:Int)) then bT (ZM x0.10 acc.1) fun y=>bT (bT (ZJ L (y,())) fun y_1=>bif y_1 != 0 then some (y_1,acc.2.1,()) else bif hasK MK.str acc.2.1 y then some (4,acc.2.1,()) else some (0,FK MK.str acc.2.1 y,())) fun y=>bif y.1 != 0 then some (y.1,y.2.1,()) else self (Go.IntKind.i64.wrap (acc.1 + 1),y.2.1,()) else some (0,acc.2.1,())
def Kt:Zc→Nat→(Int×List (List UInt8)×PUnit→Option (Int×List (List UInt8)×PUnit))→Int×List (List UInt8)×PUnit→Option (Int×List (List UInt8)×PUnit):=fun x0 L self acc=>bif decide (acc.1 < (↑x0.11.length:Int)) then bT (ZM x0.11 acc.1) fun y=>bT (bT (bT (ZJ L (y.1,())) fun y_1=>bif y_1 != 0 then some (y_1,acc.2.1,()) else bif hasK MK.str acc.2.1 y.1 then some (4,acc.2.1,()) else some (0,FK MK.str acc.2.1 y.1,())) fun y_1=>bif y_1.1 != 0 then some (y_1.1,y_1.2.1,()) else bT (Jc L (y,())) fun y=>some (y,y_1.2.1,())) fun y=>bif y.1 != 0 then some (y.1,y.2.1,()) else self (Go.IntKind.i64.wrap (acc.1 + 1),y.2.1,()) else some (0,acc.2.1,())
def Xb:Zc→Nat→(Int×List (List UInt8)×PUnit→Option (Int×List (List UInt8)×PUnit))→Int×List (List UInt8)×PUnit→Option (Int×List (List UInt8)×PUnit):=fun x0 L self acc=>bif decide (acc.1 < (↑x0.12.length:Int)) then bT (ZM x0.12 acc.1) fun y=>bT (bT (KC L (x0,y,())) fun y=>some y) fun y=>bif y != 0 then some (y,acc.2.1,()) else self (Go.IntKind.i64.wrap (acc.1 + 1),acc.2.1,()) else some (0,acc.2.1,())
theorem Zh4 (L:Nat)(x0:Zc):H8 L (x0,())=bT (bT (bT (bT (bif decide ((↑x0.2.length:Int) > 32) then some (6,[],()) else Zt (UY x0 L) L (0,[],())) fun y=>some (y.1,y.2.1,())) fun y=>some (y.1,y.2.1,())) fun y=>bif y.1 != 0 then some (y.1,y.2.1,()) else bT (bT (bif decide ((↑x0.3.length:Int) > 32) then some (6,y.2.1,()) else Zt (UZ x0 L) L (0,y.2.1,())) fun y=>some (y.1,y.2.1,())) fun y=>bif y.1 != 0 then some (y.1,y.2.1,()) else bT (bT (bif decide ((↑x0.4.length:Int) > 32) then some (6,y.2.1,()) else Zt (Ko x0 L) L (0,y.2.1,())) fun y=>some (y.1,y.2.1,())) fun y=>bif y.1 != 0 then some (y.1,y.2.1,()) else bT (bT (bif decide ((↑x0.5.length:Int) > 32) then some (6,y.2.1,()) else Zt (Kq x0 L) L (0,y.2.1,())) fun y=>some (y.1,y.2.1,())) fun y=>bif y.1 != 0 then some (y.1,y.2.1,()) else bT (bT (bT (bif decide ((↑x0.6.length:Int) > 32) then some (6,y.2.1,()) else Zt (Kr x0 L) L (0,y.2.1,())) fun y=>some (y.1,y.2.1,())) fun y=>some (y.1,y.2.1,())) fun y=>bif y.1 != 0 then some (y.1,y.2.1,()) else bT (bT (bT (bif decide ((↑x0.7.length:Int) > 32) then some (6,y.2.1,()) else Zt (Sv x0 L) L (0,y.2.1,())) fun y=>some (y.1,y.2.1,())) fun y=>some (y.1,y.2.1,())) fun y=>bif y.1 != 0 then some (y.1,y.2.1,()) else bT (bT (bT (bif decide ((↑x0.8.length:Int) > 32) then some (6,y.2.1,()) else Zt (Sz x0 L) L (0,y.2.1,())) fun y=>some (y.1,y.2.1,())) fun y=>some (y.1,y.2.1,())) fun y=>bif y.1 != 0 then some (y.1,y.2.1,()) else bT (bT (bT (bif decide ((↑x0.9.length:Int) > 32) then some (6,y.2.1,()) else Zt (S9 x0 L) L (0,y.2.1,())) fun y=>some (y.1,y.2.1,())) fun y=>some (y.1,y.2.1,())) fun y=>bif y.1 != 0 then some (y.1,y.2.1,()) else bT (bT (bT (bif decide ((↑x0.10.length:Int) > 32) then some (6,y.2.1,()) else Zt (SA x0 L) L (0,y.2.1,())) fun y=>some (y.1,y.2.1,())) fun y=>some (y.1,y.2.1,())) fun y=>bif y.1 != 0 then some (y.1,y.2.1,()) else bT (bT (bif decide ((↑x0.11.length:Int) > 16) then some (6,y.2.1,()) else Zt (Kt x0 L) L (0,y.2.1,())) fun y=>some (y.1,y.2.1,())) fun y=>bif y.1 != 0 then some (y.1,y.2.1,()) else bT (bT (bif decide ((↑x0.12.length:Int) > 32) then some (6,y.2.1,()) else Zt (Xb x0 L) L (0,y.2.1,())) fun y=>some (y.1,y.2.1,())) fun y=>bif y.1 != 0 then some (y.1,y.2.1,()) else bT (bT (H7 L (x0,())) fun y=>some y) fun y_1=>bif y_1 != 0 then some (y_1,y.2.1,()) else some (0,y.2.1,())) fun y=>some y.1:=by kernel_rfl
def Zdw:List (Inl tT):=[⟨50,XM,[.rnd [.slot 16 (.int .i64),.cont 1 (.map .str),.cont 2 (.map .str)]],.one (.int .i64),[(4,[.cont 1 (.map .str),.cont 2 (.map .str)])]⟩,⟨51,Lj,[],.one (.int .i64),[(5,[.cont 2 (.map .str)])]⟩,⟨52,Wp,[],.one (.int .i64),[(4,[.cont 1 (.map .str)]),(6,[.cont 2 (.map .str)])]⟩,⟨49,Xe,[],.one (.int .i64),[(2,[.cont 1 (.map .str)])]⟩,⟨69,QL,[.rnd [.slot 16 (.int .i64),.cont 1 (.map .str)]],.one (.int .i64),[(2,[.cont 1 (.map .str)])]⟩,⟨70,Xv,[],.one (.int .i64),[(3,[.cont 1 (.map .str)])]⟩]
def Kz (L:Nat)(x:QC×PUnit):Option Int:=fI [Es L,Zaa L,WO L,H5 L,Kv L] L Zdw NE [] (.one (.int .i64)) [.row 21] x
def Ep (L:Nat):Sum tT:=mU 34 [.row 21] (.one (.int .i64)) (Kz L)
theorem ZfW:SX Ep:=fun h=>sI h (Zj (ZfX h) (Zj (ZhU h) (Zj (Ql h) (Zj (Ry h) (Zj (OE h) ZQ))))) (Zj ⟨h.T _ _ rfl,by kernel_rfl⟩ (Zj ⟨h.T _ _ rfl,by kernel_rfl⟩ (Zj ⟨h.T _ _ rfl,by kernel_rfl⟩ (Zj ⟨h.T _ _ rfl,by kernel_rfl⟩ (Zj ⟨h.T _ _ rfl,by kernel_rfl⟩ (Zj ⟨h.T _ _ rfl,by kernel_rfl⟩ ZQ)))))) rfl (by kernel_rfl) fun _=>rfl
def Iu:QC→Nat→(Int×List (List UInt8)×PUnit→Option (Int×List (List UInt8)×PUnit))→Int×List (List UInt8)×PUnit→Option (Int×List (List UInt8)×PUnit):=fun x0 L self acc=>bif decide (acc.1 < (↑x0.2.length:Int)) then bT (ZM x0.2 acc.1) fun y=>bT (bT (bT (ZJ L (y.1,())) fun y_1=>bif y_1 != 0 then some (y_1,acc.2.1,()) else bif hasK MK.str acc.2.1 y.1 then some (4,acc.2.1,()) else some (0,FK MK.str acc.2.1 y.1,())) fun y_1=>bif y_1.1 != 0 then some (y_1.1,y_1.2.1,()) else bT (XI L (y.2,())) fun y_2=>bif !y_2 then some (1,y_1.2.1,()) else bT (VF L (y.2,y.3,())) fun y=>bif !y then some (2,y_1.2.1,()) else some (0,y_1.2.1,())) fun y=>bif y.1 != 0 then some (y.1,y.2.1,()) else self (Go.IntKind.i64.wrap (acc.1 + 1),y.2.1,()) else some (0,acc.2.1,())
def Iw:QC→Nat→(Int×List (List UInt8)×List (List UInt8)×PUnit→Option (Int×List (List UInt8)×List (List UInt8)×PUnit))→Int×List (List UInt8)×List (List UInt8)×PUnit→Option (Int×List (List UInt8)×List (List UInt8)×PUnit):=fun x0 L self acc=>bif decide (acc.1 < (↑x0.3.length:Int)) then bT (ZM x0.3 acc.1) fun y=>bT (bT (bT (ZJ L (y.1,())) fun y_1=>bif y_1 != 0 then some (y_1,acc.2.2.1,()) else bif hasK MK.str acc.2.2.1 y.1 then some (4,acc.2.2.1,()) else some (0,FK MK.str acc.2.2.1 y.1,())) fun y_1=>bif y_1.1 != 0 then some (y_1.1,y_1.2.1,()) else bT (H8 L (y,())) fun y=>some (y,y_1.2.1,())) fun y=>bif y.1 != 0 then some (y.1,acc.2.1,y.2.1,()) else self (Go.IntKind.i64.wrap (acc.1 + 1),acc.2.1,y.2.1,()) else some (0,acc.2.1,acc.2.2.1,())
theorem ZfD (L:Nat)(x0:QC):Kz L (x0,())=bT (ZJ L (x0.1,())) fun y=>bif y != 0 then some y else bT (bT (bif decide ((↑x0.2.length:Int) > 32) then some (6,[],()) else Zt (Iu x0 L) L (0,[],())) fun y=>some (y.1,y.2.1,())) fun y=>bif y.1 != 0 then some y.1 else bif (↑x0.3.length:Int) == 0 then some 7 else bT (bif decide ((↑x0.3.length:Int) > 16) then some (6,y.2.1,[],()) else Zt (Iw x0 L) L (0,y.2.1,[],())) fun y=>bif y.1 != 0 then some y.1 else bT (KA L (x0,())) fun y=>some y:=by kernel_rfl
end Go.Proofs.YtgjcjbhhhlelnaaGreatDoor
end
noncomputable section
namespace Go.Proofs.YtgjcjbhhhlelnaaGreatDoor
open Go Go.Proofs.YtgjcjbhhhlelnaaGreatDoor.Abs Go.Proofs.YtgjcjbhhhlelnaaGreatDoor.Tl
set_option maxRecDepth 100000
set_option maxHeartbeats 0
def Qp (L:Nat)(x:Zk×PUnit):Option Int:=fT [DL L,ZcS L,Em L,Ep L,WO L] L Fb [.rnd [.slot 2 (.int .i64),.slot 34 (.int .i64),.cont 1 (.map .str)],.rnd [.slot 2 (.int .i64),.slot 71 (.int .i64),.cont 1 (.map .str)],.rnd [.slot 2 (.int .i64),.slot 79 (.int .i64),.cont 1 (.map .str)]] (.one (.int .i64)) [.row 19] x
def Zik (L:Nat):Sum tT:=mU 25 [.row 19] (.one (.int .i64)) (Qp L)
theorem ZhN:SX Zik:=fun h=>sT h (Zj (Zd9 h) (Zj (ZjT h) (Zj (ZfT h) (Zj (ZfW h) (Zj (Ql h) ZQ))))) rfl (by kernel_rfl) fun _=>rfl
def VL:Zk→Nat→(Int×Int×List (List UInt8)×PUnit→Option Int)→Int×Int×List (List UInt8)×PUnit→ZK→(Int×Int×List (List UInt8)×PUnit→Option Int)→Int×Int×List (List UInt8)×PUnit→Option Int:=fun x0 L self acc y self_1 acc_1=>bif decide (acc_1.2.1 < (↑y.2.length:Int)) then bT (ZM y.2 acc_1.2.1) fun y=>bT (Y0 L (x0,acc.2.1,y,())) fun y=>bif y != 0 then some y else self_1 (acc_1.1,Go.IntKind.i64.wrap (acc_1.2.1 + 1),acc_1.2.2.1,()) else self (acc_1.1,Go.IntKind.i64.wrap (acc.2.1 + 1),acc_1.2.2.1,())
def XB:Zk→Nat→(Int×Int×List (List UInt8)×PUnit→Option Int)→Int×Int×List (List UInt8)×PUnit→Option Int:=fun x0 L self acc=>bif decide (acc.2.1 < (↑x0.2.length:Int)) then bT (ZM x0.2 acc.2.1) fun y=>Zt (VL x0 L self acc y) L (acc.1,0,acc.2.2.1,()) else some 0
def VM:Zk→Nat→(Int×Int×List (List UInt8)×PUnit→Option Int)→Int×Int×List (List UInt8)×PUnit→Option Int:=fun x0 L self acc=>bif decide (acc.2.1 < (↑x0.2.length:Int)) then bT (ZM x0.2 acc.2.1) fun y=>bT (Kz L (QC.mk x0.1 [] [y.1] [],())) fun y_1=>bif y_1 != 0 then some y_1 else bif hasK MK.str acc.2.2.1 y.Decl.1 then some 4 else bT (Kw L (y,())) fun y_2=>bif !y_2 then some 8 else self (acc.1,Go.IntKind.i64.wrap (acc.2.1 + 1),FK MK.str acc.2.2.1 y.Decl.1,()) else bT (GH L (x0,())) fun y=>bif y != 0 then some y else Zt (XB x0 L) L (acc.1,0,acc.2.2.1,())
theorem FV (L:Nat)(x0:Zk):Qp L (x0,())=bT (ZJ L (x0.1,())) fun y=>bif y != 0 then some y else bif (↑x0.2.length:Int) == 0 then some 7 else bif decide ((↑x0.2.length:Int) > 16) then some 6 else Zt (VM x0 L) L (0,0,[],()):=by kernel_rfl
def YO (L:Nat)(x:Int×Int×Int×PUnit):Option Bool:=fT [] L NK [] (.one .bool) [.int .i64,.int .i64,.int .i64] x
def Eu (L:Nat):Sum tT:=mU 167 [.int .i64,.int .i64,.int .i64] (.one .bool) (YO L)
theorem ZfI (L:Nat)(x0:Int)(x1:Int)(x2:Int):YO L (x0,x1,x2,())=some (decide (x0 ≥ x1) && decide (x0≤x2)):=by kernel_rfl
def OZ (L:Nat)(x:YT×PUnit):Option Int:=fT [Eu L] L ZaY [.rnd [.slot 3 (.int .i64)]] (.one (.int .i64)) [.row 2] x
def Zka (L:Nat):Sum tT:=mU 168 [.row 2] (.one (.int .i64)) (OZ L)
def LW:YT→Nat→(Int×PUnit→Option Int)→Int×PUnit→Option Int:=fun x0 L self acc=>bif decide (acc.1 < (↑x0.5.length:Int)) then bT (ZM x0.5 acc.1) fun y=>bT (YO L (y,0,1000000000,())) fun y=>bT (bif (!y) == false then bT (ZM x0.6 acc.1) fun y=>bT (YO L (y,1,1000,())) fun y=>some !y else some true) fun y=>bif y then some 2 else self (Go.IntKind.i64.wrap (acc.1 + 1),()) else some 0
theorem Zjt (L:Nat)(x0:YT):OZ L (x0,())=bif (↑x0.5.length:Int) != (↑x0.6.length:Int) then some 8 else bif (↑x0.5.length:Int) == 0 then some 7 else bif decide ((↑x0.5.length:Int) > 20) then some 6 else Zt (LW x0 L) L (0,()):=by kernel_rfl
def HY (L:Nat)(x:YT×PUnit):Option Bool:=fT [] L F6 [] (.one .bool) [.row 2] x
def Zil (L:Nat):Sum tT:=mU 166 [.row 2] (.one .bool) (HY L)
theorem Zh6 (L:Nat)(x0:YT):HY L (x0,())=bif x0.1 == 1 then some (x0.3 == 0 && x0.4 == 0 && ((↑x0.5.length:Int) == 0 && (↑x0.6.length:Int) == 0)) else bif x0.1 == 2 then some (x0.4 == 0 && ((↑x0.5.length:Int) == 0 && (↑x0.6.length:Int) == 0)) else bif x0.1 == 5 then some (x0.4 == 0 && ((↑x0.5.length:Int) == 0 && (↑x0.6.length:Int) == 0)) else bif x0.1 == 3 then some (x0.2 == 0 && x0.3 == 0 && x0.4 == 0) else bif x0.1 == 4 then some ((↑x0.5.length:Int) == 0 && (↑x0.6.length:Int) == 0) else some false:=by kernel_rfl
def Vz (L:Nat)(x:YT×PUnit):Option Int:=fT [Zka L,Eu L,Zil L] L ZaX [] (.one (.int .i64)) [.row 2] x
def Na (L:Nat):Sum tT:=mU 129 [.row 2] (.one (.int .i64)) (Vz L)
theorem Zjs (L:Nat)(x0:YT):Vz L (x0,())=bT (HY L (x0,())) fun y=>bif !y then some 1 else bif x0.1 == 1 then bT (YO L (x0.2,0,1000000000,())) fun y=>bif !y then some 2 else some 0 else bif x0.1 == 2 then bT (YO L (x0.2,0,x0.3,())) fun y=>bif !(y && decide (x0.3≤1000000000)) then some 2 else some 0 else bif x0.1 == 3 then bT (OZ L (x0,())) fun y=>some y else bif x0.1 == 4 then bT (YO L (x0.4,1,20,())) fun y=>bT (bif y == true then bT (YO L (x0.2,0,x0.3,())) fun y=>some y else some false) fun y=>bif !(y && decide (x0.3≤1000000)) then some 2 else some 0 else bif x0.1 == 5 then bT (YO L (x0.2,1,1000,())) fun y=>bT (bif y == true then bT (YO L (x0.3,1,1000,())) fun y=>some y else some false) fun y=>bif !y then some 2 else some 0 else some 0:=by kernel_rfl
def ZcK (L:Nat):Nat→List (Sum tT)
 | 0=>[⟨128,[.row 19,.int .i64,.row 16,.row 8],fun _=>.par _ none ((.one (.bool):RD).tv tT)⟩]
 | m + 1=>[⟨128,[.row 19,.int .i64,.row 16,.row 8],fun x=>.par _ (fnT tF tG (qOf tF (ZcK L m ++ [])) 0 L EO [.rnd [.slot 10 (.int .i64)]] (.one (.bool)) (tvL tT [.row 19,.int .i64,.row 16,.row 8] x) []) ((.one (.bool):RD).tv tT)⟩]
def TC (L m:Nat)(x:Zk×Int×YX×Zr×PUnit):Option (Bool):=fnT tF tG (qOf tF (ZcK L m ++ [])) 0 L EO [.rnd [.slot 10 (.int .i64)]] (.one (.bool)) (tvL tT [.row 19,.int .i64,.row 16,.row 8] x) []
def AZ (L:Nat)(x:Zk×Int×YX×Zr×PUnit):Option (Bool):=TC L L x
def ZmW (L:Nat):Sum tT:=⟨128,[.row 19,.int .i64,.row 16,.row 8],fun x=>.par ((.one (.bool):RD).Ty tT) (AZ L x) ((.one (.bool):RD).tv tT)⟩
def OC:Nat→Zk→Int→YX→Zr→Nat→(Int×PUnit→Option Bool)→Int×PUnit→Option Bool:=fun (m:Nat)=>fun x0 x1 x2 x3 L self acc=>bif decide (acc.1 < (↑x3.4.length:Int)) then bT (ZM x3.4 acc.1) fun y=>bT (bT (TC L m (x0,x1,x2,y,())) fun y=>some y) fun y=>bif !y then some false else self (Go.IntKind.i64.wrap (acc.1 + 1),()) else some true
theorem Zm7 (L m:Nat)(x0:Zk)(x1:Int)(x2:YX)(x3:Zr):TC L (m + 1) (x0,x1,x2,x3,())=bT (ZM x0.2 x1) fun y=>bif x3.1 == 25 && decide (x3.3 ≥ x2.3) then some false else bif x3.1 == 26 && decide (x3.3 ≥ (↑y.Decl.2.length:Int)) then some false else bif x3.1 == 22 && decide (x3.3 ≥ (↑y.Decl.3.length:Int)) then some false else bif x3.1 == 23 && decide (x3.3 ≥ (↑y.Decl.4.length:Int)) then some false else bif x3.1 == 24 && decide (x3.3 ≥ Go.IntKind.i64.wrap ((↑y.Decl.3.length:Int) + (↑y.Decl.6.length:Int))) then some false else Zt (OC m x0 x1 x2 x3 L) L (0,()):=by kernel_rfl
def VG (L:Nat)(x:(List (List UInt8))×(List UInt8)×PUnit):Option Int:=fT [] L ZdN [.rnd [.slot 5 (.int .i64)]] (.one (.int .i64)) [.lst 1 .str,.str] x
def Og (L:Nat):Sum tT:=mU 113 [.lst 1 .str,.str] (.one (.int .i64)) (VG L)
def PP:List (List UInt8)→List UInt8→(Int×PUnit→Option Int)→Int×PUnit→Option Int:=fun x0 x1 self acc=>bif decide (acc.1 < (↑x0.length:Int)) then bT (ZM x0 acc.1) fun y=>bif y == x1 then some acc.1 else self (Go.IntKind.i64.wrap (acc.1 + 1),()) else some (-1)
theorem Zmw (L:Nat)(x0:(List (List UInt8)))(x1:(List UInt8)):VG L (x0,x1,())=Zt (PP x0 x1) L (0,()):=by kernel_rfl
def JS (L:Nat)(x:PUnit):Option ((List (List UInt8))):=fT [] L Dv [] (.one (.lst 1 .str)) [] x
def ZdE (L:Nat):Sum tT:=mU 114 [] (.one (.lst 1 .str)) (JS L)
theorem Zd6 (L:Nat)  : JS L ()=some [[97,100,100],[97,102,116,101,114],[97,110,100],[97,116],[98,101,108,116],[98,111,111,108],[99,111,110,115,101,114,118,101],[99,111,110,115,116],[99,111,117,110,116],[99,121,99,108,101],[100,111,119,110],[100,114,97,119],[100,117,114],[101,108,115,101],[101,110,100],[101,118,101,114,121],[102,97,108,115,101],[102,97,117,108,116],[102,105,102,111],[102,114,101,101],[102,114,111,109],[103,101,111,109],[103,101,116],[104,111,108,100],[105,102],[105,110,116],[105,110,116,111],[108,101,97,115,116],[108,101,118,101,108],[108,105,102,111],[108,105,110,107],[108,111,99,97,108],[109,97,120],[109,105,110],[109,111,100,101,108],[110,111,116],[110,111,119],[111,98,115,101,114,118,101],[111,114],[112,97,114,97,109],[112,114,101,101,109,112,116],[112,114,105,111],[112,117,116],[113,117,101,117,101],[114,101,108,101,97,115,101],[114,101,115,111,117,114,99,101],[114,105,100,101],[114,111,117,116,105,110,101],[115,101,105,122,101],[115,101,110,100],[115,101,116],[115,104,105,102,116],[115,105,103,110,97,108],[115,105,116,101],[115,105,122,101],[115,112,97,119,110],[115,116,97,114,116],[115,116,111,112],[115,116,111,114,101],[115,116,114,101,97,109],[115,117,109],[116,97,98,108,101],[116,97,108,108,121],[116,105,99,107,115],[116,105,109,101],[116,114,117,101],[117,110,105,102,111,114,109],[117,110,116,105,108],[117,112],[118,97,114],[119,97,105,116],[119,97,105,116,105,110,103],[119,104,105,108,101]]:=by kernel_rfl
def KD (L:Nat)(x:(List UInt8)×PUnit):Option Bool:=fT [Og L,ZdE L] L NL [] (.one .bool) [.str] x
def Zgj (L:Nat):Sum tT:=mU 59 [.str] (.one .bool) (KD L)
theorem ZfJ (L:Nat)(x0:(List UInt8)):KD L (x0,())=bT (JS L ()) fun y=>bT (VG L (y,x0,())) fun y=>some (decide (y ≥ 0)):=by kernel_rfl
def Ur (L:Nat)(x:Int×PUnit):Option Bool:=fT [] L F7 [] (.one .bool) [.int .u8] x
def Zim (L:Nat):Sum tT:=mU 58 [.int .u8] (.one .bool) (Ur L)
theorem Zh7 (L:Nat)(x0:Int):Ur L (x0,())=some (decide (x0 ≥ 97) && decide (x0≤122)):=by kernel_rfl
end Go.Proofs.YtgjcjbhhhlelnaaGreatDoor
end
noncomputable section
namespace Go.Proofs.YtgjcjbhhhlelnaaGreatDoor
open Go Go.Proofs.YtgjcjbhhhlelnaaGreatDoor.Abs Go.Proofs.YtgjcjbhhhlelnaaGreatDoor.Tl
set_option maxRecDepth 100000
set_option maxHeartbeats 0
def Qa (L:Nat)(x:(List UInt8)×PUnit):Option Int:=fT [Zgj L,Zim L] L ZaZ [.rnd [.slot 3 (.int .i64)]] (.one (.int .i64)) [.str] x
def Vw (L:Nat):Sum tT:=mU 39 [.str] (.one (.int .i64)) (Qa L)
def Hq:List UInt8→Nat→(Int×PUnit→Option Int)→Int×PUnit→Option Int:=fun x0 L self acc=>bif decide (acc.1 < (↑x0.length:Int)) then bT (ZM x0 acc.1) fun y=>bT (Ur L ((↑y.toNat:Int),())) fun y=>bT (bif (!y) == true then bT (ZM x0 acc.1) fun y=>some ((↑y.toNat:Int) != 95) else some false) fun y=>bT (bif y == true then bT (ZM x0 acc.1) fun y=>bif decide ((↑y.toNat:Int) < 48) == false then bT (ZM x0 acc.1) fun y=>some (decide ((↑y.toNat:Int) > 57)) else some true else some false) fun y=>bif y then some 3 else self (Go.IntKind.i64.wrap (acc.1 + 1),()) else some 0
theorem Zju (L:Nat)(x0:(List UInt8)):Qa L (x0,())=bT (bif (decide ((↑x0.length:Int) < 1) || decide ((↑x0.length:Int) > 24)) == false then bT (ZM x0 0) fun y=>bT (Ur L ((↑y.toNat:Int),())) fun y=>some !y else some true) fun y=>bT (bif y == false then bT (KD L (x0,())) fun y=>some y else some true) fun y=>bif y then some 3 else Zt (Hq x0 L) L (0,()):=by kernel_rfl
def BB (L:Nat)(x:Int×PUnit):Option Int:=fT [] L ZdO [] (.one (.int .i64)) [.int .i64] x
def ZeF (L:Nat):Sum tT:=mU 206 [.int .i64] (.one (.int .i64)) (BB L)
theorem Zmy (L:Nat)(x0:Int):BB L (x0,())=bif x0 == 25 then some 15 else bif x0 == 26 then some 31 else some 63:=by kernel_rfl
def BA (L:Nat)(x:Int×PUnit):Option Bool:=fT [] L Zky [] (.one .bool) [.int .i64] x
def ZaO (L:Nat):Sum tT:=mU 154 [.int .i64] (.one .bool) (BA L)
theorem Zr9 (L:Nat)(x0:Int):BA L (x0,())=some (decide (x0 ≥ (-1000000000000)) && decide (x0≤1000000000000)):=by kernel_rfl
def Us (L:Nat)(x:Int×PUnit):Option Bool:=fT [] L F8 [] (.one .bool) [.int .i64] x
def Zac (L:Nat):Sum tT:=mU 205 [.int .i64] (.one .bool) (Us L)
theorem Zh8 (L:Nat)(x0:Int):Us L (x0,())=some (decide (x0 ≥ 22) && decide (x0≤24)):=by kernel_rfl
def Tc (L:Nat)(x:Int×PUnit):Option Int:=fT [] L Zba [] (.one (.int .i64)) [.int .i64] x
def ZcV (L:Nat):Sum tT:=mU 204 [.int .i64] (.one (.int .i64)) (Tc L)
theorem Zjv (L:Nat)(x0:Int):Tc L (x0,())=bif decide (x0 < 1) || decide (x0 > 26) then some (-1) else bif decide (x0 ≥ 5) && decide (x0≤8) then some 1 else bif decide (x0 ≥ 9) && decide (x0≤21) then some 2 else some 0:=by kernel_rfl
def ZcI (L:Nat):Nat→List (Sum tT)
 | 0=>[⟨194,[.row 8,.bool],fun _=>.par _ none ((.one (.int .i64):RD).tv tT)⟩]
 | m + 1=>[⟨194,[.row 8,.bool],fun x=>.par _ (fnT tF tG (qOf tF (ZcI L m ++ [Vw L,ZeF L,ZaO L,Zac L,ZcV L])) 0 L EM [.rnd [.slot 10 (.int .i64)]] (.one (.int .i64)) (tvL tT [.row 8,.bool] x) []) ((.one (.int .i64):RD).tv tT)⟩]
def TB (L m:Nat)(x:Zr×Bool×PUnit):Option (Int):=fnT tF tG (qOf tF (ZcI L m ++ [Vw L,ZeF L,ZaO L,Zac L,ZcV L])) 0 L EM [.rnd [.slot 10 (.int .i64)]] (.one (.int .i64)) (tvL tT [.row 8,.bool] x) []
def AU (L:Nat)(x:Zr×Bool×PUnit):Option (Int):=TB L L x
def ZmN (L:Nat):Sum tT:=⟨194,[.row 8,.bool],fun x=>.par ((.one (.int .i64):RD).Ty tT) (AU L x) ((.one (.int .i64):RD).tv tT)⟩
def O9:Nat→Zr→Bool→Nat→(Int×PUnit→Option Int)→Int×PUnit→Option Int:=fun (m:Nat)=>fun x0 x1 L self acc=>bif decide (acc.1 < (↑x0.4.length:Int)) then bT (ZM x0.4 acc.1) fun y=>bT (TB L m (y,x1,())) fun y=>bif y != 0 then some y else self (Go.IntKind.i64.wrap (acc.1 + 1),()) else some 0
theorem Zmz (L m:Nat)(x0:Zr)(x1:Bool):TB L (m + 1) (x0,x1,())=bT (Tc L (x0.1,())) fun y=>bT (bif (!x1) == true then bif (x0.1 == 3) == false then bT (Us L (x0.1,())) fun y=>some y else some true else some false) fun y_1=>bT (bif x1 == true then bT (Us L (x0.1,())) fun y=>some (y || x0.1 == 25 || x0.1 == 26) else some false) fun y_2=>bif !(decide (y ≥ 0) && (x1 && x0.1 != 3 || !x1 && decide (x0.1≤24))) || !y_1 && !x0.2 == [] || !(x0.1 == 1 || x0.1 == 2 || y_2) && x0.3 != 0 || (↑x0.4.length:Int) != y then some 1 else bT (bif (x0.1 == 1) == true then bT (bT (BA L (x0.3,())) fun y=>some y) fun y=>some !y else some false) fun y=>bT (bif (y || x0.1 == 2 && x0.3 != 0 && x0.3 != 1) == false then bif y_2 == true then bif decide (x0.3 < 0) == false then bT (bT (BB L (x0.1,())) fun y=>some y) fun y=>some (decide (x0.3 > y)) else some true else some false else some true) fun y=>bif y then some 2 else bT (bif y_1 == true then bT (Qa L (x0.2,())) fun y=>some (y != 0) else some false) fun y=>bif y then bT (Qa L (x0.2,())) fun y=>some y else Zt (O9 m x0 x1 L) L (0,()):=by kernel_rfl
def CB (L:Nat):Nat→List (Sum tT)
 | 0=>[⟨193,[.row 8],fun _=>.par _ none ((.one (.int .i64):RD).tv tT)⟩]
 | m + 1=>[⟨193,[.row 8],fun x=>.par _ (fnT tF tG (qOf tF (CB L m ++ [])) 0 L DW [.rnd [.slot 3 (.int .i64),.slot 4 (.int .i64)]] (.one (.int .i64)) (tvL tT [.row 8] x) []) ((.one (.int .i64):RD).tv tT)⟩]
def Ig (L m:Nat)(x:Zr×PUnit):Option (Int):=fnT tF tG (qOf tF (CB L m ++ [])) 0 L DW [.rnd [.slot 3 (.int .i64),.slot 4 (.int .i64)]] (.one (.int .i64)) (tvL tT [.row 8] x) []
def Nq (L:Nat)(x:Zr×PUnit):Option (Int):=Ig L L x
def Zkc (L:Nat):Sum tT:=⟨193,[.row 8],fun x=>.par ((.one (.int .i64):RD).Ty tT) (Nq L x) ((.one (.int .i64):RD).tv tT)⟩
def LX:Nat→Zr→Nat→(Int×Int×PUnit→Option Int)→Int×Int×PUnit→Option Int:=fun (m:Nat)=>fun x0 L self acc=>bif decide (acc.2.1 < (↑x0.4.length:Int)) then bT (ZM x0.4 acc.2.1) fun y=>bT (Ig L m (y,())) fun y=>self (if y > acc.1 then y else acc.1,Go.IntKind.i64.wrap (acc.2.1 + 1),()) else some (Go.IntKind.i64.wrap (acc.1 + 1))
theorem Zjx (L m:Nat)(x0:Zr):Ig L (m + 1) (x0,())=Zt (LX m x0 L) L (0,0,()):=by kernel_rfl
def CE (L:Nat):Nat→List (Sum tT)
 | 0=>[⟨192,[.row 8],fun _=>.par _ none ((.one (.int .i64):RD).tv tT)⟩]
 | m + 1=>[⟨192,[.row 8],fun x=>.par _ (fnT tF tG (qOf tF (CE L m ++ [])) 0 L DX [.rnd [.slot 3 (.int .i64),.slot 4 (.int .i64)]] (.one (.int .i64)) (tvL tT [.row 8] x) []) ((.one (.int .i64):RD).tv tT)⟩]
def Ih (L m:Nat)(x:Zr×PUnit):Option (Int):=fnT tF tG (qOf tF (CE L m ++ [])) 0 L DX [.rnd [.slot 3 (.int .i64),.slot 4 (.int .i64)]] (.one (.int .i64)) (tvL tT [.row 8] x) []
def Nr (L:Nat)(x:Zr×PUnit):Option (Int):=Ih L L x
def Zkd (L:Nat):Sum tT:=⟨192,[.row 8],fun x=>.par ((.one (.int .i64):RD).Ty tT) (Nr L x) ((.one (.int .i64):RD).tv tT)⟩
def LY:Nat→Zr→Nat→(Int×Int×PUnit→Option Int)→Int×Int×PUnit→Option Int:=fun (m:Nat)=>fun x0 L self acc=>bif decide (acc.2.1 < (↑x0.4.length:Int)) then bT (ZM x0.4 acc.2.1) fun y=>bT (Ih L m (y,())) fun y=>self (Go.IntKind.i64.wrap (acc.1 + y),Go.IntKind.i64.wrap (acc.2.1 + 1),()) else some acc.1
theorem Zjy (L m:Nat)(x0:Zr):Ih L (m + 1) (x0,())=Zt (LY m x0 L) L (1,0,()):=by kernel_rfl
def GL (L:Nat)(x:Zr×Bool×PUnit):Option Int:=fT [ZmN L,Zkc L,Zkd L] L Zbc [] (.one (.int .i64)) [.row 8,.bool] x
def ZcX (L:Nat):Sum tT:=mU 165 [.row 8,.bool] (.one (.int .i64)) (GL L)
theorem Zjz (L:Nat)(x0:Zr)(x1:Bool):GL L (x0,x1,())=bT (Nr L (x0,())) fun y=>bif decide (y > 60) then some 6 else bT (Nq L (x0,())) fun y=>bif decide (y > 12) then some 11 else bT (AU L (x0,x1,())) fun y=>some y:=by kernel_rfl
def Je (L:Nat)(x:Zr×PUnit):Option Int:=fT [ZcX L] L L8 [] (.one (.int .i64)) [.row 8] x
def ZcW (L:Nat):Sum tT:=mU 127 [.row 8] (.one (.int .i64)) (Je L)
theorem Zcy (L:Nat)(x0:Zr):Je L (x0,())=bT (GL L (x0,true,())) fun y=>some y:=by kernel_rfl
end Go.Proofs.YtgjcjbhhhlelnaaGreatDoor
end
noncomputable section
namespace Go.Proofs.YtgjcjbhhhlelnaaGreatDoor
open Go Go.Proofs.YtgjcjbhhhlelnaaGreatDoor.Abs Go.Proofs.YtgjcjbhhhlelnaaGreatDoor.Tl
set_option maxRecDepth 100000
set_option maxHeartbeats 0
def X7 (L:Nat)(x:PUnit):Option (List Vm):=fT [] L Zbp [] (.one (.lst 9 (.row 23))) [] x
def Nh (L:Nat):Sum tT:=mU 159 [] (.one (.lst 9 (.row 23))) (X7 L)
theorem ZjD (L:Nat)  : X7 L ()=some [Vm.mk [] [] [] false false false false false false,Vm.mk [115,108,111,116] [115,108,111,116] [] false true false false false false,Vm.mk [118,97,114] [118,97,114] [] false true false false false false,Vm.mk [100,114,97,119] [115,108,111,116] [115,116,114,101,97,109] false false false false false true,Vm.mk [106,117,109,112] [105,110,115,116,114] [] false false false false false false,Vm.mk [98,114,97,110,99,104] [105,110,115,116,114] [] false true false false false false,Vm.mk [104,111,108,100] [] [] false true false false false false,Vm.mk [115,101,105,122,101] [114,101,115,111,117,114,99,101] [] false true true true false false,Vm.mk [114,101,108,101,97,115,101] [114,101,115,111,117,114,99,101] [] false true false false false false,Vm.mk [112,117,116] [115,116,111,114,101] [] false true false false false false,Vm.mk [103,101,116] [115,116,111,114,101] [115,108,111,116] false false false false false false,Vm.mk [114,105,100,101] [98,101,108,116] [] false false false false false false,Vm.mk [119,97,105,116] [113,117,101,117,101] [] false false false false false false,Vm.mk [115,105,103,110,97,108] [113,117,101,117,101] [] false true false false false false,Vm.mk [115,101,110,100] [115,105,116,101] [114,111,117,116,105,110,101] true true false false true false,Vm.mk [115,112,97,119,110] [] [114,111,117,116,105,110,101] false true false false true false,Vm.mk [111,98,115,101,114,118,101] [116,97,108,108,121] [] false true false false false false,Vm.mk [108,101,118,101,108] [108,101,118,101,108] [] false true false false false false,Vm.mk [99,111,117,110,116] [99,111,117,110,116] [] false true false false false false,Vm.mk [101,110,100] [] [] false false false false false false]:=by kernel_rfl
def GN (L:Nat)(x:Int×PUnit):Option Bool:=fT [] L Zbt [] (.one .bool) [.int .i64] x
def ZcY (L:Nat):Sum tT:=mU 123 [.int .i64] (.one .bool) (GN L)
theorem ZjH (L:Nat)(x0:Int):GN L (x0,())=some (decide (x0 ≥ 1) && decide (x0≤19)):=by kernel_rfl
def Tq (L:Nat)(x:YE×PUnit):Option (List Zr):=fT [Nh L,ZcY L] L Zbo [] (.one (.lst 4 (.row 8))) [.row 15] x
def Zkm (L:Nat):Sum tT:=mU 126 [.row 15] (.one (.lst 4 (.row 8))) (Tq L)
theorem ZjC (L:Nat)(x0:YE):Tq L (x0,())=bT (GN L (x0.1,())) fun y=>bif !y then some [] else bT (bT (X7 L ()) fun y=>some y) fun y=>bT (ZM y x0.1) fun y=>bif y.5 then bT (apT 56 [] [x0.5]) fun y_1=>bif y.6 then bT (apT 56 y_1 [x0.6]) fun y_2=>bif y.8 then bT (apT 56 y_2 x0.7) fun y=>some y else some y_2 else bif y.8 then bT (apT 56 y_1 x0.7) fun y=>some y else some y_1 else bif y.6 then bT (apT 56 [] [x0.6]) fun y_1=>bif y.8 then bT (apT 56 y_1 x0.7) fun y=>some y else some y_1 else bif y.8 then bT (apT 56 [] x0.7) fun y=>some y else some []:=by kernel_rfl
def EF (L:Nat)(x:Zk×Int×Int×PUnit):Option (Int×Bool×PUnit):=fT [] L Zgy [.rnd [.slot 8 (.int .i64)]] (.tup [.int .i64,.bool]) [.row 19,.int .i64,.int .i64] x
def ZpE (L:Nat):Sum tT:=mU 164 [.row 19,.int .i64,.int .i64] (.tup [.int .i64,.bool]) (EF L)
def Ap:Zk→Int→Int→(Int×PUnit→Option (Int×Bool×PUnit))→Int×PUnit→Option (Int×Bool×PUnit):=fun x0 x1 x2 self acc=>bif decide (acc.1 < (↑x0.3.length:Int)) then bT (ZM x0.3 acc.1) fun y=>bT (bif (y.1 == x1) == true then bT (ZM x0.3 acc.1) fun y=>some (y.2 == x2) else some false) fun y=>bif y then bT (ZM x0.3 acc.1) fun y=>some (y.3,true,()) else self (Go.IntKind.i64.wrap (acc.1 + 1),()) else some (0,false,())
theorem Zpo (L:Nat)(x0:Zk)(x1:Int)(x2:Int):EF L (x0,x1,x2,())=Zt (Ap x0 x1 x2) L (0,()):=by kernel_rfl
def JH (L:Nat)(x:Zk×Int×YE×PUnit):Option Int:=fT [] L Zbq [] (.one (.int .i64)) [.row 19,.int .i64,.row 15] x
def Zkn (L:Nat):Sum tT:=mU 163 [.row 19,.int .i64,.row 15] (.one (.int .i64)) (JH L)
theorem ZjE (L:Nat)(x0:Zk)(x1:Int)(x2:YE):JH L (x0,x1,x2,())=bT (ZM x0.2 x1) fun y=>bif decide (x2.3 < 0) || decide (x2.3 ≥ (↑y.2.length:Int)) then some 2 else bT (ZM y.2 x2.3) fun y=>bif (↑x2.7.length:Int) != y.2 then some 8 else some 0:=by kernel_rfl
def Nv (L:Nat)(x:Zk×Int×YX×(List UInt8)×PUnit):Option Int:=fT [] L Zbr [] (.one (.int .i64)) [.row 19,.int .i64,.row 16,.str] x
def Zko (L:Nat):Sum tT:=mU 191 [.row 19,.int .i64,.row 16,.str] (.one (.int .i64)) (Nv L)
theorem ZjF (L:Nat)(x0:Zk)(x1:Int)(x2:YX)(x3:(List UInt8)):Nv L (x0,x1,x2,x3,())=bT (ZM x0.2 x1) fun y=>bif x3 == [115,108,111,116] then some x2.3 else bif x3 == [105,110,115,116,114] then some (↑x2.4.length:Int) else bif x3 == [115,105,116,101] then some (↑x0.2.length:Int) else bif x3 == [118,97,114] then some (↑y.Decl.2.length:Int) else bif x3 == [114,101,115,111,117,114,99,101] then some (↑y.Decl.3.length:Int) else bif x3 == [115,116,111,114,101] then some (↑y.Decl.4.length:Int) else bif x3 == [98,101,108,116] then some (↑y.Decl.5.length:Int) else bif x3 == [113,117,101,117,101] then some (↑y.Decl.6.length:Int) else bif x3 == [115,116,114,101,97,109] then some (↑y.Decl.7.length:Int) else bif x3 == [116,97,108,108,121] then some (↑y.Decl.8.length:Int) else bif x3 == [108,101,118,101,108] then some (↑y.Decl.9.length:Int) else some (↑y.Decl.10.length:Int):=by kernel_rfl
def Ut (L:Nat)(x:Zk×Int×YX×(List UInt8)×Int×PUnit):Option Bool:=fT [Zko L] L FD [] (.one .bool) [.row 19,.int .i64,.row 16,.str,.int .i64] x
def Zip (L:Nat):Sum tT:=mU 162 [.row 19,.int .i64,.row 16,.str,.int .i64] (.one .bool) (Ut L)
theorem ZhC (L:Nat)(x0:Zk)(x1:Int)(x2:YX)(x3:(List UInt8))(x4:Int):Ut L (x0,x1,x2,x3,x4,())=bT (bif (x3 == []) == false then bif decide (x4 ≥ 0) == true then bT (Nv L (x0,x1,x2,x3,())) fun y=>some (decide (x4 < y)) else some false else some true) fun y=>some y:=by kernel_rfl
def Tt (L:Nat)(x:Zk×Int×YX×YE×PUnit):Option Int:=fT [ZpE L,Zkn L,Zip L,Nh L] L NR [] (.one (.int .i64)) [.row 19,.int .i64,.row 16,.row 15] x
def Zgn (L:Nat):Sum tT:=mU 125 [.row 19,.int .i64,.row 16,.row 15] (.one (.int .i64)) (Tt L)
theorem ZfM (L:Nat)(x0:Zk)(x1:Int)(x2:YX)(x3:YE):Tt L (x0,x1,x2,x3,())=bT (bT (X7 L ()) fun y=>some y) fun y=>bT (ZM y x3.1) fun y=>bT (Ut L (x0,x1,x2,y.2,x3.2,())) fun y_1=>bif !y_1 then some 2 else bif x3.1 == 15 then bT (JH L (x0,x1,x3,())) fun y=>some y else bif x3.1 == 14 then bT (EF L (x0,x1,x3.2,())) fun y=>bif !y.2.1 || y.1 != x3.4 then some 16 else bT (JH L (x0,x3.2,x3,())) fun y=>some y else bT (Ut L (x0,x1,x2,y.3,x3.3,())) fun y=>bif !y then some 2 else some 0:=by kernel_rfl
def Vd (L:Nat)(x:(List Int)×(List Int)×PUnit):Option Bool:=fT [] L Du [.rnd [.slot 5 (.int .i64)]] (.one .bool) [.lst 1 (.int .i64),.lst 1 (.int .i64)] x
def ZdD (L:Nat):Sum tT:=mU 190 [.lst 1 (.int .i64),.lst 1 (.int .i64)] (.one .bool) (Vd L)
def Gp:List Int→List Int→(Int×PUnit→Option Bool)→Int×PUnit→Option Bool:=fun x0 x1 self acc=>bif decide (acc.1 < (↑x0.length:Int)) then bT (ZM x0 acc.1) fun y=>bT (ZM x1 acc.1) fun y_1=>bif y != y_1 then some false else self (Go.IntKind.i64.wrap (acc.1 + 1),()) else some true
theorem Zd5 (L:Nat)(x0:(List Int))(x1:(List Int)):Vd L (x0,x1,())=bif (↑x0.length:Int) != (↑x1.length:Int) then some false else Zt (Gp x0 x1) L (0,()):=by kernel_rfl
def JF (L:Nat)(x:YT×YT×PUnit):Option Bool:=fT [ZdD L] L ZdM [] (.one .bool) [.row 2,.row 2] x
def AP (L:Nat):Sum tT:=mU 161 [.row 2,.row 2] (.one .bool) (JF L)
theorem Zmv (L:Nat)(x0:YT)(x1:YT):JF L (x0,x1,())=bT (bif (x0.1 == x1.1 && x0.2 == x1.2 && x0.3 == x1.3 && x0.4 == x1.4) == true then bT (Vd L (x0.5,x1.5,())) fun y=>some y else some false) fun y=>bT (bif y == true then bT (Vd L (x0.6,x1.6,())) fun y=>some y else some false) fun y=>some y:=by kernel_rfl
end Go.Proofs.YtgjcjbhhhlelnaaGreatDoor
end
noncomputable section
namespace Go.Proofs.YtgjcjbhhhlelnaaGreatDoor
open Go Go.Proofs.YtgjcjbhhhlelnaaGreatDoor.Abs Go.Proofs.YtgjcjbhhhlelnaaGreatDoor.Tl
set_option maxRecDepth 100000
set_option maxHeartbeats 0
def WN (L:Nat):Nat→List (Sum tT)
 | 0=>[⟨189,[.lst 4 (.row 8),.lst 4 (.row 8)],fun _=>.par _ none ((.one (.bool):RD).tv tT)⟩,⟨160,[.row 8,.row 8],fun _=>.par _ none ((.one (.bool):RD).tv tT)⟩]
 | m + 1=>[⟨189,[.lst 4 (.row 8),.lst 4 (.row 8)],fun x=>.par _ (fnT tF tG (qOf tF (WN L m ++ [])) 0 L Ou [.rnd [.slot 5 (.int .i64)]] (.one (.bool)) (tvL tT [.lst 4 (.row 8),.lst 4 (.row 8)] x) []) ((.one (.bool):RD).tv tT)⟩,⟨160,[.row 8,.row 8],fun x=>.par _ (fnT tF tG (qOf tF (WN L m ++ [])) 0 L EL [] (.one (.bool)) (tvL tT [.row 8,.row 8] x) []) ((.one (.bool):RD).tv tT)⟩]
def I4 (L m:Nat)(x:(List Zr)×(List Zr)×PUnit):Option (Bool):=fnT tF tG (qOf tF (WN L m ++ [])) 0 L Ou [.rnd [.slot 5 (.int .i64)]] (.one (.bool)) (tvL tT [.lst 4 (.row 8),.lst 4 (.row 8)] x) []
def TA (L m:Nat)(x:Zr×Zr×PUnit):Option (Bool):=fnT tF tG (qOf tF (WN L m ++ [])) 0 L EL [] (.one (.bool)) (tvL tT [.row 8,.row 8] x) []
def Oh (L:Nat)(x:Zr×Zr×PUnit):Option (Bool):=TA L L x
def ZmM (L:Nat):Sum tT:=⟨160,[.row 8,.row 8],fun x=>.par ((.one (.bool):RD).Ty tT) (Oh L x) ((.one (.bool):RD).tv tT)⟩
def JP:Nat→List Zr→List Zr→Nat→(Int×PUnit→Option Bool)→Int×PUnit→Option Bool:=fun (m:Nat)=>fun x0 x1 L self acc=>bif decide (acc.1 < (↑x0.length:Int)) then bT (ZM x0 acc.1) fun y=>bT (ZM x1 acc.1) fun y_1=>bT (bT (TA L m (y,y_1,())) fun y=>some y) fun y=>bif !y then some false else self (Go.IntKind.i64.wrap (acc.1 + 1),()) else some true
theorem SQ (L m:Nat)(x0:(List Zr))(x1:(List Zr)):I4 L (m + 1) (x0,x1,())=bif (↑x0.length:Int) != (↑x1.length:Int) then some false else Zt (JP m x0 x1 L) L (0,()):=by kernel_rfl
theorem Zmx (L m:Nat)(x0:Zr)(x1:Zr):TA L (m + 1) (x0,x1,())=bif x0.1 != x1.1 || !x0.2 == x1.2 || x0.3 != x1.3 then some false else bT (I4 L m (x0.4,x1.4,())) fun y=>some y:=by kernel_rfl
def Tu (L:Nat)(x:YE×PUnit):Option Bool:=fT [AP L,ZmM L,Nh L] L Zbu [] (.one .bool) [.row 15] x
def Zkq (L:Nat):Sum tT:=mU 124 [.row 15] (.one .bool) (Tu L)
theorem ZjI (L:Nat)(x0:YE):Tu L (x0,())=bT (bT (X7 L ()) fun y=>some y) fun y=>bT (ZM y x0.1) fun y=>bif y.2 == [] && x0.2 != 0 then some false else bif y.3 == [] && x0.3 != 0 then some false else bif !y.4 && x0.4 != 0 then some false else bif !y.7 && x0.9 then some false else bT (bif (!y.5) == true then bT (Oh L (x0.5,Zr.mk 0 [] 0 [],())) fun y=>some !y else some false) fun y_1=>bif y_1 then some false else bT (bif (!y.6) == true then bT (Oh L (x0.6,Zr.mk 0 [] 0 [],())) fun y=>some !y else some false) fun y_2=>bif y_2 then some false else bif !y.8 && decide ((↑x0.7.length:Int) > 0) then some false else bT (bif y.9 == false then bT (JF L (x0.8,YT.mk 0 0 0 0 [] [],())) fun y=>some y else some true) fun y=>some y:=by kernel_rfl
def X8 (L:Nat)(x:Zk×Int×YX×YE×PUnit):Option Int:=fT [Na L,ZmW L,ZcW L,Zkm L,Zgn L,Zkq L,ZcY L] L Zbs [.rnd [.slot 11 (.int .i64)]] (.one (.int .i64)) [.row 19,.int .i64,.row 16,.row 15] x
def Zkp (L:Nat):Sum tT:=mU 66 [.row 19,.int .i64,.row 16,.row 15] (.one (.int .i64)) (X8 L)
def Ht:Zk→Int→YX→YE→Nat→List Zr→(Int×PUnit→Option Int)→Int×PUnit→Option Int:=fun x0 x1 x2 x3 L y self acc=>bif decide (acc.1 < (↑y.length:Int)) then bT (ZM y acc.1) fun y_1=>bT (Je L (y_1,())) fun y_2=>bT (bif (y_2 == 0) == true then bT (ZM y acc.1) fun y=>bT (bT (AZ L (x0,x1,x2,y,())) fun y=>some y) fun y=>some !y else some false) fun y=>bif y then some 2 else bif y_2 != 0 then some y_2 else self (Go.IntKind.i64.wrap (acc.1 + 1),()) else bif x3.1 == 3 then bT (Vz L (x3.8,())) fun y=>some y else some 0
theorem ZjG (L:Nat)(x0:Zk)(x1:Int)(x2:YX)(x3:YE):X8 L (x0,x1,x2,x3,())=bT (GN L (x3.1,())) fun y=>bT (bif (!y) == false then bT (Tu L (x3,())) fun y=>some !y else some true) fun y=>bif y then some 1 else bT (Tt L (x0,x1,x2,x3,())) fun y=>bif y != 0 then some y else bT (Tq L (x3,())) fun y=>Zt (Ht x0 x1 x2 x3 L y) L (0,()):=by kernel_rfl
def YQ (L:Nat)(x:Zk×Int×YX×PUnit):Option Int:=fT [Zkp L,Vw L] L NQ [.rnd [.slot 8 (.int .i64)]] (.one (.int .i64)) [.row 19,.int .i64,.row 16] x
def Zgm (L:Nat):Sum tT:=mU 43 [.row 19,.int .i64,.row 16] (.one (.int .i64)) (YQ L)
def JR:Zk→Int→YX→Nat→(Int×PUnit→Option Int)→Int×PUnit→Option Int:=fun x0 x1 x2 L self acc=>bif decide (acc.1 < (↑x2.4.length:Int)) then bT (ZM x2.4 acc.1) fun y=>bT (bT (X8 L (x0,x1,x2,y,())) fun y=>some y) fun y=>bif y != 0 then some y else self (Go.IntKind.i64.wrap (acc.1 + 1),()) else bT (ZM x2.4 (Go.IntKind.i64.wrap ((↑x2.4.length:Int) - 1))) fun y=>bif y.1 != 19 && y.1 != 4 then some 8 else some 0
theorem SS (L:Nat)(x0:Zk)(x1:Int)(x2:YX):YQ L (x0,x1,x2,())=bif decide (x1 < 0) || decide (x1 ≥ (↑x0.2.length:Int)) then some 2 else bT (Qa L (x2.1,())) fun y=>bif y != 0 then some y else bif decide (x2.2 < 0) || decide (x2.2 > x2.3) || decide (x2.2 > 6) || decide (x2.3 > 16) then some 2 else bif (↑x2.4.length:Int) == 0 then some 7 else bif decide ((↑x2.4.length:Int) > 1000) then some 6 else Zt (JR x0 x1 x2 L) L (0,()):=by kernel_rfl
def Ol (L:Nat)(x:Zk×PUnit):Option Int:=fT [] L ZdV [.rnd [.slot 2 (.int .i64),.slot 4 (.int .i64)],.rnd [.slot 2 (.int .i64),.slot 6 (.int .i64)]] (.one (.int .i64)) [.row 19] x
def ZmU (L:Nat):Sum tT:=mU 42 [.row 19] (.one (.int .i64)) (Ol L)
def Gt:Zk→(Int×Int×PUnit→Option Int)→Int×Int×PUnit→Zku→(Int×Int×PUnit→Option Int)→Int×Int×PUnit→Option Int:=fun x0 self acc y self_1 acc_1=>bif decide (acc_1.2.1 < acc.2.1) then bT (ZM x0.3 acc_1.2.1) fun y_1=>bT (bif (y_1.1 == y.1) == true then bT (ZM x0.3 acc_1.2.1) fun y_2=>some (y_2.2 == y.2) else some false) fun y=>bif y then some 4 else self_1 (acc_1.1,Go.IntKind.i64.wrap (acc_1.2.1 + 1),()) else self (acc_1.1,Go.IntKind.i64.wrap (acc.2.1 + 1),())
def Gu:Zk→Nat→(Int×Int×PUnit→Option Int)→Int×Int×PUnit→Option Int:=fun x0 L self acc=>bif decide (acc.2.1 < (↑x0.3.length:Int)) then bT (ZM x0.3 acc.2.1) fun y=>bif decide (y.1 < 0) || decide (y.1 ≥ (↑x0.2.length:Int)) || decide (y.2 < 0) || decide (y.2 ≥ (↑x0.2.length:Int)) || y.1 == y.2 || decide (y.3 < 1) || decide (y.3 > 1000000000) then some 2 else Zt (Gt x0 self acc y) L (acc.1,0,()) else some 0
theorem Zm6 (L:Nat)(x0:Zk):Ol L (x0,())=bif decide ((↑x0.3.length:Int) > 32) then some 6 else Zt (Gu x0 L) L (0,0,()):=by kernel_rfl
def Om (L:Nat)(x:ZK×PUnit):Option Bool:=fT [] L ZdW [.rnd [.slot 3 (.int .i64)]] (.one .bool) [.row 17] x
def ZmV (L:Nat):Sum tT:=mU 41 [.row 17] (.one .bool) (Om L)
def OB:ZK→(Int×PUnit→Option Bool)→Int×PUnit→Option Bool:=fun x0 self acc=>bif decide (acc.1 < (↑x0.2.length:Int)) then bT (ZM x0.Decl.11 acc.1) fun y=>bT (bif decide ((↑y.4.length:Int) > 0) == false then bT (ZM x0.2 acc.1) fun y_1=>some !y.1 == y_1.1 else some true) fun y_1=>bT (bif y_1 == false then bT (ZM x0.2 acc.1) fun y_2=>some ((↑y.2.length:Int) != y_2.2) else some true) fun y=>bif y then some false else self (Go.IntKind.i64.wrap (acc.1 + 1),()) else some true
theorem Ze3 (L:Nat)(x0:ZK):Om L (x0,())=bif (↑x0.2.length:Int) != (↑x0.Decl.11.length:Int) then some false else Zt (OB x0) L (0,()):=by kernel_rfl
def ZL (L:Nat)(x:Int×Int×Int×PUnit):Option Bool:=fT [] L FC [] (.one .bool) [.int .i64,.int .i64,.int .i64] x
def X6 (L:Nat):Sum tT:=mU 122 [.int .i64,.int .i64,.int .i64] (.one .bool) (ZL L)
theorem ZhB (L:Nat)(x0:Int)(x1:Int)(x2:Int):ZL L (x0,x1,x2,())=some (decide (x0 ≥ x1) && decide (x0≤x2)):=by kernel_rfl
def AY (L:Nat)(x:QC×(List UInt8)×PUnit):Option Int:=fT [] L ZdS [.rnd [.slot 5 (.int .i64)]] (.one (.int .i64)) [.row 21,.str] x
def ZmR (L:Nat):Sum tT:=mU 121 [.row 21,.str] (.one (.int .i64)) (AY L)
def Tj (L:Nat)(x:QC×PUnit):Option Int:=fT [X6 L,ZmR L] L Zbj [.rnd [.slot 2 (.int .i64),.slot 3 (.int .i64)],.rnd [.slot 2 (.int .i64),.slot 5 (.int .i64)]] (.one (.int .i64)) [.row 21] x
def Zkj (L:Nat):Sum tT:=mU 65 [.row 21] (.one (.int .i64)) (Tj L)
def ZhI:QC→(Int×Int×PUnit→Option Int)→Int×Int×PUnit→Zgt→(Int×Int×PUnit→Option Int)→Int×Int×PUnit→Option Int:=fun x0 self acc y self_1 acc_1=>bif decide (acc_1.2.1 < acc.2.1) then bT (ZM x0.4 acc_1.2.1) fun y_1=>bT (bif (y_1.1 == y.1) == true then bT (ZM x0.4 acc_1.2.1) fun y_2=>some (y_2.2 == y.2) else some false) fun y=>bif y then some 4 else self_1 (acc_1.1,Go.IntKind.i64.wrap (acc_1.2.1 + 1),()) else self (acc_1.1,Go.IntKind.i64.wrap (acc.2.1 + 1),())
def Cf:QC→Nat→(Int×Int×PUnit→Option Int)→Int×Int×PUnit→Option Int:=fun x0 L self acc=>bif decide (acc.2.1 < (↑x0.4.length:Int)) then bT (ZM x0.4 acc.2.1) fun y=>bT (AY L (x0,y.1,())) fun y_1=>bT (bif decide (y_1 < 0) == false then bT (AY L (x0,y.2,())) fun y=>some (decide (y < 0)) else some true) fun y_2=>bif y_2 then some 5 else bif y.1 == y.2 then some 1 else bT (ZL L (y.3,1,1000000000,())) fun y_3=>bif !y_3 then some 2 else Zt (ZhI x0 self acc y) L (acc.1,0,()) else some 0
theorem Zj8 (L:Nat)(x0:QC):Tj L (x0,())=bif decide ((↑x0.4.length:Int) > 32) then some 6 else Zt (Cf x0 L) L (0,0,()):=by kernel_rfl
def Z8 (L:Nat)(x:Int×Int×PUnit):Option Int:=fT [] L Zbi [] (.one (.int .i64)) [.int .i64,.int .i64] x
def QR (L:Nat):Sum tT:=mU 60 [.int .i64,.int .i64] (.one (.int .i64)) (Z8 L)
theorem Zj7 (L:Nat)(x0:Int)(x1:Int):Z8 L (x0,x1,())=bif x0 != 0 then some x0 else some x1:=by kernel_rfl
end Go.Proofs.YtgjcjbhhhlelnaaGreatDoor
end
noncomputable section
namespace Go.Proofs.YtgjcjbhhhlelnaaGreatDoor
open Go Go.Proofs.YtgjcjbhhhlelnaaGreatDoor.Abs Go.Proofs.YtgjcjbhhhlelnaaGreatDoor.Tl
set_option maxRecDepth 100000
set_option maxHeartbeats 0
def JG (L:Nat)(x:Zc×PUnit):Option ((List (List (List UInt8)))):=fT [] L Zbg [.rnd [.slot 4 (.int .i64),.cell 1 0 (.own 1 .str),.cell 1 1 (.own 1 .str),.cell 1 2 (.own 1 .str),.cell 1 3 (.own 1 .str),.cell 1 4 (.lst 1 .str),.cell 1 5 (.lst 1 .str),.cell 1 6 (.lst 1 .str),.cell 1 7 (.lst 1 .str),.cell 1 8 (.lst 1 .str),.cell 1 9 (.own 1 .str)],.rnd [.slot 5 (.int .i64),.cell 1 0 (.own 1 .str),.cell 1 1 (.own 1 .str),.cell 1 2 (.own 1 .str),.cell 1 3 (.own 1 .str),.cell 1 4 (.lst 1 .str),.cell 1 5 (.lst 1 .str),.cell 1 6 (.lst 1 .str),.cell 1 7 (.lst 1 .str),.cell 1 8 (.lst 1 .str),.cell 1 9 (.own 1 .str)],.rnd [.slot 6 (.int .i64),.cell 1 0 (.own 1 .str),.cell 1 1 (.own 1 .str),.cell 1 2 (.own 1 .str),.cell 1 3 (.own 1 .str),.cell 1 4 (.lst 1 .str),.cell 1 5 (.lst 1 .str),.cell 1 6 (.lst 1 .str),.cell 1 7 (.lst 1 .str),.cell 1 8 (.lst 1 .str),.cell 1 9 (.own 1 .str)],.rnd [.slot 7 (.int .i64),.cell 1 0 (.own 1 .str),.cell 1 1 (.own 1 .str),.cell 1 2 (.own 1 .str),.cell 1 3 (.own 1 .str),.cell 1 4 (.lst 1 .str),.cell 1 5 (.lst 1 .str),.cell 1 6 (.lst 1 .str),.cell 1 7 (.lst 1 .str),.cell 1 8 (.lst 1 .str),.cell 1 9 (.own 1 .str)],.rnd [.slot 8 (.int .i64),.cell 1 0 (.own 1 .str),.cell 1 1 (.own 1 .str),.cell 1 2 (.own 1 .str),.cell 1 3 (.own 1 .str),.cell 1 4 (.lst 1 .str),.cell 1 5 (.lst 1 .str),.cell 1 6 (.lst 1 .str),.cell 1 7 (.lst 1 .str),.cell 1 8 (.lst 1 .str),.cell 1 9 (.own 1 .str)]] (.one (.lst 1 (.lst 1 .str))) [.row 14] x
def Nb (L:Nat):Sum tT:=mU 117 [.row 14] (.one (.lst 1 (.lst 1 .str))) (JG L)
def Rj:Zc→(Int×List (List UInt8)×List (List UInt8)×List (List UInt8)×List (List UInt8)×List (List UInt8)×List (List UInt8)×List (List UInt8)×List (List UInt8)×List (List UInt8)×List (List UInt8)×PUnit→Option (List (List (List UInt8))))→Int×List (List UInt8)×List (List UInt8)×List (List UInt8)×List (List UInt8)×List (List UInt8)×List (List UInt8)×List (List UInt8)×List (List UInt8)×List (List UInt8)×List (List UInt8)×PUnit→Option (List (List (List UInt8))):=fun (x0:Zc) (self:Int×List (List UInt8)×List (List UInt8)×List (List UInt8)×List (List UInt8)×List (List UInt8)×List (List UInt8)×List (List UInt8)×List (List UInt8)×List (List UInt8)×List (List UInt8)×PUnit→Option (List (List (List UInt8)))) (acc:Int×List (List UInt8)×List (List UInt8)×List (List UInt8)×List (List UInt8)×List (List UInt8)×List (List UInt8)×List (List UInt8)×List (List UInt8)×List (List UInt8)×List (List UInt8)×PUnit)=>bif decide (acc.1 < (↑x0.11.length:Int)) then bT (ZM x0.11 acc.1) fun y=>bT (apT 16 acc.2.2.2.2.2.2.2.2.2.2.1 [y.1]) fun y=>self (Go.IntKind.i64.wrap (acc.1 + 1),acc.2.1,acc.2.2.1,acc.2.2.2.1,acc.2.2.2.2.1,acc.2.2.2.2.2.1,acc.2.2.2.2.2.2.1,acc.2.2.2.2.2.2.2.1,acc.2.2.2.2.2.2.2.2.1,acc.2.2.2.2.2.2.2.2.2.1,y,()) else some [acc.2.1,acc.2.2.1,acc.2.2.2.1,acc.2.2.2.2.1,acc.2.2.2.2.2.1,acc.2.2.2.2.2.2.1,acc.2.2.2.2.2.2.2.1,acc.2.2.2.2.2.2.2.2.1,acc.2.2.2.2.2.2.2.2.2.1,acc.2.2.2.2.2.2.2.2.2.2.1]
def Rk:Zc→Nat→(Int×List (List UInt8)×List (List UInt8)×List (List UInt8)×List (List UInt8)×List (List UInt8)×List (List UInt8)×List (List UInt8)×List (List UInt8)×List (List UInt8)×List (List UInt8)×PUnit→Option (List (List (List UInt8))))→Int×List (List UInt8)×List (List UInt8)×List (List UInt8)×List (List UInt8)×List (List UInt8)×List (List UInt8)×List (List UInt8)×List (List UInt8)×List (List UInt8)×List (List UInt8)×PUnit→Option (List (List (List UInt8))):=fun (x0:Zc) (L:Nat) (self:Int×List (List UInt8)×List (List UInt8)×List (List UInt8)×List (List UInt8)×List (List UInt8)×List (List UInt8)×List (List UInt8)×List (List UInt8)×List (List UInt8)×List (List UInt8)×PUnit→Option (List (List (List UInt8)))) (acc:Int×List (List UInt8)×List (List UInt8)×List (List UInt8)×List (List UInt8)×List (List UInt8)×List (List UInt8)×List (List UInt8)×List (List UInt8)×List (List UInt8)×List (List UInt8)×PUnit)=>bif decide (acc.1 < (↑x0.5.length:Int)) then bT (ZM x0.5 acc.1) fun y=>bT (apT 16 acc.2.2.2.2.1 [y.1]) fun y=>self (Go.IntKind.i64.wrap (acc.1 + 1),acc.2.1,acc.2.2.1,acc.2.2.2.1,y,acc.2.2.2.2.2.1,acc.2.2.2.2.2.2.1,acc.2.2.2.2.2.2.2.1,acc.2.2.2.2.2.2.2.2.1,acc.2.2.2.2.2.2.2.2.2.1,acc.2.2.2.2.2.2.2.2.2.2.1,()) else Zt (Rj x0) L (0,acc.2.1,acc.2.2.1,acc.2.2.2.1,acc.2.2.2.2.1,x0.6,x0.7,x0.8,x0.9,x0.10,acc.2.2.2.2.2.2.2.2.2.2.1,())
def Rl:Zc→Nat→(Int×List (List UInt8)×List (List UInt8)×List (List UInt8)×List (List UInt8)×List (List UInt8)×List (List UInt8)×List (List UInt8)×List (List UInt8)×List (List UInt8)×List (List UInt8)×PUnit→Option (List (List (List UInt8))))→Int×List (List UInt8)×List (List UInt8)×List (List UInt8)×List (List UInt8)×List (List UInt8)×List (List UInt8)×List (List UInt8)×List (List UInt8)×List (List UInt8)×List (List UInt8)×PUnit→Option (List (List (List UInt8))):=fun (x0:Zc) (L:Nat) (self:Int×List (List UInt8)×List (List UInt8)×List (List UInt8)×List (List UInt8)×List (List UInt8)×List (List UInt8)×List (List UInt8)×List (List UInt8)×List (List UInt8)×List (List UInt8)×PUnit→Option (List (List (List UInt8)))) (acc:Int×List (List UInt8)×List (List UInt8)×List (List UInt8)×List (List UInt8)×List (List UInt8)×List (List UInt8)×List (List UInt8)×List (List UInt8)×List (List UInt8)×List (List UInt8)×PUnit)=>bif decide (acc.1 < (↑x0.4.length:Int)) then bT (ZM x0.4 acc.1) fun y=>bT (apT 16 acc.2.2.2.1 [y.1]) fun y=>self (Go.IntKind.i64.wrap (acc.1 + 1),acc.2.1,acc.2.2.1,y,acc.2.2.2.2.1,acc.2.2.2.2.2.1,acc.2.2.2.2.2.2.1,acc.2.2.2.2.2.2.2.1,acc.2.2.2.2.2.2.2.2.1,acc.2.2.2.2.2.2.2.2.2.1,acc.2.2.2.2.2.2.2.2.2.2.1,()) else Zt (Rk x0 L) L (0,acc.2.1,acc.2.2.1,acc.2.2.2.1,acc.2.2.2.2.1,acc.2.2.2.2.2.1,acc.2.2.2.2.2.2.1,acc.2.2.2.2.2.2.2.1,acc.2.2.2.2.2.2.2.2.1,acc.2.2.2.2.2.2.2.2.2.1,acc.2.2.2.2.2.2.2.2.2.2.1,())
def Rn:Zc→Nat→(Int×List (List UInt8)×List (List UInt8)×List (List UInt8)×List (List UInt8)×List (List UInt8)×List (List UInt8)×List (List UInt8)×List (List UInt8)×List (List UInt8)×List (List UInt8)×PUnit→Option (List (List (List UInt8))))→Int×List (List UInt8)×List (List UInt8)×List (List UInt8)×List (List UInt8)×List (List UInt8)×List (List UInt8)×List (List UInt8)×List (List UInt8)×List (List UInt8)×List (List UInt8)×PUnit→Option (List (List (List UInt8))):=fun (x0:Zc) (L:Nat) (self:Int×List (List UInt8)×List (List UInt8)×List (List UInt8)×List (List UInt8)×List (List UInt8)×List (List UInt8)×List (List UInt8)×List (List UInt8)×List (List UInt8)×List (List UInt8)×PUnit→Option (List (List (List UInt8)))) (acc:Int×List (List UInt8)×List (List UInt8)×List (List UInt8)×List (List UInt8)×List (List UInt8)×List (List UInt8)×List (List UInt8)×List (List UInt8)×List (List UInt8)×List (List UInt8)×PUnit)=>bif decide (acc.1 < (↑x0.3.length:Int)) then bT (ZM x0.3 acc.1) fun y=>bT (apT 16 acc.2.2.1 [y.1]) fun y=>self (Go.IntKind.i64.wrap (acc.1 + 1),acc.2.1,y,acc.2.2.2.1,acc.2.2.2.2.1,acc.2.2.2.2.2.1,acc.2.2.2.2.2.2.1,acc.2.2.2.2.2.2.2.1,acc.2.2.2.2.2.2.2.2.1,acc.2.2.2.2.2.2.2.2.2.1,acc.2.2.2.2.2.2.2.2.2.2.1,()) else Zt (Rl x0 L) L (0,acc.2.1,acc.2.2.1,acc.2.2.2.1,acc.2.2.2.2.1,acc.2.2.2.2.2.1,acc.2.2.2.2.2.2.1,acc.2.2.2.2.2.2.2.1,acc.2.2.2.2.2.2.2.2.1,acc.2.2.2.2.2.2.2.2.2.1,acc.2.2.2.2.2.2.2.2.2.2.1,())
def Ro:Zc→Nat→(Int×List (List UInt8)×List (List UInt8)×List (List UInt8)×List (List UInt8)×List (List UInt8)×List (List UInt8)×List (List UInt8)×List (List UInt8)×List (List UInt8)×List (List UInt8)×PUnit→Option (List (List (List UInt8))))→Int×List (List UInt8)×List (List UInt8)×List (List UInt8)×List (List UInt8)×List (List UInt8)×List (List UInt8)×List (List UInt8)×List (List UInt8)×List (List UInt8)×List (List UInt8)×PUnit→Option (List (List (List UInt8))):=fun (x0:Zc) (L:Nat) (self:Int×List (List UInt8)×List (List UInt8)×List (List UInt8)×List (List UInt8)×List (List UInt8)×List (List UInt8)×List (List UInt8)×List (List UInt8)×List (List UInt8)×List (List UInt8)×PUnit→Option (List (List (List UInt8)))) (acc:Int×List (List UInt8)×List (List UInt8)×List (List UInt8)×List (List UInt8)×List (List UInt8)×List (List UInt8)×List (List UInt8)×List (List UInt8)×List (List UInt8)×List (List UInt8)×PUnit)=>bif decide (acc.1 < (↑x0.2.length:Int)) then bT (ZM x0.2 acc.1) fun y=>bT (apT 16 acc.2.1 [y.1]) fun y=>self (Go.IntKind.i64.wrap (acc.1 + 1),y,acc.2.2.1,acc.2.2.2.1,acc.2.2.2.2.1,acc.2.2.2.2.2.1,acc.2.2.2.2.2.2.1,acc.2.2.2.2.2.2.2.1,acc.2.2.2.2.2.2.2.2.1,acc.2.2.2.2.2.2.2.2.2.1,acc.2.2.2.2.2.2.2.2.2.2.1,()) else Zt (Rn x0 L) L (0,acc.2.1,acc.2.2.1,acc.2.2.2.1,acc.2.2.2.2.1,acc.2.2.2.2.2.1,acc.2.2.2.2.2.2.1,acc.2.2.2.2.2.2.2.1,acc.2.2.2.2.2.2.2.2.1,acc.2.2.2.2.2.2.2.2.2.1,acc.2.2.2.2.2.2.2.2.2.2.1,())
theorem Zj5 (L:Nat)(x0:Zc):JG L (x0,())=Zt (Ro x0 L) L (0,[],[],[],[],[],[],[],[],[],[],()):=by kernel_rfl
def Q9 (L:Nat)(x:Zc×(List UInt8)×PUnit):Option (List UInt8):=fT [Og L,Nb L] L ZdR [.rnd [.slot 7 (.int .i64)]] (.one .str) [.row 14,.str] x
def ZmQ (L:Nat):Sum tT:=mU 188 [.row 14,.str] (.one .str) (Q9 L)
def OA:List UInt8→Nat→List (List (List UInt8))→(Int×PUnit→Option (List UInt8))→Int×PUnit→Option (List UInt8):=fun x1 L y self acc=>bif decide (acc.1 < (↑y.length:Int)) then bT (ZM y acc.1) fun y=>bT (VG L (y,x1,())) fun y=>bif decide (y ≥ 0) then bT (ZM [[118,97,114],[114,101,115,111,117,114,99,101],[115,116,111,114,101],[98,101,108,116],[113,117,101,117,101],[115,116,114,101,97,109],[116,97,108,108,121],[108,101,118,101,108],[99,111,117,110,116],[114,111,117,116,105,110,101]] acc.1) fun y=>some y else self (Go.IntKind.i64.wrap (acc.1 + 1),()) else some []
theorem Zm3 (L:Nat)(x0:Zc)(x1:(List UInt8)):Q9 L (x0,x1,())=bT (JG L (x0,())) fun (y:List (List (List UInt8)))=>Zt (OA x1 L y) L (0,()):=by kernel_rfl
def Zo (L:Nat)(x:Bool×Int×PUnit):Option Int:=fT [] L FB [] (.one (.int .i64)) [.bool,.int .i64] x
def WR (L:Nat):Sum tT:=mU 61 [.bool,.int .i64] (.one (.int .i64)) (Zo L)
theorem ZhA (L:Nat)(x0:Bool)(x1:Int):Zo L (x0,x1,())=bif x0 then some 0 else some x1:=by kernel_rfl
def BD (L:Nat)(x:Zc×I7×PUnit):Option Int:=fT [X6 L,QR L,ZmQ L,WR L] L ZdU [] (.one (.int .i64)) [.row 14,.row 12] x
def ZmT (L:Nat):Sum tT:=mU 158 [.row 14,.row 12] (.one (.int .i64)) (BD L)
theorem Zm5 (L:Nat)(x0:Zc)(x1:I7):BD L (x0,x1,())=bif x1.2 == [99,114,101,97,116,101,100] then bT (bT (Zo L (!([114,111,117,116,105,110,101]:List UInt8) == [],1,())) fun y=>some y) fun y=>bT (bT (Q9 L (x0,x1.3,())) fun y=>some y) fun y_1=>bT (bT (Zo L (y_1 == [114,111,117,116,105,110,101],5,())) fun y=>some y) fun y_2=>bT (bT (Z8 L (y,y_2,())) fun y=>some y) fun y=>bT (ZL L (x1.1,(-1000),1000,())) fun y_3=>bT (Zo L (y_3 && x1.1 != 0,2,())) fun y_4=>bT (Z8 L (y,y_4,())) fun y=>some y else bif x1.2 == [101,110,100,101,100] then bT (bT (Zo L (!([114,111,117,116,105,110,101]:List UInt8) == [],1,())) fun y=>some y) fun y=>bT (bT (Q9 L (x0,x1.3,())) fun y=>some y) fun y_1=>bT (bT (Zo L (y_1 == [114,111,117,116,105,110,101],5,())) fun y=>some y) fun y_2=>bT (bT (Z8 L (y,y_2,())) fun y=>some y) fun y=>bT (ZL L (x1.1,(-1000),1000,())) fun y_3=>bT (Zo L (y_3 && x1.1 != 0,2,())) fun y_4=>bT (Z8 L (y,y_4,())) fun y=>some y else bif x1.2 == [105,110,115,105,100,101] then bT (bT (Zo L (!([114,111,117,116,105,110,101]:List UInt8) == [],1,())) fun y=>some y) fun y=>bT (bT (Q9 L (x0,x1.3,())) fun y=>some y) fun y_1=>bT (bT (Zo L (y_1 == [114,111,117,116,105,110,101],5,())) fun y=>some y) fun y_2=>bT (bT (Z8 L (y,y_2,())) fun y=>some y) fun y=>bT (ZL L (x1.1,(-1000),1000,())) fun y_3=>bT (Zo L (y_3 && x1.1 != 0,2,())) fun y_4=>bT (Z8 L (y,y_4,())) fun y=>some y else bif x1.2 == [115,116,111,114,101,100] then bT (bT (Zo L (!([115,116,111,114,101]:List UInt8) == [],1,())) fun y=>some y) fun y=>bT (bT (Q9 L (x0,x1.3,())) fun y=>some y) fun y_1=>bT (bT (Zo L (y_1 == [115,116,111,114,101],5,())) fun y=>some y) fun y_2=>bT (bT (Z8 L (y,y_2,())) fun y=>some y) fun y=>bT (ZL L (x1.1,(-1000),1000,())) fun y_3=>bT (Zo L (y_3 && x1.1 != 0,2,())) fun y_4=>bT (Z8 L (y,y_4,())) fun y=>some y else bif x1.2 == [101,110,116,101,114,101,100] then bT (bT (Zo L (!([115,116,111,114,101]:List UInt8) == [],1,())) fun y=>some y) fun y=>bT (bT (Q9 L (x0,x1.3,())) fun y=>some y) fun y_1=>bT (bT (Zo L (y_1 == [115,116,111,114,101],5,())) fun y=>some y) fun y_2=>bT (bT (Z8 L (y,y_2,())) fun y=>some y) fun y=>bT (ZL L (x1.1,(-1000),1000,())) fun y_3=>bT (Zo L (y_3 && x1.1 != 0,2,())) fun y_4=>bT (Z8 L (y,y_4,())) fun y=>some y else bif x1.2 == [108,101,102,116] then bT (bT (Zo L (!([115,116,111,114,101]:List UInt8) == [],1,())) fun y=>some y) fun y=>bT (bT (Q9 L (x0,x1.3,())) fun y=>some y) fun y_1=>bT (bT (Zo L (y_1 == [115,116,111,114,101],5,())) fun y=>some y) fun y_2=>bT (bT (Z8 L (y,y_2,())) fun y=>some y) fun y=>bT (ZL L (x1.1,(-1000),1000,())) fun y_3=>bT (Zo L (y_3 && x1.1 != 0,2,())) fun y_4=>bT (Z8 L (y,y_4,())) fun y=>some y else bif x1.2 == [99,111,117,110,116,101,100] then bT (bT (Zo L (!([99,111,117,110,116]:List UInt8) == [],1,())) fun y=>some y) fun y=>bT (bT (Q9 L (x0,x1.3,())) fun y=>some y) fun y_1=>bT (bT (Zo L (y_1 == [99,111,117,110,116],5,())) fun y=>some y) fun y_2=>bT (bT (Z8 L (y,y_2,())) fun y=>some y) fun y=>bT (ZL L (x1.1,(-1000),1000,())) fun y_3=>bT (Zo L (y_3 && x1.1 != 0,2,())) fun y_4=>bT (Z8 L (y,y_4,())) fun y=>some y else bT (bT (Zo L (!([]:List UInt8) == [],1,())) fun y=>some y) fun y=>bT (bT (Q9 L (x0,x1.3,())) fun y=>some y) fun y_1=>bT (bT (Zo L (y_1 == [],5,())) fun y=>some y) fun y_2=>bT (bT (Z8 L (y,y_2,())) fun y=>some y) fun y=>bT (ZL L (x1.1,(-1000),1000,())) fun y_3=>bT (Zo L (y_3 && x1.1 != 0,2,())) fun y_4=>bT (Z8 L (y,y_4,())) fun y=>some y:=by kernel_rfl
def V3 (L:Nat)(x:(List UInt8)×(List (List UInt8))×PUnit):Option Int:=fT [QR L,WR L,Og L,Vw L] L Zbk [] (.one (.int .i64)) [.str,.lst 1 .str] x
def G9 (L:Nat):Sum tT:=mU 63 [.str,.lst 1 .str] (.one (.int .i64)) (V3 L)
theorem Zj9 (L:Nat)(x0:(List UInt8))(x1:(List (List UInt8))):V3 L (x0,x1,())=bT (Qa L (x0,())) fun y=>bT (VG L (x1,x0,())) fun y_1=>bT (Zo L (decide (y_1 < 0),4,())) fun y_2=>bT (Z8 L (y,y_2,())) fun y=>some y:=by kernel_rfl
def EE (L:Nat)(x:Zc×Zdi×(List (List UInt8))×PUnit):Option Int:=fT [ZaO L,ZmT L,QR L,WR L,G9 L] L Zgx [.rnd [.slot 7 (.int .i64),.slot 8 (.int .i64)]] (.one (.int .i64)) [.row 14,.row 13,.lst 1 .str] x
def ZpD (L:Nat):Sum tT:=mU 120 [.row 14,.row 13,.lst 1 .str] (.one (.int .i64)) (EE L)
def Bi:Zc→Zdi→Nat→(Int×Int×PUnit→Option Int)→Int×Int×PUnit→Option Int:=fun x0 x1 L self acc=>bif decide (acc.2.1 < (↑x1.2.length:Int)) then bT (ZM x1.2 acc.2.1) fun y=>bT (bT (BD L (x0,y,())) fun y=>some y) fun y=>bT (bT (Z8 L (acc.1,y,())) fun y=>some y) fun y=>self (y,Go.IntKind.i64.wrap (acc.2.1 + 1),()) else bT (BA L (x1.3,())) fun y=>bT (Zo L (y,2,())) fun y=>bT (Z8 L (acc.1,y,())) fun y=>some y
theorem Zpn (L:Nat)(x0:Zc)(x1:Zdi)(x2:(List (List UInt8))):EE L (x0,x1,x2,())=bT (V3 L (x1.1,x2,())) fun y=>bT (Zo L (decide ((↑x1.2.length:Int) > 0),7,())) fun y_1=>bT (Z8 L (y,y_1,())) fun y=>bT (Zo L (decide ((↑x1.2.length:Int)≤8),6,())) fun y_2=>bT (Z8 L (y,y_2,())) fun y=>Zt (Bi x0 x1 L) L (y,0,()):=by kernel_rfl
def Oj (L:Nat)(x:Int×Int×PUnit):Option Bool:=fT [X6 L,ZaO L] L ZdQ [] (.one .bool) [.int .i64,.int .i64] x
def AQ (L:Nat):Sum tT:=mU 116 [.int .i64,.int .i64] (.one .bool) (Oj L)
theorem Zm2 (L:Nat)(x0:Int)(x1:Int):Oj L (x0,x1,())=bif x0 == 1 then bT (BA L (x1,())) fun y=>some y else bif x0 == 2 then some (x1 == 0 || x1 == 1) else bif x0 == 3 then bT (ZL L (x1,0,1000000000,())) fun y=>some y else some false:=by kernel_rfl
def KE (L:Nat)(x:Zc×(List UInt8)×PUnit):Option Int:=fT [Og L,Nb L] L NM [] (.one (.int .i64)) [.row 14,.str] x
def Zgk (L:Nat):Sum tT:=mU 157 [.row 14,.str] (.one (.int .i64)) (KE L)
theorem ZfK (L:Nat)(x0:Zc)(x1:(List UInt8)):KE L (x0,x1,())=bT (JG L (x0,())) fun (y:List (List (List UInt8)))=>bT (ZM y 9) fun y=>bT (VG L (y,x1,())) fun y=>some y:=by kernel_rfl
def Tm (L:Nat)(x:Zc×Xi×PUnit):Option Int:=fT [WR L,X6 L,AQ L,Zgk L] L Zbl [.rnd [.slot 7 (.int .i64)]] (.one (.int .i64)) [.row 14,.row 11] x
def Zkk (L:Nat):Sum tT:=mU 119 [.row 14,.row 11] (.one (.int .i64)) (Tm L)
def Hr:Xi→Nat→ZR→(Int×PUnit→Option Int)→Int×PUnit→Option Int:=fun x1 L y self acc=>bif decide (acc.1 < (↑y.2.length:Int)) then bT (ZM y.2 acc.1) fun y=>bT (ZM x1.2 acc.1) fun y_1=>bT (bT (Oj L (y.2,y_1,())) fun y=>some y) fun y=>bif !y then some 2 else self (Go.IntKind.i64.wrap (acc.1 + 1),()) else bT (ZL L (x1.3,0,1000000000,())) fun y=>bT (bif y == true then bT (ZL L (x1.4,0,1000000000,())) fun y=>some y else some false) fun y=>bT (bif y == true then bT (ZL L (x1.5,0,1000000000,())) fun y=>some y else some false) fun y=>bT (Zo L (y && (x1.4 != 0 || x1.5 == 0),2,())) fun y=>some y
theorem ZjA (L:Nat)(x0:Zc)(x1:Xi):Tm L (x0,x1,())=bT (KE L (x0,x1.1,())) fun y=>bif decide (y < 0) then some 5 else bT (ZM x0.11 y) fun y=>bif (↑x1.2.length:Int) != (↑y.2.length:Int) then some 8 else Zt (Hr x1 L y) L (0,()):=by kernel_rfl
def YP (L:Nat)(x:Zr×PUnit):Option Int:=fT [ZcX L] L Zbb [] (.one (.int .i64)) [.row 8] x
def Zkb (L:Nat):Sum tT:=mU 219 [.row 8] (.one (.int .i64)) (YP L)
theorem Zjw (L:Nat)(x0:Zr):YP L (x0,())=bT (GL L (x0,false,())) fun y=>some y:=by kernel_rfl
end Go.Proofs.YtgjcjbhhhlelnaaGreatDoor
end
noncomputable section
namespace Go.Proofs.YtgjcjbhhhlelnaaGreatDoor
open Go Go.Proofs.YtgjcjbhhhlelnaaGreatDoor.Abs Go.Proofs.YtgjcjbhhhlelnaaGreatDoor.Tl
set_option maxRecDepth 100000
set_option maxHeartbeats 0
def Tf (L:Nat)(x:Z7×YL×PUnit):Option Int:=fT [Zkb L] L Zbe [.rnd [.slot 5 (.int .i64),.slot 6 (.int .i64)]] (.one (.int .i64)) [.row 9,.row 27] x
def Zkh (L:Nat):Sum tT:=mU 217 [.row 9,.row 27] (.one (.int .i64)) (Tf L)
def Wx:Z7→Nat→(Int×Int×PUnit→Option Int)→Int×Int×PUnit→Option Int:=fun x0 L self acc=>bif acc.1 == 0 && decide (acc.2.1 < (↑x0.6.length:Int)) then bT (ZM x0.6 acc.2.1) fun y=>bT (YP L (y,())) fun y=>self (y,Go.IntKind.i64.wrap (acc.2.1 + 1),()) else some acc.1
def FW:Z7→Nat→(Int×Int×PUnit→Option Int)→Int×Int×PUnit→Option Int:=fun x0 L self acc=>bif acc.1 == 0 && decide (acc.2.1 < (↑x0.6.length:Int)) then bT (ZM x0.6 acc.2.1) fun y=>bT (YP L (y,())) fun y=>self (y,Go.IntKind.i64.wrap (acc.2.1 + 1),()) else some acc.1
def FX:Z7→Nat→(Int×Int×PUnit→Option Int)→Int×Int×PUnit→Option Int:=fun x0 L self acc=>bif acc.1 == 0 && decide (acc.2.1 < (↑x0.6.length:Int)) then bT (ZM x0.6 acc.2.1) fun y=>bT (YP L (y,())) fun y=>self (y,Go.IntKind.i64.wrap (acc.2.1 + 1),()) else some acc.1
def FY:Z7→Nat→(Int×Int×PUnit→Option Int)→Int×Int×PUnit→Option Int:=fun x0 L self acc=>bif acc.1 == 0 && decide (acc.2.1 < (↑x0.6.length:Int)) then bT (ZM x0.6 acc.2.1) fun y=>bT (YP L (y,())) fun y=>self (y,Go.IntKind.i64.wrap (acc.2.1 + 1),()) else some acc.1
def FZ:Z7→Nat→(Int×Int×PUnit→Option Int)→Int×Int×PUnit→Option Int:=fun x0 L self acc=>bif acc.1 == 0 && decide (acc.2.1 < (↑x0.6.length:Int)) then bT (ZM x0.6 acc.2.1) fun y=>bT (YP L (y,())) fun y=>self (y,Go.IntKind.i64.wrap (acc.2.1 + 1),()) else some acc.1
def Cb:Z7→Nat→(Int×Int×PUnit→Option Int)→Int×Int×PUnit→Option Int:=fun x0 L self acc=>bif acc.1 == 0 && decide (acc.2.1 < (↑x0.6.length:Int)) then bT (ZM x0.6 acc.2.1) fun y=>bT (YP L (y,())) fun y=>self (y,Go.IntKind.i64.wrap (acc.2.1 + 1),()) else some acc.1
def Cc:Z7→Nat→(Int×Int×PUnit→Option Int)→Int×Int×PUnit→Option Int:=fun x0 L self acc=>bif acc.1 == 0 && decide (acc.2.1 < (↑x0.6.length:Int)) then bT (ZM x0.6 acc.2.1) fun y=>bT (YP L (y,())) fun y=>self (y,Go.IntKind.i64.wrap (acc.2.1 + 1),()) else some acc.1
def Ce:Z7→Nat→(Int×Int×PUnit→Option Int)→Int×Int×PUnit→Option Int:=fun x0 L self acc=>bif acc.1 == 0 && decide (acc.2.1 < (↑x0.6.length:Int)) then bT (ZM x0.6 acc.2.1) fun y=>bT (YP L (y,())) fun y=>self (y,Go.IntKind.i64.wrap (acc.2.1 + 1),()) else some acc.1
theorem Zj3 (L:Nat)(x0:Z7)(x1:YL):Tf L (x0,x1,())=bif x1.3 then bT (YP L (x0.4,())) fun y=>bif y == 0 && x1.4 then bT (YP L (x0.5,())) fun y=>bif y == 0 && decide ((↑x0.6.length:Int) > 6) then Zt (Wx x0 L) L (6,0,()) else Zt (FW x0 L) L (y,0,()) else bif y == 0 && decide ((↑x0.6.length:Int) > 6) then Zt (FX x0 L) L (6,0,()) else Zt (FY x0 L) L (y,0,()) else bif 0 == 0 && x1.4 then bT (YP L (x0.5,())) fun y=>bif y == 0 && decide ((↑x0.6.length:Int) > 6) then Zt (FZ x0 L) L (6,0,()) else Zt (Cb x0 L) L (y,0,()) else bif 0 == 0 && decide ((↑x0.6.length:Int) > 6) then Zt (Cc x0 L) L (6,0,()) else Zt (Ce x0 L) L (0,0,()):=by kernel_rfl
def Oi (L:Nat)(x:Zr×PUnit):Option Bool:=fT [] L ZdP [] (.one .bool) [.row 8] x
def ZmP (L:Nat):Sum tT:=mU 218 [.row 8] (.one .bool) (Oi L)
theorem Zm1 (L:Nat)(x0:Zr):Oi L (x0,())=some (x0.1 == 0 && x0.2 == [] && x0.3 == 0 && (↑x0.4.length:Int) == 0):=by kernel_rfl
def EC (L:Nat)(x:Int×PUnit):Option (YL×Bool×PUnit):=fT [] L Zkz [] (.tup [.row 27,.bool]) [.int .i64] x
def Zl8 (L:Nat):Sum tT:=mU 215 [.int .i64] (.tup [.row 27,.bool]) (EC L)
theorem ZrA (L:Nat)(x0:Int):EC L (x0,())=bif x0 == 1 then some (YL.mk true false true false false false false false false,true,()) else bif x0 == 7 then some (YL.mk true false true false false false false false false,true,()) else bif x0 == 8 then some (YL.mk true false true false false false false false false,true,()) else bif x0 == 12 then some (YL.mk true false true false false false false false false,true,()) else bif x0 == 15 then some (YL.mk true false true false false false false false false,true,()) else bif x0 == 16 then some (YL.mk true false true false false false false false false,true,()) else bif x0 == 17 then some (YL.mk true false true false false false false false false,true,()) else bif x0 == 2 then some (YL.mk true true false false false true false false false,true,()) else bif x0 == 3 then some (YL.mk false false true false false false false true true,true,()) else bif x0 == 4 then some (YL.mk false false true false false false false true false,true,()) else bif x0 == 5 then some (YL.mk false false true false false false false false false,true,()) else bif x0 == 6 then some (YL.mk true false true true false false true false false,true,()) else bif x0 == 9 then some (YL.mk true true false false false false false false false,true,()) else bif x0 == 10 then some (YL.mk true false false false false false false false false,true,()) else bif x0 == 11 then some (YL.mk true false false false false false false false false,true,()) else bif x0 == 13 then some (YL.mk true true true false true false false false false,true,()) else bif x0 == 14 then some (YL.mk true false true false true false false false false,true,()) else bif x0 == 18 then some (YL.mk false false false false false false false false false,true,()) else some (YL.mk false false false false false false false false false,false,()):=by kernel_rfl
def Ia (L:Nat)(x:Z7×PUnit):Option Bool:=fT [AP L,ZmP L,Zl8 L] L F9 [] (.one .bool) [.row 9] x
def Zin (L:Nat):Sum tT:=mU 216 [.row 9] (.one .bool) (Ia L)
theorem Zh9 (L:Nat)(x0:Z7):Ia L (x0,())=bT (EC L (x0.1,())) fun y=>bT (bif y.1.3 == false then bT (Oi L (x0.4,())) fun y=>some y else some true) fun y_1=>bT (bif y_1 == true then bif y.1.4 == false then bT (Oi L (x0.5,())) fun y=>some y else some true else some false) fun y_2=>bT (bif (y.2.1 && ((y.1.1 || x0.2 == []) && (y.1.2 || x0.3 == [])) && (y_2 && (y.1.5 || (↑x0.6.length:Int) == 0)) && ((y.1.8 || (↑x0.9.length:Int) == 0) && (y.1.9 || (↑x0.10.length:Int) == 0))) == true then bif y.1.6 == false then bT (JF L (x0.7,YT.mk 0 0 0 0 [] [],())) fun y=>some y else some true else some false) fun y_3=>some (y_3 && (y.1.7 || !x0.8)):=by kernel_rfl
def ED (L:Nat)(x:Z7×PUnit):Option Int:=fT [Na L,Zkh L,Vw L,Zin L,Zl8 L] L Zgw [] (.one (.int .i64)) [.row 9] x
def Zio (L:Nat):Sum tT:=mU 213 [.row 9] (.one (.int .i64)) (ED L)
theorem Zpm (L:Nat)(x0:Z7):ED L (x0,())=bT (EC L (x0.1,())) fun y=>bT (Ia L (x0,())) fun y_1=>bif !y_1 then some 1 else bT (bif y.1.1 == true then bT (Qa L (x0.2,())) fun y=>some (y != 0) else some false) fun y_2=>bT (bif y_2 == false then bif y.1.2 == true then bT (Qa L (x0.3,())) fun y=>some (y != 0) else some false else some true) fun y_3=>bif y_3 then some 3 else bT (Tf L (x0,y.1,())) fun y_4=>bif y_4 == 0 && y.1.6 then bT (Vz L (x0.7,())) fun y=>some y else some y_4:=by kernel_rfl
def ZcJ (L:Nat):Nat→List (Sum tT)
 | 0=>[⟨203,[.lst 21 (.row 9)],fun _=>.par _ none ((.one (.int .i64):RD).tv tT)⟩]
 | m + 1=>[⟨203,[.lst 21 (.row 9)],fun x=>.par _ (fnT tF tG (qOf tF (ZcJ L m ++ [Zio L])) 0 L EN [.rnd [.slot 3 (.int .i64)]] (.one (.int .i64)) (tvL tT [.lst 21 (.row 9)] x) []) ((.one (.int .i64):RD).tv tT)⟩]
def JI (L m:Nat)(x:(List Z7)×PUnit):Option (Int):=fnT tF tG (qOf tF (ZcJ L m ++ [Zio L])) 0 L EN [.rnd [.slot 3 (.int .i64)]] (.one (.int .i64)) (tvL tT [.lst 21 (.row 9)] x) []
def AX (L:Nat)(x:(List Z7)×PUnit):Option (Int):=JI L L x
def ZmO (L:Nat):Sum tT:=⟨203,[.lst 21 (.row 9)],fun x=>.par ((.one (.int .i64):RD).Ty tT) (AX L x) ((.one (.int .i64):RD).tv tT)⟩
def PQ:Nat→List Z7→Nat→(Int×PUnit→Option Int)→Int×PUnit→Option Int:=fun (m:Nat)=>fun x0 L self acc=>bif decide (acc.1 < (↑x0.length:Int)) then bT (ZM x0 acc.1) fun y=>bT (ED L (y,())) fun y=>bif y == 0 then bT (ZM x0 acc.1) fun y=>bT (JI L m (y.9,())) fun y=>bif y == 0 then bT (ZM x0 acc.1) fun y=>bT (JI L m (y.10,())) fun y=>bif y != 0 then some y else self (Go.IntKind.i64.wrap (acc.1 + 1),()) else bif y != 0 then some y else self (Go.IntKind.i64.wrap (acc.1 + 1),()) else bif y == 0 then bT (ZM x0 acc.1) fun y=>bT (JI L m (y.10,())) fun y=>bif y != 0 then some y else self (Go.IntKind.i64.wrap (acc.1 + 1),()) else bif y != 0 then some y else self (Go.IntKind.i64.wrap (acc.1 + 1),()) else some 0
theorem Zm0 (L m:Nat)(x0:(List Z7)):JI L (m + 1) (x0,())=Zt (PQ m x0 L) L (0,()):=by kernel_rfl
def CJ (L:Nat):Nat→List (Sum tT)
 | 0=>[⟨202,[.lst 21 (.row 9)],fun _=>.par _ none ((.one (.int .i64):RD).tv tT)⟩]
 | m + 1=>[⟨202,[.lst 21 (.row 9)],fun x=>.par _ (fnT tF tG (qOf tF (CJ L m ++ [])) 0 L DZ [.rnd [.slot 3 (.int .i64),.slot 4 (.int .i64)]] (.one (.int .i64)) (tvL tT [.lst 21 (.row 9)] x) []) ((.one (.int .i64):RD).tv tT)⟩]
def Uw (L m:Nat)(x:(List Z7)×PUnit):Option (Int):=fnT tF tG (qOf tF (CJ L m ++ [])) 0 L DZ [.rnd [.slot 3 (.int .i64),.slot 4 (.int .i64)]] (.one (.int .i64)) (tvL tT [.lst 21 (.row 9)] x) []
def Nu (L:Nat)(x:(List Z7)×PUnit):Option (Int):=Uw L L x
def Zkg (L:Nat):Sum tT:=⟨202,[.lst 21 (.row 9)],fun x=>.par ((.one (.int .i64):RD).Ty tT) (Nu L x) ((.one (.int .i64):RD).tv tT)⟩
def Rf:Nat→List Z7→Nat→(Int×Int×PUnit→Option Int)→Int×Int×PUnit→Option Int:=fun (m:Nat)=>fun x0 L self acc=>bif decide (acc.2.1 < (↑x0.length:Int)) then bT (ZM x0 acc.2.1) fun y=>bT (bT (Uw L m (y.9,())) fun y=>some y) fun y=>bT (ZM x0 acc.2.1) fun y_1=>bT (bT (Uw L m (y_1.10,())) fun y=>some y) fun y_2=>self (if Go.IntKind.i64.wrap (1 + y_2) > if Go.IntKind.i64.wrap (1 + y) > acc.1 then Go.IntKind.i64.wrap (1 + y) else acc.1 then Go.IntKind.i64.wrap (1 + y_2) else if Go.IntKind.i64.wrap (1 + y) > acc.1 then Go.IntKind.i64.wrap (1 + y) else acc.1,Go.IntKind.i64.wrap (acc.2.1 + 1),()) else some acc.1
theorem Zj2 (L m:Nat)(x0:(List Z7)):Uw L (m + 1) (x0,())=Zt (Rf m x0 L) L (0,0,()):=by kernel_rfl
def CG (L:Nat):Nat→List (Sum tT)
 | 0=>[⟨201,[.lst 21 (.row 9)],fun _=>.par _ none ((.one (.int .i64):RD).tv tT)⟩]
 | m + 1=>[⟨201,[.lst 21 (.row 9)],fun x=>.par _ (fnT tF tG (qOf tF (CG L m ++ [])) 0 L DY [.rnd [.slot 3 (.int .i64),.slot 4 (.int .i64)]] (.one (.int .i64)) (tvL tT [.lst 21 (.row 9)] x) []) ((.one (.int .i64):RD).tv tT)⟩]
def Uu (L m:Nat)(x:(List Z7)×PUnit):Option (Int):=fnT tF tG (qOf tF (CG L m ++ [])) 0 L DY [.rnd [.slot 3 (.int .i64),.slot 4 (.int .i64)]] (.one (.int .i64)) (tvL tT [.lst 21 (.row 9)] x) []
def Ns (L:Nat)(x:(List Z7)×PUnit):Option (Int):=Uu L L x
def Zkf (L:Nat):Sum tT:=⟨201,[.lst 21 (.row 9)],fun x=>.par ((.one (.int .i64):RD).Ty tT) (Ns L x) ((.one (.int .i64):RD).tv tT)⟩
def LZ:Nat→List Z7→Nat→(Int×Int×PUnit→Option Int)→Int×Int×PUnit→Option Int:=fun (m:Nat)=>fun x0 L self acc=>bif decide (acc.2.1 < (↑x0.length:Int)) then bT (ZM x0 acc.2.1) fun y=>bT (bT (Uu L m (y.9,())) fun y=>some y) fun y=>bT (ZM x0 acc.2.1) fun y_1=>bT (bT (Uu L m (y_1.10,())) fun y=>some y) fun y_2=>self (Go.IntKind.i64.wrap (Go.IntKind.i64.wrap (Go.IntKind.i64.wrap (acc.1 + 1) + y) + y_2),Go.IntKind.i64.wrap (acc.2.1 + 1),()) else some acc.1
theorem Zj1 (L m:Nat)(x0:(List Z7)):Uu L (m + 1) (x0,())=Zt (LZ m x0 L) L (0,0,()):=by kernel_rfl
def Td (L:Nat)(x:(List Z7)×PUnit):Option Int:=fT [ZmO L,Zkg L,Zkf L] L Zbd [] (.one (.int .i64)) [.lst 21 (.row 9)] x
def Zke (L:Nat):Sum tT:=mU 187 [.lst 21 (.row 9)] (.one (.int .i64)) (Td L)
theorem Zj0 (L:Nat)(x0:(List Z7)):Td L (x0,())=bT (Ns L (x0,())) fun y=>bif decide (y > 200) then some 6 else bT (Nu L (x0,())) fun y=>bif decide (y > 12) then some 11 else bT (AX L (x0,())) fun y=>some y:=by kernel_rfl
def GM (L:Nat)(x:Int×PUnit):Option Bool:=fT [] L Zbh [] (.one .bool) [.int .i64] x
def Nc (L:Nat):Sum tT:=mU 115 [.int .i64] (.one .bool) (GM L)
theorem Zj6 (L:Nat)(x0:Int):GM L (x0,())=some (x0 == 1 || x0 == 2 || x0 == 3):=by kernel_rfl
end Go.Proofs.YtgjcjbhhhlelnaaGreatDoor
end
noncomputable section
namespace Go.Proofs.YtgjcjbhhhlelnaaGreatDoor
open Go Go.Proofs.YtgjcjbhhhlelnaaGreatDoor.Abs Go.Proofs.YtgjcjbhhhlelnaaGreatDoor.Tl
set_option maxRecDepth 100000
set_option maxHeartbeats 0
def KF (L:Nat)(x:ZR×PUnit):Option Int:=fT [Zke L,QR L,WR L,Nc L,G9 L] L NP [.rnd [.slot 3 (.own 1 .str),.slot 5 (.int .i64)]] (.one (.int .i64)) [.row 10] x
def Zgl (L:Nat):Sum tT:=mU 156 [.row 10] (.one (.int .i64)) (KF L)
def JQ:ZR→Nat→List WB→(List (List UInt8)×Int×PUnit→Option Int)→List (List UInt8)×Int×PUnit→Option Int:=fun x0 L y self acc=>bif decide (acc.2.1 < (↑y.length:Int)) then bT (ZM y acc.2.1) fun y_1=>bT (bT (V3 L (y_1.1,acc.1,())) fun y=>some y) fun y_2=>bT (ZM y acc.2.1) fun y_3=>bT (bT (GM L (y_3.2,())) fun y=>some y) fun y_4=>bT (bT (Zo L (y_4,1,())) fun y=>some y) fun y_5=>bT (bT (Z8 L (y_2,y_5,())) fun y=>some y) fun y_6=>bif y_6 != 0 then some y_6 else bT (ZM y acc.2.1) fun y=>bT (apT 16 acc.1 [y.1]) fun y=>self (y,Go.IntKind.i64.wrap (acc.2.1 + 1),()) else bT (Td L (x0.4,())) fun y=>some y
theorem ZfL (L:Nat)(x0:ZR):KF L (x0,())=bif decide ((↑x0.2.length:Int) > 6) || decide (Go.IntKind.i64.wrap ((↑x0.2.length:Int) + (↑x0.3.length:Int)) > 16) then some 6 else bT (apT 24 [] x0.2) fun y=>bT (apT 24 y x0.3) fun y=>Zt (JQ x0 L y) L ([],0,()):=by kernel_rfl
def JU (L:Nat)(x:Zu×PUnit):Option Int:=fT [X6 L,WR L] L Dw [.rnd [.slot 3 (.int .i64)]] (.one (.int .i64)) [.row 4] x
def ZdF (L:Nat):Sum tT:=mU 186 [.row 4] (.one (.int .i64)) (JU L)
def X0:Zu→Nat→(Int×PUnit→Option Int)→Int×PUnit→Option Int:=fun x0 L self acc=>bif decide (acc.1 < (↑x0.3.length:Int)) then bT (ZM x0.3 acc.1) fun y=>bT (ZL L (y.1,0,Go.IntKind.i64.wrap (x0.4 - 1),())) fun y_1=>bT (bif (!y_1) == false then bT (ZL L (y.2,0,1000,())) fun y=>some !y else some true) fun y_2=>bif y_2 then some 2 else bT (bif decide (acc.1 > 0) == true then bT (ZM x0.3 (Go.IntKind.i64.wrap (acc.1 - 1))) fun y_3=>some (decide (y.1≤y_3.1)) else some false) fun y=>bif y then some 12 else self (Go.IntKind.i64.wrap (acc.1 + 1),()) else some 0
theorem Zd7 (L:Nat)(x0:Zu):JU L (x0,())=bif (↑x0.3.length:Int) == 0 then bT (Zo L (x0.4 == 0,1,())) fun y=>some y else bif decide ((↑x0.3.length:Int) > 20) then some 6 else bT (ZL L (x0.4,1,1000000000,())) fun y=>bif !y then some 2 else Zt (X0 x0 L) L (0,()):=by kernel_rfl
def JV (L:Nat)(x:Zc×Zu×PUnit):Option Int:=fT [Na L,Og L,AP L,QR L,ZdF L,WR L,X6 L] L Dy [] (.one (.int .i64)) [.row 14,.row 4] x
def ZdH (L:Nat):Sum tT:=mU 155 [.row 14,.row 4] (.one (.int .i64)) (JV L)
theorem Zd8 (L:Nat)(x0:Zc)(x1:Zu):JV L (x0,x1,())=bT (bT (ZL L (x1.2,0,1000,())) fun y=>some y) fun y=>bT (bT (Zo L (y,2,())) fun y=>some y) fun y=>bT (bT (JU L (x1,())) fun y=>some y) fun y_1=>bT (bT (Z8 L (y,y_1,())) fun y=>some y) fun y=>bif y != 0 then some y else bif x1.Fault.1 == [] then bT (JF L (x1.Fault.2,YT.mk 0 0 0 0 [] [],())) fun y=>bT (bif y == true then bT (JF L (x1.Fault.3,YT.mk 0 0 0 0 [] [],())) fun y=>some y else some false) fun y=>bT (Zo L (y,1,())) fun y=>some y else bT (VG L (x0.7,x1.Fault.1,())) fun y=>bif decide (y < 0) then some 5 else bT (bT (Vz L (x1.Fault.2,())) fun y=>some y) fun y=>bT (bT (Vz L (x1.Fault.3,())) fun y=>some y) fun y_2=>bT (bT (Z8 L (y,y_2,())) fun y=>some y) fun y=>some y:=by kernel_rfl
def YK (L:Nat)(x:Zc×Int×Int×PUnit):Option Int:=fT [Zgl L,X6 L,ZdH L,QR L,AQ L,WR L,Nc L] L Dx [] (.one (.int .i64)) [.row 14,.int .i64,.int .i64] x
def ZdG (L:Nat):Sum tT:=mU 118 [.row 14,.int .i64,.int .i64] (.one (.int .i64)) (YK L)
theorem Xc (L:Nat)(x0:Zc)(x1:Int)(x2:Int):YK L (x0,x1,x2,())=bif x1 == 0 then bT (ZM x0.2 x2) fun y=>bT (bT (GM L (y.2,())) fun y=>some y) fun y=>bT (bT (Zo L (y,1,())) fun y=>some y) fun y=>bT (ZM x0.2 x2) fun y_1=>bT (ZM x0.2 x2) fun y_2=>bT (bT (Oj L (y_1.2,y_2.3,())) fun y=>some y) fun y_3=>bT (bT (Zo L (y_3,2,())) fun y=>some y) fun y_4=>bT (bT (Z8 L (y,y_4,())) fun y=>some y) fun y=>some y else bif x1 == 1 then bT (ZM x0.3 x2) fun y=>bT (bT (JV L (x0,y,())) fun y=>some y) fun y=>some y else bif x1 == 2 then bT (ZM x0.4 x2) fun y=>bT (ZM x0.4 x2) fun y_1=>bT (ZL L (y_1.2,1,1000,())) fun y_2=>bT (Zo L (y_2,2,())) fun y_3=>bT (Zo L (decide (y.3 ≥ 1) && decide (y.3≤3),1,())) fun y=>bT (Z8 L (y_3,y,())) fun y=>some y else bif x1 == 3 then bT (ZM x0.5 x2) fun y=>bT (ZL L (y.2,1,1000,())) fun y=>bT (bif y == true then bT (ZM x0.5 x2) fun y=>bT (ZL L (y.3,1,1000,())) fun y=>some y else some false) fun y=>bT (Zo L (y,2,())) fun y=>some y else bif x1 == 9 then bT (ZM x0.11 x2) fun y=>bT (KF L (y,())) fun y=>some y else some 0:=by kernel_rfl
def BC (L:Nat)(x:Zc×PUnit):Option Int:=fT [ZpD L,Zkk L,QR L,ZdG L,G9 L,Nb L] L ZdT [.rnd [.slot 2 (.int .i64),.slot 3 (.own 1 .str),.slot 5 (.int .i64)],.rnd [.slot 2 (.int .i64),.slot 3 (.own 1 .str),.slot 6 (.int .i64)],.rnd [.slot 2 (.int .i64),.slot 8 (.int .i64)],.rnd [.slot 10 (.own 1 .str),.slot 11 (.int .i64)]] (.one (.int .i64)) [.row 14] x
def ZmS (L:Nat):Sum tT:=mU 64 [.row 14] (.one (.int .i64)) (BC L)
def Gq:Zc→Nat→List (List (List UInt8))→(Int×List (List UInt8)×Int×PUnit→Option Int)→Int×List (List UInt8)×Int×PUnit→(Int×List (List UInt8)×Int×PUnit→Option Int)→Int×List (List UInt8)×Int×PUnit→Option Int:=fun x0 L y self acc self_1 acc_1=>bT (ZM y acc.2.2.1) fun y_1=>bif decide (acc_1.2.2.1 < (↑y_1.length:Int)) then bT (ZM y acc.2.2.1) fun y_2=>bT (ZM y_2 acc_1.2.2.1) fun y_3=>bT (bT (V3 L (y_3,acc_1.2.1,())) fun y=>some y) fun y_4=>bT (bT (YK L (x0,acc.2.2.1,acc_1.2.2.1,())) fun y=>some y) fun y_5=>bT (bT (Z8 L (y_4,y_5,())) fun y=>some y) fun y_6=>bif y_6 != 0 then some y_6 else bT (ZM y acc.2.2.1) fun y=>bT (ZM y acc_1.2.2.1) fun y=>bT (apT 16 acc_1.2.1 [y]) fun y=>self_1 (acc_1.1,y,Go.IntKind.i64.wrap (acc_1.2.2.1 + 1),()) else self (acc_1.1,acc_1.2.1,Go.IntKind.i64.wrap (acc.2.2.1 + 1),())
def JB:Zc→Nat→(List (List UInt8)×Int×PUnit→Option Int)→List (List UInt8)×Int×PUnit→Option Int:=fun x0 L self acc=>bif decide (acc.2.1 < (↑x0.13.length:Int)) then bT (ZM x0.13 acc.2.1) fun y=>bT (bT (EE L (x0,y,acc.1,())) fun y=>some y) fun y=>bif y != 0 then some y else bT (ZM x0.13 acc.2.1) fun y=>bT (apT 16 acc.1 [y.1]) fun y=>self (y,Go.IntKind.i64.wrap (acc.2.1 + 1),()) else some 0
def Gs:Zc→Nat→(Int×Int×PUnit→Option Int)→Int×Int×PUnit→Option Int:=fun x0 L self acc=>bif decide (acc.2.1 < (↑x0.12.length:Int)) then bT (ZM x0.12 acc.2.1) fun y=>bT (bT (Tm L (x0,y,())) fun y=>some y) fun y=>bif y != 0 then some y else self (acc.1,Go.IntKind.i64.wrap (acc.2.1 + 1),()) else bif decide ((↑x0.13.length:Int) > 32) then some 6 else Zt (JB x0 L) L ([],0,())
def JC:Zc→Nat→List (List (List UInt8))→(Int×List (List UInt8)×Int×PUnit→Option Int)→Int×List (List UInt8)×Int×PUnit→Option Int:=fun x0 L y self acc=>bif decide (acc.2.2.1 < (↑y.length:Int)) then bT (ZM y acc.2.2.1) fun y_1=>bT (bif decide ((↑y_1.length:Int) > 32) == false then bif (acc.2.2.1 == 9) == true then bT (ZM y acc.2.2.1) fun y=>some (decide ((↑y.length:Int) > 16)) else some false else some true) fun y_2=>bif y_2 then some 6 else Zt (Gq x0 L y self acc) L (acc.1,acc.2.1,0,()) else bif decide ((↑x0.12.length:Int) > 32) then some 6 else Zt (Gs x0 L) L (acc.1,0,())
theorem Zm4 (L:Nat)(x0:Zc):BC L (x0,())=bT (JG L (x0,())) fun (y:List (List (List UInt8)))=>Zt (JC x0 L y) L (0,[],0,()):=by kernel_rfl
def Zdf (L:Nat)(x:V6×(List (List UInt8))×PUnit):Option Int:=fT [AQ L,QR L,WR L,Nc L,G9 L] L Zbm [] (.one (.int .i64)) [.row 0,.lst 1 .str] x
def Zkl (L:Nat):Sum tT:=mU 62 [.row 0,.lst 1 .str] (.one (.int .i64)) (Zdf L)
def Ti (L:Nat)(x:QC×PUnit):Option Int:=fT [Zkj L,ZmS L,G9 L,Zkl L,QR L,WR L,Vw L] L Zbf [.rnd [.slot 2 (.int .i64),.slot 4 (.own 1 .str),.slot 5 (.int .i64)],.rnd [.slot 6 (.own 1 .str),.slot 7 (.int .i64)]] (.one (.int .i64)) [.row 21] x
def Zki (L:Nat):Sum tT:=mU 40 [.row 21] (.one (.int .i64)) (Ti L)
def Rh:QC→Nat→(List (List UInt8)×Int×PUnit→Option Int)→List (List UInt8)×Int×PUnit→Option Int:=fun x0 L self acc=>bif decide (acc.2.1 < (↑x0.3.length:Int)) then bT (ZM x0.3 acc.2.1) fun y=>bT (bT (V3 L (y.1,acc.1,())) fun y=>some y) fun y=>bT (ZM x0.3 acc.2.1) fun y_1=>bT (bT (BC L (y_1,())) fun y=>some y) fun y_2=>bT (bT (Z8 L (y,y_2,())) fun y=>some y) fun y=>bif y != 0 then some y else bT (ZM x0.3 acc.2.1) fun y=>bT (apT 16 acc.1 [y.1]) fun y=>self (y,Go.IntKind.i64.wrap (acc.2.1 + 1),()) else bT (Tj L (x0,())) fun y=>some y
def Ri:QC→Nat→(Int×List (List UInt8)×Int×PUnit→Option Int)→Int×List (List UInt8)×Int×PUnit→Option Int:=fun x0 L self acc=>bif decide (acc.2.2.1 < (↑x0.2.length:Int)) then bT (ZM x0.2 acc.2.2.1) fun y=>bT (Zdf L (y,acc.2.1,())) fun y=>bif y != 0 then some y else bT (ZM x0.2 acc.2.2.1) fun y=>bT (apT 16 acc.2.1 [y.1]) fun y=>self (acc.1,y,Go.IntKind.i64.wrap (acc.2.2.1 + 1),()) else bT (bT (Zo L (decide ((↑x0.3.length:Int) > 0),7,())) fun y=>some y) fun y=>bT (bT (Zo L (decide ((↑x0.3.length:Int)≤16),6,())) fun y=>some y) fun y_1=>bT (bT (Z8 L (y,y_1,())) fun y=>some y) fun y=>bif y != 0 then some y else Zt (Rh x0 L) L ([],0,())
theorem Zj4 (L:Nat)(x0:QC):Ti L (x0,())=bT (bT (Qa L (x0.1,())) fun y=>some y) fun y=>bT (bT (Zo L (decide ((↑x0.2.length:Int)≤32),6,())) fun y=>some y) fun y_1=>bT (bT (Z8 L (y,y_1,())) fun y=>some y) fun y=>bif y != 0 then some y else Zt (Ri x0 L) L (0,[],0,()):=by kernel_rfl
def Tn (L:Nat)(x:Zk×PUnit):Option Int:=fT [Zgm L,ZmU L,ZmV L,Zki L,Vw L] L Zbn [.rnd [.slot 2 (.int .i64),.slot 4 (.int .i64)],.rnd [.slot 2 (.int .i64),.slot 5 (.int .i64)],.rnd [.slot 3 (.int .i64),.slot 6 (.int .i64)],.rnd [.slot 3 (.int .i64),.slot 7 (.int .i64)]] (.one (.int .i64)) [.row 19] x
def Ug:Zk→Nat→(Int×Int×PUnit→Option Int)→Int×Int×PUnit→(Int×Int×PUnit→Option Int)→Int×Int×PUnit→Option Int:=fun x0 L self acc self_1 acc_1=>bif decide (acc_1.2.1 < acc.2.1) then bT (ZM x0.2 acc_1.2.1) fun y=>bT (ZM x0.2 acc.2.1) fun y_1=>bif y.Decl.1 == y_1.Decl.1 then some 4 else self_1 (acc_1.1,Go.IntKind.i64.wrap (acc_1.2.1 + 1),()) else bT (ZM x0.2 acc.2.1) fun y=>bT (Om L (y,())) fun y=>bif !y then some 8 else self (acc_1.1,Go.IntKind.i64.wrap (acc.2.1 + 1),())
def Uh:Zk→Nat→(Int×Int×PUnit→Option Int)→Int×Int×PUnit→(Int×Int×PUnit→Option Int)→Int×Int×PUnit→Option Int:=fun x0 L self acc self_1 acc_1=>bT (ZM x0.2 acc.2.1) fun y=>bif decide (acc_1.2.1 < (↑y.2.length:Int)) then bif acc_1.1 == 0 then bT (ZM x0.2 acc.2.1) fun y=>bT (ZM y.2 acc_1.2.1) fun y=>bT (bT (YQ L (x0,acc.2.1,y,())) fun y=>some y) fun y=>self_1 (y,Go.IntKind.i64.wrap (acc_1.2.1 + 1),()) else self_1 (acc_1.1,Go.IntKind.i64.wrap (acc_1.2.1 + 1),()) else self (acc_1.1,Go.IntKind.i64.wrap (acc.2.1 + 1),())
def QI:Zk→Nat→(Int×Int×PUnit→Option Int)→Int×Int×PUnit→Option Int:=fun x0 L self acc=>bif decide (acc.2.1 < (↑x0.2.length:Int)) then Zt (Uh x0 L self acc) L (acc.1,0,()) else some acc.1
def Ui:Zk→Nat→(Int×Int×PUnit→Option Int)→Int×Int×PUnit→Option Int:=fun x0 L self acc=>bif decide (acc.2.1 < (↑x0.2.length:Int)) then bT (ZM x0.2 acc.2.1) fun y=>bT (bT (Ti L (QC.mk x0.1 [] [y.1] [],())) fun y=>some y) fun y=>bif y != 0 then some y else Zt (Ug x0 L self acc) L (acc.1,0,()) else bT (Ol L (x0,())) fun y=>Zt (QI x0 L) L (y,0,())
theorem ZjB (L:Nat)(x0:Zk):Tn L (x0,())=bT (Qa L (x0.1,())) fun y=>bif y != 0 then some y else bif (↑x0.2.length:Int) == 0 then some 7 else bif decide ((↑x0.2.length:Int) > 16) then some 6 else Zt (Ui x0 L) L (0,0,()):=by kernel_rfl
end Go.Proofs.YtgjcjbhhhlelnaaGreatDoor
end
section
namespace Go.Proofs.YtgjcjbhhhlelnaaGreatDoor
open Go Go.Proofs.YtgjcjbhhhlelnaaGreatDoor.Abs Go.Proofs.YtgjcjbhhhlelnaaGreatDoor.Tl
set_option maxRecDepth 100000
def ZqG:List Bool→Int→Int
 | [],_=>-1
 | b :: r,i=>if b=false then i else ZqG r (i + 1)
theorem ZkO:∀ (l:List Bool) (i:Int),0≤i→(0≤ZqG l i↔l.contains false=true)
 | [],i,h=>by simp [ZqG]
 | false :: r,i,h=>by simp [ZqG,h]
 | true :: r,i,h=>by
  have:=ZkO r (i + 1) (by omega)
  simp only [ZqG,Bool.true_eq_false,if_false]
  rw [this]; simp
theorem Zsp (g o len k:Nat)(i:Int)(h0:0≤i)(h1:i < len):GU (.slice k) (.arr g o len k) (.int .i64 i)=some (.ptr g (o + i.toNat * k)):=by simp [GU,h0,h1]
theorem ZvO (g o len k:Nat)(i:Int)(h0:0≤i)(h1:i < len):GU (.arr len k) (.ptr g o) (.int .i64 i)=some (.ptr g (o + i.toNat * k)):=by simp [GU,h0,h1]
section
variable {hp:List Zl}{g:Nat}{t:TypeId}{u:List Bool}
theorem Zza (hg:hp[g]? = some (.cells (u.map .bool) t))(i:Nat){b:Bool}(h:u[i]? = some b):QH hp (.ptr g i)=some (.bool b):=by
 rw [Zox hg,List.getElem?_map,h]; rfl
theorem Zor (G:GT)(K:KT)(L:Nat)(hp0:HP)(hg:hp[g]? = some (.cells (u.map .bool) t))(c:Nat)(hc:c≤u.length)(hu:u.length≤16):∀ (m i:Nat),i≤c→c - i < m →
  ZO G K L hp0 (Yo G K L hp0) m (.arr g 0 c 1) (.bool false) (.int .i64 c) (.int .i64 i) hp none=some (.int .i64 (ZqG ((u.take c).drop i) i),hp0,none)
 | 0,_,_,h=>absurd h (Nat.not_lt_zero _)
 | m + 1,i,hi,hm=>by
  rw [ZO]
  rcases Nat.lt_or_ge i c with hlt | hge
  ·have hl:i < (u.take c).length:=by rw [List.length_take]; omega
   rw [List.drop_eq_getElem_cons hl,ZqG]
   have e:(u.take c)[i]? = some (u.take c)[i]:=List.getElem?_eq_getElem hl
   generalize (u.take c)[i]=b at *
   have e':u[i]? = some b:=by rw [List.getElem?_take_of_lt hlt] at e; exact e
   have ei:=Zsp g 0 c 1 (i:Int) (by omega) (by omega)
   rw [Int.toNat_natCast,Nat.zero_add,Nat.mul_one] at ei
   have ew:IntKind.i64.wrap ((i:Int) + 1)=((i + 1:Nat):Int):=E8 i (by omega)
   have el:decide ((i:Int) < (c:Int))=true:=by simp; omega
   have ih:=Zor G K L hp0 hg c hc hu m (i + 1) (by omega) (by omega)
   simp only [EV,el,ei,Zza hg i e',ew,ih,if_true]
   cases b <;> simp
  ·obtain rfl:i=c:=by omega
   rw [List.drop_eq_nil_of_le (by rw [List.length_take]; omega),ZqG]
   have el:decide ((i:Int) < (i:Int))=false:=by simp
   simp only [EV,el,Yo,Bool.false_eq_true,if_false]
theorem ZuP {C:Cfg}{L:Nat}(h:St C L)(n:Nat)(hg:hp[g]? = some (.cells (u.map .bool) t))(c:Nat)(hc:c≤u.length)(hu:u.length≤16) :
  Z5 C (n + 1) Y3 [.arr g 0 c 1,.bool false] hp=some (.int .i64 (ZqG (u.take c) 0),hp,none):=by
 refine Xo (by rw [← QF]; exact h.T _ _ (by kernel_rfl)) ?_
 have e:Xk hp .slice (AV.ro (.arr g 0 c 1))=some (.int .i64 c):=rfl
 have:=Zor C.G (Z5 C n) C.L hp hg c hc hu C.L 0 (Nat.zero_le _) (by rw [h.L]; omega)
 simp only [YV,e,EV]
 exact this
theorem ZrY {C:Cfg}{L:Nat}(h:St C L)(n:Nat)(hp:HP):Z5 C (n + 1) Y3 [.lst 1 [],.bool false] hp=some (.int .i64 (-1),hp,none):=by
 refine Xo (by rw [← QF]; exact h.T _ _ (by kernel_rfl)) ?_
 obtain ⟨m,e⟩:∃ m,C.L=m + 1:=⟨L + 63,h.L⟩
 simp only [YV,e,EV,List.length_nil]
 simp only [ZO,EV]
 rfl
theorem ZmX {C:Cfg}{L:Nat}(h:St C L)(n:Nat)(hg:hp[g]? = some (.cells (u.map .bool) t))(c:Nat)(hc:c≤u.length)(hu:u.length≤16) :
  Z5 C (n + 2) Ym [.arr g 0 c 1,.bool false] hp=some (.bool ((u.take c).contains false),hp,none):=by
 refine Q5 (by rw [← Qg]; exact h.T _ _ (by kernel_rfl)) ?_
 have e:AV.ro (.arr g 0 c 1)=.arr g 0 c 1:=rfl
 simp only [Y9,e,EV,ZuP h n hg c hc hu]
 have:=ZkO (u.take c) 0 (by omega)
 cases hb:(u.take c).contains false with
 | true=>rw [hb] at this; simp [this]
 | false=>rw [hb] at this; simp at this; simp [this]
theorem Zks {C:Cfg}{L:Nat}(h:St C L)(n:Nat)(hp:HP):Z5 C (n + 2) Ym [.lst 1 [],.bool false] hp=some (.bool false,hp,none):=by
 refine Q5 (by rw [← Qg]; exact h.T _ _ (by kernel_rfl)) ?_
 simp only [Y9,EV,ZrY h n hp]
 rfl
end
def pcA:List Int→List Bool→Nat→Int
 | [],u,c=>if (u.take c).contains false=true then 12 else 0
 | k :: r,u,c=>if (decide (k < 0) || decide (16≤k))=true then 2 else if u[k.toNat]? = some true then pcA r u c else pcA r (u.set k.toNat true) (c + 1)
def NW:List Bool→Nat
 | []=>0
 | true :: l=>NW l + 1
 | false :: l=>NW l
theorem Zi5:∀ u:List Bool,NW u≤u.length
 | []=>Nat.le_refl _
 | true :: l=>by have:=Zi5 l; simp only [NW,List.length_cons]; omega
 | false :: l=>by have:=Zi5 l; simp only [NW,List.length_cons]; omega
theorem Za9:∀ (u:List Bool) (k:Nat),u[k]? = some false→NW (u.set k true)=NW u + 1
 | [],k,h=>by simp at h
 | b :: l,0,h=>by simp at h; subst h; rw [List.set_cons_zero,NW,NW]
 | b :: l,k + 1,h=>by
  have ih:=Za9 l k (by simpa using h)
  rw [List.set_cons_succ]
  cases b <;> rw [NW,NW,ih]
theorem Zp7 (h:HP)(u:List Bool)(t:TypeId)(k:Nat)(hk:k < u.length)(bs:Nat)(hb:bs≤h.length):stV bs 1 (.ptr h.length k) (.bool true) (h ++ [.cells (u.map .bool) t]) none=some (h ++ [.cells ((u.set k true).map .bool) t],none):=by
 rw [ZrP bs 1 h _ t k (.bool true) none rfl (by rw [List.length_map]; omega) rfl hb]
 congr 4
 rw [List.map_set]
 simp only [splice,AV.cells,List.length_singleton]
 rw [List.set_eq_take_append_cons_drop,if_pos (by simpa using hk),List.append_assoc]; rfl
theorem ZqP {C:Cfg}{L:Nat}(h:St C L)(n:Nat)(hp0 hq:HP)(u:List Bool)(t:TypeId)(hu:u.length=16)(c:Nat)(hc:c≤16) :
  YR C.G (Z5 C (n + 2)) C.L hp0 (.ptr hq.length 0) (.int .i64 c) (hq ++ [.cells (u.map .bool) t]) none=some (.int .i64 (if (u.take c).contains false=true then 12 else 0),hp0,none):=by
 rw [YR]
 rcases Nat.eq_zero_or_pos c with rfl | hpos
 ·have e:Vj (.arr 16 1) (.ptr hq.length 0) none (some (.int .i64 (0:Nat)))=some (.lst 1 []):=rfl
  simp only [e,EV,Zks h n]
  simp
 ·have e:Vj (.arr 16 1) (.ptr hq.length 0) none (some (.int .i64 c))=some (.arr hq.length 0 c 1):=by
   have:(0:Nat)≠c:=by omega
   have h':(c:Int)≤16:=by omega
   simp [Vj,bound,h',this]
  simp only [e,EV,ZmX (u := u) h n (O7 hq _) c (by omega) (by omega)]
  cases (u.take c).contains false <;> rfl
theorem Zfl {C:Cfg}{L:Nat}(h:St C L)(n:Nat)(hp0 hq:HP)(hh:hp0.length≤hq.length)(t:TypeId)(l:List Int)(hl:l.length < 4611686018427387904):∀ (m i:Nat) (u:List Bool),u.length=16→i≤l.length→l.length - i < m →
  Y4 C.G (Z5 C (n + 2)) C.L hp0 (YR C.G (Z5 C (n + 2)) C.L hp0) m (.ptr hq.length 0) (.int .i64 (NW u)) (.lst 1 (l.map fun x=>[.int .i64 x])) (.int .i64 l.length) (.int .i64 i) (hq ++ [.cells (u.map .bool) t]) none=some (.int .i64 (pcA (l.drop i) u (NW u)),hp0,none)
 | 0,_,_,_,_,h=>absurd h (Nat.not_lt_zero _)
 | m + 1,i,u,hu,hi,hm=>by
  have hcu:=Zi5 u
  rw [Y4]
  rcases Nat.lt_or_ge i l.length with hlt | hge
  ·rw [List.drop_eq_getElem_cons hlt,pcA]
   have ex:l[i]? = some l[i]:=List.getElem?_eq_getElem hlt
   generalize l[i]=k at *
   have ei:GU (.slice 1) (.lst 1 (l.map fun x=>[.int .i64 x])) (.int .i64 i)=some (.ref [.int .i64 k]):=by simp [GU,ex]
   have el:decide ((i:Int) < (l.length:Int))=true:=by simp; omega
   have ew:IntKind.i64.wrap ((i:Int) + 1)=((i + 1:Nat):Int):=E8 i (by omega)
   by_cases hb:(decide (k < 0) || decide (16≤k))=true
   ·simp only [EV,el,ei,hb,if_true]
   ·have hk0:¬ k < 0:=fun c=>hb (by simp [c])
    have hk1:¬ 16≤k:=fun c=>hb (by simp [c])
    have e1:GU (.arr 16 1) (.ptr hq.length 0) (.int .i64 k)=some (.ptr hq.length k.toNat):=by
     rw [ZvO hq.length 0 16 1 k (by omega) (by omega),Nat.zero_add,Nat.mul_one]
    have hkl:k.toNat < u.length:=by omega
    obtain ⟨b,eb⟩:∃ b,u[k.toNat]? = some b:=⟨_,List.getElem?_eq_getElem hkl⟩
    have e2:=Zza (O7 hq (.cells (u.map .bool) t)) k.toNat eb
    rw [if_neg hb,eb]
    cases b with
    | true =>
     have ih:=Zfl h n hp0 hq hh t l hl m (i + 1) u hu (by omega) (by omega)
     simp only [EV,el,ei,hb,e1,e2,ew,if_true,if_false,ih,Bool.not_true,Bool.false_eq_true]
    | false =>
     have e3:=Zp7 hq u t k.toNat hkl hp0.length hh
     have e4:=Za9 u k.toNat eb
     have e5:IntKind.i64.wrap ((NW u:Int) + 1)=((NW (u.set k.toNat true):Nat):Int):=by rw [e4]; exact E8 (NW u) (by omega)
     have ih:=Zfl h n hp0 hq hh t l hl m (i + 1) (u.set k.toNat true) (by rw [List.length_set]; exact hu) (by omega) (by omega)
     rw [e4] at ih
     rw [e4] at e5
     simp only [EV,el,ei,hb,e1,e2,e3,e5,ew,if_true,if_false,ih,Bool.not_false,Bool.false_eq_true,Option.some.injEq]
  ·obtain rfl:i=l.length:=by omega
   have el:decide ((l.length:Int) < (l.length:Int))=false:=by simp
   rw [List.drop_length,pcA]
   simp only [EV,el,Bool.false_eq_true,if_false]
   exact ZqP h n hp0 hq u t hu (NW u) (by omega)
end Go.Proofs.YtgjcjbhhhlelnaaGreatDoor
end
section
namespace Go.Proofs.YtgjcjbhhhlelnaaGreatDoor
open Go Go.Proofs.YtgjcjbhhhlelnaaGreatDoor.Abs Go.Proofs.YtgjcjbhhhlelnaaGreatDoor.Tl
set_option maxRecDepth 100000
theorem cells_at {c:AV}{l:List AV}{hp:HP}{g:Nat}{t:TypeId}{cs:List AV}(hg:hp[g]? = some (.cells cs t))(h:cs.map AV.ro=l)(i:Nat)(e:l[i]? = some c):QH hp (.ptr g i)=some c:=by
 rw [Zox hg,← List.getElem?_map,h,e]
theorem ZtD {p:Zk}{l:List Int}{avs:List AV}(h:LR [] (tvL tT [.row 19,.lst 1 (.int .i64)] (p,l,())) avs):∃ cs a,avs=[.agg cs,a]∧cs.map AV.ro=Vh p∧AV.ro a=.lst 1 (l.map fun x=>[.int .i64 x]):=by
 cases h with
 | cons _ a h1 _ _ h2=>cases h2 with
  | cons _ b h3 _ _ h4=>cases h4 with
   | nil =>
    cases h1 with
    | row _ _ cs hc=>cases h3 with
     | lst _ _ _ _ hb=>exact ⟨cs,b,rfl,hc,hb⟩
def Xy:List Bool:=[false,false,false,false,false,false,false,false,false,false,false,false,false,false,false,false]
def IG (e:Int)(n m:Nat)(r:Int):Int:=if decide (e≠0)=true then e else if decide ((n:Int)≠(m:Int))=true then 8 else r
theorem ZrZ {C:Cfg}{L:Nat}(h:St C L)(n:Nat)(p:Zk)(l:List Int)(hl:l.length < L)(hl':l.length < 4611686018427387904)(hp:HP)(cs:List AV)(a:AV)(hc:cs.map AV.ro=Vh p)(ha:AV.ro a=.lst 1 (l.map fun x=>[.int .i64 x]))(e:Int)
  (hk:Z5 C (n + 2) V5 [.agg (Vh p)] (hp ++ [.cells cs WQ])=some (.int .i64 e,hp ++ [.cells cs WQ],none)) :
  Z5 C (n + 3) X9 [.agg cs,a] hp=some (.int .i64 (IG e l.length p.Sites.length (pcA l Xy 0)),hp,none):=by
 refine PH (by rw [← LG]; exact h.T _ _ (by kernel_rfl)) ?_
 have hcl:cs.length=3:=by have:=congrArg List.length hc; rw [List.length_map] at this; exact this
 have e1:VB (hp ++ [.cells cs WQ]) 3 (.ptr hp.length 0)=some (.agg (Vh p)):=by
  rw [Zt8 (O7 hp _) 3 0 (by omega),List.drop_zero,List.take_of_length_le (by omega),hc]
 have e2:=cells_at (O7 hp (.cells cs WQ)) hc 1 rfl
 have e0:ZsU 3 (.agg cs)=some cs:=ZsW 3 cs hcl
 have e3:NZ 1 (.ptr hp.length 0)=some (.ptr hp.length 1):=rfl
 have hq:(hp ++ [Zl.cells cs WQ]).length=hp.length + 1:=by simp
 have hm:=Zfl h n hp (hp ++ [.cells cs WQ]) (by omega) ZcR l hl' C.L 0 Xy rfl (Nat.zero_le _) (by rw [h.L]; omega)
 simp only [J3,ha,e0,e1,e2,e3,hk,EV,List.length_map,IG]
 rw [List.drop_zero] at hm
 rw [show (Xy.map AV.bool)=[(.bool false),(.bool false),(.bool false),(.bool false),(.bool false),(.bool false),(.bool false),(.bool false),(.bool false),(.bool false),(.bool false),(.bool false),(.bool false),(.bool false),(.bool false),(.bool false)] from rfl] at hm
 rw [show NW Xy=0 from rfl] at hm
 by_cases he:decide (e≠0)=true
 ·rw [if_pos he,if_pos he]
 ·rw [if_neg he,if_neg he]
  by_cases hn:decide ((l.length:Int)≠(p.Sites.length:Int))=true
  ·rw [if_pos hn,if_pos hn]
  ·rw [if_neg hn,if_neg hn]
   exact hm
noncomputable def XJ (L:Nat)(x:Zk×List Int×PUnit):Option Int:=bT (Qp L (x.1,())) fun e=>if x.2.1.length < L∧x.2.1.length < 4611686018427387904 then some (IG e x.2.1.length x.1.Sites.length (pcA x.2.1 Xy 0)) else none
noncomputable def Oe (L:Nat):Sum tT:=mU X9 [.row 19,.lst 1 (.int .i64)] (.one (.int .i64)) (XJ L)
theorem Zqb {C:Cfg}{f:FuncId}{y:Zk×PUnit→Option Int}(hs:Jj C (mU f [.row 19] (.one (.int .i64)) y))(p:Zk){e:Int}(he:y (p,())=some e)(hp:HP):Ev fun n=>Z5 C n f [.agg (Vh p)] hp=some (.int .i64 e,hp,none):=by
 obtain ⟨a,h1,h2⟩:=hs (p,()) hp [.agg (Vh p)] (.cons _ _ (.row _ _ _ (Q7.ro 19 p)) _ _ .nil) e he
 have:=VR.int (h1 [])
 subst this
 exact h2
theorem Au:SX Oe:=fun {C L} h=>fun x hp avs hv y hy=>by
 obtain ⟨(p:Zk),(l:List Int),u⟩:=x
 obtain ⟨cs,a,rfl,hc,ha⟩:=ZtD hv
 change bT (Qp L (p,())) _=some y at hy
 cases hq:Qp L (p,()) with
 | none=>rw [hq] at hy; cases hy
 | some e =>
  rw [hq] at hy
  simp only [bT] at hy
  split at hy
  ·rename_i hl
   cases hy
   obtain ⟨n0,h0⟩:=Zqb (ZhN h) p hq (hp ++ [.cells cs WQ])
   refine ⟨.int .i64 _,fun ad=>.av _ _ (.inl rfl),n0 + 3,fun m hm=>?_⟩
   obtain ⟨k,rfl⟩:∃ k,m=k + 3:=⟨m - 3,by omega⟩
   exact ZrZ h k p l hl.1 hl.2 hp cs a hc ha e (h0 (k + 2) (by omega))
  ·cases hy
def rcA:List Int→List Bool→Int→Int
 | [],u,m=>if (u.take (m.toNat + 1)).contains false=true then 12 else 0
 | k :: r,u,m=>if (decide (k < 0) || decide (16≤k))=true then 2 else rcA r (u.set k.toNat true) (if k > m then k else m)
noncomputable def Zkt (L:Nat)(x:Zk×List Int×PUnit):Option Int:=bT (Tn L (x.1,())) fun e=>if x.2.1.length < L∧x.2.1.length < 4611686018427387904 then some (IG e x.2.1.length x.1.Sites.length (rcA x.2.1 Xy 0)) else none
end Go.Proofs.YtgjcjbhhhlelnaaGreatDoor
end
section
namespace Go.Proofs.YtgjcjbhhhlelnaaGreatDoor
open Go Go.Proofs.YtgjcjbhhhlelnaaGreatDoor.Abs Go.Proofs.YtgjcjbhhhlelnaaGreatDoor.Tl
set_option maxRecDepth 100000
abbrev O6 (l:List Int):List AV:=l.map (AV.int .i64)
theorem ZgD:∀ (l:List AV),chunk 1 l.length l=l.map fun a=>[a]
 | []=>rfl
 | a :: l=>by rw [List.length_cons,chunk,List.take_succ_cons,List.take_zero,List.drop_succ_cons,List.drop_zero,ZgD l,List.map_cons]
theorem Zhb (bs:Nat)(hp:HP)(d:Nat):∀ l:List Int,(O6 l).mapM (Zdt bs hp d)=some (O6 l)
 | []=>rfl
 | n :: l=>by
  have ih:=Zhb bs hp d l
  simp only [O6] at ih
  rw [O6,List.map_cons,List.mapM_cons,ih]
  cases d <;> rfl
theorem Zoj (l:List Int):(O6 l).all AV.noId1=true:=by simp [O6,AV.noId1]
theorem ZnU {bs:Nat}{hp:HP}{d g n:Nat}{l:List Int}{t:TypeId}(hb:bs≤g)(hg:hp[g]? = some (.cells (O6 l) t))(hn:l.length=n):Zdt bs hp (d + 1) (.arr g 0 n 1)=some (.lst 1 (l.map fun x=>[.int .i64 x])):=by
 have h0:¬ g < bs:=by omega
 have hl:(O6 l).length=n:=by rw [List.length_map]; exact hn
 rw [Zdt,if_neg h0]
 simp only [hg]
 rw [if_pos (by omega),List.drop_zero,List.take_of_length_le (by omega),Zhb]
 simp only [Option.bind_some]
 rw [if_pos (Zoj l),← hl,ZgD,List.map_map]; rfl
theorem ZrL {h:HP}{u:List Int}{t:TypeId}{g k:Nat}(hg:h[g]? = some (.cells (O6 u) t))(hk:k < u.length)(x:Int)(bs:Nat)(hb:bs≤g)(ef:Eff):Zxr bs (.ptr g k) (.int .i64 x) h ef=some (h.set g (.cells (O6 (u.set k x)) t),ef):=by
 have h0:¬ g < bs:=by omega
 simp only [Zxr,hg,Zft,if_neg h0]
 rw [if_pos ⟨rfl,by rw [List.length_map]; exact hk⟩,O6,O6,List.map_set]
theorem Si (a:AV):∀ N:Nat,(List.replicate N [a]).flatten=List.replicate N a
 | 0=>rfl
 | N + 1=>by rw [List.replicate_succ,List.replicate_succ,List.flatten_cons,Si a N]; rfl
def evA (s k:Int):Nat→Nat→List Int→List Int
 | 0,_,u=>u
 | m + 1,i,u=>evA s k m (i + 1) (u.set i (((i:Int) * k).tdiv s))
def Zsf (x y:Int):Bool:=((decide (x < 1) || decide (16 < x)) || decide (y < 1)) || decide (x < y)
theorem Zss (G:GT)(K:KT)(L:Nat)(hp0:HP)(t:TypeId)(s k:Int)(n:Nat)(hs:s=n)(hn:n≤16)(hn1:1≤n)(hk:1≤k)(hk2:k≤16):∀ (m q i:Nat) (u:List Int),i + q=n→u.length=n→q < m →
  We G K L hp0 (WT G K L hp0) m (.int .i64 s) (.int .i64 k) (.arr hp0.length 0 n 1) (.arr hp0.length 0 n 1) (.int .i64 n) (.int .i64 i) (hp0 ++ [.cells (O6 u) t]) none=some (.tup [.lst 1 ((evA s k q i u).map fun x=>[.int .i64 x]),.int .i64 0],hp0,none)
 | 0,_,_,_,_,_,h=>absurd h (Nat.not_lt_zero _)
 | m + 1,q,i,u,hi,hu,hm=>by
  rw [We]
  cases q with
  | succ q =>
   have hik:(i:Int) * k≤16 * 16:=Int.mul_le_mul (by omega) hk2 (by omega) (by omega)
   have hik0:0≤(i:Int) * k:=Int.mul_nonneg (by omega) (by omega)
   have hd0:0≤((i:Int) * k).tdiv s:=Int.tdiv_nonneg hik0 (by omega)
   have hd1:((i:Int) * k).tdiv s≤(i:Int) * k:=by rw [Int.tdiv_eq_ediv_of_nonneg hik0]; exact Int.ediv_le_self _ hik0
   have el:decide ((i:Int) < (n:Int))=true:=by simp; omega
   have e1:ZI .quo .prim (.int .i64 ((i:Int) * k)) (.int .i64 s)=some (.int .i64 (((i:Int) * k).tdiv s)):=by
    show (if s=0 then none else some (AV.int .i64 (IntKind.i64.wrap (((i:Int) * k).tdiv s))))=_
    rw [if_neg (by omega),i64_in (by omega) (by omega)]
   have ei:=Zsp hp0.length 0 n 1 (i:Int) (by omega) (by omega)
   rw [Int.toNat_natCast,Nat.zero_add,Nat.mul_one] at ei
   have e3:=ZrL (O7 hp0 (.cells (O6 u) t)) (k := i) (by omega) (((i:Int) * k).tdiv s) hp0.length (Nat.le_refl _) none
   rw [ZkV] at e3
   have ew:IntKind.i64.wrap ((i:Int) + 1)=((i + 1:Nat):Int):=E8 i (by omega)
   have ih:=Zss G K L hp0 t s k n hs hn hn1 hk hk2 m q (i + 1) (u.set i (((i:Int) * k).tdiv s)) (by omega) (by rw [List.length_set]; exact hu) (by omega)
   have em:IntKind.i64.wrap ((i:Int) * k)=(i:Int) * k:=i64_in (by omega) (by omega)
   simp only [EV,el,em,e1,ei,e3,ew,ih,if_true,evA]
  | zero =>
   obtain rfl:i=n:=by omega
   have el:decide ((i:Int) < (i:Int))=false:=by simp
   have e5:AV.nm (.arr hp0.length 0 i 1)=.arr hp0.length 0 i 1:=rfl
   have e6:AV.nm (.int .i64 0)=.int .i64 0:=rfl
   have e7:LM hp0.length (hp0 ++ [.cells (O6 u) t]) (.arr hp0.length 0 i 1)=some (.lst 1 (u.map fun x=>[.int .i64 x])):=ZnU (d := 3) (Nat.le_refl _) (O7 hp0 _) hu
   have e8:LM hp0.length (hp0 ++ [.cells (O6 u) t]) (.int .i64 0)=some (.int .i64 0):=rfl
   simp only [EV,el,WT,Bool.false_eq_true,if_false,e5,e6,TUP,e7,e8,evA]
theorem Zxv {C:Cfg}{L:Nat}(h:St C L)(n:Nat)(hp:HP)(s k:Int):Z5 C (n + 1) Ve [.int .i64 s,.int .i64 k] hp =
  some (.tup [.lst 1 ((if Zsf s k=true then [] else evA s k s.toNat 0 (List.replicate s.toNat 0)).map fun x=>[.int .i64 x]),.int .i64 (if Zsf s k=true then 2 else 0)],hp,none):=by
 refine SI (by rw [← BH]; exact h.T _ _ (by kernel_rfl)) ?_
 by_cases hb:Zsf s k=true
 ·have h':(((decide (s < 1) || decide (16 < s)) || decide (k < 1)) || decide (s < k))=true:=hb
  simp only [Vf,EV,h',hb,if_true]
  rfl
 ·rw [if_neg hb,if_neg hb]
  rw [Bool.not_eq_true] at hb
  have h':(((decide (s < 1) || decide (16 < s)) || decide (k < 1)) || decide (s < k))=false:=hb
  simp only [Zsf,Bool.or_eq_false_iff,decide_eq_false_iff_not] at hb
  obtain ⟨⟨⟨h1,h2⟩,h3⟩,h4⟩:=hb
  obtain ⟨N,rfl⟩:∃ N:Nat,s=N:=⟨s.toNat,by omega⟩
  have e0:Zo9 Zii [.int .i64 0] (.int .i64 (N:Int)) hp=some (.arr hp.length 0 N 1,hp ++ [.cells (O6 (List.replicate N 0)) Zii]):=by
   have:(0:Int)≤(N:Int)∧(N:Int)≤4294967296:=⟨by omega,by omega⟩
   simp only [Zo9,if_pos this,Int.toNat_natCast,List.length_singleton]
   rw [O6,List.map_replicate,Si]
  have e1:Xk (hp ++ [.cells (O6 (List.replicate N 0)) Zii]) .slice (.arr hp.length 0 N 1)=some (.int .i64 N):=rfl
  have hm:=Zss C.G (Z5 C n) C.L hp Zii (N:Int) k N rfl (by omega) (by omega) (by omega) (by omega) C.L N 0 (List.replicate N 0) (by omega) (by simp) (by rw [h.L]; omega)
  simp only [Vf,EV,h',Bool.false_eq_true,if_false,e0,e1,Int.toNat_natCast]
  exact hm
def ZbJ (s k:Int):List Int×Int×PUnit:=(if Zsf s k=true then [] else evA s k s.toNat 0 (List.replicate s.toNat 0),if Zsf s k=true then 2 else 0,())
def U6 (L:Nat)(x:Int×Int×PUnit):Option (List Int×Int×PUnit):=some (ZbJ x.1 x.2.1)
noncomputable def MF (L:Nat):Sum tT:=mU Ve [.int .i64,.int .i64] (.tup [.lst 1 (.int .i64),.int .i64]) (U6 L)
theorem Za2:SX MF:=fun {C L} h=>fun x hp avs hv y hy=>by
 obtain ⟨(s:Int),(k:Int),u⟩:=x
 cases hv with
 | cons _ a h1 _ _ h2=>cases h2 with
  | cons _ b h3 _ _ h4=>cases h4 with
   | nil =>
    have:=VR.int h1; subst this
    have:=VR.int h3; subst this
    cases hy
    refine ⟨.tup [.lst 1 ((ZbJ s k).1.map fun x=>[.int .i64 x]),.int .i64 (ZbJ s k).2.1],fun ad=>.tup _ _ (.cons _ _ (.lst 1 (.int .i64) _ _ rfl) _ _ (.cons _ _ (.av _ _ (.inl rfl)) _ _ .nil)),1,fun m hm=>?_⟩
    obtain ⟨n,rfl⟩:∃ n,m=n + 1:=⟨m - 1,by omega⟩
    exact Zxv h n hp s k
end Go.Proofs.YtgjcjbhhhlelnaaGreatDoor
end
section
namespace Go.Proofs.YtgjcjbhhhlelnaaGreatDoor
open Go Go.Proofs.YtgjcjbhhhlelnaaGreatDoor.Abs Go.Proofs.YtgjcjbhhhlelnaaGreatDoor.Tl
set_option maxRecDepth 100000
def lastT:List Bool→Nat
 | []=>0
 | _ :: l=>if l.any id=true then lastT l + 1 else 0
theorem ZnF:∀ u:List Bool,u.any id=true→0 < NW u
 | [],h=>by cases h
 | true :: l,_=>by rw [NW]; omega
 | false :: l,h=>by rw [NW]; exact ZnF l (by simpa using h)
theorem Zk9:∀ u:List Bool,u.any id=false→NW u=0
 | [],_=>rfl
 | true :: l,h=>by simp at h
 | false :: l,h=>by rw [NW]; exact Zk9 l (by simpa using h)
theorem Zhk:∀ u:List Bool,u.any id=true→((u.take (NW u)).contains false=true↔∃ k,k≤lastT u∧u[k]? = some false)
 | [],h=>by cases h
 | false :: l,h=>by
  have hl:l.any id=true:=by simpa using h
  have:=ZnF l hl
  obtain ⟨n,hn⟩:∃ n,NW l=n + 1:=⟨NW l - 1,by omega⟩
  rw [NW,hn,List.take_succ_cons]
  exact ⟨fun _=>⟨0,Nat.zero_le _,rfl⟩,fun _=>by simp⟩
 | true :: l,h=>by
  rw [NW,List.take_succ_cons,lastT]
  by_cases hl:l.any id=true
  ·rw [if_pos hl]
   have ih:=Zhk l hl
   refine ⟨fun hc=>?_,fun ⟨k,h1,h2⟩=>?_⟩
   ·obtain ⟨k,h1,h2⟩:=ih.1 (by simpa using hc)
    exact ⟨k + 1,by omega,by simpa using h2⟩
   ·cases k with
    | zero=>simp at h2
    | succ k =>
     have:=ih.2 ⟨k,by omega,by simpa using h2⟩
     simpa using this
  ·rw [Bool.not_eq_true] at hl
   rw [if_neg (by simp [hl]),Zk9 l hl,List.take_zero]
   refine ⟨fun hc=>by simp at hc,fun ⟨k,h1,h2⟩=>?_⟩
   obtain rfl:k=0:=by omega
   simp at h2
theorem ZeG:∀ (u:List Bool) (k:Nat),k < u.length→(u.set k true).any id=true
 | [],k,h=>by simp at h
 | b :: l,0,h=>by simp
 | b :: l,k + 1,h=>by
  have:=ZeG l k (by simpa using h)
  rw [List.set_cons_succ,List.any_cons,this,Bool.or_true]
theorem ZbY:∀ (u:List Bool) (k:Nat),k < u.length→lastT (u.set k true)=if u.any id=true then max (lastT u) k else k
 | [],k,h=>by simp at h
 | b :: l,0,h=>by
  rw [List.set_cons_zero,lastT,lastT]
  by_cases hl:l.any id=true
  ·rw [if_pos hl,if_pos (by simp only [List.any_cons,hl,Bool.or_true])]; omega
  ·rw [if_neg hl]; split <;> omega
 | b :: l,k + 1,h=>by
  have hk:k < l.length:=by simpa using h
  have ih:=ZbY l k hk
  rw [List.set_cons_succ,lastT,if_pos (ZeG l k hk),ih,lastT]
  by_cases hl:l.any id=true
  ·rw [if_pos hl,if_pos (by simp only [List.any_cons,hl,Bool.or_true]),if_pos hl]; omega
  ·rw [if_neg hl,if_neg hl]; split <;> omega
theorem ZrM (u:List Bool)(k:Nat)(h:u[k]? = some true):u.set k true=u:=by
 refine List.ext_getElem? fun i=>?_
 rw [List.getElem?_set]
 split
 ·rename_i e; subst e; rw [h]; split
  ·rfl
  ·rename_i c; rw [List.getElem?_eq_none (by omega)] at h; cases h
 ·rfl
theorem ZrS (u:List Bool)(n:Nat):(u.take (n + 1)).contains false=true↔∃ k,k≤n∧u[k]? = some false:=by
 rw [List.contains_iff_mem,List.mem_iff_getElem?]
 refine ⟨fun ⟨k,h⟩=>?_,fun ⟨k,h1,h2⟩=>⟨k,?_⟩⟩
 ·rw [List.getElem?_take] at h
  split at h
  ·exact ⟨k,by omega,h⟩
  ·cases h
 ·rw [List.getElem?_take,if_pos (by omega)]; exact h2
theorem ZpH:∀ (l:List Int) (u:List Bool),u.length=16→u.any id=true→pcA l u (NW u)=rcA l u (lastT u:Nat)
 | [],u,hu,ha=>by
  rw [pcA,rcA,Int.toNat_natCast]
  have h1:=Zhk u ha
  have h2:=ZrS u (lastT u)
  by_cases h:∃ k,k≤lastT u∧u[k]? = some false
  ·rw [if_pos (h1.2 h),if_pos (h2.2 h)]
  ·rw [if_neg (fun c=>h (h1.1 c)),if_neg (fun c=>h (h2.1 c))]
 | k :: r,u,hu,ha=>by
  rw [pcA,rcA]
  by_cases hb:(decide (k < 0) || decide (16≤k))=true
  ·rw [if_pos hb,if_pos hb]
  ·rw [if_neg hb,if_neg hb]
   have hk0:¬ k < 0:=fun c=>hb (by simp [c])
   have hk1:¬ 16≤k:=fun c=>hb (by simp [c])
   have hl:k.toNat < u.length:=by omega
   have h3:=ZbY u k.toNat hl
   rw [if_pos ha] at h3
   have ih:=ZpH r (u.set k.toNat true) (by rw [List.length_set]; exact hu) (ZeG u _ hl)
   have hm:(if k > (lastT u:Int) then k else (lastT u:Int))=((lastT (u.set k.toNat true):Nat):Int):=by rw [h3]; split <;> omega
   rw [hm,← ih]
   split
   ·rename_i e
    rw [ZrM u _ e]
   ·rename_i e
    have e':u[k.toNat]? = some false:=by
     rw [List.getElem?_eq_getElem hl] at e ⊢
     cases hx:u[k.toNat] with
     | true=>rw [hx] at e; exact absurd rfl e
     | false=>rfl
    rw [Za9 u _ e']
theorem Zn9 (l:List Int)(hl:l≠[]):pcA l Xy 0=rcA l Xy 0:=by
 cases l with
 | nil=>exact absurd rfl hl
 | cons k r =>
  rw [pcA,rcA]
  by_cases hb:(decide (k < 0) || decide (16≤k))=true
  ·rw [if_pos hb,if_pos hb]
  ·rw [if_neg hb,if_neg hb]
   have hk0:¬ k < 0:=fun c=>hb (by simp [c])
   have hk1:¬ 16≤k:=fun c=>hb (by simp [c])
   have hl:k.toNat < Xy.length:=by simp only [Xy,List.length_cons,List.length_nil]; omega
   have e:Xy[k.toNat]? = some false:=by
    have:Xy=List.replicate 16 false:=rfl
    rw [this,List.getElem?_replicate,if_pos (by omega)]
   have h3:=ZbY Xy k.toNat hl
   rw [if_neg (by decide)] at h3
   have hm:(if k > 0 then k else 0)=((lastT (Xy.set k.toNat true):Nat):Int):=by rw [h3]; split <;> omega
   rw [hm,← ZpH r (Xy.set k.toNat true) (by rw [List.length_set]; rfl) (ZeG Xy _ hl),e,if_neg (by simp),Za9 Xy _ e]
   rfl
end Go.Proofs.YtgjcjbhhhlelnaaGreatDoor
end
noncomputable section
namespace Go.Proofs.YtgjcjbhhhlelnaaGreatDoor
open Go Go.Proofs.YtgjcjbhhhlelnaaGreatDoor.Abs Go.Proofs.YtgjcjbhhhlelnaaGreatDoor.Tl
set_option maxRecDepth 100000
set_option maxHeartbeats 0
def Np (L:Nat)(x:Zk×(List Int)×PUnit):Option Bool:=fT [] L ZaV [] (.one .bool) [.row 19,.lst 1 (.int .i64)] x
def ZcU (L:Nat):Sum tT:=mU 9 [.row 19,.lst 1 (.int .i64)] (.one .bool) (Np L)
theorem ZjV:SX ZcU:=fun h=>sT h ZQ rfl (by kernel_rfl) fun _=>rfl
theorem Zjr (L:Nat)(x0:Zk)(x1:(List Int)):Np L (x0,x1,())=some (decide ((↑x0.2.length:Int)≤20) && decide ((↑x0.3.length:Int)≤40) && decide ((↑x1.length:Int)≤40)):=by kernel_rfl
def Xh (L:Nat)(x:Zk×Int×PUnit):Option Bool:=fT [ZpC,Oe L,MF L,ZcU L] L Js [] (.one .bool) [.row 19,.int .u8] x
def MW (L:Nat):Sum tT:=mU 6 [.row 19,.int .u8] (.one .bool) (Xh L)
theorem MS:SX MW:=fun h=>sT h (Zj (ZuA h) (Zj (Au h) (Zj (Za2 h) (Zj (ZjV h) ZQ)))) rfl (by kernel_rfl) fun _=>rfl
theorem MR (L:Nat)(x0:Zk)(x1:Int):Xh L (x0,x1,())=bT (Np L (x0,[],())) fun y=>bif !y || (↑x0.2.length:Int) == 0 then some true else if (↑x0.Sites.length:Int)=0 then none else bT (U6 L ((↑x0.2.length:Int),Go.IntKind.i64.wrap ((Go.IntKind.i64.wrap x1).tmod (↑x0.2.length:Int) + 1),())) fun y=>bif decide ((↑x0.2.length:Int) > 16) then some (y.2.1 == 2 && true) else bT (XJ L (x0,[],())) fun y_1=>bT (XJ L (x0,y.1,())) fun y_2=>some (y.2.1 == 0 && (y_2 == 0 && y_1 == 8 || y_2 == y_1) && true):=by kernel_rfl
end Go.Proofs.YtgjcjbhhhlelnaaGreatDoor
end
section
namespace Go.Proofs.YtgjcjbhhhlelnaaGreatDoor
open Go Go.Proofs.YtgjcjbhhhlelnaaGreatDoor.Abs Go.Proofs.YtgjcjbhhhlelnaaGreatDoor.Tl
set_option maxRecDepth 100000
theorem Zm {α:Type}(c:Bool)(a b:α):(bif c then some a else some b)=some (bif c then a else b):=by cases c <;> rfl
theorem Zn (c:Bool)(x:Option Bool):(bif c == true then x else some false)=bif c then x else some false:=by cases c <;> rfl
theorem condC (c:Bool)(x:Option Bool):(bif c == false then x else some true)=bif c then some true else x:=by cases c <;> rfl
theorem Zh (c x:Bool):(bif c == true then x else false)=(c && x):=by cases c <;> rfl
theorem Zg (c x:Bool):(bif c == false then x else true)=(c || x):=by cases c <;> rfl
theorem Xa {α:Type}(c:Prop)[Decidable c](a b:α):(if c then some a else some b)=some (if c then a else b):=by split <;> rfl
theorem Yu {α:Type}(c:Bool)(a b:α):(bif c then a else b)=if c=true then a else b:=by cases c <;> rfl
theorem Za {α:Type}(o:Option α):bT o (fun y=>some y)=o:=by cases o <;> rfl
theorem ZB {α:Type}[DecidableEq α](a b:α):(a != b)=!decide (a=b):=by
 by_cases h:a=b <;> simp [bne,h]
theorem ZH (a b:Int):(a == b)=decide (a=b):=by
 by_cases h:a=b <;> simp [h]
theorem ZT (a b:List UInt8):(a == b)=decide (a=b):=by
 by_cases h:a=b <;> simp [h]
abbrev Len {α:Type}(l:List α):Prop:=l.length≤4611686018427387
theorem Zd0 {τ ρ:Type}{f:(τ→Option ρ)→τ→Option ρ}(n:Nat)(pk:Int→τ)(R:Nat→Option ρ)
  (h1:∀ self (i:Nat),i < n→self (pk ((i:Int) + 1))=R (i + 1)→f self (pk i)=R i)
  (h2:∀ self,f self (pk n)=R n):∀ (m i:Nat),i≤n→n - i < m→Zt f m (pk i)=R i
 | 0,_,_,h=>absurd h (Nat.not_lt_zero _)
 | m + 1,i,hi,hm=>by
  show f (Zt f m) (pk i)=_
  rcases Nat.lt_or_ge i n with hlt | hge
  ·exact h1 _ i hlt (Zd0 n pk R h1 h2 m (i + 1) hlt (by omega))
  ·have:i=n:=by omega
   subst this
   exact h2 _
theorem ZgZ {τ α σ ρ:Type}{f:(τ→Option ρ)→τ→Option ρ}(l:List α)(pk:σ→Int→τ)(R:List α→σ→Option ρ)
  (h1:∀ self s (i:Nat) x r,l[i]? = some x→i < l.length→x ∈ l→(∀ s',self (pk s' ((i:Int) + 1))=R r s')→f self (pk s i)=R (x :: r) s)
  (h2:∀ self s,f self (pk s (l.length:Nat))=R [] s):∀ (m i:Nat) (s:σ),i≤l.length→l.length - i < m→Zt f m (pk s i)=R (l.drop i) s
 | 0,_,_,_,h=>absurd h (Nat.not_lt_zero _)
 | m + 1,i,s,hi,hm=>by
  show f (Zt f m) (pk s i)=_
  rcases Nat.lt_or_ge i l.length with hlt | hge
  ·have hx:=List.getElem?_eq_getElem hlt
   rw [List.drop_eq_getElem_cons hlt]
   exact h1 _ s i _ _ hx hlt (List.getElem_mem hlt) fun s'=>ZgZ l pk R h1 h2 m (i + 1) s' hlt (by omega)
  ·have:i=l.length:=by omega
   subst this
   rw [h2,List.drop_length]
theorem Zap {α ρ:Type}{f:(Int×PUnit→Option ρ)→Int×PUnit→Option ρ}(l:List α)(R:List α→Option ρ){m:Nat}(hm:l.length < m)
  (h1:∀ self (i:Nat) x r,l[i]? = some x→i < l.length→x ∈ l→self ((i:Int) + 1,())=R r→f self ((i:Int),())=R (x :: r))
  (h2:∀ self,f self ((l.length:Int),())=R []):Zt f m (0,())=R l :=
 ZgZ (σ := Unit) l (fun _ i=>(i,())) (fun l _=>R l) (fun self _ i x r a b c d=>h1 self i x r a b c (d ())) (fun self _=>h2 self) m 0 () (Nat.zero_le _) (by omega)
theorem ZiM {α ρ:Type}{f:(Int×PUnit→Option ρ)→Int×PUnit→Option ρ}(l:List α)(R:List α→Int→Option ρ){m:Nat}(hm:l.length < m)
  (h1:∀ self (i:Nat) x r,l[i]? = some x→i < l.length→x ∈ l→self ((i:Int) + 1,())=R r ((i:Int) + 1)→f self ((i:Int),())=R (x :: r) i)
  (h2:∀ self,f self ((l.length:Int),())=R [] l.length):Zt f m (0,())=R l 0:=by
 have:=Zd0 (f := f) l.length (fun i=>(i,())) (fun i=>R (l.drop i) i) (fun self i hi e=>by
  have hx:=List.getElem?_eq_getElem hi
  rw [List.drop_eq_getElem_cons hi]
  exact h1 self i _ _ hx hi (List.getElem_mem hi) e) (fun self=>by rw [List.drop_length]; exact h2 self) m 0 (Nat.zero_le _) (by omega)
 exact this
theorem Zaq {α σ ρ:Type}{f:(σ×Int×PUnit→Option ρ)→σ×Int×PUnit→Option ρ}(l:List α)(R:List α→σ→Option ρ){m:Nat}(hm:l.length < m)(s:σ)
  (h1:∀ self s (i:Nat) x r,l[i]? = some x→i < l.length→x ∈ l→(∀ s',self (s',(i:Int) + 1,())=R r s')→f self (s,(i:Int),())=R (x :: r) s)
  (h2:∀ self s,f self (s,(l.length:Int),())=R [] s):Zt f m (s,0,())=R l s :=
 ZgZ l (fun s i=>(s,i,())) R h1 h2 m 0 s (Nat.zero_le _) (by omega)
theorem Zd1 {α β ρ:Type}{f:(Int×PUnit→Option ρ)→Int×PUnit→Option ρ}(l:List α)(l':List β)(hl:l.length=l'.length)(R:List α→List β→Option ρ){m:Nat}(hm:l.length < m)
  (h1:∀ self (i:Nat) x y r r',l[i]? = some x→l'[i]? = some y→i < l.length→x ∈ l→self ((i:Int) + 1,())=R r r'→f self ((i:Int),())=R (x :: r) (y :: r'))
  (h2:∀ self,f self ((l.length:Int),())=R [] []):Zt f m (0,())=R l l':=by
 have:=Zd0 (f := f) l.length (fun i=>(i,())) (fun i=>R (l.drop i) (l'.drop i)) (fun self i hi e=>by
  have hx:=List.getElem?_eq_getElem hi
  have hy:=List.getElem?_eq_getElem (show i < l'.length by omega)
  rw [List.drop_eq_getElem_cons hi,List.drop_eq_getElem_cons (show i < l'.length by omega)]
  exact h1 self i _ _ _ _ hx hy hi (List.getElem_mem hi) e) (fun self=>by rw [List.drop_length,hl,List.drop_length]; rw [← hl]; exact h2 self) m 0 (Nat.zero_le _) (by omega)
 exact this
end Go.Proofs.YtgjcjbhhhlelnaaGreatDoor
end
section
namespace Go.Proofs.YtgjcjbhhhlelnaaGreatDoor
open Go Go.Proofs.YtgjcjbhhhlelnaaGreatDoor.Abs Go.Proofs.YtgjcjbhhhlelnaaGreatDoor.Tl
set_option maxRecDepth 100000
theorem Zll (L:Nat)(n:Int):Vb L (n,())=some (Zst n):=Zd4 L n
theorem Zco (L:Nat)(n:Int):Ur L (n,())=some (Zst n):=Zh7 L n
theorem chainB (x:List UInt8):∀ l:List (List UInt8),(l.foldr (fun k r=>bif x == k then some true else r) (some false):Option Bool)=some (l.any fun k=>decide (x=k))
 | []=>rfl
 | k :: l=>by
  rw [List.foldr_cons,chainB x l,ZT,List.any_cons]
  cases decide (x=k) <;> rfl
theorem ZoS (L:Nat)(s:List UInt8):Jd L (s,())=some (kwB s):=(Zcx L s).trans (chainB s kws)
theorem Zhl (L:Nat)(l:List (List UInt8))(s:List UInt8)(hl:Len l)(hL:l.length < L):VG L (l,s,())=some (Gl (fun k=>decide (k=s)) l 0):=by
 rw [Zmw]
 refine ZiM l (fun l i=>some (Gl (fun k=>decide (k=s)) l i)) hL (fun self i x r hx hi _ e=>?_) (fun self=>?_)
 ·rw [PP]; simp only [Zi,Zd,cond_true,cond_false,Zf,Zz,Za,Zn,condC,Zh,Zg,Zm,ZH,ZT,ZB,hi,hx,wrap_succ hi (by omega),e,Gl]; simp only [Yu,Xa,if_true,if_false,Bool.false_eq_true,ne_eq,decide_not,gt_iff_lt,ge_iff_le]
 ·rw [PP]; simp only [Zi,Zd,cond_true,cond_false,Zf,Zz,Za,Zn,condC,Zh,Zg,Zm,ZH,ZT,ZB,Gl]
theorem Zhp (L:Nat)(s:List UInt8)(hL:100≤L):KD L (s,())=some (kwB s):=by
 rw [ZfJ,show JS L ()=some kws from Zd6 L,Zz,Zhl L kws s (by decide) (by have:kws.length=73:=rfl; omega),Zz]
 have:=Ae (fun k=>decide (k=s)) kws 0 (Int.le_refl _)
 rw [show decide (Gl (fun k=>decide (k=s)) kws 0 ≥ 0)=_ from this]
 unfold kwB
 congr 2; funext k; exact decide_eq_decide.2 ⟨Eq.symm,Eq.symm⟩
theorem Zla (s:List UInt8):Vr s=bif (decide (s=[]) || decide ((s.length:Int) > 24)) || (!Zst ((s.headD 0).toNat)) || kwB s then 3 else bif s.all (fun x=>ZeT x.toNat) then 0 else 3:=by
 cases s with
 | nil=>simp [Vr]
 | cons c r =>
  simp only [Vr,List.headD_cons,reduceCtorEq,decide_false,Bool.false_or]
  rw [show (decide ((((c :: r).length:Nat):Int) > 24))=decide (24 < (c :: r).length) from decide_eq_decide.2 (by omega)]
  by_cases h1:24 < (c :: r).length <;> cases Zst (c.toNat:Int) <;> cases kwB (c :: r) <;> cases (c :: r).all (fun x=>ZeT x.toNat) <;> simp [h1]
theorem ZtJ (c:Bool)(x:UInt8):(!c && (decide ((x.toNat:Int) < 48) || decide ((x.toNat:Int) > 57)) && (!decide ((x.toNat:Int)=95)))=!(c || decide ((x.toNat:Int)=95) || (decide (48≤(x.toNat:Int)) && decide ((x.toNat:Int)≤57))):=by
 rw [show decide (48≤(x.toNat:Int))=!decide ((x.toNat:Int) < 48) by rw [← decide_not]; congr 1; exact propext Int.not_lt.symm,show decide ((x.toNat:Int)≤57)=!decide ((x.toNat:Int) > 57) by rw [← decide_not]; congr 1; exact propext Int.not_lt.symm]
 cases c <;> cases decide ((x.toNat:Int)=95) <;> cases decide ((x.toNat:Int) < 48) <;> cases decide ((x.toNat:Int) > 57) <;> rfl
theorem ZtI (L:Nat)(s:List UInt8)(h:Len s)(hL:s.length < L):Zt (JO s L) L (0,())=some (bif s.all (fun x=>ZeT x.toNat) then 0 else 3):=by
 refine Zap s (fun s=>some (bif s.all (fun x=>ZeT x.toNat) then 0 else 3)) hL (fun self i x r hx hi _ e=>?_) (fun self=>?_)
 ·rw [JO]
  simp only [Zi,Zd,cond_true,cond_false,Zf,Zz,Za,Zn,condC,Zh,Zg,Zm,ZH,ZT,ZB,hi,hx,Zll,wrap_succ hi (by omega),e,ZB,ZtJ,List.all_cons,ZeT]
  cases (Zst (x.toNat:Int) || decide ((x.toNat:Int)=95) || (decide (48≤(x.toNat:Int)) && decide ((x.toNat:Int)≤57))) <;> rfl
 ·rw [JO]; simp only [Zi,Zd,cond_true,cond_false,Zf,Zz,Za,Zn,condC,Zh,Zg,Zm,ZH,ZT,ZB,List.all_nil]
theorem Qx (L:Nat)(s:List UInt8)(h:Len s)(hL:s.length < L):ZJ L (s,())=some (Vr s):=by
 rw [ZfH,ZtI L s h hL,Zla,Zsm]
 cases s with
 | nil=>rfl
 | cons c r =>
  simp only [Zi,Zd,cond_true,cond_false,Zf,Zz,Za,Zn,condC,Zh,Zg,Zm,ZH,ZT,ZB,List.getElem?_cons_zero,Zll,ZoS,List.headD_cons,reduceCtorEq,decide_false,Bool.false_or,Bool.or_assoc]
theorem ZrC (L:Nat)(s:List UInt8)(h:Len s)(hL:s.length < L):Zt (Hq s L) L (0,())=some (bif s.all (fun x=>ZeT x.toNat) then 0 else 3):=by
 refine Zap s (fun s=>some (bif s.all (fun x=>ZeT x.toNat) then 0 else 3)) hL (fun self i x r hx hi _ e=>?_) (fun self=>?_)
 ·rw [Hq]
  simp only [Zi,Zd,cond_true,cond_false,Zf,Zz,Za,Zn,condC,Zh,Zg,Zm,ZH,ZT,ZB,hi,hx,Zco,wrap_succ hi (by omega),e,ZB,List.all_cons,ZeT,Zn,condC,Zm]
  rw [show decide (48≤(x.toNat:Int))=!decide ((x.toNat:Int) < 48) by rw [← decide_not]; congr 1; exact propext Int.not_lt.symm,show decide ((x.toNat:Int)≤57)=!decide ((x.toNat:Int) > 57) by rw [← decide_not]; congr 1; exact propext Int.not_lt.symm]
  cases Zst (x.toNat:Int) <;> cases decide ((x.toNat:Int)=95) <;> cases decide ((x.toNat:Int) < 48) <;> cases decide ((x.toNat:Int) > 57) <;> rfl
 ·rw [Hq]; simp only [Zi,Zd,cond_true,cond_false,Zf,Zz,Za,Zn,condC,Zh,Zg,Zm,ZH,ZT,ZB,List.all_nil]
theorem JA (L:Nat)(s:List UInt8)(h:Len s)(hL:s.length < L)(h1:100≤L):Qa L (s,())=some (Vr s):=by
 rw [Zju,ZrC L s h hL,Zla,Zsm]
 cases s with
 | nil=>rfl
 | cons c r =>
  have:decide ((((c :: r).length:Nat):Int) < 1)=false:=by simp only [List.length_cons,decide_eq_false_iff_not]; omega
  simp only [Zi,Zd,cond_true,cond_false,Zf,Zz,Za,Zn,condC,Zh,Zg,Zm,ZH,ZT,ZB,List.getElem?_cons_zero,Zco,Zhp L _ h1,List.headD_cons,this,reduceCtorEq,decide_false,Bool.false_or,Bool.or_assoc]
theorem ZG {α:Type}[SizeOf α]:∀ l:List α,l.length < SizeOf.sizeOf l
 | []=>by simp
 | x :: l=>by have:=ZG l; simp only [List.length_cons,List.cons.sizeOf_spec]; omega
theorem ZrR (d:YT):SizeOf.sizeOf d.Values < SizeOf.sizeOf d∧SizeOf.sizeOf d.Weights < SizeOf.sizeOf d:=by cases d; simp; omega
theorem Zhm (L:Nat)(a b c:Int):YO L (a,b,c,())=some (btw a b c):=ZfI L a b c
theorem ZaE (L:Nat)(lo hi:Int)(l:List Int)(h:Len l)(hL:l.length < L):YA L (lo,hi,l,())=some (WV lo hi l):=by
 have:=ZiM (f := JL lo hi l) l (fun l i=>some (Gl (Zs1 lo hi) l i)) hL (fun self i x r hx hi' _ e=>by
  rw [JL]; simp only [Zi,Zd,cond_true,cond_false,Zf,Zz,Za,Zn,condC,Zh,Zg,Zm,ZH,ZT,ZB,hi',hx,wrap_succ hi' (by omega),e,Gl]; simp only [Yu,Xa,if_true,if_false,Bool.false_eq_true,ne_eq,decide_not,gt_iff_lt,ge_iff_le]; rfl) (fun self=>by rw [JL]; simp only [Zi,Zd,cond_true,cond_false,Zf,Zz,Za,Zn,condC,Zh,Zg,Zm,ZH,ZT,ZB,Gl])
 have h2:decide (Gl (Zs1 lo hi) l 0 ≥ 0)=l.any (Zs1 lo hi):=Ae (Zs1 lo hi) l 0 (Int.le_refl _)
 simp only [ZfB,this,Zz,h2,WV]
theorem Zpd (L:Nat)(h:2 < L)(lo hi a:Int):YA L (lo,hi,[a],())=some (WV lo hi [a]):=ZaE L lo hi [a] (by simp [Len]) (by simp; omega)
theorem Zpe (L:Nat)(h:2 < L)(lo hi a b:Int):YA L (lo,hi,[a,b],())=some (WV lo hi [a,b]):=ZaE L lo hi [a,b] (by simp [Len]) (by simpa using h)
theorem Zr2 (L:Nat)(d:YT)(h:Jr d):Ky L (d,())=some (Nl d):=by
 simp only [Zi,Zd,cond_true,cond_false,Zf,Zz,Za,Zn,condC,Zh,Zg,Zm,ZH,ZT,ZB,ZfA,h.wr,Nl]; simp only [Yu,Xa,if_true,if_false,Bool.false_eq_true,ne_eq,decide_not,gt_iff_lt,ge_iff_le]
theorem O8 (L:Nat)(d:YT)(h:Jr d)(hL:SizeOf.sizeOf d < L)(h1:100≤L):Qq L (d,())=some (MQ d):=by
 have hs:d.Values.length < L∧d.Weights.length < L:=by
  have:=ZG d.Values; have:=ZG d.Weights; have:=ZrR d; omega
 simp only [Zi,Zd,cond_true,cond_false,Zf,Zz,Za,Zn,condC,Zh,Zg,Zm,ZH,ZT,ZB,Zhy,Zr2 L d h,MQ,ZaE L _ _ _ h.v hs.1,ZaE L _ _ _ h.w hs.2,Zpd L (by omega),Zpe L (by omega)]
 simp only [Yu,Xa,if_true,if_false,Bool.false_eq_true,ne_eq,decide_not,gt_iff_lt,ge_iff_le]
theorem Zje (L:Nat)(d:YT):HY L (d,())=some (Zda d):=by
 simp only [Zi,Zd,cond_true,cond_false,Zf,Zz,Za,Zn,condC,Zh,Zg,Zm,ZH,ZT,ZB,Zh6,Zda]; simp only [Yu,Xa,if_true,if_false,Bool.false_eq_true,ne_eq,decide_not,gt_iff_lt,ge_iff_le]
theorem Zuv (L:Nat)(d:YT)(h:Jr d)(hL:SizeOf.sizeOf d < L):OZ L (d,())=some (Zl5 d):=by
 have hs:d.Values.length < L∧d.Weights.length < L:=by
  have:=ZG d.Values; have:=ZG d.Weights; have:=ZrR d; omega
 rw [Zjt,Zl5]
 by_cases hl:d.Values.length=d.Weights.length
 ·rw [Zd1 d.Values d.Weights hl (fun l m=>some (ZsE l m)) hs.1 (fun self i x y r r' hx hy hi _ e=>by
   have hv:=h.v
   rw [LW]; simp only [Zi,Zd,cond_true,cond_false,Zf,Zz,Za,Zn,condC,Zh,Zg,Zm,ZH,ZT,ZB,hi,hx,hy,Zhm,wrap_succ hi (by omega),e,ZsE]; simp only [Yu,Xa,if_true,if_false,Bool.false_eq_true,ne_eq,decide_not,gt_iff_lt,ge_iff_le]) (fun self=>by rw [LW]; simp only [Zi,Zd,cond_true,cond_false,Zf,Zz,Za,Zn,condC,Zh,Zg,Zm,ZH,ZT,ZB,ZsE])]
  simp only [Zi,Zd,cond_true,cond_false,Zf,Zz,Za,Zn,condC,Zh,Zg,Zm,ZH,ZT,ZB]; simp only [Yu,Xa,if_true,if_false,Bool.false_eq_true,ne_eq,decide_not,gt_iff_lt,ge_iff_le]
 ·simp only [Yu,Xa,if_true,if_false,Bool.false_eq_true,ne_eq,decide_not,gt_iff_lt,ge_iff_le,ZH,ZB,Bool.not_false,show decide ((d.Values.length:Int)=d.Weights.length)=false by simp only [decide_eq_false_iff_not]; omega]
theorem Bg (L:Nat)(d:YT)(h:Jr d)(hL:SizeOf.sizeOf d < L):Vz L (d,())=some (MQ d):=by
 rw [← ZeW]
 simp only [Zi,Zd,cond_true,cond_false,Zf,Zz,Za,Zn,condC,Zh,Zg,Zm,ZH,ZT,ZB,Zjs,Zje,Zqs,Zhm,Zuv L d h hL]; simp only [Yu,Xa,if_true,if_false,Bool.false_eq_true,ne_eq,decide_not,gt_iff_lt,ge_iff_le]
end Go.Proofs.YtgjcjbhhhlelnaaGreatDoor
end
section
namespace Go.Proofs.YtgjcjbhhhlelnaaGreatDoor
open Go Go.Proofs.YtgjcjbhhhlelnaaGreatDoor.Abs Go.Proofs.YtgjcjbhhhlelnaaGreatDoor.Tl
set_option maxRecDepth 100000
theorem ZpB (e:Zr):SizeOf.sizeOf e.Kids < SizeOf.sizeOf e∧SizeOf.sizeOf e.Name < SizeOf.sizeOf e:=by cases e; simp; omega
theorem Yh.nl {e:Zr}(h:Yh e):Len e.Name:=by have:=h.n; unfold Len; omega
theorem Zht (L:Nat):∀ (m:Nat) (e:Zr),Yh e→SizeOf.sizeOf e≤m→m≤L→KH L m (e,())=some (ZnC e)
 | 0,e,h,hs,_=>absurd hs (by have:=DJ e; omega)
 | m + 1,e,h,hs,hm=>by
  have hk:=ZG e.Kids; have hz:=ZpB e; have hl:=h.k
  rw [Zh1,ZnD]
  refine Zaq e.Kids (fun l s=>some (sumW ZnC l s)) (by omega) 1 (fun self s i x r hx hi mem e'=>?_) (fun self s=>?_)
  ·have ih:=Zht L m x (h.Kids.2 x mem) (by have:=Sm mem; omega) (by omega)
   rw [O5]; simp only [Zi,Zd,cond_true,cond_false,Zf,Zz,Za,Zn,condC,Zh,Zg,Zm,ZH,ZT,ZB,hi,hx,ih,wrap_succ hi (by omega),e',sumW]
  ·rw [O5]; simp only [Zi,Zd,cond_true,cond_false,Zf,Zz,Za,Zn,condC,Zh,Zg,Zm,ZH,ZT,ZB,sumW]
theorem Zhv (L:Nat):∀ (m:Nat) (e:Zr),Yh e→SizeOf.sizeOf e≤m→m≤L→Ih L m (e,())=some (ZnC e)
 | 0,e,h,hs,_=>absurd hs (by have:=DJ e; omega)
 | m + 1,e,h,hs,hm=>by
  have hk:=ZG e.Kids; have hz:=ZpB e; have hl:=h.k
  rw [Zjy,ZnD]
  refine Zaq e.Kids (fun l s=>some (sumW ZnC l s)) (by omega) 1 (fun self s i x r hx hi mem e'=>?_) (fun self s=>?_)
  ·have ih:=Zhv L m x (h.Kids.2 x mem) (by have:=Sm mem; omega) (by omega)
   rw [LY]; simp only [Zi,Zd,cond_true,cond_false,Zf,Zz,Za,Zn,condC,Zh,Zg,Zm,ZH,ZT,ZB,hi,hx,ih,wrap_succ hi (by omega),e',sumW]
  ·rw [LY]; simp only [Zi,Zd,cond_true,cond_false,Zf,Zz,Za,Zn,condC,Zh,Zg,Zm,ZH,ZT,ZB,sumW]
theorem Zhs (L:Nat):∀ (m:Nat) (e:Zr),Yh e→SizeOf.sizeOf e≤m→m≤L→KG L m (e,())=some (ZmZ e)
 | 0,e,h,hs,_=>absurd hs (by have:=DJ e; omega)
 | m + 1,e,h,hs,hm=>by
  have hk:=ZG e.Kids; have hz:=ZpB e; have hl:=h.k
  rw [Zh0,ZnI]
  refine Zaq e.Kids (fun l s=>some (IntKind.i64.wrap (ZqT ZmZ l s + 1))) (by omega) 0 (fun self s i x r hx hi mem e'=>?_) (fun self s=>?_)
  ·have ih:=Zhs L m x (h.Kids.2 x mem) (by have:=Sm mem; omega) (by omega)
   rw [O4]; simp only [Zi,Zd,cond_true,cond_false,Zf,Zz,Za,Zn,condC,Zh,Zg,Zm,ZH,ZT,ZB,hi,hx,ih,wrap_succ hi (by omega),e',ZqT]
  ·rw [O4]; simp only [Zi,Zd,cond_true,cond_false,Zf,Zz,Za,Zn,condC,Zh,Zg,Zm,ZH,ZT,ZB,ZqT]
theorem Zhu (L:Nat):∀ (m:Nat) (e:Zr),Yh e→SizeOf.sizeOf e≤m→m≤L→Ig L m (e,())=some (ZmZ e)
 | 0,e,h,hs,_=>absurd hs (by have:=DJ e; omega)
 | m + 1,e,h,hs,hm=>by
  have hk:=ZG e.Kids; have hz:=ZpB e; have hl:=h.k
  rw [Zjx,ZnI]
  refine Zaq e.Kids (fun l s=>some (IntKind.i64.wrap (ZqT ZmZ l s + 1))) (by omega) 0 (fun self s i x r hx hi mem e'=>?_) (fun self s=>?_)
  ·have ih:=Zhu L m x (h.Kids.2 x mem) (by have:=Sm mem; omega) (by omega)
   rw [LX]; simp only [Zi,Zd,cond_true,cond_false,Zf,Zz,Za,Zn,condC,Zh,Zg,Zm,ZH,ZT,ZB,hi,hx,ih,wrap_succ hi (by omega),e',ZqT]
  ·rw [LX]; simp only [Zi,Zd,cond_true,cond_false,Zf,Zz,Za,Zn,condC,Zh,Zg,Zm,ZH,ZT,ZB,ZqT]
theorem Zln (L:Nat)(n:Int):Jb L (n,())=some (ZoC n):=ZfC L n
theorem Zs4 (L:Nat)(n:Int):GK L (n,())=some (ZgW n):=by
 simp only [Zi,Zd,cond_true,cond_false,Zf,Zz,Za,Zn,condC,Zh,Zg,Zm,ZH,ZT,ZB,Zjq,ZgW]; simp only [Yu,Xa,if_true,if_false,Bool.false_eq_true,ne_eq,decide_not,gt_iff_lt,ge_iff_le]
theorem Zum (L:Nat)(k:Qz)(n:Int):QU L (k,n,())=some (ZbX k.1 n):=by
 simp only [Zi,Zd,cond_true,cond_false,Zf,Zz,Za,Zn,condC,Zh,Zg,Zm,ZH,ZT,ZB,PM,Zs4,ZbX]; simp only [Yu,Xa,if_true,if_false,Bool.false_eq_true,ne_eq,decide_not,gt_iff_lt,ge_iff_le]
theorem Zun (L:Nat)(k:Qz)(n:Int):WY L (k,n,())=some (Zet k.1 n):=by
 simp only [Zi,Zd,cond_true,cond_false,Zf,Zz,Za,Zn,condC,Zh,Zg,Zm,ZH,ZT,ZB,PN,Zln,Zet]
theorem ZoX (L:Nat)(k:Qz)(n:Int):Qo L (k,n,())=some ((ZpM k.1 n).1,(ZpM k.1 n).2.1,(ZpM k.1 n).2.2,()):=by
 simp only [Zi,Zd,cond_true,cond_false,Zf,Zz,Za,Zn,condC,Zh,Zg,Zm,ZH,ZT,ZB,LV,Zln,ZpM]
 cases decide (n=2) <;> cases decide (n=25) <;> cases decide (n=26) <;> cases ZoC n <;> cases k.1 <;> rfl
theorem Zy7 (L:Nat)(n:Int):Bz L (n,())=some (inB n):=Zr8 L n
theorem ZwO (L:Nat)(k:Qz)(e:Zr)(h:Yh e)(hL:SizeOf.sizeOf e≤L):Xq L (k,e,())=some (Zas k.1 e):=by
 have hn:=Qx L e.Name h.nl (by have:=ZG e.Name; have:=ZpB e; omega)
 simp only [Zi,Zd,cond_true,cond_false,Zf,Zz,Za,Zn,condC,Zh,Zg,Zm,ZH,ZT,ZB,SK,Zum,Zs4,Zun,ZoX,Zy7,hn,Zas]; simp only [Yu,Xa,if_true,if_false,Bool.false_eq_true,ne_eq,decide_not,gt_iff_lt,ge_iff_le,Bool.or_assoc]
theorem Zlt (L:Nat)(k:Qz):∀ (m:Nat) (e:Zr),Yh e→SizeOf.sizeOf e≤m→m≤L→Qy L m (k,e,())=some (Jv k.1 e)
 | 0,e,h,hs,_=>absurd hs (by have:=DJ e; omega)
 | m + 1,e,h,hs,hm=>by
  have hk:=ZG e.Kids; have hz:=ZpB e; have hl:=h.k
  have lp:Zt (Qv m k e L) L (0,())=some (Yj (Jv k.1) e.Kids):=by
   refine Zap e.Kids (fun l=>some (Yj (Jv k.1) l)) (by omega) (fun self i x r hx hi mem e'=>?_) (fun self=>?_)
   ·have ih:=Zlt L k m x (h.Kids.2 x mem) (by have:=Sm mem; omega) (by omega)
    rw [Qv]; simp only [Zi,Zd,cond_true,cond_false,Zf,Zz,Za,Zn,condC,Zh,Zg,Zm,ZH,ZT,ZB,hi,hx,ih,wrap_succ hi (by omega),e',Yj]; simp only [Yu,Xa,if_true,if_false,Bool.false_eq_true,ne_eq,decide_not,gt_iff_lt,ge_iff_le]
   ·rw [Qv]; simp only [Zi,Zd,cond_true,cond_false,Zf,Zz,Za,Zn,condC,Zh,Zg,Zm,ZH,ZT,ZB,Yj]
  rw [PO,Zce,lp,ZwO L k e h (by omega)]
  simp only [Zi,Zd,cond_true,cond_false,Zf,Zz,Za,Zn,condC,Zh,Zg,Zm,ZH,ZT,ZB]; simp only [Yu,Xa,if_true,if_false,Bool.false_eq_true,ne_eq,decide_not,gt_iff_lt,ge_iff_le]
theorem Zlk (L:Nat)(k:Qz)(e:Zr)(h:Yh e)(hL:SizeOf.sizeOf e≤L):WX L (k,e,())=some (Qh k.1 e):=by
 simp only [Zi,Zd,cond_true,cond_false,Zf,Zz,Za,Zn,condC,Zh,Zg,Zm,ZH,ZT,ZB,PL,show RS L (e,())=_ from Zht L L e h hL (Nat.le_refl _),show RQ L (e,())=_ from Zhs L L e h hL (Nat.le_refl _),show Vx L (k,e,())=_ from Zlt L k L e h hL (Nat.le_refl _),Qh]; simp only [Yu,Xa,if_true,if_false,Bool.false_eq_true,ne_eq,decide_not,gt_iff_lt,ge_iff_le]
theorem Zjc (L:Nat)(e:Zr)(h:Yh e)(hL:SizeOf.sizeOf e≤L):Qd L (e,())=some (Qh true e):=by
 simp only [Zi,Zd,cond_true,cond_false,Zf,Zz,Za,Zn,condC,Zh,Zg,Zm,ZH,ZT,ZB,Zav,Zlk L _ e h hL]
theorem Zf3 (L:Nat)(e:Zr)(h:Yh e)(hL:SizeOf.sizeOf e≤L):Uo L (e,())=some (Qh false e):=by
 simp only [Zi,Zd,cond_true,cond_false,Zf,Zz,Za,Zn,condC,Zh,Zg,Zm,ZH,ZT,ZB,Zhz,Zlk L _ e h hL]
theorem Zuq (L:Nat)(n:Int):BA L (n,())=some (inB n):=Zr9 L n
theorem ZoZ (L:Nat)(n:Int):Us L (n,())=some (ZoC n):=Zh8 L n
theorem Zuj (L:Nat)(n:Int):Tc L (n,())=some (Zbz n):=by
 simp only [Zi,Zd,cond_true,cond_false,Zf,Zz,Za,Zn,condC,Zh,Zg,Zm,ZH,ZT,ZB,Zjv,Zbz]; simp only [Yu,Xa,if_true,if_false,Bool.false_eq_true,ne_eq,decide_not,gt_iff_lt,ge_iff_le]
theorem ZwN (L:Nat)(n:Int):BB L (n,())=some (ZqX n):=by
 simp only [Zi,Zd,cond_true,cond_false,Zf,Zz,Za,Zn,condC,Zh,Zg,Zm,ZH,ZT,ZB,Zmy,ZqX]; simp only [Yu,Xa,if_true,if_false,Bool.false_eq_true,ne_eq,decide_not,gt_iff_lt,ge_iff_le]
theorem Zvw (a b d:Bool)(n r:Int):(if a=true then 1 else if b=true then 2 else if (d && !decide (n=0))=true then n else r) =
  if (!decide ((if a=true then 1 else if b=true then 2 else if (d && !decide (n=0))=true then n else 0)=0))=true then (if a=true then 1 else if b=true then 2 else if (d && !decide (n=0))=true then n else 0) else r:=by
 cases a <;> cases b <;> cases d <;> by_cases h:n=0 <;> simp [h]
theorem Zlv (L:Nat)(c:Bool)(h1:100≤L):∀ (m:Nat) (e:Zr),Yh e→SizeOf.sizeOf e≤m→m≤L→TB L m (e,c,())=some (Jv c e)
 | 0,e,h,hs,_=>absurd hs (by have:=DJ e; omega)
 | m + 1,e,h,hs,hm=>by
  have hk:=ZG e.Kids; have hz:=ZpB e; have hl:=h.k
  have lp:Zt (O9 m e c L) L (0,())=some (Yj (Jv c) e.Kids):=by
   refine Zap e.Kids (fun l=>some (Yj (Jv c) l)) (by omega) (fun self i x r hx hi mem e'=>?_) (fun self=>?_)
   ·have ih:=Zlv L c h1 m x (h.Kids.2 x mem) (by have:=Sm mem; omega) (by omega)
    rw [O9]; simp only [Zi,Zd,cond_true,cond_false,Zf,Zz,Za,Zn,condC,Zh,Zg,Zm,ZH,ZT,ZB,hi,hx,ih,wrap_succ hi (by omega),e',Yj]; simp only [Yu,Xa,if_true,if_false,Bool.false_eq_true,ne_eq,decide_not,gt_iff_lt,ge_iff_le]
   ·rw [O9]; simp only [Zi,Zd,cond_true,cond_false,Zf,Zz,Za,Zn,condC,Zh,Zg,Zm,ZH,ZT,ZB,Yj]
  have hn:=JA L e.Name h.nl (by have:=ZG e.Name; omega) h1
  rw [← ZoB]
  simp only [Zi,Zd,cond_true,cond_false,Zf,Zz,Za,Zn,condC,Zh,Zg,Zm,ZH,ZT,ZB,Zmz,lp,Zuj,ZoZ,Zuq,ZwN,hn,Zma]; simp only [Yu,Xa,if_true,if_false,Bool.false_eq_true,ne_eq,decide_not,gt_iff_lt,ge_iff_le,Bool.or_assoc]
  exact congrArg some (Zvw _ _ _ _ _)
theorem Zlo (L:Nat)(c:Bool)(h1:100≤L)(e:Zr)(h:Yh e)(hL:SizeOf.sizeOf e≤L):GL L (e,c,())=some (Qh c e):=by
 simp only [Zi,Zd,cond_true,cond_false,Zf,Zz,Za,Zn,condC,Zh,Zg,Zm,ZH,ZT,ZB,Zjz,show Nr L (e,())=_ from Zhv L L e h hL (Nat.le_refl _),show Nq L (e,())=_ from Zhu L L e h hL (Nat.le_refl _),show AU L (e,c,())=_ from Zlv L c h1 L e h hL (Nat.le_refl _),Qh]; simp only [Yu,Xa,if_true,if_false,Bool.false_eq_true,ne_eq,decide_not,gt_iff_lt,ge_iff_le]
theorem Zhq (L:Nat)(h1:100≤L)(e:Zr)(h:Yh e)(hL:SizeOf.sizeOf e≤L):Je L (e,())=some (Qh true e):=by
 simp only [Zi,Zd,cond_true,cond_false,Zf,Zz,Za,Zn,condC,Zh,Zg,Zm,ZH,ZT,ZB,Zcy,Zlo L _ h1 e h hL]
theorem Zf4 (L:Nat)(h1:100≤L)(e:Zr)(h:Yh e)(hL:SizeOf.sizeOf e≤L):YP L (e,())=some (Qh false e):=by
 simp only [Zi,Zd,cond_true,cond_false,Zf,Zz,Za,Zn,condC,Zh,Zg,Zm,ZH,ZT,ZB,Zjw,Zlo L _ h1 e h hL]
theorem Zli (L:Nat)(a b:List Int)(h:Len a)(hL:a.length < L):YG L (a,b,())=some (decide (a=b)):=by
 rw [IX]
 by_cases hl:a.length=b.length
 ·rw [Zd1 a b hl (fun l m=>some (decide (l=m))) hL (fun self i x y r r' hx hy hi _ e=>by
   rw [Qs]; simp only [Zi,Zd,cond_true,cond_false,Zf,Zz,Za,Zn,condC,Zh,Zg,Zm,ZH,ZT,ZB,hi,hx,hy,wrap_succ hi (by omega),e,List.cons.injEq,Bool.decide_and]; cases decide (x=y) <;> rfl) (fun self=>by rw [Qs]; simp only [Zi,Zd,cond_true,cond_false,Zf,Zz,Za,Zn,condC,Zh,Zg,Zm,ZH,ZT,ZB,decide_true])]
  rw [ZB,show decide ((a.length:Int)=b.length)=true by simp only [decide_eq_true_eq]; omega]; rfl
 ·rw [ZB,show decide ((a.length:Int)=b.length)=false by simp only [decide_eq_false_iff_not]; omega]
  have:a≠b:=fun e=>hl (by rw [e])
  simp [this]
theorem Ze2 (L:Nat)(a b:List Int)(h:Len a)(hL:a.length < L):Vd L (a,b,())=some (decide (a=b)):=by
 rw [Zd5]
 by_cases hl:a.length=b.length
 ·rw [Zd1 a b hl (fun l m=>some (decide (l=m))) hL (fun self i x y r r' hx hy hi _ e=>by
   rw [Gp]; simp only [Zi,Zd,cond_true,cond_false,Zf,Zz,Za,Zn,condC,Zh,Zg,Zm,ZH,ZT,ZB,hi,hx,hy,wrap_succ hi (by omega),e,List.cons.injEq,Bool.decide_and]; cases decide (x=y) <;> rfl) (fun self=>by rw [Gp]; simp only [Zi,Zd,cond_true,cond_false,Zf,Zz,Za,Zn,condC,Zh,Zg,Zm,ZH,ZT,ZB,decide_true])]
  rw [ZB,show decide ((a.length:Int)=b.length)=true by simp only [decide_eq_true_eq]; omega]; rfl
 ·rw [ZB,show decide ((a.length:Int)=b.length)=false by simp only [decide_eq_false_iff_not]; omega]
  have:a≠b:=fun e=>hl (by rw [e])
  simp [this]
theorem Zf2 (L:Nat)(a b:YT)(h:Jr a)(hL:SizeOf.sizeOf a≤L):Vy L (a,b,())=some (ZnK a b):=by
 have h1:=ZG a.Values; have h2:=ZG a.Weights; have h3:=ZrR a
 simp only [Zi,Zd,cond_true,cond_false,Zf,Zz,Za,Zn,condC,Zh,Zg,Zm,ZH,ZT,ZB,Zjp,Zli L a.Values _ h.v (by omega),Zli L a.Weights _ h.w (by omega),ZnK]
theorem ZaC (L:Nat)(a b:YT)(h:Jr a)(hL:SizeOf.sizeOf a≤L):JF L (a,b,())=some (ZnK a b):=by
 have h1:=ZG a.Values; have h2:=ZG a.Weights; have h3:=ZrR a
 simp only [Zi,Zd,cond_true,cond_false,Zf,Zz,Za,Zn,condC,Zh,Zg,Zm,ZH,ZT,ZB,Zmv,Ze2 L a.Values _ h.v (by omega),Ze2 L a.Weights _ h.w (by omega),ZnK]
theorem ZuW {α β:Type}(a:List α)(b:List β):(a.length=b.length∧decide ((a.length:Int)=(b.length:Int))=true)∨(a.length≠b.length∧decide ((a.length:Int)=(b.length:Int))=false):=by
 by_cases h:a.length=b.length
 ·exact .inl ⟨h,by simp only [decide_eq_true_eq]; omega⟩
 ·exact .inr ⟨h,by simp only [decide_eq_false_iff_not]; omega⟩
theorem Zls (L:Nat):∀ (m:Nat) (a b:Zr),Yh a→SizeOf.sizeOf a≤m→m≤L→Ie L m (a,b,())=some (Ed a b)
 | 0,e,_,h,hs,_=>absurd hs (by have:=DJ e; omega)
 | m + 1,e,b,h,hs,hm=>by
  have hk:=ZG e.Kids; have hz:=ZpB e; have hl:=h.k
  rw [ZaK]
  rcases ZuW e.Kids b.Kids with ⟨hl1,hl2⟩ | ⟨hl1,hl2⟩
  ·have lp:Zt (Hl m e b L) L (0,())=some (all2 Ed e.Kids b.Kids):=by
    refine Zd1 e.Kids b.Kids hl1 (fun l l'=>some (all2 Ed l l')) (by omega) (fun self i x y r r' hx hy hi mem e'=>?_) (fun self=>?_)
    ·have ih:=Zls L m x y (h.Kids.2 x mem) (by have:=Sm mem; omega) (by omega)
     rw [Hl]; simp only [Zi,Zd,cond_true,cond_false,Zf,Zz,Za,Zn,condC,Zh,Zg,Zm,ZH,ZT,ZB,hi,hx,hy,ih,wrap_succ hi (by omega),e',all2]; simp only [Yu,Xa,if_true,if_false,Bool.false_eq_true,ne_eq,decide_not,gt_iff_lt,ge_iff_le]
    ·rw [Hl]; simp only [Zi,Zd,cond_true,cond_false,Zf,Zz,Za,Zn,condC,Zh,Zg,Zm,ZH,ZT,ZB,all2]
   simp only [Zi,Zd,cond_true,cond_false,Zf,Zz,Za,Zn,condC,Zh,Zg,Zm,ZH,ZT,ZB,Zcu,lp,ZiD,hl2]; simp only [Yu,Xa,if_true,if_false,Bool.false_eq_true,ne_eq,decide_not,gt_iff_lt,ge_iff_le,hl2]
  ·simp only [Zi,Zd,cond_true,cond_false,Zf,Zz,Za,Zn,condC,Zh,Zg,Zm,ZH,ZT,ZB,Zcu,ZiD,hl2,Bool.not_false,Bool.or_true]; simp only [Yu,Xa,if_true,if_false,Bool.false_eq_true,ne_eq,decide_not,gt_iff_lt,ge_iff_le,hl2,Bool.not_false,Bool.or_true]
theorem ZoV (L:Nat)(a b:Zr)(h:Yh a)(hL:SizeOf.sizeOf a≤L):OY L (a,b,())=some (Ed a b):=Zls L L a b h hL (Nat.le_refl _)
end Go.Proofs.YtgjcjbhhhlelnaaGreatDoor
end
