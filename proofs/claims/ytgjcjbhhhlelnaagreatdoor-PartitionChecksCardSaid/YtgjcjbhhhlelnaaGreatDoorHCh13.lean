import Derived.Test.YtgjcjbhhhlelnaaGreatDoorHCh12
set_option linter.all false
noncomputable section
namespace Go.Proofs.YtgjcjbhhhlelnaaGreatDoor
open Go Go.Proofs.YtgjcjbhhhlelnaaGreatDoor.Abs Go.Proofs.YtgjcjbhhhlelnaaGreatDoor.Tl
set_option maxRecDepth 100000
set_option maxHeartbeats 0
def ZeK:List (Inl tT):=[⟨184,QG,[],.one (.bool),[]⟩,⟨200,Xx,[.rnd [.slot 8 (.int .i64)]],.one (.int .i64),[]⟩,⟨185,LW,[],.one (.bool),[]⟩]
def YD (L:Nat)(x:Int×Int×(List Int)×PUnit):Option Bool:=fI [] L ZeK Ep [] (.one .bool) [.int .i64,.int .i64,.lst 1 (.int .i64)] x
def AX (L:Nat):Sum tT:=mU 153 [.int .i64,.int .i64,.lst 1 (.int .i64)] (.one .bool) (YD L)
theorem Zh7:SX AX:=fun h=>sI h Zp (Zb ⟨h.T _ _ rfl,by kernel_rfl⟩ (Zb ⟨h.T _ _ rfl,by kernel_rfl⟩ (Zb ⟨h.T _ _ rfl,by kernel_rfl⟩ Zp))) rfl (by kernel_rfl) fun _=>rfl
def Ue:Int→Int→List Int→(Int×PUnit→Option Int)→Int×PUnit→Option Int:=fun x0 x1 x2 self acc=>bif decide (acc.1 < (↑x2.length:Int)) then bT (ZL x2 acc.1) fun y=>bif decide (y < x0) || decide (y > x1) then some acc.1 else self (Go.IntKind.i64.wrap (acc.1 + 1),()) else some (-1)
theorem Zhm (L:Nat)(x0:Int)(x1:Int)(x2:(List Int)):YD L (x0,x1,x2,())=bT (bT (Zt (Ue x0 x1 x2) L (0,())) fun y=>some (decide (y ≥ 0))) fun y=>some !y:=by kernel_rfl
def KW (L:Nat)(x:YX×PUnit):Option Bool:=fT [] L Eo [] (.one .bool) [.row 2] x
def AU (L:Nat):Sum tT:=mU 152 [.row 2] (.one .bool) (KW L)
theorem Zh6:SX AU:=fun h=>sT h Zp rfl (by kernel_rfl) fun _=>rfl
theorem Zhl (L:Nat)(x0:YX):KW L (x0,())=bif x0.1 == 1 then some (Go.IntKind.i64.wrap ((↑x0.5.length:Int) + (↑x0.6.length:Int)) == 0 && x0.3 == 0 && x0.4 == 0) else bif x0.1 == 2 then some (Go.IntKind.i64.wrap ((↑x0.5.length:Int) + (↑x0.6.length:Int)) == 0 && x0.4 == 0) else bif x0.1 == 5 then some (Go.IntKind.i64.wrap ((↑x0.5.length:Int) + (↑x0.6.length:Int)) == 0 && x0.4 == 0) else bif x0.1 == 4 then some (Go.IntKind.i64.wrap ((↑x0.5.length:Int) + (↑x0.6.length:Int)) == 0) else bif x0.1 == 3 then some (x0.2 == 0 && x0.3 == 0 && x0.4 == 0) else some false:=by kernel_rfl
def Q3 (L:Nat)(x:YX×PUnit):Option Int:=fT [AX L,AU L] L Zau [] (.one (.int .i64)) [.row 2] x
def Iq (L:Nat):Sum tT:=mU 112 [.row 2] (.one (.int .i64)) (Q3 L)
theorem Bj:SX Iq:=fun h=>sT h (Zb (Zh7 h) (Zb (Zh6 h) Zp)) rfl (by kernel_rfl) fun _=>rfl
theorem Zjg (L:Nat)(x0:YX):Q3 L (x0,())=bT (KW L (x0,())) fun y=>bif !y then some 1 else bif x0.1 == 1 then bT (YD L (0,1000000000,[x0.2],())) fun y=>bif !y then some 2 else some 0 else bif x0.1 == 2 then bT (YD L (0,1000000000,[x0.2,x0.3],())) fun y=>bif !(y && decide (x0.2≤x0.3)) then some 2 else some 0 else bif x0.1 == 4 then bT (YD L (1,20,[x0.4],())) fun y=>bT (bif y == true then bT (YD L (0,1000000,[x0.2,x0.3],())) fun y=>some y else some false) fun y=>bif !(y && decide (x0.2≤x0.3)) then some 2 else some 0 else bif x0.1 == 5 then bT (YD L (1,1000,[x0.2,x0.3],())) fun y=>bif !y then some 2 else some 0 else bif x0.1 == 3 then bif (↑x0.5.length:Int) != (↑x0.6.length:Int) then some 8 else bif (↑x0.5.length:Int) == 0 then some 7 else bif decide ((↑x0.5.length:Int) > 20) then some 6 else bT (YD L (0,1000000000,x0.5,())) fun y=>bT (bif y == true then bT (YD L (1,1000,x0.6,())) fun y=>some y else some false) fun y=>bif !y then some 2 else some 0 else some 2:=by kernel_rfl
def Y2 (L:Nat)(x:Xz×Int×Int×PUnit):Option Int:=fT [] L Gv [] (.one (.int .i64)) [.row 24,.int .i64,.int .i64] x
def Xe (L:Nat):Sum tT:=mU 146 [.row 24,.int .i64,.int .i64] (.one (.int .i64)) (Y2 L)
theorem VB:SX Xe:=fun h=>sT h Zp rfl (by kernel_rfl) fun _=>rfl
theorem VA (L:Nat)(x0:Xz)(x1:Int)(x2:Int):Y2 L (x0,x1,x2,())=bT (ZL x0.p.2 x0.2) fun y=>bif x1 == 1 then some x0.c.3 else bif x1 == 2 then some (↑y.Decl.2.length:Int) else bif x1 == 3 then some (↑y.Decl.7.length:Int) else bif x1 == 4 then some (↑x0.c.4.length:Int) else bif x1 == 5 then some (↑y.Decl.3.length:Int) else bif x1 == 6 then some (↑y.Decl.4.length:Int) else bif x1 == 7 then some (↑y.Decl.5.length:Int) else bif x1 == 8 then some (↑y.Decl.6.length:Int) else bif x1 == 9 then some (↑x0.p.2.length:Int) else bif x1 == 10 then bT (ZL x0.p.2 x2) fun y=>some (↑y.2.length:Int) else bif x1 == 11 then some (↑y.Decl.8.length:Int) else bif x1 == 12 then some (↑y.Decl.9.length:Int) else bif x1 == 13 then some (↑y.Decl.10.length:Int) else some 1:=by kernel_rfl
def ZW (L:Nat)(x:Xz×Int×Int×Int×PUnit):Option Bool:=fT [Xe L] L H8 [] (.one .bool) [.row 24,.int .i64,.int .i64,.int .i64] x
def X5 (L:Nat):Sum tT:=mU 107 [.row 24,.int .i64,.int .i64,.int .i64] (.one .bool) (ZW L)
theorem Jn:SX X5:=fun h=>sT h (Zb (VB h) Zp) rfl (by kernel_rfl) fun _=>rfl
theorem Jk (L:Nat)(x0:Xz)(x1:Int)(x2:Int)(x3:Int):ZW L (x0,x1,x2,x3,())=bT (bif decide (x2 ≥ 0) == true then bT (Y2 L (x0,x1,x3,())) fun y=>some (decide (x2 < y)) else some false) fun y=>some y:=by kernel_rfl
def Kq:List (Inl tT):=[⟨150,Wj,[],.one (.bool),[]⟩,⟨183,WL,[.rnd [.slot 8 (.int .i64)]],.one (.int .i64),[]⟩,⟨151,Us,[],.one (.bool),[]⟩]
def Vj (L:Nat):Nat→List (Sum tT)
 | 0=>[⟨111,[.row 24,.row 8],fun _=>.par _ none ((.one (.bool):RD).tv tT)⟩]
 | m + 1=>[⟨111,[.row 24,.row 8],fun x=>.par _ (fnT tF tG (ZjU tF tG (qOf tF (Vj L m ++ [Xe L,X5 L])) L Kq 8) 0 L V6 [] (.one (.bool)) (tvL tT [.row 24,.row 8] x) []) ((.one (.bool):RD).tv tT)⟩]
theorem Jo {C:Cfg}{L:Nat}(h:St C L):∀ m,∀ s ∈ Vj L m,Qm C s
 | 0=>(Zb (Qy _ _ _) Zp)
 | m + 1=>have ih:=Jo h m
  (Zb (Y1 Yv h.L h.G (AC Yv h.L h.G (Ws Yv (Ve ih (Zb (VB h) (Zb (Jn h) Zp)))) (Zb ⟨h.T _ _ rfl,by kernel_rfl⟩ (Zb ⟨h.T _ _ rfl,by kernel_rfl⟩ (Zb ⟨h.T _ _ rfl,by kernel_rfl⟩ Zp))) 8) [] (h.T _ _ rfl) (by kernel_rfl) fun _=>rfl) Zp)
def Yg (L m:Nat)(x:Xz×Zu×PUnit):Option (Bool):=fnT tF tG (ZjU tF tG (qOf tF (Vj L m ++ [Xe L,X5 L])) L Kq 8) 0 L V6 [] (.one (.bool)) (tvL tT [.row 24,.row 8] x) []
def Qb (L:Nat)(x:Xz×Zu×PUnit):Option (Bool):=Yg L L x
def He (L:Nat):Sum tT:=⟨111,[.row 24,.row 8],fun x=>.par ((.one (.bool):RD).Ty tT) (Qb L x) ((.one (.bool):RD).tv tT)⟩
theorem Sr {C:Cfg}{L:Nat}(h:St C L):Qm C (He L):=have ih:=Jo h L
 Y1 Yv h.L h.G (AC Yv h.L h.G (Ws Yv (Ve ih (Zb (VB h) (Zb (Jn h) Zp)))) (Zb ⟨h.T _ _ rfl,by kernel_rfl⟩ (Zb ⟨h.T _ _ rfl,by kernel_rfl⟩ (Zb ⟨h.T _ _ rfl,by kernel_rfl⟩ Zp))) 8) [] (h.T _ _ rfl) (by kernel_rfl) fun _=>rfl
def Ye:Nat→Xz→Zu→Nat→(Int×PUnit→Option Int)→Int×PUnit→Option Int:=fun (m:Nat)=>fun x0 x1 L self acc=>bif decide (acc.1 < (↑x1.4.length:Int)) then bT (ZL x1.4 acc.1) fun y=>bT (bT (Yg L m (x0,y,())) fun y=>some !y) fun y=>bif y then some acc.1 else self (Go.IntKind.i64.wrap (acc.1 + 1),()) else some (-1)
def UO:Nat→Xz→Zu→Nat→(Int×PUnit→Option Int)→Int×PUnit→Option Int:=fun (m:Nat)=>fun x0 x1 L self acc=>bif decide (acc.1 < (↑x1.4.length:Int)) then bT (ZL x1.4 acc.1) fun y=>bT (bT (Yg L m (x0,y,())) fun y=>some !y) fun y=>bif y then some acc.1 else self (Go.IntKind.i64.wrap (acc.1 + 1),()) else some (-1)
def UQ:Nat→Xz→Zu→Nat→(Int×PUnit→Option Int)→Int×PUnit→Option Int:=fun (m:Nat)=>fun x0 x1 L self acc=>bif decide (acc.1 < (↑x1.4.length:Int)) then bT (ZL x1.4 acc.1) fun y=>bT (bT (Yg L m (x0,y,())) fun y=>some !y) fun y=>bif y then some acc.1 else self (Go.IntKind.i64.wrap (acc.1 + 1),()) else some (-1)
def UR:Nat→Xz→Zu→Nat→(Int×PUnit→Option Int)→Int×PUnit→Option Int:=fun (m:Nat)=>fun x0 x1 L self acc=>bif decide (acc.1 < (↑x1.4.length:Int)) then bT (ZL x1.4 acc.1) fun y=>bT (bT (Yg L m (x0,y,())) fun y=>some !y) fun y=>bif y then some acc.1 else self (Go.IntKind.i64.wrap (acc.1 + 1),()) else some (-1)
def UT:Nat→Xz→Zu→Nat→(Int×PUnit→Option Int)→Int×PUnit→Option Int:=fun (m:Nat)=>fun x0 x1 L self acc=>bif decide (acc.1 < (↑x1.4.length:Int)) then bT (ZL x1.4 acc.1) fun y=>bT (bT (Yg L m (x0,y,())) fun y=>some !y) fun y=>bif y then some acc.1 else self (Go.IntKind.i64.wrap (acc.1 + 1),()) else some (-1)
def UU:Nat→Xz→Zu→Nat→(Int×PUnit→Option Int)→Int×PUnit→Option Int:=fun (m:Nat)=>fun x0 x1 L self acc=>bif decide (acc.1 < (↑x1.4.length:Int)) then bT (ZL x1.4 acc.1) fun y=>bT (bT (Yg L m (x0,y,())) fun y=>some !y) fun y=>bif y then some acc.1 else self (Go.IntKind.i64.wrap (acc.1 + 1),()) else some (-1)
theorem NW (L m:Nat)(x0:Xz)(x1:Zu):Yg L (m + 1) (x0,x1,())=bif x1.1 == 25 then bT (ZW L (x0,1,x1.3,0,())) fun y=>bT (bif y == true then bT (bT (Zt (Ye m x0 x1 L) L (0,())) fun y=>some (decide (y ≥ 0))) fun y=>some !y else some false) fun y=>some y else bif x1.1 == 26 then bT (ZW L (x0,2,x1.3,0,())) fun y=>bT (bif y == true then bT (bT (Zt (UO m x0 x1 L) L (0,())) fun y=>some (decide (y ≥ 0))) fun y=>some !y else some false) fun y=>some y else bif x1.1 == 22 then bT (ZW L (x0,5,x1.3,0,())) fun y=>bT (bif y == true then bT (bT (Zt (UQ m x0 x1 L) L (0,())) fun y=>some (decide (y ≥ 0))) fun y=>some !y else some false) fun y=>some y else bif x1.1 == 23 then bT (ZW L (x0,6,x1.3,0,())) fun y=>bT (bif y == true then bT (bT (Zt (UR m x0 x1 L) L (0,())) fun y=>some (decide (y ≥ 0))) fun y=>some !y else some false) fun y=>some y else bif x1.1 == 24 then bT (bT (Y2 L (x0,5,0,())) fun y=>some y) fun y=>bT (bT (Y2 L (x0,8,0,())) fun y=>some y) fun y_1=>bT (bif decide (x1.3 < Go.IntKind.i64.wrap (y + y_1)) == true then bT (bT (Zt (UT m x0 x1 L) L (0,())) fun y=>some (decide (y ≥ 0))) fun y=>some !y else some false) fun y=>some y else bT (bT (bT (Zt (UU m x0 x1 L) L (0,())) fun y=>some (decide (y ≥ 0))) fun y=>some !y) fun y=>some y:=by kernel_rfl
def Ju (L:Nat)(x:(List UInt8)×PUnit):Option Bool:=fT [] L Rq [] (.one .bool) [.str] x
def BO (L:Nat):Sum tT:=mU 48 [.str] (.one .bool) (Ju L)
theorem ZdK:SX BO:=fun h=>sT h Zp rfl (by kernel_rfl) fun _=>rfl
theorem Zd4 (L:Nat)(x0:(List UInt8)):Ju L (x0,())=bif x0 == [97,100,100] then some true else bif x0 == [97,102,116,101,114] then some true else bif x0 == [97,110,100] then some true else bif x0 == [97,116] then some true else bif x0 == [98,101,108,116] then some true else bif x0 == [98,111,111,108] then some true else bif x0 == [99,111,110,115,101,114,118,101] then some true else bif x0 == [99,111,110,115,116] then some true else bif x0 == [99,111,117,110,116] then some true else bif x0 == [99,121,99,108,101] then some true else bif x0 == [100,111,119,110] then some true else bif x0 == [100,114,97,119] then some true else bif x0 == [100,117,114] then some true else bif x0 == [101,108,115,101] then some true else bif x0 == [101,110,100] then some true else bif x0 == [101,118,101,114,121] then some true else bif x0 == [102,97,108,115,101] then some true else bif x0 == [102,97,117,108,116] then some true else bif x0 == [102,105,102,111] then some true else bif x0 == [102,114,101,101] then some true else bif x0 == [102,114,111,109] then some true else bif x0 == [103,101,111,109] then some true else bif x0 == [103,101,116] then some true else bif x0 == [104,111,108,100] then some true else bif x0 == [105,102] then some true else bif x0 == [105,110,116] then some true else bif x0 == [105,110,116,111] then some true else bif x0 == [108,101,97,115,116] then some true else bif x0 == [108,101,118,101,108] then some true else bif x0 == [108,105,102,111] then some true else bif x0 == [108,105,110,107] then some true else bif x0 == [108,111,99,97,108] then some true else bif x0 == [109,97,120] then some true else bif x0 == [109,105,110] then some true else bif x0 == [109,111,100,101,108] then some true else bif x0 == [110,111,116] then some true else bif x0 == [110,111,119] then some true else bif x0 == [111,98,115,101,114,118,101] then some true else bif x0 == [111,114] then some true else bif x0 == [112,97,114,97,109] then some true else bif x0 == [112,114,101,101,109,112,116] then some true else bif x0 == [112,114,105,111] then some true else bif x0 == [112,117,116] then some true else bif x0 == [113,117,101,117,101] then some true else bif x0 == [114,101,108,101,97,115,101] then some true else bif x0 == [114,101,115,111,117,114,99,101] then some true else bif x0 == [114,105,100,101] then some true else bif x0 == [114,111,117,116,105,110,101] then some true else bif x0 == [115,101,105,122,101] then some true else bif x0 == [115,101,110,100] then some true else bif x0 == [115,101,116] then some true else bif x0 == [115,104,105,102,116] then some true else bif x0 == [115,105,103,110,97,108] then some true else bif x0 == [115,105,116,101] then some true else bif x0 == [115,105,122,101] then some true else bif x0 == [115,112,97,119,110] then some true else bif x0 == [115,116,97,114,116] then some true else bif x0 == [115,116,111,112] then some true else bif x0 == [115,116,111,114,101] then some true else bif x0 == [115,116,114,101,97,109] then some true else bif x0 == [115,117,109] then some true else bif x0 == [116,97,98,108,101] then some true else bif x0 == [116,97,108,108,121] then some true else bif x0 == [116,105,99,107,115] then some true else bif x0 == [116,105,109,101] then some true else bif x0 == [116,114,117,101] then some true else bif x0 == [117,110,105,102,111,114,109] then some true else bif x0 == [117,110,116,105,108] then some true else bif x0 == [117,112] then some true else bif x0 == [118,97,114] then some true else bif x0 == [119,97,105,116] then some true else bif x0 == [119,97,105,116,105,110,103] then some true else bif x0 == [119,104,105,108,101] then some true else some false:=by kernel_rfl
def Vw (L:Nat)(x:Int×PUnit):Option Bool:=fT [] L Pz [] (.one .bool) [.int .u8] x
def PY (L:Nat):Sum tT:=mU 47 [.int .u8] (.one .bool) (Vw L)
theorem ZeY:SX PY:=fun h=>sT h Zp rfl (by kernel_rfl) fun _=>rfl
theorem ZeR (L:Nat)(x0:Int):Vw L (x0,())=some (decide (x0 ≥ 97) && decide (x0≤122)):=by kernel_rfl
def ZJ (L:Nat)(x:(List UInt8)×PUnit):Option Int:=fT [BO L,PY L] L EC [.rnd [.slot 24 (.int .i64)]] (.one (.int .i64)) [.str] x
def WU (L:Nat):Sum tT:=mU 33 [.str] (.one (.int .i64)) (ZJ L)
theorem Qv:SX WU:=fun h=>sT h (Zb (ZdK h) (Zb (ZeY h) Zp)) rfl (by kernel_rfl) fun _=>rfl
def Ug:List UInt8→Nat→(Int×PUnit→Option Int)→Int×PUnit→Option Int:=fun x0 L self acc=>bif decide (acc.1 < (↑x0.length:Int)) then bT (ZL x0 acc.1) fun y=>bT (Vw L ((↑y.toNat:Int),())) fun y_1=>bif !y_1 && (decide ((↑y.toNat:Int) < 48) || decide ((↑y.toNat:Int) > 57)) && (↑y.toNat:Int) != 95 then some 3 else self (Go.IntKind.i64.wrap (acc.1 + 1),()) else some 0
theorem Zhs (L:Nat)(x0:(List UInt8)):ZJ L (x0,())=bT (bif (x0 == [] || decide ((↑x0.length:Int) > 24)) == false then bT (ZL x0 0) fun y=>bT (Vw L ((↑y.toNat:Int),())) fun y=>some !y else some true) fun y=>bT (bif y == false then bT (Ju L (x0,())) fun y=>some y else some true) fun y=>bif y then some 3 else Zt (Ug x0 L) L (0,()):=by kernel_rfl
def Js (L:Nat)(x:Int×PUnit):Option Bool:=fT [] L Es [] (.one .bool) [.int .i64] x
def TS (L:Nat):Sum tT:=mU 214 [.int .i64] (.one .bool) (Js L)
theorem Az:SX TS:=fun h=>sT h Zp rfl (by kernel_rfl) fun _=>rfl
theorem Zhn (L:Nat)(x0:Int):Js L (x0,())=some (decide (x0 ≥ 22) && decide (x0≤24)):=by kernel_rfl
end Go.Proofs.YtgjcjbhhhlelnaaGreatDoor
end
noncomputable section
namespace Go.Proofs.YtgjcjbhhhlelnaaGreatDoor
open Go Go.Proofs.YtgjcjbhhhlelnaaGreatDoor.Abs Go.Proofs.YtgjcjbhhhlelnaaGreatDoor.Tl
set_option maxRecDepth 100000
set_option maxHeartbeats 0
def Qz (L:Nat)(x:QF×Int×PUnit):Option (Int×Int×Bool×PUnit):=fT [TS L] L Ut [] (.tup [.int .i64,.int .i64,.bool]) [.row 25,.int .i64] x
def U7 (L:Nat):Sum tT:=mU 212 [.row 25,.int .i64] (.tup [.int .i64,.int .i64,.bool]) (Qz L)
theorem Bi:SX U7:=fun h=>sT h (Zb (Az h) Zp) rfl (by kernel_rfl) fun _=>rfl
theorem RP (L:Nat)(x0:QF)(x1:Int):Qz L (x0,x1,())=bif x1 == 2 then some (0,1,true,()) else bif x1 == 25 then some (0,15,true,()) else bif x1 == 26 then some (0,31,true,()) else bT (Js L (x1,())) fun y=>bif y && x0.1 then some (0,63,true,()) else some (0,0,false,()):=by kernel_rfl
def D8 (L:Nat)(x:Int×PUnit):Option Bool:=fT [] L Zmn [] (.one .bool) [.int .i64] x
def ZbT (L:Nat):Sum tT:=mU 142 [.int .i64] (.one .bool) (D8 L)
theorem ZhB:SX ZbT:=fun h=>sT h Zp rfl (by kernel_rfl) fun _=>rfl
theorem ZtD (L:Nat)(x0:Int):D8 L (x0,())=some (decide (x0 ≥ (-1000000000000)) && decide (x0≤1000000000000)):=by kernel_rfl
def Qd (L:Nat)(x:QF×Int×PUnit):Option Bool:=fT [TS L] L Gy [] (.one .bool) [.row 25,.int .i64] x
def Hg (L:Nat):Sum tT:=mU 211 [.row 25,.int .i64] (.one .bool) (Qd L)
theorem Sv:SX Hg:=fun h=>sT h (Zb (Az h) Zp) rfl (by kernel_rfl) fun _=>rfl
theorem Si (L:Nat)(x0:QF)(x1:Int):Qd L (x0,x1,())=bT (bif (x1 == 3) == false then bT (Js L (x1,())) fun y=>some (y && !x0.1) else some true) fun y=>some y:=by kernel_rfl
def Hu (L:Nat)(x:Int×PUnit):Option Int:=fT [] L Zca [] (.one (.int .i64)) [.int .i64] x
def SN (L:Nat):Sum tT:=mU 210 [.int .i64] (.one (.int .i64)) (Hu L)
theorem ZdI:SX SN:=fun h=>sT h Zp rfl (by kernel_rfl) fun _=>rfl
theorem Zle (L:Nat)(x0:Int):Hu L (x0,())=bif x0 == 1 || x0 == 2 || x0 == 3 || x0 == 4 then some 0 else bif decide (x0 ≥ 5) && decide (x0≤8) then some 1 else bif decide (x0 ≥ 9) && decide (x0≤21) then some 2 else bif decide (x0 ≥ 22) && decide (x0≤26) then some 0 else some (-1):=by kernel_rfl
def Xf (L:Nat)(x:QF×Int×PUnit):Option Bool:=fT [SN L] L Gx [] (.one .bool) [.row 25,.int .i64] x
def Hf (L:Nat):Sum tT:=mU 209 [.row 25,.int .i64] (.one .bool) (Xf L)
theorem Su:SX Hf:=fun h=>sT h (Zb (ZdI h) Zp) rfl (by kernel_rfl) fun _=>rfl
theorem NZ (L:Nat)(x0:QF)(x1:Int):Xf L (x0,x1,())=bif x1 == 3 then some !x0.1 else bif x1 == 25 then some x0.1 else bif x1 == 26 then some x0.1 else bT (Hu L (x1,())) fun y=>some (decide (y ≥ 0)):=by kernel_rfl
def X6 (L:Nat)(x:QF×Zu×PUnit):Option Int:=fT [WU L,U7 L,ZbT L,Hg L,SN L,Hf L] L H9 [] (.one (.int .i64)) [.row 25,.row 8] x
def Jr (L:Nat):Sum tT:=mU 199 [.row 25,.row 8] (.one (.int .i64)) (X6 L)
theorem Io:SX Jr:=fun h=>sT h (Zb (Qv h) (Zb (Bi h) (Zb (ZhB h) (Zb (Sv h) (Zb (ZdI h) (Zb (Su h) Zp)))))) rfl (by kernel_rfl) fun _=>rfl
theorem Ah (L:Nat)(x0:QF)(x1:Zu):X6 L (x0,x1,())=bT (bT (Xf L (x0,x1.1,())) fun y=>some y) fun y=>bT (bif (!y) == false then bT (bT (Hu L (x1.1,())) fun y=>some y) fun y=>some ((↑x1.4.length:Int) != y) else some true) fun y=>bT (bif y == false then bif (!x1.2 == []) == true then bT (bT (Qd L (x0,x1.1,())) fun y=>some y) fun y=>some !y else some false else some true) fun y=>bif y then some 1 else bif x1.1 == 1 then bT (D8 L (x1.3,())) fun y=>bif !y then some 2 else some 0 else bT (Qz L (x0,x1.1,())) fun y=>bif !y.2.2.1 && x1.3 != 0 then some 1 else bif y.2.2.1 && (decide (x1.3 < y.1) || decide (x1.3 > y.2.1)) then some 2 else bT (Qd L (x0,x1.1,())) fun y=>bif y then bT (ZJ L (x1.2,())) fun y=>some y else some 0:=by kernel_rfl
def Vk (L:Nat):Nat→List (Sum tT)
 | 0=>[⟨182,[.row 25,.row 8],fun _=>.par _ none ((.one (.int .i64):RD).tv tT)⟩]
 | m + 1=>[⟨182,[.row 25,.row 8],fun x=>.par _ (fnT tF tG (qOf tF (Vk L m ++ [Jr L])) 0 L V7 [.rnd [.slot 18 (.int .i64)]] (.one (.int .i64)) (tvL tT [.row 25,.row 8] x) []) ((.one (.int .i64):RD).tv tT)⟩]
theorem Jp {C:Cfg}{L:Nat}(h:St C L):∀ m,∀ s ∈ Vk L m,Qm C s
 | 0=>(Zb (Qy _ _ _) Zp)
 | m + 1=>have ih:=Jp h m
  (Zb (Y1 Yv h.L h.G (Ws Yv (Ve ih (Zb (Io h) Zp))) [.rnd [.slot 18 (.int .i64)]] (h.T _ _ rfl) (by kernel_rfl) fun _=>rfl) Zp)
def QE (L m:Nat)(x:QF×Zu×PUnit):Option (Int):=fnT tF tG (qOf tF (Vk L m ++ [Jr L])) 0 L V7 [.rnd [.slot 18 (.int .i64)]] (.one (.int .i64)) (tvL tT [.row 25,.row 8] x) []
def VE (L:Nat)(x:QF×Zu×PUnit):Option (Int):=QE L L x
def Hl (L:Nat):Sum tT:=⟨182,[.row 25,.row 8],fun x=>.par ((.one (.int .i64):RD).Ty tT) (VE L x) ((.one (.int .i64):RD).tv tT)⟩
theorem Sz {C:Cfg}{L:Nat}(h:St C L):Qm C (Hl L):=have ih:=Jp h L
 Y1 Yv h.L h.G (Ws Yv (Ve ih (Zb (Io h) Zp))) [.rnd [.slot 18 (.int .i64)]] (h.T _ _ rfl) (by kernel_rfl) fun _=>rfl
def QB:Nat→QF→Zu→Nat→(Int×PUnit→Option Int)→Int×PUnit→Option Int:=fun (m:Nat)=>fun x0 x1 L self acc=>bif decide (acc.1 < (↑x1.4.length:Int)) then bT (ZL x1.4 acc.1) fun y=>bT (QE L m (x0,y,())) fun y=>bif y != 0 then some y else self (Go.IntKind.i64.wrap (acc.1 + 1),()) else some 0
theorem Sj (L m:Nat)(x0:QF)(x1:Zu):QE L (m + 1) (x0,x1,())=bT (X6 L (x0,x1,())) fun y=>bif y != 0 then some y else Zt (QB m x0 x1 L) L (0,()):=by kernel_rfl
def TC (L:Nat):Nat→List (Sum tT)
 | 0=>[⟨181,[.row 8],fun _=>.par _ none ((.one (.int .i64):RD).tv tT)⟩]
 | m + 1=>[⟨181,[.row 8],fun x=>.par _ (fnT tF tG (qOf tF (TC L m ++ [])) 0 L LX [.rnd [.slot 3 (.int .i64),.slot 9 (.int .i64)]] (.one (.int .i64)) (tvL tT [.row 8] x) []) ((.one (.int .i64):RD).tv tT)⟩]
theorem Ll {C:Cfg}{L:Nat}(h:St C L):∀ m,∀ s ∈ TC L m,Qm C s
 | 0=>(Zb (Qy _ _ _) Zp)
 | m + 1=>have ih:=Ll h m
  (Zb (Y1 Yv h.L h.G (Ws Yv (Ve ih Zp)) [.rnd [.slot 3 (.int .i64),.slot 9 (.int .i64)]] (h.T _ _ rfl) (by kernel_rfl) fun _=>rfl) Zp)
def Gi (L m:Nat)(x:Zu×PUnit):Option (Int):=fnT tF tG (qOf tF (TC L m ++ [])) 0 L LX [.rnd [.slot 3 (.int .i64),.slot 9 (.int .i64)]] (.one (.int .i64)) (tvL tT [.row 8] x) []
def BU (L:Nat)(x:Zu×PUnit):Option (Int):=Gi L L x
def Zbb (L:Nat):Sum tT:=⟨181,[.row 8],fun x=>.par ((.one (.int .i64):RD).Ty tT) (BU L x) ((.one (.int .i64):RD).tv tT)⟩
theorem Zj9 {C:Cfg}{L:Nat}(h:St C L):Qm C (Zbb L):=have ih:=Ll h L
 Y1 Yv h.L h.G (Ws Yv (Ve ih Zp)) [.rnd [.slot 3 (.int .i64),.slot 9 (.int .i64)]] (h.T _ _ rfl) (by kernel_rfl) fun _=>rfl
def Tf:Nat→Zu→Nat→(Int×Int×PUnit→Option Int)→Int×Int×PUnit→Option Int:=fun (m:Nat)=>fun x0 L self acc=>bif decide (acc.2.1 < (↑x0.4.length:Int)) then bT (ZL x0.4 acc.2.1) fun y=>bT (Gi L m (y,())) fun y=>self (if y > acc.1 then y else acc.1,Go.IntKind.i64.wrap (acc.2.1 + 1),()) else some (Go.IntKind.i64.wrap (acc.1 + 1))
theorem Zji (L m:Nat)(x0:Zu):Gi L (m + 1) (x0,())=Zt (Tf m x0 L) L (0,0,()):=by kernel_rfl
def TD (L:Nat):Nat→List (Sum tT)
 | 0=>[⟨180,[.row 8],fun _=>.par _ none ((.one (.int .i64):RD).tv tT)⟩]
 | m + 1=>[⟨180,[.row 8],fun x=>.par _ (fnT tF tG (qOf tF (TD L m ++ [])) 0 L LY [.rnd [.slot 3 (.int .i64),.slot 9 (.int .i64)]] (.one (.int .i64)) (tvL tT [.row 8] x) []) ((.one (.int .i64):RD).tv tT)⟩]
theorem Lm {C:Cfg}{L:Nat}(h:St C L):∀ m,∀ s ∈ TD L m,Qm C s
 | 0=>(Zb (Qy _ _ _) Zp)
 | m + 1=>have ih:=Lm h m
  (Zb (Y1 Yv h.L h.G (Ws Yv (Ve ih Zp)) [.rnd [.slot 3 (.int .i64),.slot 9 (.int .i64)]] (h.T _ _ rfl) (by kernel_rfl) fun _=>rfl) Zp)
def Gj (L m:Nat)(x:Zu×PUnit):Option (Int):=fnT tF tG (qOf tF (TD L m ++ [])) 0 L LY [.rnd [.slot 3 (.int .i64),.slot 9 (.int .i64)]] (.one (.int .i64)) (tvL tT [.row 8] x) []
def BV (L:Nat)(x:Zu×PUnit):Option (Int):=Gj L L x
def Zbc (L:Nat):Sum tT:=⟨180,[.row 8],fun x=>.par ((.one (.int .i64):RD).Ty tT) (BV L x) ((.one (.int .i64):RD).tv tT)⟩
theorem ZjA {C:Cfg}{L:Nat}(h:St C L):Qm C (Zbc L):=have ih:=Lm h L
 Y1 Yv h.L h.G (Ws Yv (Ve ih Zp)) [.rnd [.slot 3 (.int .i64),.slot 9 (.int .i64)]] (h.T _ _ rfl) (by kernel_rfl) fun _=>rfl
def Ti:Nat→Zu→Nat→(Int×Int×PUnit→Option Int)→Int×Int×PUnit→Option Int:=fun (m:Nat)=>fun x0 L self acc=>bif decide (acc.2.1 < (↑x0.4.length:Int)) then bT (ZL x0.4 acc.2.1) fun y=>bT (Gj L m (y,())) fun y=>self (Go.IntKind.i64.wrap (acc.1 + y),Go.IntKind.i64.wrap (acc.2.1 + 1),()) else some acc.1
theorem Zjj (L m:Nat)(x0:Zu):Gj L (m + 1) (x0,())=Zt (Ti m x0 L) L (1,0,()):=by kernel_rfl
def Qc (L:Nat)(x:QF×Zu×PUnit):Option Int:=fT [Hl L,Zbb L,Zbc L] L Gw [] (.one (.int .i64)) [.row 25,.row 8] x
def VD (L:Nat):Sum tT:=mU 149 [.row 25,.row 8] (.one (.int .i64)) (Qc L)
theorem GX:SX VD:=fun h=>sT h (Zb (Sz h) (Zb (Zj9 h) (Zb (ZjA h) Zp))) rfl (by kernel_rfl) fun _=>rfl
theorem NY (L:Nat)(x0:QF)(x1:Zu):Qc L (x0,x1,())=bT (BV L (x1,())) fun y=>bif decide (y > 60) then some 6 else bT (BU L (x1,())) fun y=>bif decide (y > 12) then some 11 else bT (VE L (x0,x1,())) fun y=>some y:=by kernel_rfl
end Go.Proofs.YtgjcjbhhhlelnaaGreatDoor
end
noncomputable section
namespace Go.Proofs.YtgjcjbhhhlelnaaGreatDoor
open Go Go.Proofs.YtgjcjbhhhlelnaaGreatDoor.Abs Go.Proofs.YtgjcjbhhhlelnaaGreatDoor.Tl
set_option maxRecDepth 100000
set_option maxHeartbeats 0
def Ql (L:Nat)(x:Zu×PUnit):Option Int:=fT [VD L] L MX [] (.one (.int .i64)) [.row 8] x
def Lu (L:Nat):Sum tT:=mU 110 [.row 8] (.one (.int .i64)) (Ql L)
theorem Zb6:SX Lu:=fun h=>sT h (Zb (GX h) Zp) rfl (by kernel_rfl) fun _=>rfl
theorem Zb2 (L:Nat)(x0:Zu):Ql L (x0,())=bT (Qc L (QF.mk true,x0,())) fun y=>some y:=by kernel_rfl
def U8 (L:Nat)(x:Int×PUnit):Option Bool:=fT [] L Zat [] (.one .bool) [.int .i64] x
def BM (L:Nat):Sum tT:=mU 105 [.int .i64] (.one .bool) (U8 L)
theorem ZaU:SX BM:=fun h=>sT h Zp rfl (by kernel_rfl) fun _=>rfl
theorem Zjf (L:Nat)(x0:Int):U8 L (x0,())=some (decide (x0 ≥ 1) && decide (x0≤19)):=by kernel_rfl
def WN (L:Nat)(x:YH×PUnit):Option (List Zu):=fT [BM L] L HY [] (.one (.lst 4 (.row 8))) [.row 15] x
def Ip (L:Nat):Sum tT:=mU 109 [.row 15] (.one (.lst 4 (.row 8))) (WN L)
theorem Aw:SX Ip:=fun h=>sT h (Zb (ZaU h) Zp) rfl (by kernel_rfl) fun _=>rfl
theorem Aj (L:Nat)(x0:YH):WN L (x0,())=bT (U8 L (x0.1,())) fun y=>bif !y then some [] else bT (ZL Ig x0.1) fun y=>bif y.5 then bT (apT 56 [] [x0.5]) fun y_1=>bif y.6 then bT (apT 56 y_1 [x0.6]) fun y_2=>bif y.7 then bT (apT 56 y_2 x0.7) fun y=>some y else some y_2 else bif y.7 then bT (apT 56 y_1 x0.7) fun y=>some y else some y_1 else bif y.6 then bT (apT 56 [] [x0.6]) fun y_1=>bif y.7 then bT (apT 56 y_1 x0.7) fun y=>some y else some y_1 else bif y.7 then bT (apT 56 [] x0.7) fun y=>some y else some []:=by kernel_rfl
def Zk3:List (Inl tT):=[⟨147,WV,[.rnd [.slot 8 (.int .i64)]],.one (.int .i64),[]⟩,⟨148,Zaq,[],.one (.bool),[]⟩]
def D7 (L:Nat)(x:Zk×Int×Int×PUnit):Option (Int×Bool×PUnit):=fI [] L Zk3 Zfk [] (.tup [.int .i64,.bool]) [.row 19,.int .i64,.int .i64] x
def Zgg (L:Nat):Sum tT:=mU 108 [.row 19,.int .i64,.int .i64] (.tup [.int .i64,.bool]) (D7 L)
theorem ZoF:SX Zgg:=fun h=>sI h Zp (Zb ⟨h.T _ _ rfl,by kernel_rfl⟩ (Zb ⟨h.T _ _ rfl,by kernel_rfl⟩ Zp)) rfl (by kernel_rfl) fun _=>rfl
def N9:Zk→Int→Int→(Int×PUnit→Option Int)→Int×PUnit→Option Int:=fun x0 x1 x2 self acc=>bif decide (acc.1 < (↑x0.3.length:Int)) then bT (ZL x0.3 acc.1) fun y=>bif y.1 == x1 && y.2 == x2 then some acc.1 else self (Go.IntKind.i64.wrap (acc.1 + 1),()) else some (-1)
theorem Zor (L:Nat)(x0:Zk)(x1:Int)(x2:Int):D7 L (x0,x1,x2,())=bT (Zt (N9 x0 x1 x2) L (0,())) fun y=>bif decide (y < 0) then some (0,false,()) else bT (ZL x0.3 y) fun y=>some (y.3,true,()):=by kernel_rfl
def YJ (L:Nat)(x:(List Int)×(List Int)×PUnit):Option Bool:=fT [] L VN [.rnd [.slot 13 (.int .i64)]] (.one .bool) [.lst 1 (.int .i64),.lst 1 (.int .i64)] x
def VU (L:Nat):Sum tT:=mU 169 [.lst 1 (.int .i64),.lst 1 (.int .i64)] (.one .bool) (YJ L)
theorem O8:SX VU:=fun h=>sT h Zp rfl (by kernel_rfl) fun _=>rfl
def Q7:List Int→List Int→(Int×PUnit→Option Bool)→Int×PUnit→Option Bool:=fun x0 x1 self acc=>bif decide (acc.1 < (↑x0.length:Int)) then bT (ZL x0 acc.1) fun y=>bT (ZL x1 acc.1) fun y_1=>bif y != y_1 then some false else self (Go.IntKind.i64.wrap (acc.1 + 1),()) else some true
theorem O0 (L:Nat)(x0:(List Int))(x1:(List Int)):YJ L (x0,x1,())=bif (↑x0.length:Int) != (↑x1.length:Int) then some false else Zt (Q7 x0 x1) L (0,()):=by kernel_rfl
def VF (L:Nat)(x:YX×YX×PUnit):Option Bool:=fT [VU L] L ZbZ [] (.one .bool) [.row 2,.row 2] x
def TR (L:Nat):Sum tT:=mU 132 [.row 2,.row 2] (.one .bool) (VF L)
theorem S9:SX TR:=fun h=>sT h (Zb (O8 h) Zp) rfl (by kernel_rfl) fun _=>rfl
theorem Zld (L:Nat)(x0:YX)(x1:YX):VF L (x0,x1,())=bT (bif (x0.1 == x1.1 && x0.2 == x1.2 && x0.3 == x1.3 && x0.4 == x1.4) == true then bT (YJ L (x0.5,x1.5,())) fun y=>some y else some false) fun y=>bT (bif y == true then bT (YJ L (x0.6,x1.6,())) fun y=>some y else some false) fun y=>some y:=by kernel_rfl
def Bz (L:Nat):Nat→List (Sum tT)
 | 0=>[⟨179,[.row 8,.row 8],fun _=>.par _ none ((.one (.bool):RD).tv tT)⟩]
 | m + 1=>[⟨179,[.row 8,.row 8],fun x=>.par _ (fnT tF tG (qOf tF (Bz L m ++ [])) 0 L Np [.rnd [.slot 38 (.int .i64)]] (.one (.bool)) (tvL tT [.row 8,.row 8] x) []) ((.one (.bool):RD).tv tT)⟩]
theorem BA {C:Cfg}{L:Nat}(h:St C L):∀ m,∀ s ∈ Bz L m,Qm C s
 | 0=>(Zb (Qy _ _ _) Zp)
 | m + 1=>have ih:=BA h m
  (Zb (Y1 Yv h.L h.G (Ws Yv (Ve ih Zp)) [.rnd [.slot 38 (.int .i64)]] (h.T _ _ rfl) (by kernel_rfl) fun _=>rfl) Zp)
def I9 (L m:Nat)(x:Zu×Zu×PUnit):Option (Bool):=fnT tF tG (qOf tF (Bz L m ++ [])) 0 L Np [.rnd [.slot 38 (.int .i64)]] (.one (.bool)) (tvL tT [.row 8,.row 8] x) []
def Me (L:Nat)(x:Zu×Zu×PUnit):Option (Bool):=I9 L L x
def SL (L:Nat):Sum tT:=⟨179,[.row 8,.row 8],fun x=>.par ((.one (.bool):RD).Ty tT) (Me L x) ((.one (.bool):RD).tv tT)⟩
theorem ZdH {C:Cfg}{L:Nat}(h:St C L):Qm C (SL L):=have ih:=BA h L
 Y1 Yv h.L h.G (Ws Yv (Ve ih Zp)) [.rnd [.slot 38 (.int .i64)]] (h.T _ _ rfl) (by kernel_rfl) fun _=>rfl
def Ie:Nat→Zu→Zu→Nat→(Int×PUnit→Option Bool)→Int×PUnit→Option Bool:=fun (m:Nat)=>fun x0 x1 L self acc=>bif decide (acc.1 < (↑x0.4.length:Int)) then bT (ZL x0.4 acc.1) fun y=>bT (ZL x1.4 acc.1) fun y_1=>bT (bT (I9 L m (y,y_1,())) fun y=>some y) fun y=>bif !y then some false else self (Go.IntKind.i64.wrap (acc.1 + 1),()) else some true
theorem Zd1 (L m:Nat)(x0:Zu)(x1:Zu):I9 L (m + 1) (x0,x1,())=bif x0.1 != x1.1 || !x0.2 == x1.2 || x0.3 != x1.3 || (↑x0.4.length:Int) != (↑x1.4.length:Int) then some false else Zt (Ie m x0 x1 L) L (0,()):=by kernel_rfl
def Ht (L:Nat)(x:Zu×PUnit):Option Bool:=fT [SL L] L ZbY [] (.one .bool) [.row 8] x
def Zed (L:Nat):Sum tT:=mU 145 [.row 8] (.one .bool) (Ht L)
theorem ZlJ:SX Zed:=fun h=>sT h (Zb (ZdH h) Zp) rfl (by kernel_rfl) fun _=>rfl
theorem Zlc (L:Nat)(x0:Zu):Ht L (x0,())=bT (Me L (x0,Zu.mk 0 [] 0 [],())) fun y=>some y:=by kernel_rfl
def Iu (L:Nat)(x:YH×PUnit):Option Bool:=fT [TR L,Zed L] L Zas [] (.one .bool) [.row 15] x
def ZaZ (L:Nat):Sum tT:=mU 106 [.row 15] (.one .bool) (Iu L)
theorem Zj7:SX ZaZ:=fun h=>sT h (Zb (S9 h) (Zb (ZlJ h) Zp)) rfl (by kernel_rfl) fun _=>rfl
theorem Zje (L:Nat)(x0:YH):Iu L (x0,())=bT (ZL Ig x0.1) fun y=>bT (bif ((y.2 != 0 || x0.2 == 0) && (y.3 != 0 || x0.3 == 0) && (y.4 || x0.4 == 0)) == true then bif y.5 == false then bT (Ht L (x0.5,())) fun y=>some y else some true else some false) fun y_1=>bT (bif y_1 == true then bif y.6 == false then bT (Ht L (x0.6,())) fun y=>some y else some true else some false) fun y_2=>bT (bif (y_2 && (y.7 || (↑x0.7.length:Int) == 0)) == true then bif y.8 == false then bT (VF L (x0.8,YX.mk 0 0 0 0 [] [],())) fun y=>some y else some true else some false) fun y_3=>some (y_3 && (y.9 || !x0.9)):=by kernel_rfl
def YW (L:Nat)(x:Xz×YH×PUnit):Option Int:=fT [Iq L,He L,Lu L,Ip L,Zgg L,X5 L,ZaZ L,BM L] L UV [.rnd [.slot 103 (.int .i64)]] (.one (.int .i64)) [.row 24,.row 15] x
def Kv (L:Nat):Sum tT:=mU 57 [.row 24,.row 15] (.one (.int .i64)) (YW L)
theorem DW:SX Kv:=fun h=>sT h (Zb (Bj h) (Zb (Sr h) (Zb (Zb6 h) (Zb (Aw h) (Zb (ZoF h) (Zb (Jn h) (Zb (Zj7 h) (Zb (ZaU h) Zp)))))))) rfl (by kernel_rfl) fun _=>rfl
def YI:Xz→YH→Nat→IM→List Zu→(Int×PUnit→Option Int)→Int×PUnit→Option Int:=fun x0 x1 L y y_1 self acc=>bif decide (acc.1 < (↑y_1.length:Int)) then bT (ZL y_1 acc.1) fun y=>bT (Ql L (y,())) fun y_2=>bif y_2 != 0 then some y_2 else bT (Qb L (x0,y,())) fun y=>bif !y then some 2 else self (Go.IntKind.i64.wrap (acc.1 + 1),()) else bif y.8 then bT (Q3 L (x1.8,())) fun y=>some y else some 0
def Uo:Xz→YH→Nat→IM→List Zu→(Int×PUnit→Option Int)→Int×PUnit→Option Int:=fun x0 x1 L y y_1 self acc=>bif decide (acc.1 < (↑y_1.length:Int)) then bT (ZL y_1 acc.1) fun y=>bT (Ql L (y,())) fun y_2=>bif y_2 != 0 then some y_2 else bT (Qb L (x0,y,())) fun y=>bif !y then some 2 else self (Go.IntKind.i64.wrap (acc.1 + 1),()) else bif y.8 then bT (Q3 L (x1.8,())) fun y=>some y else some 0
def Ur:Xz→YH→Nat→IM→List Zu→(Int×PUnit→Option Int)→Int×PUnit→Option Int:=fun x0 x1 L y y_1 self acc=>bif decide (acc.1 < (↑y_1.length:Int)) then bT (ZL y_1 acc.1) fun y=>bT (Ql L (y,())) fun y_2=>bif y_2 != 0 then some y_2 else bT (Qb L (x0,y,())) fun y=>bif !y then some 2 else self (Go.IntKind.i64.wrap (acc.1 + 1),()) else bif y.8 then bT (Q3 L (x1.8,())) fun y=>some y else some 0
theorem DV (L:Nat)(x0:Xz)(x1:YH):YW L (x0,x1,())=bT (U8 L (x1.1,())) fun y=>bT (bif (!y) == false then bT (Iu L (x1,())) fun y=>some !y else some true) fun y=>bif y then some 1 else bT (ZL Ig x1.1) fun y=>bT (ZW L (x0,y.2,x1.2,0,())) fun y_1=>bif !y_1 && y.2 != 0 then some 2 else bif x1.1 == 14 then bT (D7 L (x0.1,x0.2,x1.2,())) fun y_2=>bif !y_2.2.1 || y_2.1 != x1.4 then some 16 else bT (ZW L (x0,10,x1.3,x1.2,())) fun y_3=>bif !y_3 then some 2 else bT (ZL x0.p.2 x1.2) fun y_4=>bT (ZL y_4.2 x1.3) fun y_5=>bif (↑x1.7.length:Int) != y_5.2 then some 8 else bT (WN L (x1,())) fun y_6=>Zt (YI x0 x1 L y y_6) L (0,()) else bif x1.1 == 15 then bT (ZW L (x0,10,x1.3,x0.2,())) fun y_2=>bif !y_2 then some 2 else bT (ZL x0.p.2 x0.2) fun y_3=>bT (ZL y_3.2 x1.3) fun y_4=>bif (↑x1.7.length:Int) != y_4.2 then some 8 else bT (WN L (x1,())) fun y_5=>Zt (Uo x0 x1 L y y_5) L (0,()) else bT (bif (y.3 != 0) == true then bT (ZW L (x0,y.3,x1.3,0,())) fun y=>some !y else some false) fun y_2=>bif y_2 then some 2 else bT (WN L (x1,())) fun y_3=>Zt (Ur x0 x1 L y y_3) L (0,()):=by kernel_rfl
end Go.Proofs.YtgjcjbhhhlelnaaGreatDoor
end
noncomputable section
namespace Go.Proofs.YtgjcjbhhhlelnaaGreatDoor
open Go Go.Proofs.YtgjcjbhhhlelnaaGreatDoor.Abs Go.Proofs.YtgjcjbhhhlelnaaGreatDoor.Tl
set_option maxRecDepth 100000
set_option maxHeartbeats 0
def Y3 (L:Nat)(x:Zk×Int×Wi×PUnit):Option Int:=fT [Kv L,WU L] L DY [.rnd [.slot 66 (.int .i64)]] (.one (.int .i64)) [.row 19,.int .i64,.row 16] x
def PX (L:Nat):Sum tT:=mU 37 [.row 19,.int .i64,.row 16] (.one (.int .i64)) (Y3 L)
theorem ZeX:SX PX:=fun h=>sT h (Zb (DW h) (Zb (Qv h) Zp)) rfl (by kernel_rfl) fun _=>rfl
def Jf:Zk→Int→Wi→Nat→(Int×PUnit→Option Int)→Int×PUnit→Option Int:=fun x0 x1 x2 L self acc=>bif decide (acc.1 < (↑x2.4.length:Int)) then bT (ZL x2.4 acc.1) fun y=>bT (YW L (Xz.mk x0 x1 x2,y,())) fun y=>bif y != 0 then some y else self (Go.IntKind.i64.wrap (acc.1 + 1),()) else bT (ZL x2.4 (Go.IntKind.i64.wrap ((↑x2.4.length:Int) - 1))) fun y=>bif y.1 != 19 && y.1 != 4 then some 8 else some 0
theorem PQ (L:Nat)(x0:Zk)(x1:Int)(x2:Wi):Y3 L (x0,x1,x2,())=bif decide (x1 < 0) || decide (x1 ≥ (↑x0.2.length:Int)) then some 2 else bT (ZJ L (x2.1,())) fun y=>bif y != 0 then some y else bif decide (x2.2 < 0) || decide (x2.2 > x2.3) || decide (x2.2 > 6) || decide (x2.3 > 16) then some 2 else bif (↑x2.4.length:Int) == 0 then some 7 else bif decide ((↑x2.4.length:Int) > 1000) then some 6 else Zt (Jf x0 x1 x2 L) L (0,()):=by kernel_rfl
def Hr (L:Nat)(x:Zk×PUnit):Option Int:=fT [] L ZbX [.rnd [.slot 15 (.int .i64),.cont 1 (.map (.pint .i64))]] (.one (.int .i64)) [.row 19] x
def Zec (L:Nat):Sum tT:=mU 36 [.row 19] (.one (.int .i64)) (Hr L)
theorem ZlI:SX Zec:=fun h=>sT h Zp rfl (by kernel_rfl) fun _=>rfl
def Uw:Zk→(Int×List (Int×Int)×PUnit→Option Int)→Int×List (Int×Int)×PUnit→Option Int:=fun x0 self acc=>bif decide (acc.1 < (↑x0.3.length:Int)) then bT (ZL x0.3 acc.1) fun y=>bif decide ((if y.2 < y.1 then y.2 else y.1) < 0) || decide ((if y.2 > y.1 then y.2 else y.1) ≥ (↑x0.2.length:Int)) || y.1 == y.2 then some 2 else bif decide (y.3 < 1) || decide (y.3 > 1000000000) then some 2 else bif hasK (MK.pint Go.IntKind.i64) acc.2.1 (y.1,y.2) then some 4 else self (Go.IntKind.i64.wrap (acc.1 + 1),ZaB (MK.pint Go.IntKind.i64) acc.2.1 (y.1,y.2),()) else some 0
theorem Zlb (L:Nat)(x0:Zk):Hr L (x0,())=bif decide ((↑x0.3.length:Int) > 32) then some 6 else Zt (Uw x0) L (0,[],()):=by kernel_rfl
def Hq (L:Nat)(x:Wi×ZU×PUnit):Option Bool:=fT [] L LV [] (.one .bool) [.row 16,.row 10] x
def BK (L:Nat):Sum tT:=mU 56 [.row 16,.row 10] (.one .bool) (Hq L)
theorem ZdG:SX BK:=fun h=>sT h Zp rfl (by kernel_rfl) fun _=>rfl
theorem Zd0 (L:Nat)(x0:Wi)(x1:ZU):Hq L (x0,x1,())=some (x0.1 == x1.1 && x0.2 == (↑x1.2.length:Int) && (↑x1.4.length:Int) == 0):=by kernel_rfl
def ZeJ:List (Inl tT):=[⟨55,Yb,[.rnd [.slot 17 (.int .i64)]],.one (.bool),[]⟩]
def KU (L:Nat)(x:ZN×PUnit):Option Bool:=fI [BK L] L ZeJ En [] (.one .bool) [.row 17] x
def AQ (L:Nat):Sum tT:=mU 35 [.row 17] (.one .bool) (KU L)
theorem Zh5:SX AQ:=fun h=>sI h (Zb (ZdG h) Zp) (Zb ⟨h.T _ _ rfl,by kernel_rfl⟩ Zp) rfl (by kernel_rfl) fun _=>rfl
def Ud:ZN→Nat→(Int×PUnit→Option Bool)→Int×PUnit→Option Bool:=fun x0 L self acc=>bif decide (acc.1 < (↑x0.2.length:Int)) then bT (ZL x0.2 acc.1) fun y=>bT (ZL x0.Decl.11 acc.1) fun y_1=>bT (Hq L (y,y_1,())) fun y=>bif !y then some false else self (Go.IntKind.i64.wrap (acc.1 + 1),()) else some true
theorem Ai (L:Nat)(x0:ZN):KU L (x0,())=bT (bif (↑x0.2.length:Int) != (↑x0.Decl.11.length:Int) then some false else Zt (Ud x0 L) L (0,())) fun y=>some y:=by kernel_rfl
def ZF (L:Nat)(x:Int×Int×Int×PUnit):Option Bool:=fT [] L Py [] (.one .bool) [.int .i64,.int .i64,.int .i64] x
def Q8 (L:Nat):Sum tT:=mU 78 [.int .i64,.int .i64,.int .i64] (.one .bool) (ZF L)
theorem Xt:SX Q8:=fun h=>sT h Zp rfl (by kernel_rfl) fun _=>rfl
theorem ZeQ (L:Nat)(x0:Int)(x1:Int)(x2:Int):ZF L (x0,x1,x2,())=some (decide (x0 ≥ x1) && decide (x0≤x2)):=by kernel_rfl
def ZgI:List (Inl tT):=[⟨143,YF,[.rnd [.slot 8 (.int .i64)]],.one (.int .i64),[]⟩,⟨144,DZ,[],.one (.bool),[]⟩]
def BX (L:Nat)(x:QO×(List UInt8)×PUnit):Option Int:=fI [] L ZgI Zax [] (.one (.int .i64)) [.row 21,.str] x
def Zbd (L:Nat):Sum tT:=mU 104 [.row 21,.str] (.one (.int .i64)) (BX L)
theorem ZjB:SX Zbd:=fun h=>sI h Zp (Zb ⟨h.T _ _ rfl,by kernel_rfl⟩ (Zb ⟨h.T _ _ rfl,by kernel_rfl⟩ Zp)) rfl (by kernel_rfl) fun _=>rfl
def ZeM:List (Inl tT):=[⟨102,JC,[.rnd [.slot 16 (.int .i64),.cont 1 (.map .pstr)]],.one (.int .i64),[(3,[.cont 1 (.map .pstr)])]⟩,⟨103,Ri,[],.one (.int .i64),[(4,[.cont 1 (.map .pstr)])]⟩]
def KY (L:Nat)(x:QO×PUnit):Option Int:=fI [Q8 L,Zbd L] L ZeM E5 [] (.one (.int .i64)) [.row 21] x
def AZ (L:Nat):Sum tT:=mU 54 [.row 21] (.one (.int .i64)) (KY L)
theorem Zh9:SX AZ:=fun h=>sI h (Zb (Xt h) (Zb (ZjB h) Zp)) (Zb ⟨h.T _ _ rfl,by kernel_rfl⟩ (Zb ⟨h.T _ _ rfl,by kernel_rfl⟩ Zp)) rfl (by kernel_rfl) fun _=>rfl
def PO:QO→Nat→(Int×List (List UInt8×List UInt8)×PUnit→Option (Int×List (List UInt8×List UInt8)×PUnit))→Int×List (List UInt8×List UInt8)×PUnit→Option (Int×List (List UInt8×List UInt8)×PUnit):=fun x0 L self acc=>bif decide (acc.1 < (↑x0.4.length:Int)) then bT (ZL x0.4 acc.1) fun y=>bT (bT (BX L (x0,y.1,())) fun y_1=>bT (bif decide (y_1 < 0) == false then bT (BX L (x0,y.2,())) fun y=>some (decide (y < 0)) else some true) fun y_2=>bif y_2 then some (5,acc.2.1,()) else bif y.1 == y.2 then some (1,acc.2.1,()) else bT (ZF L (y.3,1,1000000000,())) fun y_3=>bif !y_3 then some (2,acc.2.1,()) else bif hasK MK.pstr acc.2.1 (y.1,y.2) then some (4,acc.2.1,()) else some (0,ZaB MK.pstr acc.2.1 (y.1,y.2),())) fun y=>bif y.1 != 0 then some (y.1,y.2.1,()) else self (Go.IntKind.i64.wrap (acc.1 + 1),y.2.1,()) else some (0,acc.2.1,())
theorem Zhq (L:Nat)(x0:QO):KY L (x0,())=bT (bif decide ((↑x0.4.length:Int) > 32) then some (6,[],()) else Zt (PO x0 L) L (0,[],())) fun y=>some y.1:=by kernel_rfl
def WI (L:Nat)(x:(List (List UInt8))×(List UInt8)×PUnit):Option Int:=fT [] L QQ [.rnd [.slot 8 (.int .i64)]] (.one (.int .i64)) [.lst 1 .str,.str] x
def QY (L:Nat):Sum tT:=mU 170 [.lst 1 .str,.str] (.one (.int .i64)) (WI L)
theorem U5:SX QY:=fun h=>sT h Zp rfl (by kernel_rfl) fun _=>rfl
def Wp:List (List UInt8)→List UInt8→(Int×PUnit→Option Int)→Int×PUnit→Option Int:=fun x0 x1 self acc=>bif decide (acc.1 < (↑x0.length:Int)) then bT (ZL x0 acc.1) fun y=>bif x1 == y then some acc.1 else self (Go.IntKind.i64.wrap (acc.1 + 1),()) else some (-1)
theorem U0 (L:Nat)(x0:(List (List UInt8)))(x1:(List UInt8)):WI L (x0,x1,())=Zt (Wp x0 x1) L (0,()):=by kernel_rfl
def Yc (L:Nat)(x:(List (List UInt8))×(List UInt8)×PUnit):Option Bool:=fT [QY L] L Qn [] (.one .bool) [.lst 1 .str,.str] x
def YR (L:Nat):Sum tT:=mU 133 [.lst 1 .str,.str] (.one .bool) (Yc L)
theorem Qw:SX YR:=fun h=>sT h (Zb (U5 h) Zp) rfl (by kernel_rfl) fun _=>rfl
theorem Jl (L:Nat)(x0:(List (List UInt8)))(x1:(List UInt8)):Yc L (x0,x1,())=bT (WI L (x0,x1,())) fun y=>some (decide (y ≥ 0)):=by kernel_rfl
def Zbv:List (Inl tT):=[⟨175,YM,[.rnd [.slot 8 (.int .i64)]],.one (.int .i64),[]⟩,⟨176,Ob,[],.one (.bool),[]⟩]
def Qe (L:Nat)(x:Ze×(List UInt8)×PUnit):Option Int:=fI [] L Zbv Rh [] (.one (.int .i64)) [.row 14,.str] x
def Hm (L:Nat):Sum tT:=mU 136 [.row 14,.str] (.one (.int .i64)) (Qe L)
theorem Bl:SX Hm:=fun h=>sI h Zp (Zb ⟨h.T _ _ rfl,by kernel_rfl⟩ (Zb ⟨h.T _ _ rfl,by kernel_rfl⟩ Zp)) rfl (by kernel_rfl) fun _=>rfl
def UL:Ze→List UInt8→(Int×PUnit→Option Int)→Int×PUnit→Option Int:=fun x0 x1 self acc=>bif decide (acc.1 < (↑x0.11.length:Int)) then bT (ZL x0.11 acc.1) fun y=>bif y.1 == x1 then some acc.1 else self (Go.IntKind.i64.wrap (acc.1 + 1),()) else some (-1)
theorem Zd2 (L:Nat)(x0:Ze)(x1:(List UInt8)):Qe L (x0,x1,())=bT (Zt (UL x0 x1) L (0,())) fun y=>some y:=by kernel_rfl
def ZgL:List (Inl tT):=[⟨177,Yz,[],.one (.bool),[]⟩,⟨198,Y9,[.rnd [.slot 8 (.int .i64)]],.one (.int .i64),[]⟩,⟨178,Px,[],.one (.bool),[]⟩]
end Go.Proofs.YtgjcjbhhhlelnaaGreatDoor
end
noncomputable section
namespace Go.Proofs.YtgjcjbhhhlelnaaGreatDoor
open Go Go.Proofs.YtgjcjbhhhlelnaaGreatDoor.Abs Go.Proofs.YtgjcjbhhhlelnaaGreatDoor.Tl
set_option maxRecDepth 100000
set_option maxHeartbeats 0
def Iz (L:Nat)(x:Ze×IY×PUnit):Option Int:=fI [Q8 L,YR L,Hm L] L ZgL Za1 [] (.one (.int .i64)) [.row 14,.row 12] x
def Zbg (L:Nat):Sum tT:=mU 141 [.row 14,.row 12] (.one (.int .i64)) (Iz L)
theorem ZjE:SX Zbg:=fun h=>sI h (Zb (Xt h) (Zb (Qw h) (Zb (Bl h) Zp))) (Zb ⟨h.T _ _ rfl,by kernel_rfl⟩ (Zb ⟨h.T _ _ rfl,by kernel_rfl⟩ (Zb ⟨h.T _ _ rfl,by kernel_rfl⟩ Zp))) rfl (by kernel_rfl) fun _=>rfl
def XQ:Ze→IY→(Int×PUnit→Option Int)→Int×PUnit→Option Int:=fun x0 x1 self acc=>bif decide (acc.1 < (↑x0.4.length:Int)) then bT (ZL x0.4 acc.1) fun y=>bif y.1 == x1.3 then some acc.1 else self (Go.IntKind.i64.wrap (acc.1 + 1),()) else some (-1)
def Ac:Ze→IY→(Int×PUnit→Option Int)→Int×PUnit→Option Int:=fun x0 x1 self acc=>bif decide (acc.1 < (↑x0.4.length:Int)) then bT (ZL x0.4 acc.1) fun y=>bif y.1 == x1.3 then some acc.1 else self (Go.IntKind.i64.wrap (acc.1 + 1),()) else some (-1)
def Ad:Ze→IY→(Int×PUnit→Option Int)→Int×PUnit→Option Int:=fun x0 x1 self acc=>bif decide (acc.1 < (↑x0.4.length:Int)) then bT (ZL x0.4 acc.1) fun y=>bif y.1 == x1.3 then some acc.1 else self (Go.IntKind.i64.wrap (acc.1 + 1),()) else some (-1)
theorem Zjn (L:Nat)(x0:Ze)(x1:IY):Iz L (x0,x1,())=bif x1.2 == [99,114,101,97,116,101,100] then bT (Qe L (x0,x1.3,())) fun y=>bif !decide (y ≥ 0) then some 5 else bT (ZF L (x1.1,(-1000),1000,())) fun y=>bif !y || x1.1 == 0 then some 2 else some 0 else bif x1.2 == [101,110,100,101,100] then bT (Qe L (x0,x1.3,())) fun y=>bif !decide (y ≥ 0) then some 5 else bT (ZF L (x1.1,(-1000),1000,())) fun y=>bif !y || x1.1 == 0 then some 2 else some 0 else bif x1.2 == [105,110,115,105,100,101] then bT (Qe L (x0,x1.3,())) fun y=>bif !decide (y ≥ 0) then some 5 else bT (ZF L (x1.1,(-1000),1000,())) fun y=>bif !y || x1.1 == 0 then some 2 else some 0 else bif x1.2 == [115,116,111,114,101,100] then bT (bT (Zt (XQ x0 x1) L (0,())) fun y=>some (decide (y ≥ 0))) fun y=>bif !y then some 5 else bT (ZF L (x1.1,(-1000),1000,())) fun y=>bif !y || x1.1 == 0 then some 2 else some 0 else bif x1.2 == [101,110,116,101,114,101,100] then bT (bT (Zt (Ac x0 x1) L (0,())) fun y=>some (decide (y ≥ 0))) fun y=>bif !y then some 5 else bT (ZF L (x1.1,(-1000),1000,())) fun y=>bif !y || x1.1 == 0 then some 2 else some 0 else bif x1.2 == [108,101,102,116] then bT (bT (Zt (Ad x0 x1) L (0,())) fun y=>some (decide (y ≥ 0))) fun y=>bif !y then some 5 else bT (ZF L (x1.1,(-1000),1000,())) fun y=>bif !y || x1.1 == 0 then some 2 else some 0 else bif x1.2 == [99,111,117,110,116,101,100] then bT (Yc L (x0.10,x1.3,())) fun y=>bif !y then some 5 else bT (ZF L (x1.1,(-1000),1000,())) fun y=>bif !y || x1.1 == 0 then some 2 else some 0 else some 1:=by kernel_rfl
def ZgJ:List (Inl tT):=[⟨137,Uu,[.rnd [.slot 16 (.int .i64),.cont 1 (.map .str)]],.one (.int .i64),[(3,[.cont 1 (.map .str)])]⟩,⟨138,Pe,[],.one (.int .i64),[(4,[.cont 1 (.map .str)])]⟩,⟨139,JD,[.rnd [.slot 16 (.int .i64),.cont 1 (.map .str)]],.one (.int .i64),[(5,[.cont 1 (.map .str)])]⟩,⟨140,La,[],.one (.int .i64),[]⟩,⟨52,Wv,[],.one (.int .i64),[(5,[.cont 1 (.map .str)])]⟩]
def Iw (L:Nat)(x:Ze×PUnit):Option Int:=fI [ZbT L,Zbg L,WU L] L ZgJ Zaz [] (.one (.int .i64)) [.row 14] x
def Zbe (L:Nat):Sum tT:=mU 101 [.row 14] (.one (.int .i64)) (Iw L)
theorem ZjC:SX Zbe:=fun h=>sI h (Zb (ZhB h) (Zb (ZjE h) (Zb (Qv h) Zp))) (Zb ⟨h.T _ _ rfl,by kernel_rfl⟩ (Zb ⟨h.T _ _ rfl,by kernel_rfl⟩ (Zb ⟨h.T _ _ rfl,by kernel_rfl⟩ (Zb ⟨h.T _ _ rfl,by kernel_rfl⟩ (Zb ⟨h.T _ _ rfl,by kernel_rfl⟩ Zp))))) rfl (by kernel_rfl) fun _=>rfl
def KF:Ze→Nat→Ze8→(Int×List (List UInt8)×PUnit→Option (Int×List (List UInt8)×PUnit))→Int×List (List UInt8)×PUnit→Option (Int×List (List UInt8)×PUnit):=fun x0 L y self acc=>bif decide (acc.1 < (↑y.2.length:Int)) then bT (ZL y.2 acc.1) fun y=>bT (bT (Iz L (x0,y,())) fun y=>some y) fun y=>bif y != 0 then some (y,acc.2.1,()) else self (Go.IntKind.i64.wrap (acc.1 + 1),acc.2.1,()) else some (0,acc.2.1,())
def KG:Ze→Nat→(Int×List (List UInt8)×PUnit→Option (Int×List (List UInt8)×PUnit))→Int×List (List UInt8)×PUnit→Option (Int×List (List UInt8)×PUnit):=fun x0 L self acc=>bif decide (acc.1 < (↑x0.13.length:Int)) then bT (ZL x0.13 acc.1) fun y=>bT (bT (bT (ZJ L (y.1,())) fun y_1=>bif y_1 != 0 then some (y_1,acc.2.1,()) else bif hasK MK.str acc.2.1 y.1 then some (4,acc.2.1,()) else some (0,ZaB MK.str acc.2.1 y.1,())) fun y_1=>bif y_1.1 != 0 then some (y_1.1,y_1.2.1,()) else bif (↑y.2.length:Int) == 0 then some (7,y_1.2.1,()) else bT (bif decide ((↑y.2.length:Int) > 8) then some (6,y_1.2.1,()) else Zt (KF x0 L y) L (0,y_1.2.1,())) fun y_2=>bif y_2.1 != 0 then some (y_2.1,y_2.2.1,()) else bT (D8 L (y.3,())) fun y=>bif !y then some (2,y_2.2.1,()) else some (0,y_2.2.1,())) fun y=>bif y.1 != 0 then some (y.1,y.2.1,()) else self (Go.IntKind.i64.wrap (acc.1 + 1),y.2.1,()) else some (0,acc.2.1,())
theorem Zjl (L:Nat)(x0:Ze):Iw L (x0,())=bT (bif decide ((↑x0.13.length:Int) > 32) then some (6,[],()) else Zt (KG x0 L) L (0,[],())) fun y=>some y.1:=by kernel_rfl
def VV (L:Nat)(x:Int×Int×PUnit):Option Bool:=fT [Q8 L,ZbT L] L Zay [] (.one .bool) [.int .i64,.int .i64] x
def Ir (L:Nat):Sum tT:=mU 131 [.int .i64,.int .i64] (.one .bool) (VV L)
theorem Bo:SX Ir:=fun h=>sT h (Zb (Xt h) (Zb (ZhB h) Zp)) rfl (by kernel_rfl) fun _=>rfl
theorem Zjk (L:Nat)(x0:Int)(x1:Int):VV L (x0,x1,())=bif x0 == 1 then bT (D8 L (x1,())) fun y=>some y else bif x0 == 2 then some (x1 == 0 || x1 == 1) else bif x0 == 3 then bT (ZF L (x1,0,1000000000,())) fun y=>some y else some false:=by kernel_rfl
def KZ (L:Nat)(x:Ze×Xw×PUnit):Option Int:=fT [Q8 L,Ir L,Hm L] L E8 [.rnd [.slot 30 (.int .i64)]] (.one (.int .i64)) [.row 14,.row 11] x
def Fa (L:Nat):Sum tT:=mU 99 [.row 14,.row 11] (.one (.int .i64)) (KZ L)
theorem ZhA:SX Fa:=fun h=>sT h (Zb (Xt h) (Zb (Bo h) (Zb (Bl h) Zp))) rfl (by kernel_rfl) fun _=>rfl
def Uf:Xw→Nat→ZU→(Int×PUnit→Option Int)→Int×PUnit→Option Int:=fun x1 L y self acc=>bif decide (acc.1 < (↑x1.2.length:Int)) then bT (ZL x1.2 acc.1) fun y_1=>bT (ZL y.2 acc.1) fun y=>bT (VV L (y.2,y_1,())) fun y=>bif !y then some 2 else self (Go.IntKind.i64.wrap (acc.1 + 1),()) else bT (ZF L (x1.3,0,1000000000,())) fun y=>bT (bif (!y) == false then bT (ZF L (x1.4,0,1000000000,())) fun y=>some !y else some true) fun y=>bT (bif y == false then bT (ZF L (x1.5,0,1000000000,())) fun y=>some !y else some true) fun y=>bif y || x1.4 == 0 && x1.5 != 0 then some 2 else some 0
theorem Zhr (L:Nat)(x0:Ze)(x1:Xw):KZ L (x0,x1,())=bT (Qe L (x0,x1.1,())) fun y=>bif decide (y < 0) then some 5 else bT (ZL x0.11 y) fun y=>bif (↑x1.2.length:Int) != (↑y.2.length:Int) then some 8 else Zt (Uf x1 L y) L (0,()):=by kernel_rfl
def U9 (L:Nat)(x:Zu×PUnit):Option Int:=fT [VD L] L Zav [] (.one (.int .i64)) [.row 8] x
def Zba (L:Nat):Sum tT:=mU 208 [.row 8] (.one (.int .i64)) (U9 L)
theorem Zj8:SX Zba:=fun h=>sT h (Zb (GX h) Zp) rfl (by kernel_rfl) fun _=>rfl
theorem Zjh (L:Nat)(x0:Zu):U9 L (x0,())=bT (Qc L (QF.mk false,x0,())) fun y=>some y:=by kernel_rfl
def I8 (L:Nat)(x:Z8×Gu×PUnit):Option Int:=fT [Iq L,Zba L,WU L] L ZaA [.rnd [.slot 4 (.int .i64),.slot 26 (.int .i64)],.rnd [.slot 4 (.int .i64),.slot 53 (.int .i64)],.rnd [.slot 74 (.int .i64)]] (.one (.int .i64)) [.row 9,.row 26] x
def BR (L:Nat):Sum tT:=mU 197 [.row 9,.row 26] (.one (.int .i64)) (I8 L)
theorem ZaW:SX BR:=fun h=>sT h (Zb (Bj h) (Zb (Zj8 h) (Zb (Qv h) Zp))) rfl (by kernel_rfl) fun _=>rfl
def KP:Z8→Gu→Nat→(Int×PUnit→Option Int)→Int×PUnit→Option Int:=fun x0 x1 L self acc=>bif decide (acc.1 < (↑x0.6.length:Int)) then bT (ZL x0.6 acc.1) fun y=>bT (U9 L (y,())) fun y=>bif y != 0 then some y else self (Go.IntKind.i64.wrap (acc.1 + 1),()) else bif x1.6 then bT (Q3 L (x0.7,())) fun y=>some y else some 0
def TQ:Z8→Gu→Nat→Int×Int×PUnit→(Int×Int×PUnit→Option Int)→Int×Int×PUnit→Option Int:=fun x0 x1 L acc self acc_1=>bif decide (acc_1.2.1 < (↑[OO.mk x1.3 x0.4,OO.mk x1.4 x0.5].length:Int)) then bT (ZL [OO.mk x1.3 x0.4,OO.mk x1.4 x0.5] acc_1.2.1) fun y=>bif !y.1 then self (acc_1.1,Go.IntKind.i64.wrap (acc_1.2.1 + 1),()) else bT (U9 L (y.2,())) fun y=>bif y != 0 then some y else self (acc_1.1,Go.IntKind.i64.wrap (acc_1.2.1 + 1),()) else bif decide ((↑x0.6.length:Int) > 6) then some 6 else Zt (KP x0 x1 L) L (0,())
def AL:Z8→Gu→Nat→(Int×Int×PUnit→Option Int)→Int×Int×PUnit→Option Int:=fun x0 x1 L self acc=>bif decide (acc.2.1 < (↑[OQ.mk x1.1 x0.2,OQ.mk x1.2 x0.3].length:Int)) then bT (ZL [OQ.mk x1.1 x0.2,OQ.mk x1.2 x0.3] acc.2.1) fun y=>bT (ZJ L (y.2,())) fun y_1=>bif y.1 && y_1 != 0 then some y_1 else self (acc.1,Go.IntKind.i64.wrap (acc.2.1 + 1),()) else Zt (TQ x0 x1 L acc) L (acc.1,0,())
theorem Zjz (L:Nat)(x0:Z8)(x1:Gu):I8 L (x0,x1,())=Zt (AL x0 x1 L) L (0,0,()):=by kernel_rfl
def Jw (L:Nat)(x:Zu×PUnit):Option Bool:=fT [SL L] L EJ [] (.one .bool) [.row 8] x
def Fp (L:Nat):Sum tT:=mU 207 [.row 8] (.one .bool) (Jw L)
theorem ZhH:SX Fp:=fun h=>sT h (Zb (ZdH h) Zp) rfl (by kernel_rfl) fun _=>rfl
theorem Zhy (L:Nat)(x0:Zu):Jw L (x0,())=bT (Me L (x0,Zu.mk 0 [] 0 [],())) fun y=>some y:=by kernel_rfl
def MP (L:Nat)(x:Z8×Gu×PUnit):Option Bool:=fT [TR L,Fp L] L Zc2 [] (.one .bool) [.row 9,.row 26] x
def Ea (L:Nat):Sum tT:=mU 196 [.row 9,.row 26] (.one .bool) (MP L)
theorem ZdQ:SX Ea:=fun h=>sT h (Zb (S9 h) (Zb (ZhH h) Zp)) rfl (by kernel_rfl) fun _=>rfl
theorem Zl8 (L:Nat)(x0:Z8)(x1:Gu):MP L (x0,x1,())=bT (bif ((x1.1 || x0.2 == []) && (x1.2 || x0.3 == [])) == true then bif x1.3 == false then bT (Jw L (x0.4,())) fun y=>some y else some true else some false) fun y=>bT (bif y == true then bif x1.4 == false then bT (Jw L (x0.5,())) fun y=>some y else some true else some false) fun y=>bT (bif (y && (x1.5 || (↑x0.6.length:Int) == 0)) == true then bif x1.6 == false then bT (VF L (x0.7,YX.mk 0 0 0 0 [] [],())) fun y=>some y else some true else some false) fun y=>some (y && (x1.7 || !x0.8) && (x1.8 || (↑x0.9.length:Int) == 0) && (x1.9 || (↑x0.10.length:Int) == 0)):=by kernel_rfl
def MQ (L:Nat)(x:Int×PUnit):Option (Gu×Bool×PUnit):=fT [] L Zc3 [] (.tup [.row 26,.bool]) [.int .i64] x
def Eb (L:Nat):Sum tT:=mU 195 [.int .i64] (.tup [.row 26,.bool]) (MQ L)
theorem ZdR:SX Eb:=fun h=>sT h Zp rfl (by kernel_rfl) fun _=>rfl
theorem Zl9 (L:Nat)(x0:Int):MQ L (x0,())=bif x0 == 1 then some (Gu.mk true false true false false false false false false,true,()) else bif x0 == 7 then some (Gu.mk true false true false false false false false false,true,()) else bif x0 == 8 then some (Gu.mk true false true false false false false false false,true,()) else bif x0 == 12 then some (Gu.mk true false true false false false false false false,true,()) else bif x0 == 15 then some (Gu.mk true false true false false false false false false,true,()) else bif x0 == 16 then some (Gu.mk true false true false false false false false false,true,()) else bif x0 == 17 then some (Gu.mk true false true false false false false false false,true,()) else bif x0 == 2 then some (Gu.mk true true false false false true false false false,true,()) else bif x0 == 3 then some (Gu.mk false false true false false false false true true,true,()) else bif x0 == 4 then some (Gu.mk false false true false false false false true false,true,()) else bif x0 == 5 then some (Gu.mk false false true false false false false false false,true,()) else bif x0 == 6 then some (Gu.mk true false true true false false true false false,true,()) else bif x0 == 9 then some (Gu.mk true true false false false false false false false,true,()) else bif x0 == 10 then some (Gu.mk true false false false false false false false false,true,()) else bif x0 == 11 then some (Gu.mk true false false false false false false false false,true,()) else bif x0 == 13 then some (Gu.mk true true true false true false false false false,true,()) else bif x0 == 14 then some (Gu.mk true false true false true false false false false,true,()) else bif x0 == 18 then some (Gu.mk false false false false false false false false false,true,()) else some (Gu.mk false false false false false false false false false,false,()):=by kernel_rfl
def TL (L:Nat):Nat→List (Sum tT)
 | 0=>[⟨174,[.lst 21 (.row 9)],fun _=>.par _ none ((.one (.int .i64):RD).tv tT)⟩]
 | m + 1=>[⟨174,[.lst 21 (.row 9)],fun x=>.par _ (fnT tF tG (qOf tF (TL L m ++ [BR L,Ea L,Eb L])) 0 L Ry [.rnd [.slot 12 (.int .i64)]] (.one (.int .i64)) (tvL tT [.lst 21 (.row 9)] x) []) ((.one (.int .i64):RD).tv tT)⟩]
theorem Ls {C:Cfg}{L:Nat}(h:St C L):∀ m,∀ s ∈ TL L m,Qm C s
 | 0=>(Zb (Qy _ _ _) Zp)
 | m + 1=>have ih:=Ls h m
  (Zb (Y1 Yv h.L h.G (Ws Yv (Ve ih (Zb (ZaW h) (Zb (ZdQ h) (Zb (ZdR h) Zp))))) [.rnd [.slot 12 (.int .i64)]] (h.T _ _ rfl) (by kernel_rfl) fun _=>rfl) Zp)
def J3 (L m:Nat)(x:(List Z8)×PUnit):Option (Int):=fnT tF tG (qOf tF (TL L m ++ [BR L,Ea L,Eb L])) 0 L Ry [.rnd [.slot 12 (.int .i64)]] (.one (.int .i64)) (tvL tT [.lst 21 (.row 9)] x) []
def Df (L:Nat)(x:(List Z8)×PUnit):Option (Int):=J3 L L x
def Zbo (L:Nat):Sum tT:=⟨174,[.lst 21 (.row 9)],fun x=>.par ((.one (.int .i64):RD).Ty tT) (Df L x) ((.one (.int .i64):RD).tv tT)⟩
theorem ZjO {C:Cfg}{L:Nat}(h:St C L):Qm C (Zbo L):=have ih:=Ls h L
 Y1 Yv h.L h.G (Ws Yv (Ve ih (Zb (ZaW h) (Zb (ZdQ h) (Zb (ZdR h) Zp))))) [.rnd [.slot 12 (.int .i64)]] (h.T _ _ rfl) (by kernel_rfl) fun _=>rfl
def TP:Nat→List Z8→Nat→(Int×PUnit→Option Int)→Int×PUnit→Option Int:=fun (m:Nat)=>fun x0 L self acc=>bif decide (acc.1 < (↑x0.length:Int)) then bT (ZL x0 acc.1) fun y=>bT (MQ L (y.1,())) fun y_1=>bT (bif (!y_1.2.1) == false then bT (MP L (y,y_1.1,())) fun y=>some !y else some true) fun y_2=>bif y_2 then some 1 else bT (I8 L (y,y_1.1,())) fun y_3=>bif y_3 != 0 then some y_3 else bT (J3 L m (y.9,())) fun y_4=>bif y_4 != 0 then some y_4 else bT (J3 L m (y.10,())) fun y=>bif y != 0 then some y else self (Go.IntKind.i64.wrap (acc.1 + 1),()) else some 0
theorem Zjy (L m:Nat)(x0:(List Z8)):J3 L (m + 1) (x0,())=Zt (TP m x0 L) L (0,()):=by kernel_rfl
end Go.Proofs.YtgjcjbhhhlelnaaGreatDoor
end
noncomputable section
namespace Go.Proofs.YtgjcjbhhhlelnaaGreatDoor
open Go Go.Proofs.YtgjcjbhhhlelnaaGreatDoor.Abs Go.Proofs.YtgjcjbhhhlelnaaGreatDoor.Tl
set_option maxRecDepth 100000
set_option maxHeartbeats 0
def TK (L:Nat):Nat→List (Sum tT)
 | 0=>[⟨173,[.lst 21 (.row 9)],fun _=>.par _ none ((.one (.int .i64):RD).tv tT)⟩]
 | m + 1=>[⟨173,[.lst 21 (.row 9)],fun x=>.par _ (fnT tF tG (qOf tF (TK L m ++ [])) 0 L Rx [.rnd [.slot 3 (.int .i64),.slot 8 (.int .i64)]] (.one (.int .i64)) (tvL tT [.lst 21 (.row 9)] x) []) ((.one (.int .i64):RD).tv tT)⟩]
theorem Lr {C:Cfg}{L:Nat}(h:St C L):∀ m,∀ s ∈ TK L m,Qm C s
 | 0=>(Zb (Qy _ _ _) Zp)
 | m + 1=>have ih:=Lr h m
  (Zb (Y1 Yv h.L h.G (Ws Yv (Ve ih Zp)) [.rnd [.slot 3 (.int .i64),.slot 8 (.int .i64)]] (h.T _ _ rfl) (by kernel_rfl) fun _=>rfl) Zp)
def Jz (L m:Nat)(x:(List Z8)×PUnit):Option (Int):=fnT tF tG (qOf tF (TK L m ++ [])) 0 L Rx [.rnd [.slot 3 (.int .i64),.slot 8 (.int .i64)]] (.one (.int .i64)) (tvL tT [.lst 21 (.row 9)] x) []
def Dc (L:Nat)(x:(List Z8)×PUnit):Option (Int):=Jz L L x
def Zbn (L:Nat):Sum tT:=⟨173,[.lst 21 (.row 9)],fun x=>.par ((.one (.int .i64):RD).Ty tT) (Dc L x) ((.one (.int .i64):RD).tv tT)⟩
theorem ZjN {C:Cfg}{L:Nat}(h:St C L):Qm C (Zbn L):=have ih:=Lr h L
 Y1 Yv h.L h.G (Ws Yv (Ve ih Zp)) [.rnd [.slot 3 (.int .i64),.slot 8 (.int .i64)]] (h.T _ _ rfl) (by kernel_rfl) fun _=>rfl
def TN:Nat→List Z8→Nat→(Int×Int×PUnit→Option Int)→Int×Int×PUnit→Option Int:=fun (m:Nat)=>fun x0 L self acc=>bif decide (acc.2.1 < (↑x0.length:Int)) then bT (ZL x0 acc.2.1) fun y=>bT (bT (Jz L m (y.9,())) fun y=>some y) fun y_1=>bT (bT (Jz L m (y.10,())) fun y=>some y) fun y=>self (if Go.IntKind.i64.wrap (1 + y) > if Go.IntKind.i64.wrap (1 + y_1) > acc.1 then Go.IntKind.i64.wrap (1 + y_1) else acc.1 then Go.IntKind.i64.wrap (1 + y) else if Go.IntKind.i64.wrap (1 + y_1) > acc.1 then Go.IntKind.i64.wrap (1 + y_1) else acc.1,Go.IntKind.i64.wrap (acc.2.1 + 1),()) else some acc.1
theorem Zjx (L m:Nat)(x0:(List Z8)):Jz L (m + 1) (x0,())=Zt (TN m x0 L) L (0,0,()):=by kernel_rfl
def TJ (L:Nat):Nat→List (Sum tT)
 | 0=>[⟨172,[.lst 21 (.row 9)],fun _=>.par _ none ((.one (.int .i64):RD).tv tT)⟩]
 | m + 1=>[⟨172,[.lst 21 (.row 9)],fun x=>.par _ (fnT tF tG (qOf tF (TJ L m ++ [])) 0 L Rw [.rnd [.slot 3 (.int .i64),.slot 10 (.int .i64)]] (.one (.int .i64)) (tvL tT [.lst 21 (.row 9)] x) []) ((.one (.int .i64):RD).tv tT)⟩]
theorem Lp {C:Cfg}{L:Nat}(h:St C L):∀ m,∀ s ∈ TJ L m,Qm C s
 | 0=>(Zb (Qy _ _ _) Zp)
 | m + 1=>have ih:=Lp h m
  (Zb (Y1 Yv h.L h.G (Ws Yv (Ve ih Zp)) [.rnd [.slot 3 (.int .i64),.slot 10 (.int .i64)]] (h.T _ _ rfl) (by kernel_rfl) fun _=>rfl) Zp)
def Jy (L m:Nat)(x:(List Z8)×PUnit):Option (Int):=fnT tF tG (qOf tF (TJ L m ++ [])) 0 L Rw [.rnd [.slot 3 (.int .i64),.slot 10 (.int .i64)]] (.one (.int .i64)) (tvL tT [.lst 21 (.row 9)] x) []
def BZ (L:Nat)(x:(List Z8)×PUnit):Option (Int):=Jy L L x
def Zbm (L:Nat):Sum tT:=⟨172,[.lst 21 (.row 9)],fun x=>.par ((.one (.int .i64):RD).Ty tT) (BZ L x) ((.one (.int .i64):RD).tv tT)⟩
theorem ZjM {C:Cfg}{L:Nat}(h:St C L):Qm C (Zbm L):=have ih:=Lp h L
 Y1 Yv h.L h.G (Ws Yv (Ve ih Zp)) [.rnd [.slot 3 (.int .i64),.slot 10 (.int .i64)]] (h.T _ _ rfl) (by kernel_rfl) fun _=>rfl
def TM:Nat→List Z8→Nat→(Int×Int×PUnit→Option Int)→Int×Int×PUnit→Option Int:=fun (m:Nat)=>fun x0 L self acc=>bif decide (acc.2.1 < (↑x0.length:Int)) then bT (ZL x0 acc.2.1) fun y=>bT (bT (Jy L m (y.9,())) fun y=>some y) fun y_1=>bT (bT (Jy L m (y.10,())) fun y=>some y) fun y=>self (Go.IntKind.i64.wrap (acc.1 + Go.IntKind.i64.wrap (y_1 + y)),Go.IntKind.i64.wrap (acc.2.1 + 1),()) else some acc.1
theorem Zjw (L m:Nat)(x0:(List Z8)):Jy L (m + 1) (x0,())=Zt (TM m x0 L) L ((↑x0.length:Int),0,()):=by kernel_rfl
def I7 (L:Nat)(x:(List Z8)×PUnit):Option Int:=fT [Zbo L,Zbn L,Zbm L] L Za9 [] (.one (.int .i64)) [.lst 21 (.row 9)] x
def Zbl (L:Nat):Sum tT:=mU 135 [.lst 21 (.row 9)] (.one (.int .i64)) (I7 L)
theorem ZjL:SX Zbl:=fun h=>sT h (Zb (ZjO h) (Zb (ZjN h) (Zb (ZjM h) Zp))) rfl (by kernel_rfl) fun _=>rfl
theorem Zjv (L:Nat)(x0:(List Z8)):I7 L (x0,())=bT (BZ L (x0,())) fun y=>bif decide (y > 200) then some 6 else bT (Dc L (x0,())) fun y=>bif decide (y > 12) then some 11 else bT (Df L (x0,())) fun y=>some y:=by kernel_rfl
def XV (L:Nat)(x:Int×PUnit):Option Bool:=fT [] L Ez [] (.one .bool) [.int .i64] x
def KQ (L:Nat):Sum tT:=mU 130 [.int .i64] (.one .bool) (XV L)
theorem TA:SX KQ:=fun h=>sT h Zp rfl (by kernel_rfl) fun _=>rfl
theorem Zhp (L:Nat)(x0:Int):XV L (x0,())=some (decide (x0 ≥ 1) && decide (x0≤3)):=by kernel_rfl
def Yf (L:Nat)(x:(List (List WJ))×PUnit):Option (List WJ):=fT [ZuI] L WO [.rnd [.slot 3 (.int .i64),.slot 11 (.int .i64)],.rnd [.slot 6 (.own 2 (.row 7)),.slot 27 (.int .i64)]] (.one (.lst 2 (.row 7))) [.lst 1 (.lst 2 (.row 7))] x
def WR (L:Nat):Sum tT:=mU 134 [.lst 1 (.lst 2 (.row 7))] (.one (.lst 2 (.row 7))) (Yf L)
theorem Vh:SX WR:=fun h=>sT h (Zb (Zzm h) Zp) rfl (by kernel_rfl) fun _=>rfl
def Y4:List (List WJ)→(List WJ×Int×PUnit→Option (List WJ))→List WJ×Int×PUnit→Option (List WJ):=fun x0 self acc=>bif decide (acc.2.1 < (↑x0.length:Int)) then bT (ZL x0 acc.2.1) fun y=>bT (apT 24 acc.1 y) fun y=>self (y,Go.IntKind.i64.wrap (acc.2.1 + 1),()) else some acc.1
def WM:List (List WJ)→Nat→(Int×Int×PUnit→Option (List WJ))→Int×Int×PUnit→Option (List WJ):=fun x0 L self acc=>bif decide (acc.2.1 < (↑x0.length:Int)) then bT (ZL x0 acc.2.1) fun y=>bif decide (Go.IntKind.i64.wrap (acc.1 + (↑y.length:Int)) < 0) then none else self (Go.IntKind.i64.wrap (acc.1 + (↑y.length:Int)),Go.IntKind.i64.wrap (acc.2.1 + 1),()) else bT (Zs8 [] acc.1) fun y=>Zt (Y4 x0) L (y,0,())
theorem Vg (L:Nat)(x0:(List (List WJ))):Yf L (x0,())=Zt (WM x0 L) L (0,0,()):=by kernel_rfl
def Zbw:List (Inl tT):=[⟨52,Wv,[],.one (.int .i64),[(3,[.cont 1 (.map .str)])]⟩]
def Jt (L:Nat)(x:ZU×PUnit):Option Int:=fI [Zbl L,KQ L,WU L,WR L] L Zbw Rj [.rnd [.slot 29 (.int .i64),.cont 1 (.map .str)]] (.one (.int .i64)) [.row 10] x
def BN (L:Nat):Sum tT:=mU 95 [.row 10] (.one (.int .i64)) (Jt L)
theorem ZdJ:SX BN:=fun h=>sI h (Zb (ZjL h) (Zb (TA h) (Zb (Qv h) (Zb (Vh h) Zp)))) (Zb ⟨h.T _ _ rfl,by kernel_rfl⟩ Zp) rfl (by kernel_rfl) fun _=>rfl
def Vy:ZU→Nat→List WJ→(Int×List (List UInt8)×PUnit→Option Int)→Int×List (List UInt8)×PUnit→Option Int:=fun x0 L y self acc=>bif decide (acc.1 < (↑y.length:Int)) then bT (ZL y acc.1) fun y=>bT (bT (ZJ L (y.1,())) fun y_1=>bif y_1 != 0 then some (y_1,acc.2.1,()) else bif hasK MK.str acc.2.1 y.1 then some (4,acc.2.1,()) else some (0,ZaB MK.str acc.2.1 y.1,())) fun y_1=>bif y_1.1 != 0 then some y_1.1 else bT (XV L (y.2,())) fun y=>bif !y then some 1 else self (Go.IntKind.i64.wrap (acc.1 + 1),y_1.2.1,()) else bT (I7 L (x0.4,())) fun y=>some y
theorem Zd3 (L:Nat)(x0:ZU):Jt L (x0,())=bif decide ((↑x0.2.length:Int) > 6) || decide (Go.IntKind.i64.wrap ((↑x0.2.length:Int) + (↑x0.3.length:Int)) > 16) then some 6 else bT (Yf L ([x0.2,x0.3],())) fun y=>Zt (Vy x0 L y) L (0,[],()):=by kernel_rfl
def V3 (L:Nat)(x:Ze×LU×PUnit):Option Int:=fT [Iq L,YR L,TR L] L MZ [] (.one (.int .i64)) [.row 14,.row 3] x
def L6 (L:Nat):Sum tT:=mU 80 [.row 14,.row 3] (.one (.int .i64)) (V3 L)
theorem Zb7:SX L6:=fun h=>sT h (Zb (Bj h) (Zb (Qw h) (Zb (S9 h) Zp))) rfl (by kernel_rfl) fun _=>rfl
theorem Zb3 (L:Nat)(x0:Ze)(x1:LU):V3 L (x0,x1,())=bT (bif (x1.1 == []) == true then bT (VF L (x1.2,YX.mk 0 0 0 0 [] [],())) fun y=>bif (!y) == false then bT (VF L (x1.3,YX.mk 0 0 0 0 [] [],())) fun y=>some !y else some true else some false) fun y=>bif y then some 1 else bif x1.1 == [] then some 0 else bT (Yc L (x0.7,x1.1,())) fun y=>bif !y then some 5 else bT (Q3 L (x1.2,())) fun y=>bif y != 0 then some y else bT (Q3 L (x1.3,())) fun y=>some y:=by kernel_rfl
def V4 (L:Nat)(x:Zv×PUnit):Option Int:=fT [Q8 L] L Lc [.rnd [.slot 25 (.int .i64)]] (.one (.int .i64)) [.row 4] x
def L8 (L:Nat):Sum tT:=mU 79 [.row 4] (.one (.int .i64)) (V4 L)
theorem Zb8:SX L8:=fun h=>sT h (Zb (Xt h) Zp) rfl (by kernel_rfl) fun _=>rfl
def QH:Zv→Nat→(Int×PUnit→Option Int)→Int×PUnit→Option Int:=fun x0 L self acc=>bif decide (acc.1 < (↑x0.3.length:Int)) then bT (ZL x0.3 acc.1) fun y=>bT (ZF L (y.1,0,Go.IntKind.i64.wrap (x0.4 - 1),())) fun y_1=>bif !y_1 then some 2 else bT (ZF L (y.2,0,1000,())) fun y_2=>bif !y_2 then some 2 else bT (bif decide (acc.1 > 0) == true then bT (ZL x0.3 (Go.IntKind.i64.wrap (acc.1 - 1))) fun y_3=>some (decide (y.1≤y_3.1)) else some false) fun y=>bif y then some 12 else self (Go.IntKind.i64.wrap (acc.1 + 1),()) else some 0
theorem Zb4 (L:Nat)(x0:Zv):V4 L (x0,())=bif (↑x0.3.length:Int) == 0 then bif x0.4 != 0 then some 1 else some 0 else bif decide ((↑x0.3.length:Int) > 20) then some 6 else bT (ZF L (x0.4,1,1000000000,())) fun y=>bif !y then some 2 else Zt (QH x0 L) L (0,()):=by kernel_rfl
def ZgK:List (Inl tT):=[⟨73,Ey,[.unr 60],.one (.int .i64),[(5,[.cont 1 (.map .str)])]⟩,⟨100,Ro,[],.one (.int .i64),[]⟩,⟨96,Rn,[],.one (.int .i64),[(5,[.cont 1 (.map .str)])]⟩,⟨97,Ja,[.rnd [.slot 16 (.int .i64),.cont 1 (.map .str)]],.one (.int .i64),[(5,[.cont 1 (.map .str)])]⟩,⟨98,Oe,[],.one (.int .i64),[]⟩,⟨92,Rl,[],.one (.int .i64),[(5,[.cont 1 (.map .str)])]⟩,⟨93,Vl,[.rnd [.slot 16 (.int .i64),.cont 1 (.map .str)]],.one (.int .i64),[(5,[.cont 1 (.map .str)])]⟩,⟨94,Oc,[],.one (.int .i64),[(6,[.cont 1 (.map .str)])]⟩,⟨52,Wv,[],.one (.int .i64),[(7,[.cont 1 (.map .str)]),(5,[.cont 1 (.map .str)])]⟩,⟨91,Rk,[],.one (.int .i64),[(5,[.cont 1 (.map .str)])]⟩,⟨90,Pv,[],.one (.int .i64),[(5,[.cont 1 (.map .str)])]⟩,⟨89,Pq,[],.one (.int .i64),[(5,[.cont 1 (.map .str)])]⟩,⟨88,Po,[],.one (.int .i64),[(5,[.cont 1 (.map .str)])]⟩,⟨87,Pn,[],.one (.int .i64),[(5,[.cont 1 (.map .str)])]⟩,⟨84,Pm,[],.one (.int .i64),[(5,[.cont 1 (.map .str)])]⟩,⟨85,XY,[.rnd [.slot 16 (.int .i64),.cont 1 (.map .str)]],.one (.int .i64),[(5,[.cont 1 (.map .str)])]⟩,⟨86,Lh,[],.one (.int .i64),[(6,[.cont 1 (.map .str)])]⟩,⟨81,Pj,[],.one (.int .i64),[(5,[.cont 1 (.map .str)])]⟩,⟨82,XA,[.rnd [.slot 16 (.int .i64),.cont 1 (.map .str)]],.one (.int .i64),[(5,[.cont 1 (.map .str)])]⟩,⟨83,Le,[],.one (.int .i64),[(6,[.cont 1 (.map .str)])]⟩,⟨75,Pi,[],.one (.int .i64),[(5,[.cont 1 (.map .str)])]⟩,⟨76,QP,[.rnd [.slot 16 (.int .i64),.cont 1 (.map .str)]],.one (.int .i64),[(5,[.cont 1 (.map .str)])]⟩,⟨77,Ld,[],.one (.int .i64),[(6,[.cont 1 (.map .str)])]⟩,⟨74,Ph,[],.one (.int .i64),[(5,[.cont 1 (.map .str)])]⟩,⟨49,Xu,[],.one (.int .i64),[(5,[.cont 1 (.map .str)])]⟩,⟨69,QZ,[.rnd [.slot 16 (.int .i64),.cont 1 (.map .str)]],.one (.int .i64),[(5,[.cont 1 (.map .str)])]⟩,⟨70,X9,[],.one (.int .i64),[(6,[.cont 1 (.map .str)])]⟩,⟨71,Pg,[],.one (.int .i64),[(5,[.cont 1 (.map .str)])]⟩,⟨72,UW,[.rnd [.slot 16 (.int .i64),.cont 1 (.map .str)]],.one (.int .i64),[(5,[.cont 1 (.map .str)])]⟩]
def Iy (L:Nat)(x:Ze×PUnit):Option Int:=fI [Zbe L,Fa L,BN L,WU L,Q8 L,L6 L,L8 L,Ir L,KQ L] L ZgK Za0 [] (.one (.int .i64)) [.row 14] x
def Zbf (L:Nat):Sum tT:=mU 53 [.row 14] (.one (.int .i64)) (Iy L)
theorem ZjD:SX Zbf:=fun h=>sI h (Zb (ZjC h) (Zb (ZhA h) (Zb (ZdJ h) (Zb (Qv h) (Zb (Xt h) (Zb (Zb7 h) (Zb (Zb8 h) (Zb (Bo h) (Zb (TA h) Zp))))))))) (Zb ⟨h.T _ _ rfl,by kernel_rfl⟩ (Zb ⟨h.T _ _ rfl,by kernel_rfl⟩ (Zb ⟨h.T _ _ rfl,by kernel_rfl⟩ (Zb ⟨h.T _ _ rfl,by kernel_rfl⟩ (Zb ⟨h.T _ _ rfl,by kernel_rfl⟩ (Zb ⟨h.T _ _ rfl,by kernel_rfl⟩ (Zb ⟨h.T _ _ rfl,by kernel_rfl⟩ (Zb ⟨h.T _ _ rfl,by kernel_rfl⟩ (Zb ⟨h.T _ _ rfl,by kernel_rfl⟩ (Zb ⟨h.T _ _ rfl,by kernel_rfl⟩ (Zb ⟨h.T _ _ rfl,by kernel_rfl⟩ (Zb ⟨h.T _ _ rfl,by kernel_rfl⟩ (Zb ⟨h.T _ _ rfl,by kernel_rfl⟩ (Zb ⟨h.T _ _ rfl,by kernel_rfl⟩ (Zb ⟨h.T _ _ rfl,by kernel_rfl⟩ (Zb ⟨h.T _ _ rfl,by kernel_rfl⟩ (Zb ⟨h.T _ _ rfl,by kernel_rfl⟩ (Zb ⟨h.T _ _ rfl,by kernel_rfl⟩ (Zb ⟨h.T _ _ rfl,by kernel_rfl⟩ (Zb ⟨h.T _ _ rfl,by kernel_rfl⟩ (Zb ⟨h.T _ _ rfl,by kernel_rfl⟩ (Zb ⟨h.T _ _ rfl,by kernel_rfl⟩ (Zb ⟨h.T _ _ rfl,by kernel_rfl⟩ (Zb ⟨h.T _ _ rfl,by kernel_rfl⟩ (Zb ⟨h.T _ _ rfl,by kernel_rfl⟩ (Zb ⟨h.T _ _ rfl,by kernel_rfl⟩ (Zb ⟨h.T _ _ rfl,by kernel_rfl⟩ (Zb ⟨h.T _ _ rfl,by kernel_rfl⟩ (Zb ⟨h.T _ _ rfl,by kernel_rfl⟩ Zp))))))))))))))))))))))))))))) rfl (by kernel_rfl) fun _=>rfl
def KH:Ze→Nat→(Int×List (List UInt8)×PUnit→Option (Int×List (List UInt8)×PUnit))→Int×List (List UInt8)×PUnit→Option (Int×List (List UInt8)×PUnit):=fun x0 L self acc=>bif decide (acc.1 < (↑x0.2.length:Int)) then bT (ZL x0.2 acc.1) fun y=>bT (bT (bT (ZJ L (y.1,())) fun y_1=>bif y_1 != 0 then some (y_1,acc.2.1,()) else bif hasK MK.str acc.2.1 y.1 then some (4,acc.2.1,()) else some (0,ZaB MK.str acc.2.1 y.1,())) fun y_1=>bif y_1.1 != 0 then some (y_1.1,y_1.2.1,()) else bT (XV L (y.2,())) fun y_2=>bif !y_2 then some (1,y_1.2.1,()) else bT (VV L (y.2,y.3,())) fun y=>bif !y then some (2,y_1.2.1,()) else some (0,y_1.2.1,())) fun y=>bif y.1 != 0 then some (y.1,y.2.1,()) else self (Go.IntKind.i64.wrap (acc.1 + 1),y.2.1,()) else some (0,acc.2.1,())
def KI:Ze→Nat→(Int×List (List UInt8)×PUnit→Option (Int×List (List UInt8)×PUnit))→Int×List (List UInt8)×PUnit→Option (Int×List (List UInt8)×PUnit):=fun x0 L self acc=>bif decide (acc.1 < (↑x0.3.length:Int)) then bT (ZL x0.3 acc.1) fun y=>bT (bT (bT (ZJ L (y.1,())) fun y_1=>bif y_1 != 0 then some (y_1,acc.2.1,()) else bif hasK MK.str acc.2.1 y.1 then some (4,acc.2.1,()) else some (0,ZaB MK.str acc.2.1 y.1,())) fun y_1=>bif y_1.1 != 0 then some (y_1.1,y_1.2.1,()) else bT (ZF L (y.2,0,1000,())) fun y_2=>bif !y_2 then some (2,y_1.2.1,()) else bT (V4 L (y,())) fun y_3=>bif y_3 != 0 then some (y_3,y_1.2.1,()) else bT (V3 L (x0,y.5,())) fun y=>some (y,y_1.2.1,())) fun y=>bif y.1 != 0 then some (y.1,y.2.1,()) else self (Go.IntKind.i64.wrap (acc.1 + 1),y.2.1,()) else some (0,acc.2.1,())
def KJ:Ze→Nat→(Int×List (List UInt8)×PUnit→Option (Int×List (List UInt8)×PUnit))→Int×List (List UInt8)×PUnit→Option (Int×List (List UInt8)×PUnit):=fun x0 L self acc=>bif decide (acc.1 < (↑x0.4.length:Int)) then bT (ZL x0.4 acc.1) fun y=>bT (bT (bT (ZJ L (y.1,())) fun y_1=>bif y_1 != 0 then some (y_1,acc.2.1,()) else bif hasK MK.str acc.2.1 y.1 then some (4,acc.2.1,()) else some (0,ZaB MK.str acc.2.1 y.1,())) fun y_1=>bif y_1.1 != 0 then some (y_1.1,y_1.2.1,()) else bT (ZF L (y.2,1,1000,())) fun y_2=>bif !y_2 then some (2,y_1.2.1,()) else bif decide (y.3 < 1) || decide (y.3 > 3) then some (1,y_1.2.1,()) else some (0,y_1.2.1,())) fun y=>bif y.1 != 0 then some (y.1,y.2.1,()) else self (Go.IntKind.i64.wrap (acc.1 + 1),y.2.1,()) else some (0,acc.2.1,())
def KL:Ze→Nat→(Int×List (List UInt8)×PUnit→Option (Int×List (List UInt8)×PUnit))→Int×List (List UInt8)×PUnit→Option (Int×List (List UInt8)×PUnit):=fun x0 L self acc=>bif decide (acc.1 < (↑x0.5.length:Int)) then bT (ZL x0.5 acc.1) fun y=>bT (bT (bT (ZJ L (y.1,())) fun y_1=>bif y_1 != 0 then some (y_1,acc.2.1,()) else bif hasK MK.str acc.2.1 y.1 then some (4,acc.2.1,()) else some (0,ZaB MK.str acc.2.1 y.1,())) fun y_1=>bif y_1.1 != 0 then some (y_1.1,y_1.2.1,()) else bT (ZF L (y.2,1,1000,())) fun y_2=>bT (bif (!y_2) == false then bT (ZF L (y.3,1,1000,())) fun y=>some !y else some true) fun y=>bif y then some (2,y_1.2.1,()) else some (0,y_1.2.1,())) fun y=>bif y.1 != 0 then some (y.1,y.2.1,()) else self (Go.IntKind.i64.wrap (acc.1 + 1),y.2.1,()) else some (0,acc.2.1,())
def KN:Ze→Nat→(Int×List (List UInt8)×PUnit→Option (Int×List (List UInt8)×PUnit))→Int×List (List UInt8)×PUnit→Option (Int×List (List UInt8)×PUnit):=fun x0 L self acc=>bif decide (acc.1 < (↑x0.6.length:Int)) then bT (ZL x0.6 acc.1) fun y=>bT (bT (ZJ L (y,())) fun y_1=>bif y_1 != 0 then some (y_1,acc.2.1,()) else bif hasK MK.str acc.2.1 y then some (4,acc.2.1,()) else some (0,ZaB MK.str acc.2.1 y,())) fun y=>bif y.1 != 0 then some (y.1,y.2.1,()) else self (Go.IntKind.i64.wrap (acc.1 + 1),y.2.1,()) else some (0,acc.2.1,())
def EX:Ze→Nat→(Int×List (List UInt8)×PUnit→Option (Int×List (List UInt8)×PUnit))→Int×List (List UInt8)×PUnit→Option (Int×List (List UInt8)×PUnit):=fun x0 L self acc=>bif decide (acc.1 < (↑x0.7.length:Int)) then bT (ZL x0.7 acc.1) fun y=>bT (bT (ZJ L (y,())) fun y_1=>bif y_1 != 0 then some (y_1,acc.2.1,()) else bif hasK MK.str acc.2.1 y then some (4,acc.2.1,()) else some (0,ZaB MK.str acc.2.1 y,())) fun y=>bif y.1 != 0 then some (y.1,y.2.1,()) else self (Go.IntKind.i64.wrap (acc.1 + 1),y.2.1,()) else some (0,acc.2.1,())
def EY:Ze→Nat→(Int×List (List UInt8)×PUnit→Option (Int×List (List UInt8)×PUnit))→Int×List (List UInt8)×PUnit→Option (Int×List (List UInt8)×PUnit):=fun x0 L self acc=>bif decide (acc.1 < (↑x0.8.length:Int)) then bT (ZL x0.8 acc.1) fun y=>bT (bT (ZJ L (y,())) fun y_1=>bif y_1 != 0 then some (y_1,acc.2.1,()) else bif hasK MK.str acc.2.1 y then some (4,acc.2.1,()) else some (0,ZaB MK.str acc.2.1 y,())) fun y=>bif y.1 != 0 then some (y.1,y.2.1,()) else self (Go.IntKind.i64.wrap (acc.1 + 1),y.2.1,()) else some (0,acc.2.1,())
def EZ:Ze→Nat→(Int×List (List UInt8)×PUnit→Option (Int×List (List UInt8)×PUnit))→Int×List (List UInt8)×PUnit→Option (Int×List (List UInt8)×PUnit):=fun x0 L self acc=>bif decide (acc.1 < (↑x0.9.length:Int)) then bT (ZL x0.9 acc.1) fun y=>bT (bT (ZJ L (y,())) fun y_1=>bif y_1 != 0 then some (y_1,acc.2.1,()) else bif hasK MK.str acc.2.1 y then some (4,acc.2.1,()) else some (0,ZaB MK.str acc.2.1 y,())) fun y=>bif y.1 != 0 then some (y.1,y.2.1,()) else self (Go.IntKind.i64.wrap (acc.1 + 1),y.2.1,()) else some (0,acc.2.1,())
def Aa:Ze→Nat→(Int×List (List UInt8)×PUnit→Option (Int×List (List UInt8)×PUnit))→Int×List (List UInt8)×PUnit→Option (Int×List (List UInt8)×PUnit):=fun x0 L self acc=>bif decide (acc.1 < (↑x0.10.length:Int)) then bT (ZL x0.10 acc.1) fun y=>bT (bT (ZJ L (y,())) fun y_1=>bif y_1 != 0 then some (y_1,acc.2.1,()) else bif hasK MK.str acc.2.1 y then some (4,acc.2.1,()) else some (0,ZaB MK.str acc.2.1 y,())) fun y=>bif y.1 != 0 then some (y.1,y.2.1,()) else self (Go.IntKind.i64.wrap (acc.1 + 1),y.2.1,()) else some (0,acc.2.1,())
def KO:Ze→Nat→(Int×List (List UInt8)×PUnit→Option (Int×List (List UInt8)×PUnit))→Int×List (List UInt8)×PUnit→Option (Int×List (List UInt8)×PUnit):=fun x0 L self acc=>bif decide (acc.1 < (↑x0.11.length:Int)) then bT (ZL x0.11 acc.1) fun y=>bT (bT (bT (ZJ L (y.1,())) fun y_1=>bif y_1 != 0 then some (y_1,acc.2.1,()) else bif hasK MK.str acc.2.1 y.1 then some (4,acc.2.1,()) else some (0,ZaB MK.str acc.2.1 y.1,())) fun y_1=>bif y_1.1 != 0 then some (y_1.1,y_1.2.1,()) else bT (Jt L (y,())) fun y=>some (y,y_1.2.1,())) fun y=>bif y.1 != 0 then some (y.1,y.2.1,()) else self (Go.IntKind.i64.wrap (acc.1 + 1),y.2.1,()) else some (0,acc.2.1,())
def Xq:Ze→Nat→(Int×List (List UInt8)×PUnit→Option (Int×List (List UInt8)×PUnit))→Int×List (List UInt8)×PUnit→Option (Int×List (List UInt8)×PUnit):=fun x0 L self acc=>bif decide (acc.1 < (↑x0.12.length:Int)) then bT (ZL x0.12 acc.1) fun y=>bT (bT (KZ L (x0,y,())) fun y=>some y) fun y=>bif y != 0 then some (y,acc.2.1,()) else self (Go.IntKind.i64.wrap (acc.1 + 1),acc.2.1,()) else some (0,acc.2.1,())
theorem Zjm (L:Nat)(x0:Ze):Iy L (x0,())=bT (bT (bT (bT (bif decide ((↑x0.2.length:Int) > 32) then some (6,[],()) else Zt (KH x0 L) L (0,[],())) fun y=>some (y.1,y.2.1,())) fun y=>some (y.1,y.2.1,())) fun y=>bif y.1 != 0 then some (y.1,y.2.1,()) else bT (bT (bif decide ((↑x0.3.length:Int) > 32) then some (6,y.2.1,()) else Zt (KI x0 L) L (0,y.2.1,())) fun y=>some (y.1,y.2.1,())) fun y=>bif y.1 != 0 then some (y.1,y.2.1,()) else bT (bT (bif decide ((↑x0.4.length:Int) > 32) then some (6,y.2.1,()) else Zt (KJ x0 L) L (0,y.2.1,())) fun y=>some (y.1,y.2.1,())) fun y=>bif y.1 != 0 then some (y.1,y.2.1,()) else bT (bT (bif decide ((↑x0.5.length:Int) > 32) then some (6,y.2.1,()) else Zt (KL x0 L) L (0,y.2.1,())) fun y=>some (y.1,y.2.1,())) fun y=>bif y.1 != 0 then some (y.1,y.2.1,()) else bT (bT (bT (bif decide ((↑x0.6.length:Int) > 32) then some (6,y.2.1,()) else Zt (KN x0 L) L (0,y.2.1,())) fun y=>some (y.1,y.2.1,())) fun y=>some (y.1,y.2.1,())) fun y=>bif y.1 != 0 then some (y.1,y.2.1,()) else bT (bT (bT (bif decide ((↑x0.7.length:Int) > 32) then some (6,y.2.1,()) else Zt (EX x0 L) L (0,y.2.1,())) fun y=>some (y.1,y.2.1,())) fun y=>some (y.1,y.2.1,())) fun y=>bif y.1 != 0 then some (y.1,y.2.1,()) else bT (bT (bT (bif decide ((↑x0.8.length:Int) > 32) then some (6,y.2.1,()) else Zt (EY x0 L) L (0,y.2.1,())) fun y=>some (y.1,y.2.1,())) fun y=>some (y.1,y.2.1,())) fun y=>bif y.1 != 0 then some (y.1,y.2.1,()) else bT (bT (bT (bif decide ((↑x0.9.length:Int) > 32) then some (6,y.2.1,()) else Zt (EZ x0 L) L (0,y.2.1,())) fun y=>some (y.1,y.2.1,())) fun y=>some (y.1,y.2.1,())) fun y=>bif y.1 != 0 then some (y.1,y.2.1,()) else bT (bT (bT (bif decide ((↑x0.10.length:Int) > 32) then some (6,y.2.1,()) else Zt (Aa x0 L) L (0,y.2.1,())) fun y=>some (y.1,y.2.1,())) fun y=>some (y.1,y.2.1,())) fun y=>bif y.1 != 0 then some (y.1,y.2.1,()) else bT (bT (bif decide ((↑x0.11.length:Int) > 16) then some (6,y.2.1,()) else Zt (KO x0 L) L (0,y.2.1,())) fun y=>some (y.1,y.2.1,())) fun y=>bif y.1 != 0 then some (y.1,y.2.1,()) else bT (bT (bif decide ((↑x0.12.length:Int) > 32) then some (6,y.2.1,()) else Zt (Xq x0 L) L (0,y.2.1,())) fun y=>some (y.1,y.2.1,())) fun y=>bif y.1 != 0 then some (y.1,y.2.1,()) else bT (bT (Iw L (x0,())) fun y=>some y) fun y_1=>bif y_1 != 0 then some (y_1,y.2.1,()) else some (0,y.2.1,())) fun y=>some y.1:=by kernel_rfl
def ZeL:List (Inl tT):=[⟨50,XZ,[.rnd [.slot 16 (.int .i64),.cont 1 (.map .str),.cont 2 (.map .str)]],.one (.int .i64),[(4,[.cont 1 (.map .str),.cont 2 (.map .str)])]⟩,⟨51,Rf,[],.one (.int .i64),[(5,[.cont 2 (.map .str)])]⟩,⟨52,Wv,[],.one (.int .i64),[(4,[.cont 1 (.map .str)]),(6,[.cont 2 (.map .str)])]⟩,⟨49,Xu,[],.one (.int .i64),[(2,[.cont 1 (.map .str)])]⟩,⟨69,QZ,[.rnd [.slot 16 (.int .i64),.cont 1 (.map .str)]],.one (.int .i64),[(2,[.cont 1 (.map .str)])]⟩,⟨70,X9,[],.one (.int .i64),[(3,[.cont 1 (.map .str)])]⟩]
def KX (L:Nat)(x:QO×PUnit):Option Int:=fI [AZ L,Zbf L,WU L,Ir L,KQ L] L ZeL Ew [] (.one (.int .i64)) [.row 21] x
def AY (L:Nat):Sum tT:=mU 34 [.row 21] (.one (.int .i64)) (KX L)
theorem Zh8:SX AY:=fun h=>sI h (Zb (Zh9 h) (Zb (ZjD h) (Zb (Qv h) (Zb (Bo h) (Zb (TA h) Zp))))) (Zb ⟨h.T _ _ rfl,by kernel_rfl⟩ (Zb ⟨h.T _ _ rfl,by kernel_rfl⟩ (Zb ⟨h.T _ _ rfl,by kernel_rfl⟩ (Zb ⟨h.T _ _ rfl,by kernel_rfl⟩ (Zb ⟨h.T _ _ rfl,by kernel_rfl⟩ (Zb ⟨h.T _ _ rfl,by kernel_rfl⟩ Zp)))))) rfl (by kernel_rfl) fun _=>rfl
def IQ:QO→Nat→(Int×List (List UInt8)×PUnit→Option (Int×List (List UInt8)×PUnit))→Int×List (List UInt8)×PUnit→Option (Int×List (List UInt8)×PUnit):=fun x0 L self acc=>bif decide (acc.1 < (↑x0.2.length:Int)) then bT (ZL x0.2 acc.1) fun y=>bT (bT (bT (ZJ L (y.1,())) fun y_1=>bif y_1 != 0 then some (y_1,acc.2.1,()) else bif hasK MK.str acc.2.1 y.1 then some (4,acc.2.1,()) else some (0,ZaB MK.str acc.2.1 y.1,())) fun y_1=>bif y_1.1 != 0 then some (y_1.1,y_1.2.1,()) else bT (XV L (y.2,())) fun y_2=>bif !y_2 then some (1,y_1.2.1,()) else bT (VV L (y.2,y.3,())) fun y=>bif !y then some (2,y_1.2.1,()) else some (0,y_1.2.1,())) fun y=>bif y.1 != 0 then some (y.1,y.2.1,()) else self (Go.IntKind.i64.wrap (acc.1 + 1),y.2.1,()) else some (0,acc.2.1,())
def IR:QO→Nat→(Int×List (List UInt8)×List (List UInt8)×PUnit→Option (Int×List (List UInt8)×List (List UInt8)×PUnit))→Int×List (List UInt8)×List (List UInt8)×PUnit→Option (Int×List (List UInt8)×List (List UInt8)×PUnit):=fun x0 L self acc=>bif decide (acc.1 < (↑x0.3.length:Int)) then bT (ZL x0.3 acc.1) fun y=>bT (bT (bT (ZJ L (y.1,())) fun y_1=>bif y_1 != 0 then some (y_1,acc.2.2.1,()) else bif hasK MK.str acc.2.2.1 y.1 then some (4,acc.2.2.1,()) else some (0,ZaB MK.str acc.2.2.1 y.1,())) fun y_1=>bif y_1.1 != 0 then some (y_1.1,y_1.2.1,()) else bT (Iy L (y,())) fun y=>some (y,y_1.2.1,())) fun y=>bif y.1 != 0 then some (y.1,acc.2.1,y.2.1,()) else self (Go.IntKind.i64.wrap (acc.1 + 1),acc.2.1,y.2.1,()) else some (0,acc.2.1,acc.2.2.1,())
theorem Zho (L:Nat)(x0:QO):KX L (x0,())=bT (ZJ L (x0.1,())) fun y=>bif y != 0 then some y else bT (bT (bif decide ((↑x0.2.length:Int) > 32) then some (6,[],()) else Zt (IQ x0 L) L (0,[],())) fun y=>some (y.1,y.2.1,())) fun y=>bif y.1 != 0 then some y.1 else bif (↑x0.3.length:Int) == 0 then some 7 else bT (bif decide ((↑x0.3.length:Int) > 16) then some (6,y.2.1,[],()) else Zt (IR x0 L) L (0,y.2.1,[],())) fun y=>bif y.1 != 0 then some y.1 else bT (KY L (x0,())) fun y=>some y:=by kernel_rfl
end Go.Proofs.YtgjcjbhhhlelnaaGreatDoor
end
noncomputable section
namespace Go.Proofs.YtgjcjbhhhlelnaaGreatDoor
open Go Go.Proofs.YtgjcjbhhhlelnaaGreatDoor.Abs Go.Proofs.YtgjcjbhhhlelnaaGreatDoor.Tl
set_option maxRecDepth 100000
set_option maxHeartbeats 0
def WH (L:Nat)(x:Zk×PUnit):Option Int:=fT [PX L,Zec L,AQ L,AY L,WU L] L Zar [.rnd [.slot 2 (.int .i64),.slot 34 (.int .i64),.cont 1 (.map .str)],.rnd [.slot 2 (.int .i64),.slot 71 (.int .i64),.cont 1 (.map .str)],.rnd [.slot 2 (.int .i64),.slot 79 (.int .i64),.cont 1 (.map .str)]] (.one (.int .i64)) [.row 19] x
def ZjZ (L:Nat):Sum tT:=mU 25 [.row 19] (.one (.int .i64)) (WH L)
theorem Zj6:SX ZjZ:=fun h=>sT h (Zb (ZeX h) (Zb (ZlI h) (Zb (Zh5 h) (Zb (Zh8 h) (Zb (Qv h) Zp))))) rfl (by kernel_rfl) fun _=>rfl
def Jd:Zk→Nat→(Int×Int×List (List UInt8)×PUnit→Option Int)→Int×Int×List (List UInt8)×PUnit→ZN→(Int×Int×List (List UInt8)×PUnit→Option Int)→Int×Int×List (List UInt8)×PUnit→Option Int:=fun x0 L self acc y self_1 acc_1=>bif decide (acc_1.2.1 < (↑y.2.length:Int)) then bT (ZL y.2 acc_1.2.1) fun y=>bT (Y3 L (x0,acc.2.1,y,())) fun y=>bif y != 0 then some y else self_1 (acc_1.1,Go.IntKind.i64.wrap (acc_1.2.1 + 1),acc_1.2.2.1,()) else self (acc_1.1,Go.IntKind.i64.wrap (acc.2.1 + 1),acc_1.2.2.1,())
def XN:Zk→Nat→(Int×Int×List (List UInt8)×PUnit→Option Int)→Int×Int×List (List UInt8)×PUnit→Option Int:=fun x0 L self acc=>bif decide (acc.2.1 < (↑x0.2.length:Int)) then bT (ZL x0.2 acc.2.1) fun y=>Zt (Jd x0 L self acc y) L (acc.1,0,acc.2.2.1,()) else some 0
def Je:Zk→Nat→(Int×Int×List (List UInt8)×PUnit→Option Int)→Int×Int×List (List UInt8)×PUnit→Option Int:=fun x0 L self acc=>bif decide (acc.2.1 < (↑x0.2.length:Int)) then bT (ZL x0.2 acc.2.1) fun y=>bT (KX L (QO.mk x0.1 [] [y.1] [],())) fun y_1=>bif y_1 != 0 then some y_1 else bif hasK MK.str acc.2.2.1 y.Decl.1 then some 4 else bT (KU L (y,())) fun y_2=>bif !y_2 then some 8 else self (acc.1,Go.IntKind.i64.wrap (acc.2.1 + 1),ZaB MK.str acc.2.2.1 y.Decl.1,()) else bT (Hr L (x0,())) fun y=>bif y != 0 then some y else Zt (XN x0 L) L (acc.1,0,acc.2.2.1,())
theorem ZaJ (L:Nat)(x0:Zk):WH L (x0,())=bT (ZJ L (x0.1,())) fun y=>bif y != 0 then some y else bif (↑x0.2.length:Int) == 0 then some 7 else bif decide ((↑x0.2.length:Int) > 16) then some 6 else Zt (Je x0 L) L (0,0,[],()):=by kernel_rfl
def YS (L:Nat)(x:Int×Int×Int×PUnit):Option Bool:=fT [] L ED [] (.one .bool) [.int .i64,.int .i64,.int .i64] x
def TY (L:Nat):Sum tT:=mU 167 [.int .i64,.int .i64,.int .i64] (.one .bool) (YS L)
theorem A7:SX TY:=fun h=>sT h Zp rfl (by kernel_rfl) fun _=>rfl
theorem Zht (L:Nat)(x0:Int)(x1:Int)(x2:Int):YS L (x0,x1,x2,())=some (decide (x0 ≥ x1) && decide (x0≤x2)):=by kernel_rfl
def MB (L:Nat)(x:YX×PUnit):Option Int:=fT [TY L] L Zcd [.rnd [.slot 3 (.int .i64)]] (.one (.int .i64)) [.row 2] x
def Zef (L:Nat):Sum tT:=mU 168 [.row 2] (.one (.int .i64)) (MB L)
theorem ZlL:SX Zef:=fun h=>sT h (Zb (A7 h) Zp) rfl (by kernel_rfl) fun _=>rfl
def RQ:YX→Nat→(Int×PUnit→Option Int)→Int×PUnit→Option Int:=fun x0 L self acc=>bif decide (acc.1 < (↑x0.5.length:Int)) then bT (ZL x0.5 acc.1) fun y=>bT (YS L (y,0,1000000000,())) fun y=>bT (bif (!y) == false then bT (ZL x0.6 acc.1) fun y=>bT (YS L (y,1,1000,())) fun y=>some !y else some true) fun y=>bif y then some 2 else self (Go.IntKind.i64.wrap (acc.1 + 1),()) else some 0
theorem Zlh (L:Nat)(x0:YX):MB L (x0,())=bif (↑x0.5.length:Int) != (↑x0.6.length:Int) then some 8 else bif (↑x0.5.length:Int) == 0 then some 7 else bif decide ((↑x0.5.length:Int) > 20) then some 6 else Zt (RQ x0 L) L (0,()):=by kernel_rfl
def I4 (L:Nat)(x:YX×PUnit):Option Bool:=fT [] L Za2 [] (.one .bool) [.row 2] x
def Zbh (L:Nat):Sum tT:=mU 166 [.row 2] (.one .bool) (I4 L)
theorem ZjF:SX Zbh:=fun h=>sT h Zp rfl (by kernel_rfl) fun _=>rfl
theorem Zjo (L:Nat)(x0:YX):I4 L (x0,())=bif x0.1 == 1 then some (x0.3 == 0 && x0.4 == 0 && ((↑x0.5.length:Int) == 0 && (↑x0.6.length:Int) == 0)) else bif x0.1 == 2 then some (x0.4 == 0 && ((↑x0.5.length:Int) == 0 && (↑x0.6.length:Int) == 0)) else bif x0.1 == 5 then some (x0.4 == 0 && ((↑x0.5.length:Int) == 0 && (↑x0.6.length:Int) == 0)) else bif x0.1 == 3 then some (x0.2 == 0 && x0.3 == 0 && x0.4 == 0) else bif x0.1 == 4 then some ((↑x0.5.length:Int) == 0 && (↑x0.6.length:Int) == 0) else some false:=by kernel_rfl
def VG (L:Nat)(x:YX×PUnit):Option Int:=fT [Zef L,TY L,Zbh L] L Zcc [] (.one (.int .i64)) [.row 2] x
def TW (L:Nat):Sum tT:=mU 129 [.row 2] (.one (.int .i64)) (VG L)
theorem SA:SX TW:=fun h=>sT h (Zb (ZlL h) (Zb (A7 h) (Zb (ZjF h) Zp))) rfl (by kernel_rfl) fun _=>rfl
theorem Zlg (L:Nat)(x0:YX):VG L (x0,())=bT (I4 L (x0,())) fun y=>bif !y then some 1 else bif x0.1 == 1 then bT (YS L (x0.2,0,1000000000,())) fun y=>bif !y then some 2 else some 0 else bif x0.1 == 2 then bT (YS L (x0.2,0,x0.3,())) fun y=>bif !(y && decide (x0.3≤1000000000)) then some 2 else some 0 else bif x0.1 == 3 then bT (MB L (x0,())) fun y=>some y else bif x0.1 == 4 then bT (YS L (x0.4,1,20,())) fun y=>bT (bif y == true then bT (YS L (x0.2,0,x0.3,())) fun y=>some y else some false) fun y=>bif !(y && decide (x0.3≤1000000)) then some 2 else some 0 else bif x0.1 == 5 then bT (YS L (x0.2,1,1000,())) fun y=>bT (bif y == true then bT (YS L (x0.3,1,1000,())) fun y=>some y else some false) fun y=>bif !y then some 2 else some 0 else some 0:=by kernel_rfl
def SK (L:Nat):Nat→List (Sum tT)
 | 0=>[⟨128,[.row 19,.int .i64,.row 16,.row 8],fun _=>.par _ none ((.one (.bool):RD).tv tT)⟩]
 | m + 1=>[⟨128,[.row 19,.int .i64,.row 16,.row 8],fun x=>.par _ (fnT tF tG (qOf tF (SK L m ++ [])) 0 L FM [.rnd [.slot 10 (.int .i64)]] (.one (.bool)) (tvL tT [.row 19,.int .i64,.row 16,.row 8] x) []) ((.one (.bool):RD).tv tT)⟩]
theorem PV {C:Cfg}{L:Nat}(h:St C L):∀ m,∀ s ∈ SK L m,Qm C s
 | 0=>(Zb (Qy _ _ _) Zp)
 | m + 1=>have ih:=PV h m
  (Zb (Y1 Yv h.L h.G (Ws Yv (Ve ih Zp)) [.rnd [.slot 10 (.int .i64)]] (h.T _ _ rfl) (by kernel_rfl) fun _=>rfl) Zp)
def MV (L m:Nat)(x:Zk×Int×Wi×Zu×PUnit):Option (Bool):=fnT tF tG (qOf tF (SK L m ++ [])) 0 L FM [.rnd [.slot 10 (.int .i64)]] (.one (.bool)) (tvL tT [.row 19,.int .i64,.row 16,.row 8] x) []
def Zap (L:Nat)(x:Zk×Int×Wi×Zu×PUnit):Option (Bool):=MV L L x
def Zgr (L:Nat):Sum tT:=⟨128,[.row 19,.int .i64,.row 16,.row 8],fun x=>.par ((.one (.bool):RD).Ty tT) (Zap L x) ((.one (.bool):RD).tv tT)⟩
theorem ZoQ {C:Cfg}{L:Nat}(h:St C L):Qm C (Zgr L):=have ih:=PV h L
 Y1 Yv h.L h.G (Ws Yv (Ve ih Zp)) [.rnd [.slot 10 (.int .i64)]] (h.T _ _ rfl) (by kernel_rfl) fun _=>rfl
def Tu:Nat→Zk→Int→Wi→Zu→Nat→(Int×PUnit→Option Bool)→Int×PUnit→Option Bool:=fun (m:Nat)=>fun x0 x1 x2 x3 L self acc=>bif decide (acc.1 < (↑x3.4.length:Int)) then bT (ZL x3.4 acc.1) fun y=>bT (bT (MV L m (x0,x1,x2,y,())) fun y=>some y) fun y=>bif !y then some false else self (Go.IntKind.i64.wrap (acc.1 + 1),()) else some true
theorem Zo4 (L m:Nat)(x0:Zk)(x1:Int)(x2:Wi)(x3:Zu):MV L (m + 1) (x0,x1,x2,x3,())=bT (ZL x0.2 x1) fun y=>bif x3.1 == 25 && decide (x3.3 ≥ x2.3) then some false else bif x3.1 == 26 && decide (x3.3 ≥ (↑y.Decl.2.length:Int)) then some false else bif x3.1 == 22 && decide (x3.3 ≥ (↑y.Decl.3.length:Int)) then some false else bif x3.1 == 23 && decide (x3.3 ≥ (↑y.Decl.4.length:Int)) then some false else bif x3.1 == 24 && decide (x3.3 ≥ Go.IntKind.i64.wrap ((↑y.Decl.3.length:Int) + (↑y.Decl.6.length:Int))) then some false else Zt (Tu m x0 x1 x2 x3 L) L (0,()):=by kernel_rfl
def VW (L:Nat)(x:(List (List UInt8))×(List UInt8)×PUnit):Option Int:=fT [] L Zfm [.rnd [.slot 5 (.int .i64)]] (.one (.int .i64)) [.lst 1 .str,.str] x
def Gs (L:Nat):Sum tT:=mU 113 [.lst 1 .str,.str] (.one (.int .i64)) (VW L)
theorem O7:SX Gs:=fun h=>sT h Zp rfl (by kernel_rfl) fun _=>rfl
def Sl:List (List UInt8)→List UInt8→(Int×PUnit→Option Int)→Int×PUnit→Option Int:=fun x0 x1 self acc=>bif decide (acc.1 < (↑x0.length:Int)) then bT (ZL x0 acc.1) fun y=>bif y == x1 then some acc.1 else self (Go.IntKind.i64.wrap (acc.1 + 1),()) else some (-1)
theorem Zot (L:Nat)(x0:(List (List UInt8)))(x1:(List UInt8)):VW L (x0,x1,())=Zt (Sl x0 x1) L (0,()):=by kernel_rfl
def Uk (L:Nat)(x:PUnit):Option ((List (List UInt8))):=fT [] L P6 [] (.one (.lst 1 .str)) [] x
def Na (L:Nat):Sum tT:=mU 114 [] (.one (.lst 1 .str)) (Uk L)
theorem Zfa:SX Na:=fun h=>sT h Zp rfl (by kernel_rfl) fun _=>rfl
theorem ZeT (L:Nat)  : Uk L ()=some [[97,100,100],[97,102,116,101,114],[97,110,100],[97,116],[98,101,108,116],[98,111,111,108],[99,111,110,115,101,114,118,101],[99,111,110,115,116],[99,111,117,110,116],[99,121,99,108,101],[100,111,119,110],[100,114,97,119],[100,117,114],[101,108,115,101],[101,110,100],[101,118,101,114,121],[102,97,108,115,101],[102,97,117,108,116],[102,105,102,111],[102,114,101,101],[102,114,111,109],[103,101,111,109],[103,101,116],[104,111,108,100],[105,102],[105,110,116],[105,110,116,111],[108,101,97,115,116],[108,101,118,101,108],[108,105,102,111],[108,105,110,107],[108,111,99,97,108],[109,97,120],[109,105,110],[109,111,100,101,108],[110,111,116],[110,111,119],[111,98,115,101,114,118,101],[111,114],[112,97,114,97,109],[112,114,101,101,109,112,116],[112,114,105,111],[112,117,116],[113,117,101,117,101],[114,101,108,101,97,115,101],[114,101,115,111,117,114,99,101],[114,105,100,101],[114,111,117,116,105,110,101],[115,101,105,122,101],[115,101,110,100],[115,101,116],[115,104,105,102,116],[115,105,103,110,97,108],[115,105,116,101],[115,105,122,101],[115,112,97,119,110],[115,116,97,114,116],[115,116,111,112],[115,116,111,114,101],[115,116,114,101,97,109],[115,117,109],[116,97,98,108,101],[116,97,108,108,121],[116,105,99,107,115],[116,105,109,101],[116,114,117,101],[117,110,105,102,111,114,109],[117,110,116,105,108],[117,112],[118,97,114],[119,97,105,116],[119,97,105,116,105,110,103],[119,104,105,108,101]]:=by kernel_rfl
def Gf (L:Nat)(x:(List UInt8)×PUnit):Option Bool:=fT [Gs L,Na L] L EE [] (.one .bool) [.str] x
def Fe (L:Nat):Sum tT:=mU 59 [.str] (.one .bool) (Gf L)
theorem ZhC:SX Fe:=fun h=>sT h (Zb (O7 h) (Zb (Zfa h) Zp)) rfl (by kernel_rfl) fun _=>rfl
theorem Zhu (L:Nat)(x0:(List UInt8)):Gf L (x0,())=bT (Uk L ()) fun y=>bT (VW L (y,x0,())) fun y=>some (decide (y ≥ 0)):=by kernel_rfl
def UA (L:Nat)(x:Int×PUnit):Option Bool:=fT [] L Za3 [] (.one .bool) [.int .u8] x
def Zbi (L:Nat):Sum tT:=mU 58 [.int .u8] (.one .bool) (UA L)
theorem ZjG:SX Zbi:=fun h=>sT h Zp rfl (by kernel_rfl) fun _=>rfl
theorem Zjp (L:Nat)(x0:Int):UA L (x0,())=some (decide (x0 ≥ 97) && decide (x0≤122)):=by kernel_rfl
end Go.Proofs.YtgjcjbhhhlelnaaGreatDoor
end
noncomputable section
namespace Go.Proofs.YtgjcjbhhhlelnaaGreatDoor
open Go Go.Proofs.YtgjcjbhhhlelnaaGreatDoor.Abs Go.Proofs.YtgjcjbhhhlelnaaGreatDoor.Tl
set_option maxRecDepth 100000
set_option maxHeartbeats 0
def Qg (L:Nat)(x:(List UInt8)×PUnit):Option Int:=fT [Fe L,Zbi L] L Zce [.rnd [.slot 3 (.int .i64)]] (.one (.int .i64)) [.str] x
def XI (L:Nat):Sum tT:=mU 39 [.str] (.one (.int .i64)) (Qg L)
theorem VC:SX XI:=fun h=>sT h (Zb (ZhC h) (Zb (ZjG h) Zp)) rfl (by kernel_rfl) fun _=>rfl
def Ij:List UInt8→Nat→(Int×PUnit→Option Int)→Int×PUnit→Option Int:=fun x0 L self acc=>bif decide (acc.1 < (↑x0.length:Int)) then bT (ZL x0 acc.1) fun y=>bT (UA L ((↑y.toNat:Int),())) fun y=>bT (bif (!y) == true then bT (ZL x0 acc.1) fun y=>some ((↑y.toNat:Int) != 95) else some false) fun y=>bT (bif y == true then bT (ZL x0 acc.1) fun y=>bif decide ((↑y.toNat:Int) < 48) == false then bT (ZL x0 acc.1) fun y=>some (decide ((↑y.toNat:Int) > 57)) else some true else some false) fun y=>bif y then some 3 else self (Go.IntKind.i64.wrap (acc.1 + 1),()) else some 0
theorem Zli (L:Nat)(x0:(List UInt8)):Qg L (x0,())=bT (bif (decide ((↑x0.length:Int) < 1) || decide ((↑x0.length:Int) > 24)) == false then bT (ZL x0 0) fun y=>bT (UA L ((↑y.toNat:Int),())) fun y=>some !y else some true) fun y=>bT (bif y == false then bT (Gf L (x0,())) fun y=>some y else some true) fun y=>bif y then some 3 else Zt (Ij x0 L) L (0,()):=by kernel_rfl
def DC (L:Nat)(x:Int×PUnit):Option Int:=fT [] L Zfn [] (.one (.int .i64)) [.int .i64] x
def Zak (L:Nat):Sum tT:=mU 206 [.int .i64] (.one (.int .i64)) (DC L)
theorem Zgd:SX Zak:=fun h=>sT h Zp rfl (by kernel_rfl) fun _=>rfl
theorem Zov (L:Nat)(x0:Int):DC L (x0,())=bif x0 == 25 then some 15 else bif x0 == 26 then some 31 else some 63:=by kernel_rfl
def D9 (L:Nat)(x:Int×PUnit):Option Bool:=fT [] L Zmo [] (.one .bool) [.int .i64] x
def Fb (L:Nat):Sum tT:=mU 154 [.int .i64] (.one .bool) (D9 L)
theorem ZbP:SX Fb:=fun h=>sT h Zp rfl (by kernel_rfl) fun _=>rfl
theorem ZtE (L:Nat)(x0:Int):D9 L (x0,())=some (decide (x0 ≥ (-1000000000000)) && decide (x0≤1000000000000)):=by kernel_rfl
def UB (L:Nat)(x:Int×PUnit):Option Bool:=fT [] L Za4 [] (.one .bool) [.int .i64] x
def BQ (L:Nat):Sum tT:=mU 205 [.int .i64] (.one .bool) (UB L)
theorem ZaV:SX BQ:=fun h=>sT h Zp rfl (by kernel_rfl) fun _=>rfl
theorem Zjq (L:Nat)(x0:Int):UB L (x0,())=some (decide (x0 ≥ 22) && decide (x0≤24)):=by kernel_rfl
def MC (L:Nat)(x:Int×PUnit):Option Int:=fT [] L Zcf [] (.one (.int .i64)) [.int .i64] x
def SQ (L:Nat):Sum tT:=mU 204 [.int .i64] (.one (.int .i64)) (MC L)
theorem ZdL:SX SQ:=fun h=>sT h Zp rfl (by kernel_rfl) fun _=>rfl
theorem Zlj (L:Nat)(x0:Int):MC L (x0,())=bif decide (x0 < 1) || decide (x0 > 26) then some (-1) else bif decide (x0 ≥ 5) && decide (x0≤8) then some 1 else bif decide (x0 ≥ 9) && decide (x0≤21) then some 2 else some 0:=by kernel_rfl
def SH (L:Nat):Nat→List (Sum tT)
 | 0=>[⟨194,[.row 8,.bool],fun _=>.par _ none ((.one (.int .i64):RD).tv tT)⟩]
 | m + 1=>[⟨194,[.row 8,.bool],fun x=>.par _ (fnT tF tG (qOf tF (SH L m ++ [XI L,Zak L,Fb L,BQ L,SQ L])) 0 L FI [.rnd [.slot 10 (.int .i64)]] (.one (.int .i64)) (tvL tT [.row 8,.bool] x) []) ((.one (.int .i64):RD).tv tT)⟩]
theorem PT {C:Cfg}{L:Nat}(h:St C L):∀ m,∀ s ∈ SH L m,Qm C s
 | 0=>(Zb (Qy _ _ _) Zp)
 | m + 1=>have ih:=PT h m
  (Zb (Y1 Yv h.L h.G (Ws Yv (Ve ih (Zb (VC h) (Zb (Zgd h) (Zb (ZbP h) (Zb (ZaV h) (Zb (ZdL h) Zp))))))) [.rnd [.slot 10 (.int .i64)]] (h.T _ _ rfl) (by kernel_rfl) fun _=>rfl) Zp)
def MS (L m:Nat)(x:Zu×Bool×PUnit):Option (Int):=fnT tF tG (qOf tF (SH L m ++ [XI L,Zak L,Fb L,BQ L,SQ L])) 0 L FI [.rnd [.slot 10 (.int .i64)]] (.one (.int .i64)) (tvL tT [.row 8,.bool] x) []
def Zam (L:Nat)(x:Zu×Bool×PUnit):Option (Int):=MS L L x
def Zgi (L:Nat):Sum tT:=⟨194,[.row 8,.bool],fun x=>.par ((.one (.int .i64):RD).Ty tT) (Zam L x) ((.one (.int .i64):RD).tv tT)⟩
theorem ZoH {C:Cfg}{L:Nat}(h:St C L):Qm C (Zgi L):=have ih:=PT h L
 Y1 Yv h.L h.G (Ws Yv (Ve ih (Zb (VC h) (Zb (Zgd h) (Zb (ZbP h) (Zb (ZaV h) (Zb (ZdL h) Zp))))))) [.rnd [.slot 10 (.int .i64)]] (h.T _ _ rfl) (by kernel_rfl) fun _=>rfl
def Tn:Nat→Zu→Bool→Nat→(Int×PUnit→Option Int)→Int×PUnit→Option Int:=fun (m:Nat)=>fun x0 x1 L self acc=>bif decide (acc.1 < (↑x0.4.length:Int)) then bT (ZL x0.4 acc.1) fun y=>bT (MS L m (y,x1,())) fun y=>bif y != 0 then some y else self (Go.IntKind.i64.wrap (acc.1 + 1),()) else some 0
theorem Zow (L m:Nat)(x0:Zu)(x1:Bool):MS L (m + 1) (x0,x1,())=bT (MC L (x0.1,())) fun y=>bT (bif (!x1) == true then bif (x0.1 == 3) == false then bT (UB L (x0.1,())) fun y=>some y else some true else some false) fun y_1=>bT (bif x1 == true then bT (UB L (x0.1,())) fun y=>some (y || x0.1 == 25 || x0.1 == 26) else some false) fun y_2=>bif !(decide (y ≥ 0) && (x1 && x0.1 != 3 || !x1 && decide (x0.1≤24))) || !y_1 && !x0.2 == [] || !(x0.1 == 1 || x0.1 == 2 || y_2) && x0.3 != 0 || (↑x0.4.length:Int) != y then some 1 else bT (bif (x0.1 == 1) == true then bT (bT (D9 L (x0.3,())) fun y=>some y) fun y=>some !y else some false) fun y=>bT (bif (y || x0.1 == 2 && x0.3 != 0 && x0.3 != 1) == false then bif y_2 == true then bif decide (x0.3 < 0) == false then bT (bT (DC L (x0.1,())) fun y=>some y) fun y=>some (decide (x0.3 > y)) else some true else some false else some true) fun y=>bif y then some 2 else bT (bif y_1 == true then bT (Qg L (x0.2,())) fun y=>some (y != 0) else some false) fun y=>bif y then bT (Qg L (x0.2,())) fun y=>some y else Zt (Tn m x0 x1 L) L (0,()):=by kernel_rfl
def BB (L:Nat):Nat→List (Sum tT)
 | 0=>[⟨193,[.row 8],fun _=>.par _ none ((.one (.int .i64):RD).tv tT)⟩]
 | m + 1=>[⟨193,[.row 8],fun x=>.par _ (fnT tF tG (qOf tF (BB L m ++ [])) 0 L Nr [.rnd [.slot 3 (.int .i64),.slot 4 (.int .i64)]] (.one (.int .i64)) (tvL tT [.row 8] x) []) ((.one (.int .i64):RD).tv tT)⟩]
theorem BC {C:Cfg}{L:Nat}(h:St C L):∀ m,∀ s ∈ BB L m,Qm C s
 | 0=>(Zb (Qy _ _ _) Zp)
 | m + 1=>have ih:=BC h m
  (Zb (Y1 Yv h.L h.G (Ws Yv (Ve ih Zp)) [.rnd [.slot 3 (.int .i64),.slot 4 (.int .i64)]] (h.T _ _ rfl) (by kernel_rfl) fun _=>rfl) Zp)
def IA (L m:Nat)(x:Zu×PUnit):Option (Int):=fnT tF tG (qOf tF (BB L m ++ [])) 0 L Nr [.rnd [.slot 3 (.int .i64),.slot 4 (.int .i64)]] (.one (.int .i64)) (tvL tT [.row 8] x) []
def Ee (L:Nat)(x:Zu×PUnit):Option (Int):=IA L L x
def Zeh (L:Nat):Sum tT:=⟨193,[.row 8],fun x=>.par ((.one (.int .i64):RD).Ty tT) (Ee L x) ((.one (.int .i64):RD).tv tT)⟩
theorem ZlN {C:Cfg}{L:Nat}(h:St C L):Qm C (Zeh L):=have ih:=BC h L
 Y1 Yv h.L h.G (Ws Yv (Ve ih Zp)) [.rnd [.slot 3 (.int .i64),.slot 4 (.int .i64)]] (h.T _ _ rfl) (by kernel_rfl) fun _=>rfl
def RS:Nat→Zu→Nat→(Int×Int×PUnit→Option Int)→Int×Int×PUnit→Option Int:=fun (m:Nat)=>fun x0 L self acc=>bif decide (acc.2.1 < (↑x0.4.length:Int)) then bT (ZL x0.4 acc.2.1) fun y=>bT (IA L m (y,())) fun y=>self (if y > acc.1 then y else acc.1,Go.IntKind.i64.wrap (acc.2.1 + 1),()) else some (Go.IntKind.i64.wrap (acc.1 + 1))
theorem Zll (L m:Nat)(x0:Zu):IA L (m + 1) (x0,())=Zt (RS m x0 L) L (0,0,()):=by kernel_rfl
def BD (L:Nat):Nat→List (Sum tT)
 | 0=>[⟨192,[.row 8],fun _=>.par _ none ((.one (.int .i64):RD).tv tT)⟩]
 | m + 1=>[⟨192,[.row 8],fun x=>.par _ (fnT tF tG (qOf tF (BD L m ++ [])) 0 L Ns [.rnd [.slot 3 (.int .i64),.slot 4 (.int .i64)]] (.one (.int .i64)) (tvL tT [.row 8] x) []) ((.one (.int .i64):RD).tv tT)⟩]
theorem BF {C:Cfg}{L:Nat}(h:St C L):∀ m,∀ s ∈ BD L m,Qm C s
 | 0=>(Zb (Qy _ _ _) Zp)
 | m + 1=>have ih:=BF h m
  (Zb (Y1 Yv h.L h.G (Ws Yv (Ve ih Zp)) [.rnd [.slot 3 (.int .i64),.slot 4 (.int .i64)]] (h.T _ _ rfl) (by kernel_rfl) fun _=>rfl) Zp)
def IB (L m:Nat)(x:Zu×PUnit):Option (Int):=fnT tF tG (qOf tF (BD L m ++ [])) 0 L Ns [.rnd [.slot 3 (.int .i64),.slot 4 (.int .i64)]] (.one (.int .i64)) (tvL tT [.row 8] x) []
def Ef (L:Nat)(x:Zu×PUnit):Option (Int):=IB L L x
def Zei (L:Nat):Sum tT:=⟨192,[.row 8],fun x=>.par ((.one (.int .i64):RD).Ty tT) (Ef L x) ((.one (.int .i64):RD).tv tT)⟩
theorem ZlO {C:Cfg}{L:Nat}(h:St C L):Qm C (Zei L):=have ih:=BF h L
 Y1 Yv h.L h.G (Ws Yv (Ve ih Zp)) [.rnd [.slot 3 (.int .i64),.slot 4 (.int .i64)]] (h.T _ _ rfl) (by kernel_rfl) fun _=>rfl
def RU:Nat→Zu→Nat→(Int×Int×PUnit→Option Int)→Int×Int×PUnit→Option Int:=fun (m:Nat)=>fun x0 L self acc=>bif decide (acc.2.1 < (↑x0.4.length:Int)) then bT (ZL x0.4 acc.2.1) fun y=>bT (IB L m (y,())) fun y=>self (Go.IntKind.i64.wrap (acc.1 + y),Go.IntKind.i64.wrap (acc.2.1 + 1),()) else some acc.1
theorem Zlm (L m:Nat)(x0:Zu):IB L (m + 1) (x0,())=Zt (RU m x0 L) L (1,0,()):=by kernel_rfl
def Hw (L:Nat)(x:Zu×Bool×PUnit):Option Int:=fT [Zgi L,Zeh L,Zei L] L Zch [] (.one (.int .i64)) [.row 8,.bool] x
def SS (L:Nat):Sum tT:=mU 165 [.row 8,.bool] (.one (.int .i64)) (Hw L)
theorem ZdN:SX SS:=fun h=>sT h (Zb (ZoH h) (Zb (ZlN h) (Zb (ZlO h) Zp))) rfl (by kernel_rfl) fun _=>rfl
theorem Zln (L:Nat)(x0:Zu)(x1:Bool):Hw L (x0,x1,())=bT (Ef L (x0,())) fun y=>bif decide (y > 60) then some 6 else bT (Ee L (x0,())) fun y=>bif decide (y > 12) then some 11 else bT (Zam L (x0,x1,())) fun y=>some y:=by kernel_rfl
def Jv (L:Nat)(x:Zu×PUnit):Option Int:=fT [SS L] L Ru [] (.one (.int .i64)) [.row 8] x
def BP (L:Nat):Sum tT:=mU 127 [.row 8] (.one (.int .i64)) (Jv L)
theorem ZdM:SX BP:=fun h=>sT h (Zb (ZdN h) Zp) rfl (by kernel_rfl) fun _=>rfl
theorem Zd6 (L:Nat)(x0:Zu):Jv L (x0,())=bT (Hw L (x0,true,())) fun y=>some y:=by kernel_rfl
end Go.Proofs.YtgjcjbhhhlelnaaGreatDoor
end
noncomputable section
namespace Go.Proofs.YtgjcjbhhhlelnaaGreatDoor
open Go Go.Proofs.YtgjcjbhhhlelnaaGreatDoor.Abs Go.Proofs.YtgjcjbhhhlelnaaGreatDoor.Tl
set_option maxRecDepth 100000
set_option maxHeartbeats 0
def XJ (L:Nat)(x:PUnit):Option (List V5):=fT [] L Zcu [] (.one (.lst 9 (.row 23))) [] x
def Md (L:Nat):Sum tT:=mU 159 [] (.one (.lst 9 (.row 23))) (XJ L)
theorem SE:SX Md:=fun h=>sT h Zp rfl (by kernel_rfl) fun _=>rfl
theorem Zl1 (L:Nat)  : XJ L ()=some [V5.mk [] [] [] false false false false false false,V5.mk [115,108,111,116] [115,108,111,116] [] false true false false false false,V5.mk [118,97,114] [118,97,114] [] false true false false false false,V5.mk [100,114,97,119] [115,108,111,116] [115,116,114,101,97,109] false false false false false true,V5.mk [106,117,109,112] [105,110,115,116,114] [] false false false false false false,V5.mk [98,114,97,110,99,104] [105,110,115,116,114] [] false true false false false false,V5.mk [104,111,108,100] [] [] false true false false false false,V5.mk [115,101,105,122,101] [114,101,115,111,117,114,99,101] [] false true true true false false,V5.mk [114,101,108,101,97,115,101] [114,101,115,111,117,114,99,101] [] false true false false false false,V5.mk [112,117,116] [115,116,111,114,101] [] false true false false false false,V5.mk [103,101,116] [115,116,111,114,101] [115,108,111,116] false false false false false false,V5.mk [114,105,100,101] [98,101,108,116] [] false false false false false false,V5.mk [119,97,105,116] [113,117,101,117,101] [] false false false false false false,V5.mk [115,105,103,110,97,108] [113,117,101,117,101] [] false true false false false false,V5.mk [115,101,110,100] [115,105,116,101] [114,111,117,116,105,110,101] true true false false true false,V5.mk [115,112,97,119,110] [] [114,111,117,116,105,110,101] false true false false true false,V5.mk [111,98,115,101,114,118,101] [116,97,108,108,121] [] false true false false false false,V5.mk [108,101,118,101,108] [108,101,118,101,108] [] false true false false false false,V5.mk [99,111,117,110,116] [99,111,117,110,116] [] false true false false false false,V5.mk [101,110,100] [] [] false false false false false false]:=by kernel_rfl
def Hz (L:Nat)(x:Int×PUnit):Option Bool:=fT [] L Zcy [] (.one .bool) [.int .i64] x
def SV (L:Nat):Sum tT:=mU 123 [.int .i64] (.one .bool) (Hz L)
theorem ZdO:SX SV:=fun h=>sT h Zp rfl (by kernel_rfl) fun _=>rfl
theorem Zl5 (L:Nat)(x0:Int):Hz L (x0,())=some (decide (x0 ≥ 1) && decide (x0≤19)):=by kernel_rfl
def ML (L:Nat)(x:YH×PUnit):Option (List Zu):=fT [Md L,SV L] L Zct [] (.one (.lst 4 (.row 8))) [.row 15] x
def Zes (L:Nat):Sum tT:=mU 126 [.row 15] (.one (.lst 4 (.row 8))) (ML L)
theorem ZlY:SX Zes:=fun h=>sT h (Zb (SE h) (Zb (ZdO h) Zp)) rfl (by kernel_rfl) fun _=>rfl
theorem Zl0 (L:Nat)(x0:YH):ML L (x0,())=bT (Hz L (x0.1,())) fun y=>bif !y then some [] else bT (bT (XJ L ()) fun y=>some y) fun y=>bT (ZL y x0.1) fun y=>bif y.5 then bT (apT 56 [] [x0.5]) fun y_1=>bif y.6 then bT (apT 56 y_1 [x0.6]) fun y_2=>bif y.8 then bT (apT 56 y_2 x0.7) fun y=>some y else some y_2 else bif y.8 then bT (apT 56 y_1 x0.7) fun y=>some y else some y_1 else bif y.6 then bT (apT 56 [] [x0.6]) fun y_1=>bif y.8 then bT (apT 56 y_1 x0.7) fun y=>some y else some y_1 else bif y.8 then bT (apT 56 [] x0.7) fun y=>some y else some []:=by kernel_rfl
def F8 (L:Nat)(x:Zk×Int×Int×PUnit):Option (Int×Bool×PUnit):=fT [] L Zie [.rnd [.slot 8 (.int .i64)]] (.tup [.int .i64,.bool]) [.row 19,.int .i64,.int .i64] x
def Zkb (L:Nat):Sum tT:=mU 164 [.row 19,.int .i64,.int .i64] (.tup [.int .i64,.bool]) (F8 L)
theorem Zr6:SX Zkb:=fun h=>sT h Zp rfl (by kernel_rfl) fun _=>rfl
def CU:Zk→Int→Int→(Int×PUnit→Option (Int×Bool×PUnit))→Int×PUnit→Option (Int×Bool×PUnit):=fun x0 x1 x2 self acc=>bif decide (acc.1 < (↑x0.3.length:Int)) then bT (ZL x0.3 acc.1) fun y=>bT (bif (y.1 == x1) == true then bT (ZL x0.3 acc.1) fun y=>some (y.2 == x2) else some false) fun y=>bif y then bT (ZL x0.3 acc.1) fun y=>some (y.3,true,()) else self (Go.IntKind.i64.wrap (acc.1 + 1),()) else some (0,false,())
theorem Zro (L:Nat)(x0:Zk)(x1:Int)(x2:Int):F8 L (x0,x1,x2,())=Zt (CU x0 x1 x2) L (0,()):=by kernel_rfl
def Ua (L:Nat)(x:Zk×Int×YH×PUnit):Option Int:=fT [] L Zcv [] (.one (.int .i64)) [.row 19,.int .i64,.row 15] x
def Zet (L:Nat):Sum tT:=mU 163 [.row 19,.int .i64,.row 15] (.one (.int .i64)) (Ua L)
theorem ZlZ:SX Zet:=fun h=>sT h Zp rfl (by kernel_rfl) fun _=>rfl
theorem Zl2 (L:Nat)(x0:Zk)(x1:Int)(x2:YH):Ua L (x0,x1,x2,())=bT (ZL x0.2 x1) fun y=>bif decide (x2.3 < 0) || decide (x2.3 ≥ (↑y.2.length:Int)) then some 2 else bT (ZL y.2 x2.3) fun y=>bif (↑x2.7.length:Int) != y.2 then some 8 else some 0:=by kernel_rfl
def Ei (L:Nat)(x:Zk×Int×Wi×(List UInt8)×PUnit):Option Int:=fT [] L Zcw [] (.one (.int .i64)) [.row 19,.int .i64,.row 16,.str] x
def Zeu (L:Nat):Sum tT:=mU 191 [.row 19,.int .i64,.row 16,.str] (.one (.int .i64)) (Ei L)
theorem Zma:SX Zeu:=fun h=>sT h Zp rfl (by kernel_rfl) fun _=>rfl
theorem Zl3 (L:Nat)(x0:Zk)(x1:Int)(x2:Wi)(x3:(List UInt8)):Ei L (x0,x1,x2,x3,())=bT (ZL x0.2 x1) fun y=>bif x3 == [115,108,111,116] then some x2.3 else bif x3 == [105,110,115,116,114] then some (↑x2.4.length:Int) else bif x3 == [115,105,116,101] then some (↑x0.2.length:Int) else bif x3 == [118,97,114] then some (↑y.Decl.2.length:Int) else bif x3 == [114,101,115,111,117,114,99,101] then some (↑y.Decl.3.length:Int) else bif x3 == [115,116,111,114,101] then some (↑y.Decl.4.length:Int) else bif x3 == [98,101,108,116] then some (↑y.Decl.5.length:Int) else bif x3 == [113,117,101,117,101] then some (↑y.Decl.6.length:Int) else bif x3 == [115,116,114,101,97,109] then some (↑y.Decl.7.length:Int) else bif x3 == [116,97,108,108,121] then some (↑y.Decl.8.length:Int) else bif x3 == [108,101,118,101,108] then some (↑y.Decl.9.length:Int) else some (↑y.Decl.10.length:Int):=by kernel_rfl
def UC (L:Nat)(x:Zk×Int×Wi×(List UInt8)×Int×PUnit):Option Bool:=fT [Zeu L] L Za8 [] (.one .bool) [.row 19,.int .i64,.row 16,.str,.int .i64] x
def Zbk (L:Nat):Sum tT:=mU 162 [.row 19,.int .i64,.row 16,.str,.int .i64] (.one .bool) (UC L)
theorem ZjJ:SX Zbk:=fun h=>sT h (Zb (Zma h) Zp) rfl (by kernel_rfl) fun _=>rfl
theorem Zju (L:Nat)(x0:Zk)(x1:Int)(x2:Wi)(x3:(List UInt8))(x4:Int):UC L (x0,x1,x2,x3,x4,())=bT (bif (x3 == []) == false then bif decide (x4 ≥ 0) == true then bT (Ei L (x0,x1,x2,x3,())) fun y=>some (decide (x4 < y)) else some false else some true) fun y=>some y:=by kernel_rfl
def MM (L:Nat)(x:Zk×Int×Wi×YH×PUnit):Option Int:=fT [Zkb L,Zet L,Zbk L,Md L] L EI [] (.one (.int .i64)) [.row 19,.int .i64,.row 16,.row 15] x
def Fj (L:Nat):Sum tT:=mU 125 [.row 19,.int .i64,.row 16,.row 15] (.one (.int .i64)) (MM L)
theorem ZhG:SX Fj:=fun h=>sT h (Zb (Zr6 h) (Zb (ZlZ h) (Zb (ZjJ h) (Zb (SE h) Zp)))) rfl (by kernel_rfl) fun _=>rfl
theorem Zhx (L:Nat)(x0:Zk)(x1:Int)(x2:Wi)(x3:YH):MM L (x0,x1,x2,x3,())=bT (bT (XJ L ()) fun y=>some y) fun y=>bT (ZL y x3.1) fun y=>bT (UC L (x0,x1,x2,y.2,x3.2,())) fun y_1=>bif !y_1 then some 2 else bif x3.1 == 15 then bT (Ua L (x0,x1,x3,())) fun y=>some y else bif x3.1 == 14 then bT (F8 L (x0,x1,x3.2,())) fun y=>bif !y.2.1 || y.1 != x3.4 then some 16 else bT (Ua L (x0,x3.2,x3,())) fun y=>some y else bT (UC L (x0,x1,x2,y.3,x3.3,())) fun y=>bif !y then some 2 else some 0:=by kernel_rfl
def Vx (L:Nat)(x:(List Int)×(List Int)×PUnit):Option Bool:=fT [] L P5 [.rnd [.slot 5 (.int .i64)]] (.one .bool) [.lst 1 (.int .i64),.lst 1 (.int .i64)] x
def PZ (L:Nat):Sum tT:=mU 190 [.lst 1 (.int .i64),.lst 1 (.int .i64)] (.one .bool) (Vx L)
theorem ZeZ:SX PZ:=fun h=>sT h Zp rfl (by kernel_rfl) fun _=>rfl
def GK:List Int→List Int→(Int×PUnit→Option Bool)→Int×PUnit→Option Bool:=fun x0 x1 self acc=>bif decide (acc.1 < (↑x0.length:Int)) then bT (ZL x0 acc.1) fun y=>bT (ZL x1 acc.1) fun y_1=>bif y != y_1 then some false else self (Go.IntKind.i64.wrap (acc.1 + 1),()) else some true
theorem ZeS (L:Nat)(x0:(List Int))(x1:(List Int)):Vx L (x0,x1,())=bif (↑x0.length:Int) != (↑x1.length:Int) then some false else Zt (GK x0 x1) L (0,()):=by kernel_rfl
def JY (L:Nat)(x:YX×YX×PUnit):Option Bool:=fT [PZ L] L Zfl [] (.one .bool) [.row 2,.row 2] x
def Dz (L:Nat):Sum tT:=mU 161 [.row 2,.row 2] (.one .bool) (JY L)
theorem CZ:SX Dz:=fun h=>sT h (Zb (ZeZ h) Zp) rfl (by kernel_rfl) fun _=>rfl
theorem Zos (L:Nat)(x0:YX)(x1:YX):JY L (x0,x1,())=bT (bif (x0.1 == x1.1 && x0.2 == x1.2 && x0.3 == x1.3 && x0.4 == x1.4) == true then bT (Vx L (x0.5,x1.5,())) fun y=>some y else some false) fun y=>bT (bif y == true then bT (Vx L (x0.6,x1.6,())) fun y=>some y else some false) fun y=>some y:=by kernel_rfl
end Go.Proofs.YtgjcjbhhhlelnaaGreatDoor
end
noncomputable section
namespace Go.Proofs.YtgjcjbhhhlelnaaGreatDoor
open Go Go.Proofs.YtgjcjbhhhlelnaaGreatDoor.Abs Go.Proofs.YtgjcjbhhhlelnaaGreatDoor.Tl
set_option maxRecDepth 100000
set_option maxHeartbeats 0
def YQ (L:Nat):Nat→List (Sum tT)
 | 0=>[⟨189,[.lst 4 (.row 8),.lst 4 (.row 8)],fun _=>.par _ none ((.one (.bool):RD).tv tT)⟩,⟨160,[.row 8,.row 8],fun _=>.par _ none ((.one (.bool):RD).tv tT)⟩]
 | m + 1=>[⟨189,[.lst 4 (.row 8),.lst 4 (.row 8)],fun x=>.par _ (fnT tF tG (qOf tF (YQ L m ++ [])) 0 L OT [.rnd [.slot 5 (.int .i64)]] (.one (.bool)) (tvL tT [.lst 4 (.row 8),.lst 4 (.row 8)] x) []) ((.one (.bool):RD).tv tT)⟩,⟨160,[.row 8,.row 8],fun x=>.par _ (fnT tF tG (qOf tF (YQ L m ++ [])) 0 L FH [] (.one (.bool)) (tvL tT [.row 8,.row 8] x) []) ((.one (.bool):RD).tv tT)⟩]
theorem Vd {C:Cfg}{L:Nat}(h:St C L):∀ m,∀ s ∈ YQ L m,Qm C s
 | 0=>(Zb (Qy _ _ _) (Zb (Qy _ _ _) Zp))
 | m + 1=>have ih:=Vd h m
  (Zb (Y1 Yv h.L h.G (Ws Yv (Ve ih Zp)) [.rnd [.slot 5 (.int .i64)]] (h.T _ _ rfl) (by kernel_rfl) fun _=>rfl) (Zb (Y1 Yv h.L h.G (Ws Yv (Ve ih Zp)) [] (h.T _ _ rfl) (by kernel_rfl) fun _=>rfl) Zp))
def IW (L m:Nat)(x:(List Zu)×(List Zu)×PUnit):Option (Bool):=fnT tF tG (qOf tF (YQ L m ++ [])) 0 L OT [.rnd [.slot 5 (.int .i64)]] (.one (.bool)) (tvL tT [.lst 4 (.row 8),.lst 4 (.row 8)] x) []
def MR (L m:Nat)(x:Zu×Zu×PUnit):Option (Bool):=fnT tF tG (qOf tF (YQ L m ++ [])) 0 L FH [] (.one (.bool)) (tvL tT [.row 8,.row 8] x) []
def OB (L:Nat)(x:Zu×Zu×PUnit):Option (Bool):=MR L L x
def Zgh (L:Nat):Sum tT:=⟨160,[.row 8,.row 8],fun x=>.par ((.one (.bool):RD).Ty tT) (OB L x) ((.one (.bool):RD).tv tT)⟩
theorem ZoG {C:Cfg}{L:Nat}(h:St C L):Qm C (Zgh L):=have ih:=Vd h L
 Y1 Yv h.L h.G (Ws Yv (Ve ih Zp)) [] (h.T _ _ rfl) (by kernel_rfl) fun _=>rfl
def Uh:Nat→List Zu→List Zu→Nat→(Int×PUnit→Option Bool)→Int×PUnit→Option Bool:=fun (m:Nat)=>fun x0 x1 L self acc=>bif decide (acc.1 < (↑x0.length:Int)) then bT (ZL x0 acc.1) fun y=>bT (ZL x1 acc.1) fun y_1=>bT (bT (MR L m (y,y_1,())) fun y=>some y) fun y=>bif !y then some false else self (Go.IntKind.i64.wrap (acc.1 + 1),()) else some true
theorem Ak (L m:Nat)(x0:(List Zu))(x1:(List Zu)):IW L (m + 1) (x0,x1,())=bif (↑x0.length:Int) != (↑x1.length:Int) then some false else Zt (Uh m x0 x1 L) L (0,()):=by kernel_rfl
theorem Zou (L m:Nat)(x0:Zu)(x1:Zu):MR L (m + 1) (x0,x1,())=bif x0.1 != x1.1 || !x0.2 == x1.2 || x0.3 != x1.3 then some false else bT (IW L m (x0.4,x1.4,())) fun y=>some y:=by kernel_rfl
def MN (L:Nat)(x:YH×PUnit):Option Bool:=fT [Dz L,Zgh L,Md L] L Zcz [] (.one .bool) [.row 15] x
def Zew (L:Nat):Sum tT:=mU 124 [.row 15] (.one .bool) (MN L)
theorem Zmc:SX Zew:=fun h=>sT h (Zb (CZ h) (Zb (ZoG h) (Zb (SE h) Zp))) rfl (by kernel_rfl) fun _=>rfl
theorem Zl6 (L:Nat)(x0:YH):MN L (x0,())=bT (bT (XJ L ()) fun y=>some y) fun y=>bT (ZL y x0.1) fun y=>bif y.2 == [] && x0.2 != 0 then some false else bif y.3 == [] && x0.3 != 0 then some false else bif !y.4 && x0.4 != 0 then some false else bif !y.7 && x0.9 then some false else bT (bif (!y.5) == true then bT (OB L (x0.5,Zu.mk 0 [] 0 [],())) fun y=>some !y else some false) fun y_1=>bif y_1 then some false else bT (bif (!y.6) == true then bT (OB L (x0.6,Zu.mk 0 [] 0 [],())) fun y=>some !y else some false) fun y_2=>bif y_2 then some false else bif !y.8 && decide ((↑x0.7.length:Int) > 0) then some false else bT (bif y.9 == false then bT (JY L (x0.8,YX.mk 0 0 0 0 [] [],())) fun y=>some y else some true) fun y=>some y:=by kernel_rfl
def XK (L:Nat)(x:Zk×Int×Wi×YH×PUnit):Option Int:=fT [TW L,Zgr L,BP L,Zes L,Fj L,Zew L,SV L] L Zcx [.rnd [.slot 11 (.int .i64)]] (.one (.int .i64)) [.row 19,.int .i64,.row 16,.row 15] x
def Zev (L:Nat):Sum tT:=mU 66 [.row 19,.int .i64,.row 16,.row 15] (.one (.int .i64)) (XK L)
theorem Zmb:SX Zev:=fun h=>sT h (Zb (SA h) (Zb (ZoQ h) (Zb (ZdM h) (Zb (ZlY h) (Zb (ZhG h) (Zb (Zmc h) (Zb (ZdO h) Zp))))))) rfl (by kernel_rfl) fun _=>rfl
def Il:Zk→Int→Wi→YH→Nat→List Zu→(Int×PUnit→Option Int)→Int×PUnit→Option Int:=fun x0 x1 x2 x3 L y self acc=>bif decide (acc.1 < (↑y.length:Int)) then bT (ZL y acc.1) fun y_1=>bT (Jv L (y_1,())) fun y_2=>bT (bif (y_2 == 0) == true then bT (ZL y acc.1) fun y=>bT (bT (Zap L (x0,x1,x2,y,())) fun y=>some y) fun y=>some !y else some false) fun y=>bif y then some 2 else bif y_2 != 0 then some y_2 else self (Go.IntKind.i64.wrap (acc.1 + 1),()) else bif x3.1 == 3 then bT (VG L (x3.8,())) fun y=>some y else some 0
theorem Zl4 (L:Nat)(x0:Zk)(x1:Int)(x2:Wi)(x3:YH):XK L (x0,x1,x2,x3,())=bT (Hz L (x3.1,())) fun y=>bT (bif (!y) == false then bT (MN L (x3,())) fun y=>some !y else some true) fun y=>bif y then some 1 else bT (MM L (x0,x1,x2,x3,())) fun y=>bif y != 0 then some y else bT (ML L (x3,())) fun y=>Zt (Il x0 x1 x2 x3 L y) L (0,()):=by kernel_rfl
def YU (L:Nat)(x:Zk×Int×Wi×PUnit):Option Int:=fT [Zev L,XI L] L EH [.rnd [.slot 8 (.int .i64)]] (.one (.int .i64)) [.row 19,.int .i64,.row 16] x
def Fh (L:Nat):Sum tT:=mU 43 [.row 19,.int .i64,.row 16] (.one (.int .i64)) (YU L)
theorem ZhF:SX Fh:=fun h=>sT h (Zb (Zmb h) (Zb (VC h) Zp)) rfl (by kernel_rfl) fun _=>rfl
def Uj:Zk→Int→Wi→Nat→(Int×PUnit→Option Int)→Int×PUnit→Option Int:=fun x0 x1 x2 L self acc=>bif decide (acc.1 < (↑x2.4.length:Int)) then bT (ZL x2.4 acc.1) fun y=>bT (bT (XK L (x0,x1,x2,y,())) fun y=>some y) fun y=>bif y != 0 then some y else self (Go.IntKind.i64.wrap (acc.1 + 1),()) else bT (ZL x2.4 (Go.IntKind.i64.wrap ((↑x2.4.length:Int) - 1))) fun y=>bif y.1 != 19 && y.1 != 4 then some 8 else some 0
theorem Am (L:Nat)(x0:Zk)(x1:Int)(x2:Wi):YU L (x0,x1,x2,())=bif decide (x1 < 0) || decide (x1 ≥ (↑x0.2.length:Int)) then some 2 else bT (Qg L (x2.1,())) fun y=>bif y != 0 then some y else bif decide (x2.2 < 0) || decide (x2.2 > x2.3) || decide (x2.2 > 6) || decide (x2.3 > 16) then some 2 else bif (↑x2.4.length:Int) == 0 then some 7 else bif decide ((↑x2.4.length:Int) > 1000) then some 6 else Zt (Uj x0 x1 x2 L) L (0,()):=by kernel_rfl
def OE (L:Nat)(x:Zk×PUnit):Option Int:=fT [] L Zfu [.rnd [.slot 2 (.int .i64),.slot 4 (.int .i64)],.rnd [.slot 2 (.int .i64),.slot 6 (.int .i64)]] (.one (.int .i64)) [.row 19] x
def Zgp (L:Nat):Sum tT:=mU 42 [.row 19] (.one (.int .i64)) (OE L)
theorem ZoO:SX Zgp:=fun h=>sT h Zp rfl (by kernel_rfl) fun _=>rfl
def GN:Zk→(Int×Int×PUnit→Option Int)→Int×Int×PUnit→UF→(Int×Int×PUnit→Option Int)→Int×Int×PUnit→Option Int:=fun x0 self acc y self_1 acc_1=>bif decide (acc_1.2.1 < acc.2.1) then bT (ZL x0.3 acc_1.2.1) fun y_1=>bT (bif (y_1.1 == y.1) == true then bT (ZL x0.3 acc_1.2.1) fun y_2=>some (y_2.2 == y.2) else some false) fun y=>bif y then some 4 else self_1 (acc_1.1,Go.IntKind.i64.wrap (acc_1.2.1 + 1),()) else self (acc_1.1,Go.IntKind.i64.wrap (acc.2.1 + 1),())
def GU:Zk→Nat→(Int×Int×PUnit→Option Int)→Int×Int×PUnit→Option Int:=fun x0 L self acc=>bif decide (acc.2.1 < (↑x0.3.length:Int)) then bT (ZL x0.3 acc.2.1) fun y=>bif decide (y.1 < 0) || decide (y.1 ≥ (↑x0.2.length:Int)) || decide (y.2 < 0) || decide (y.2 ≥ (↑x0.2.length:Int)) || y.1 == y.2 || decide (y.3 < 1) || decide (y.3 > 1000000000) then some 2 else Zt (GN x0 self acc y) L (acc.1,0,()) else some 0
theorem Zo3 (L:Nat)(x0:Zk):OE L (x0,())=bif decide ((↑x0.3.length:Int) > 32) then some 6 else Zt (GU x0 L) L (0,0,()):=by kernel_rfl
def OG (L:Nat)(x:ZN×PUnit):Option Bool:=fT [] L Zfv [.rnd [.slot 3 (.int .i64)]] (.one .bool) [.row 17] x
def Zgq (L:Nat):Sum tT:=mU 41 [.row 17] (.one .bool) (OG L)
theorem ZoP:SX Zgq:=fun h=>sT h Zp rfl (by kernel_rfl) fun _=>rfl
def Tt:ZN→(Int×PUnit→Option Bool)→Int×PUnit→Option Bool:=fun x0 self acc=>bif decide (acc.1 < (↑x0.2.length:Int)) then bT (ZL x0.Decl.11 acc.1) fun y=>bT (bif decide ((↑y.4.length:Int) > 0) == false then bT (ZL x0.2 acc.1) fun y_1=>some !y.1 == y_1.1 else some true) fun y_1=>bT (bif y_1 == false then bT (ZL x0.2 acc.1) fun y_2=>some ((↑y.2.length:Int) != y_2.2) else some true) fun y=>bif y then some false else self (Go.IntKind.i64.wrap (acc.1 + 1),()) else some true
theorem ZfT (L:Nat)(x0:ZN):OG L (x0,())=bif (↑x0.2.length:Int) != (↑x0.Decl.11.length:Int) then some false else Zt (Tt x0) L (0,()):=by kernel_rfl
def ZO (L:Nat)(x:Int×Int×Int×PUnit):Option Bool:=fT [] L Za7 [] (.one .bool) [.int .i64,.int .i64,.int .i64] x
def QX (L:Nat):Sum tT:=mU 122 [.int .i64,.int .i64,.int .i64] (.one .bool) (ZO L)
theorem XE:SX QX:=fun h=>sT h Zp rfl (by kernel_rfl) fun _=>rfl
theorem Zjt (L:Nat)(x0:Int)(x1:Int)(x2:Int):ZO L (x0,x1,x2,())=some (decide (x0 ≥ x1) && decide (x0≤x2)):=by kernel_rfl
def Zao (L:Nat)(x:QO×(List UInt8)×PUnit):Option Int:=fT [] L Zfr [.rnd [.slot 5 (.int .i64)]] (.one (.int .i64)) [.row 21,.str] x
def Zgm (L:Nat):Sum tT:=mU 121 [.row 21,.str] (.one (.int .i64)) (Zao L)
theorem ZoL:SX Zgm:=fun h=>sT h Zp rfl (by kernel_rfl) fun _=>rfl
def MI (L:Nat)(x:QO×PUnit):Option Int:=fT [QX L,Zgm L] L Zco [.rnd [.slot 2 (.int .i64),.slot 3 (.int .i64)],.rnd [.slot 2 (.int .i64),.slot 5 (.int .i64)]] (.one (.int .i64)) [.row 21] x
def Zep (L:Nat):Sum tT:=mU 65 [.row 21] (.one (.int .i64)) (MI L)
theorem ZlU:SX Zep:=fun h=>sT h (Zb (XE h) (Zb (ZoL h) Zp)) rfl (by kernel_rfl) fun _=>rfl
def Zj0:QO→(Int×Int×PUnit→Option Int)→Int×Int×PUnit→ZhZ→(Int×Int×PUnit→Option Int)→Int×Int×PUnit→Option Int:=fun x0 self acc y self_1 acc_1=>bif decide (acc_1.2.1 < acc.2.1) then bT (ZL x0.4 acc_1.2.1) fun y_1=>bT (bif (y_1.1 == y.1) == true then bT (ZL x0.4 acc_1.2.1) fun y_2=>some (y_2.2 == y.2) else some false) fun y=>bif y then some 4 else self_1 (acc_1.1,Go.IntKind.i64.wrap (acc_1.2.1 + 1),()) else self (acc_1.1,Go.IntKind.i64.wrap (acc.2.1 + 1),())
def ZaR:QO→Nat→(Int×Int×PUnit→Option Int)→Int×Int×PUnit→Option Int:=fun x0 L self acc=>bif decide (acc.2.1 < (↑x0.4.length:Int)) then bT (ZL x0.4 acc.2.1) fun y=>bT (Zao L (x0,y.1,())) fun y_1=>bT (bif decide (y_1 < 0) == false then bT (Zao L (x0,y.2,())) fun y=>some (decide (y < 0)) else some true) fun y_2=>bif y_2 then some 5 else bif y.1 == y.2 then some 1 else bT (ZO L (y.3,1,1000000000,())) fun y_3=>bif !y_3 then some 2 else Zt (Zj0 x0 self acc y) L (acc.1,0,()) else some 0
theorem Zlw (L:Nat)(x0:QO):MI L (x0,())=bif decide ((↑x0.4.length:Int) > 32) then some 6 else Zt (ZaR x0 L) L (0,0,()):=by kernel_rfl
def Z9 (L:Nat)(x:Int×Int×PUnit):Option Int:=fT [] L Zcn [] (.one (.int .i64)) [.int .i64,.int .i64] x
def Q9 (L:Nat):Sum tT:=mU 60 [.int .i64,.int .i64] (.one (.int .i64)) (Z9 L)
theorem Xd:SX Q9:=fun h=>sT h Zp rfl (by kernel_rfl) fun _=>rfl
theorem Zlv (L:Nat)(x0:Int)(x1:Int):Z9 L (x0,x1,())=bif x0 != 0 then some x0 else some x1:=by kernel_rfl
end Go.Proofs.YtgjcjbhhhlelnaaGreatDoor
end
noncomputable section
namespace Go.Proofs.YtgjcjbhhhlelnaaGreatDoor
open Go Go.Proofs.YtgjcjbhhhlelnaaGreatDoor.Abs Go.Proofs.YtgjcjbhhhlelnaaGreatDoor.Tl
set_option maxRecDepth 100000
set_option maxHeartbeats 0
def JZ (L:Nat)(x:Ze×PUnit):Option ((List (List (List UInt8)))):=fT [] L Zcl [.rnd [.slot 4 (.int .i64),.cell 1 0 (.own 1 .str),.cell 1 1 (.own 1 .str),.cell 1 2 (.own 1 .str),.cell 1 3 (.own 1 .str),.cell 1 4 (.lst 1 .str),.cell 1 5 (.lst 1 .str),.cell 1 6 (.lst 1 .str),.cell 1 7 (.lst 1 .str),.cell 1 8 (.lst 1 .str),.cell 1 9 (.own 1 .str)],.rnd [.slot 5 (.int .i64),.cell 1 0 (.own 1 .str),.cell 1 1 (.own 1 .str),.cell 1 2 (.own 1 .str),.cell 1 3 (.own 1 .str),.cell 1 4 (.lst 1 .str),.cell 1 5 (.lst 1 .str),.cell 1 6 (.lst 1 .str),.cell 1 7 (.lst 1 .str),.cell 1 8 (.lst 1 .str),.cell 1 9 (.own 1 .str)],.rnd [.slot 6 (.int .i64),.cell 1 0 (.own 1 .str),.cell 1 1 (.own 1 .str),.cell 1 2 (.own 1 .str),.cell 1 3 (.own 1 .str),.cell 1 4 (.lst 1 .str),.cell 1 5 (.lst 1 .str),.cell 1 6 (.lst 1 .str),.cell 1 7 (.lst 1 .str),.cell 1 8 (.lst 1 .str),.cell 1 9 (.own 1 .str)],.rnd [.slot 7 (.int .i64),.cell 1 0 (.own 1 .str),.cell 1 1 (.own 1 .str),.cell 1 2 (.own 1 .str),.cell 1 3 (.own 1 .str),.cell 1 4 (.lst 1 .str),.cell 1 5 (.lst 1 .str),.cell 1 6 (.lst 1 .str),.cell 1 7 (.lst 1 .str),.cell 1 8 (.lst 1 .str),.cell 1 9 (.own 1 .str)],.rnd [.slot 8 (.int .i64),.cell 1 0 (.own 1 .str),.cell 1 1 (.own 1 .str),.cell 1 2 (.own 1 .str),.cell 1 3 (.own 1 .str),.cell 1 4 (.lst 1 .str),.cell 1 5 (.lst 1 .str),.cell 1 6 (.lst 1 .str),.cell 1 7 (.lst 1 .str),.cell 1 8 (.lst 1 .str),.cell 1 9 (.own 1 .str)]] (.one (.lst 1 (.lst 1 .str))) [.row 14] x
def TZ (L:Nat):Sum tT:=mU 117 [.row 14] (.one (.lst 1 (.lst 1 .str))) (JZ L)
theorem SB:SX TZ:=fun h=>sT h Zp rfl (by kernel_rfl) fun _=>rfl
def Ba:Ze→(Int×List (List UInt8)×List (List UInt8)×List (List UInt8)×List (List UInt8)×List (List UInt8)×List (List UInt8)×List (List UInt8)×List (List UInt8)×List (List UInt8)×List (List UInt8)×PUnit→Option (List (List (List UInt8))))→Int×List (List UInt8)×List (List UInt8)×List (List UInt8)×List (List UInt8)×List (List UInt8)×List (List UInt8)×List (List UInt8)×List (List UInt8)×List (List UInt8)×List (List UInt8)×PUnit→Option (List (List (List UInt8))):=fun (x0:Ze) (self:Int×List (List UInt8)×List (List UInt8)×List (List UInt8)×List (List UInt8)×List (List UInt8)×List (List UInt8)×List (List UInt8)×List (List UInt8)×List (List UInt8)×List (List UInt8)×PUnit→Option (List (List (List UInt8)))) (acc:Int×List (List UInt8)×List (List UInt8)×List (List UInt8)×List (List UInt8)×List (List UInt8)×List (List UInt8)×List (List UInt8)×List (List UInt8)×List (List UInt8)×List (List UInt8)×PUnit)=>bif decide (acc.1 < (↑x0.11.length:Int)) then bT (ZL x0.11 acc.1) fun y=>bT (apT 16 acc.2.2.2.2.2.2.2.2.2.2.1 [y.1]) fun y=>self (Go.IntKind.i64.wrap (acc.1 + 1),acc.2.1,acc.2.2.1,acc.2.2.2.1,acc.2.2.2.2.1,acc.2.2.2.2.2.1,acc.2.2.2.2.2.2.1,acc.2.2.2.2.2.2.2.1,acc.2.2.2.2.2.2.2.2.1,acc.2.2.2.2.2.2.2.2.2.1,y,()) else some [acc.2.1,acc.2.2.1,acc.2.2.2.1,acc.2.2.2.2.1,acc.2.2.2.2.2.1,acc.2.2.2.2.2.2.1,acc.2.2.2.2.2.2.2.1,acc.2.2.2.2.2.2.2.2.1,acc.2.2.2.2.2.2.2.2.2.1,acc.2.2.2.2.2.2.2.2.2.2.1]
def Bc:Ze→Nat→(Int×List (List UInt8)×List (List UInt8)×List (List UInt8)×List (List UInt8)×List (List UInt8)×List (List UInt8)×List (List UInt8)×List (List UInt8)×List (List UInt8)×List (List UInt8)×PUnit→Option (List (List (List UInt8))))→Int×List (List UInt8)×List (List UInt8)×List (List UInt8)×List (List UInt8)×List (List UInt8)×List (List UInt8)×List (List UInt8)×List (List UInt8)×List (List UInt8)×List (List UInt8)×PUnit→Option (List (List (List UInt8))):=fun (x0:Ze) (L:Nat) (self:Int×List (List UInt8)×List (List UInt8)×List (List UInt8)×List (List UInt8)×List (List UInt8)×List (List UInt8)×List (List UInt8)×List (List UInt8)×List (List UInt8)×List (List UInt8)×PUnit→Option (List (List (List UInt8)))) (acc:Int×List (List UInt8)×List (List UInt8)×List (List UInt8)×List (List UInt8)×List (List UInt8)×List (List UInt8)×List (List UInt8)×List (List UInt8)×List (List UInt8)×List (List UInt8)×PUnit)=>bif decide (acc.1 < (↑x0.5.length:Int)) then bT (ZL x0.5 acc.1) fun y=>bT (apT 16 acc.2.2.2.2.1 [y.1]) fun y=>self (Go.IntKind.i64.wrap (acc.1 + 1),acc.2.1,acc.2.2.1,acc.2.2.2.1,y,acc.2.2.2.2.2.1,acc.2.2.2.2.2.2.1,acc.2.2.2.2.2.2.2.1,acc.2.2.2.2.2.2.2.2.1,acc.2.2.2.2.2.2.2.2.2.1,acc.2.2.2.2.2.2.2.2.2.2.1,()) else Zt (Ba x0) L (0,acc.2.1,acc.2.2.1,acc.2.2.2.1,acc.2.2.2.2.1,x0.6,x0.7,x0.8,x0.9,x0.10,acc.2.2.2.2.2.2.2.2.2.2.1,())
def Bd:Ze→Nat→(Int×List (List UInt8)×List (List UInt8)×List (List UInt8)×List (List UInt8)×List (List UInt8)×List (List UInt8)×List (List UInt8)×List (List UInt8)×List (List UInt8)×List (List UInt8)×PUnit→Option (List (List (List UInt8))))→Int×List (List UInt8)×List (List UInt8)×List (List UInt8)×List (List UInt8)×List (List UInt8)×List (List UInt8)×List (List UInt8)×List (List UInt8)×List (List UInt8)×List (List UInt8)×PUnit→Option (List (List (List UInt8))):=fun (x0:Ze) (L:Nat) (self:Int×List (List UInt8)×List (List UInt8)×List (List UInt8)×List (List UInt8)×List (List UInt8)×List (List UInt8)×List (List UInt8)×List (List UInt8)×List (List UInt8)×List (List UInt8)×PUnit→Option (List (List (List UInt8)))) (acc:Int×List (List UInt8)×List (List UInt8)×List (List UInt8)×List (List UInt8)×List (List UInt8)×List (List UInt8)×List (List UInt8)×List (List UInt8)×List (List UInt8)×List (List UInt8)×PUnit)=>bif decide (acc.1 < (↑x0.4.length:Int)) then bT (ZL x0.4 acc.1) fun y=>bT (apT 16 acc.2.2.2.1 [y.1]) fun y=>self (Go.IntKind.i64.wrap (acc.1 + 1),acc.2.1,acc.2.2.1,y,acc.2.2.2.2.1,acc.2.2.2.2.2.1,acc.2.2.2.2.2.2.1,acc.2.2.2.2.2.2.2.1,acc.2.2.2.2.2.2.2.2.1,acc.2.2.2.2.2.2.2.2.2.1,acc.2.2.2.2.2.2.2.2.2.2.1,()) else Zt (Bc x0 L) L (0,acc.2.1,acc.2.2.1,acc.2.2.2.1,acc.2.2.2.2.1,acc.2.2.2.2.2.1,acc.2.2.2.2.2.2.1,acc.2.2.2.2.2.2.2.1,acc.2.2.2.2.2.2.2.2.1,acc.2.2.2.2.2.2.2.2.2.1,acc.2.2.2.2.2.2.2.2.2.2.1,())
def Be:Ze→Nat→(Int×List (List UInt8)×List (List UInt8)×List (List UInt8)×List (List UInt8)×List (List UInt8)×List (List UInt8)×List (List UInt8)×List (List UInt8)×List (List UInt8)×List (List UInt8)×PUnit→Option (List (List (List UInt8))))→Int×List (List UInt8)×List (List UInt8)×List (List UInt8)×List (List UInt8)×List (List UInt8)×List (List UInt8)×List (List UInt8)×List (List UInt8)×List (List UInt8)×List (List UInt8)×PUnit→Option (List (List (List UInt8))):=fun (x0:Ze) (L:Nat) (self:Int×List (List UInt8)×List (List UInt8)×List (List UInt8)×List (List UInt8)×List (List UInt8)×List (List UInt8)×List (List UInt8)×List (List UInt8)×List (List UInt8)×List (List UInt8)×PUnit→Option (List (List (List UInt8)))) (acc:Int×List (List UInt8)×List (List UInt8)×List (List UInt8)×List (List UInt8)×List (List UInt8)×List (List UInt8)×List (List UInt8)×List (List UInt8)×List (List UInt8)×List (List UInt8)×PUnit)=>bif decide (acc.1 < (↑x0.3.length:Int)) then bT (ZL x0.3 acc.1) fun y=>bT (apT 16 acc.2.2.1 [y.1]) fun y=>self (Go.IntKind.i64.wrap (acc.1 + 1),acc.2.1,y,acc.2.2.2.1,acc.2.2.2.2.1,acc.2.2.2.2.2.1,acc.2.2.2.2.2.2.1,acc.2.2.2.2.2.2.2.1,acc.2.2.2.2.2.2.2.2.1,acc.2.2.2.2.2.2.2.2.2.1,acc.2.2.2.2.2.2.2.2.2.2.1,()) else Zt (Bd x0 L) L (0,acc.2.1,acc.2.2.1,acc.2.2.2.1,acc.2.2.2.2.1,acc.2.2.2.2.2.1,acc.2.2.2.2.2.2.1,acc.2.2.2.2.2.2.2.1,acc.2.2.2.2.2.2.2.2.1,acc.2.2.2.2.2.2.2.2.2.1,acc.2.2.2.2.2.2.2.2.2.2.1,())
def Bf:Ze→Nat→(Int×List (List UInt8)×List (List UInt8)×List (List UInt8)×List (List UInt8)×List (List UInt8)×List (List UInt8)×List (List UInt8)×List (List UInt8)×List (List UInt8)×List (List UInt8)×PUnit→Option (List (List (List UInt8))))→Int×List (List UInt8)×List (List UInt8)×List (List UInt8)×List (List UInt8)×List (List UInt8)×List (List UInt8)×List (List UInt8)×List (List UInt8)×List (List UInt8)×List (List UInt8)×PUnit→Option (List (List (List UInt8))):=fun (x0:Ze) (L:Nat) (self:Int×List (List UInt8)×List (List UInt8)×List (List UInt8)×List (List UInt8)×List (List UInt8)×List (List UInt8)×List (List UInt8)×List (List UInt8)×List (List UInt8)×List (List UInt8)×PUnit→Option (List (List (List UInt8)))) (acc:Int×List (List UInt8)×List (List UInt8)×List (List UInt8)×List (List UInt8)×List (List UInt8)×List (List UInt8)×List (List UInt8)×List (List UInt8)×List (List UInt8)×List (List UInt8)×PUnit)=>bif decide (acc.1 < (↑x0.2.length:Int)) then bT (ZL x0.2 acc.1) fun y=>bT (apT 16 acc.2.1 [y.1]) fun y=>self (Go.IntKind.i64.wrap (acc.1 + 1),y,acc.2.2.1,acc.2.2.2.1,acc.2.2.2.2.1,acc.2.2.2.2.2.1,acc.2.2.2.2.2.2.1,acc.2.2.2.2.2.2.2.1,acc.2.2.2.2.2.2.2.2.1,acc.2.2.2.2.2.2.2.2.2.1,acc.2.2.2.2.2.2.2.2.2.2.1,()) else Zt (Be x0 L) L (0,acc.2.1,acc.2.2.1,acc.2.2.2.1,acc.2.2.2.2.1,acc.2.2.2.2.2.1,acc.2.2.2.2.2.2.1,acc.2.2.2.2.2.2.2.1,acc.2.2.2.2.2.2.2.2.1,acc.2.2.2.2.2.2.2.2.2.1,acc.2.2.2.2.2.2.2.2.2.2.1,())
theorem Zlt (L:Nat)(x0:Ze):JZ L (x0,())=Zt (Bf x0 L) L (0,[],[],[],[],[],[],[],[],[],[],()):=by kernel_rfl
def QM (L:Nat)(x:Ze×(List UInt8)×PUnit):Option (List UInt8):=fT [Gs L,TZ L] L Zfq [.rnd [.slot 7 (.int .i64)]] (.one .str) [.row 14,.str] x
def Zgl (L:Nat):Sum tT:=mU 188 [.row 14,.str] (.one .str) (QM L)
theorem ZoK:SX Zgl:=fun h=>sT h (Zb (O7 h) (Zb (SB h) Zp)) rfl (by kernel_rfl) fun _=>rfl
def Tq:List UInt8→Nat→List (List (List UInt8))→(Int×PUnit→Option (List UInt8))→Int×PUnit→Option (List UInt8):=fun x1 L y self acc=>bif decide (acc.1 < (↑y.length:Int)) then bT (ZL y acc.1) fun y=>bT (VW L (y,x1,())) fun y=>bif decide (y ≥ 0) then bT (ZL [[118,97,114],[114,101,115,111,117,114,99,101],[115,116,111,114,101],[98,101,108,116],[113,117,101,117,101],[115,116,114,101,97,109],[116,97,108,108,121],[108,101,118,101,108],[99,111,117,110,116],[114,111,117,116,105,110,101]] acc.1) fun y=>some y else self (Go.IntKind.i64.wrap (acc.1 + 1),()) else some []
theorem Zo0 (L:Nat)(x0:Ze)(x1:(List UInt8)):QM L (x0,x1,())=bT (JZ L (x0,())) fun (y:List (List (List UInt8)))=>Zt (Tq x1 L y) L (0,()):=by kernel_rfl
def Zo (L:Nat)(x:Bool×Int×PUnit):Option Int:=fT [] L Za6 [] (.one (.int .i64)) [.bool,.int .i64] x
def WG (L:Nat):Sum tT:=mU 61 [.bool,.int .i64] (.one (.int .i64)) (Zo L)
theorem WX:SX WG:=fun h=>sT h Zp rfl (by kernel_rfl) fun _=>rfl
theorem Zjs (L:Nat)(x0:Bool)(x1:Int):Zo L (x0,x1,())=bif x0 then some 0 else some x1:=by kernel_rfl
def DF (L:Nat)(x:Ze×IY×PUnit):Option Int:=fT [QX L,Q9 L,Zgl L,WG L] L Zft [] (.one (.int .i64)) [.row 14,.row 12] x
def Zgo (L:Nat):Sum tT:=mU 158 [.row 14,.row 12] (.one (.int .i64)) (DF L)
theorem ZoN:SX Zgo:=fun h=>sT h (Zb (XE h) (Zb (Xd h) (Zb (ZoK h) (Zb (WX h) Zp)))) rfl (by kernel_rfl) fun _=>rfl
theorem Zo2 (L:Nat)(x0:Ze)(x1:IY):DF L (x0,x1,())=bif x1.2 == [99,114,101,97,116,101,100] then bT (bT (Zo L (!([114,111,117,116,105,110,101]:List UInt8) == [],1,())) fun y=>some y) fun y=>bT (bT (QM L (x0,x1.3,())) fun y=>some y) fun y_1=>bT (bT (Zo L (y_1 == [114,111,117,116,105,110,101],5,())) fun y=>some y) fun y_2=>bT (bT (Z9 L (y,y_2,())) fun y=>some y) fun y=>bT (ZO L (x1.1,(-1000),1000,())) fun y_3=>bT (Zo L (y_3 && x1.1 != 0,2,())) fun y_4=>bT (Z9 L (y,y_4,())) fun y=>some y else bif x1.2 == [101,110,100,101,100] then bT (bT (Zo L (!([114,111,117,116,105,110,101]:List UInt8) == [],1,())) fun y=>some y) fun y=>bT (bT (QM L (x0,x1.3,())) fun y=>some y) fun y_1=>bT (bT (Zo L (y_1 == [114,111,117,116,105,110,101],5,())) fun y=>some y) fun y_2=>bT (bT (Z9 L (y,y_2,())) fun y=>some y) fun y=>bT (ZO L (x1.1,(-1000),1000,())) fun y_3=>bT (Zo L (y_3 && x1.1 != 0,2,())) fun y_4=>bT (Z9 L (y,y_4,())) fun y=>some y else bif x1.2 == [105,110,115,105,100,101] then bT (bT (Zo L (!([114,111,117,116,105,110,101]:List UInt8) == [],1,())) fun y=>some y) fun y=>bT (bT (QM L (x0,x1.3,())) fun y=>some y) fun y_1=>bT (bT (Zo L (y_1 == [114,111,117,116,105,110,101],5,())) fun y=>some y) fun y_2=>bT (bT (Z9 L (y,y_2,())) fun y=>some y) fun y=>bT (ZO L (x1.1,(-1000),1000,())) fun y_3=>bT (Zo L (y_3 && x1.1 != 0,2,())) fun y_4=>bT (Z9 L (y,y_4,())) fun y=>some y else bif x1.2 == [115,116,111,114,101,100] then bT (bT (Zo L (!([115,116,111,114,101]:List UInt8) == [],1,())) fun y=>some y) fun y=>bT (bT (QM L (x0,x1.3,())) fun y=>some y) fun y_1=>bT (bT (Zo L (y_1 == [115,116,111,114,101],5,())) fun y=>some y) fun y_2=>bT (bT (Z9 L (y,y_2,())) fun y=>some y) fun y=>bT (ZO L (x1.1,(-1000),1000,())) fun y_3=>bT (Zo L (y_3 && x1.1 != 0,2,())) fun y_4=>bT (Z9 L (y,y_4,())) fun y=>some y else bif x1.2 == [101,110,116,101,114,101,100] then bT (bT (Zo L (!([115,116,111,114,101]:List UInt8) == [],1,())) fun y=>some y) fun y=>bT (bT (QM L (x0,x1.3,())) fun y=>some y) fun y_1=>bT (bT (Zo L (y_1 == [115,116,111,114,101],5,())) fun y=>some y) fun y_2=>bT (bT (Z9 L (y,y_2,())) fun y=>some y) fun y=>bT (ZO L (x1.1,(-1000),1000,())) fun y_3=>bT (Zo L (y_3 && x1.1 != 0,2,())) fun y_4=>bT (Z9 L (y,y_4,())) fun y=>some y else bif x1.2 == [108,101,102,116] then bT (bT (Zo L (!([115,116,111,114,101]:List UInt8) == [],1,())) fun y=>some y) fun y=>bT (bT (QM L (x0,x1.3,())) fun y=>some y) fun y_1=>bT (bT (Zo L (y_1 == [115,116,111,114,101],5,())) fun y=>some y) fun y_2=>bT (bT (Z9 L (y,y_2,())) fun y=>some y) fun y=>bT (ZO L (x1.1,(-1000),1000,())) fun y_3=>bT (Zo L (y_3 && x1.1 != 0,2,())) fun y_4=>bT (Z9 L (y,y_4,())) fun y=>some y else bif x1.2 == [99,111,117,110,116,101,100] then bT (bT (Zo L (!([99,111,117,110,116]:List UInt8) == [],1,())) fun y=>some y) fun y=>bT (bT (QM L (x0,x1.3,())) fun y=>some y) fun y_1=>bT (bT (Zo L (y_1 == [99,111,117,110,116],5,())) fun y=>some y) fun y_2=>bT (bT (Z9 L (y,y_2,())) fun y=>some y) fun y=>bT (ZO L (x1.1,(-1000),1000,())) fun y_3=>bT (Zo L (y_3 && x1.1 != 0,2,())) fun y_4=>bT (Z9 L (y,y_4,())) fun y=>some y else bT (bT (Zo L (!([]:List UInt8) == [],1,())) fun y=>some y) fun y=>bT (bT (QM L (x0,x1.3,())) fun y=>some y) fun y_1=>bT (bT (Zo L (y_1 == [],5,())) fun y=>some y) fun y_2=>bT (bT (Z9 L (y,y_2,())) fun y=>some y) fun y=>bT (ZO L (x1.1,(-1000),1000,())) fun y_3=>bT (Zo L (y_3 && x1.1 != 0,2,())) fun y_4=>bT (Z9 L (y,y_4,())) fun y=>some y:=by kernel_rfl
def VH (L:Nat)(x:(List UInt8)×(List (List UInt8))×PUnit):Option Int:=fT [Q9 L,WG L,Gs L,XI L] L Zcp [] (.one (.int .i64)) [.str,.lst 1 .str] x
def JW (L:Nat):Sum tT:=mU 63 [.str,.lst 1 .str] (.one (.int .i64)) (VH L)
theorem GY:SX JW:=fun h=>sT h (Zb (Xd h) (Zb (WX h) (Zb (O7 h) (Zb (VC h) Zp)))) rfl (by kernel_rfl) fun _=>rfl
theorem Zlx (L:Nat)(x0:(List UInt8))(x1:(List (List UInt8))):VH L (x0,x1,())=bT (Qg L (x0,())) fun y=>bT (VW L (x1,x0,())) fun y_1=>bT (Zo L (decide (y_1 < 0),4,())) fun y_2=>bT (Z9 L (y,y_2,())) fun y=>some y:=by kernel_rfl
def F7 (L:Nat)(x:Ze×Ze8×(List (List UInt8))×PUnit):Option Int:=fT [Fb L,Zgo L,Q9 L,WG L,JW L] L Zid [.rnd [.slot 7 (.int .i64),.slot 8 (.int .i64)]] (.one (.int .i64)) [.row 14,.row 13,.lst 1 .str] x
def Zka (L:Nat):Sum tT:=mU 120 [.row 14,.row 13,.lst 1 .str] (.one (.int .i64)) (F7 L)
theorem Zr5:SX Zka:=fun h=>sT h (Zb (ZbP h) (Zb (ZoN h) (Zb (Xd h) (Zb (WX h) (Zb (GY h) Zp))))) rfl (by kernel_rfl) fun _=>rfl
def Du:Ze→Ze8→Nat→(Int×Int×PUnit→Option Int)→Int×Int×PUnit→Option Int:=fun x0 x1 L self acc=>bif decide (acc.2.1 < (↑x1.2.length:Int)) then bT (ZL x1.2 acc.2.1) fun y=>bT (bT (DF L (x0,y,())) fun y=>some y) fun y=>bT (bT (Z9 L (acc.1,y,())) fun y=>some y) fun y=>self (y,Go.IntKind.i64.wrap (acc.2.1 + 1),()) else bT (D9 L (x1.3,())) fun y=>bT (Zo L (y,2,())) fun y=>bT (Z9 L (acc.1,y,())) fun y=>some y
theorem Zrn (L:Nat)(x0:Ze)(x1:Ze8)(x2:(List (List UInt8))):F7 L (x0,x1,x2,())=bT (VH L (x1.1,x2,())) fun y=>bT (Zo L (decide ((↑x1.2.length:Int) > 0),7,())) fun y_1=>bT (Z9 L (y,y_1,())) fun y=>bT (Zo L (decide ((↑x1.2.length:Int)≤8),6,())) fun y_2=>bT (Z9 L (y,y_2,())) fun y=>Zt (Du x0 x1 L) L (y,0,()):=by kernel_rfl
def OD (L:Nat)(x:Int×Int×PUnit):Option Bool:=fT [QX L,Fb L] L Zfp [] (.one .bool) [.int .i64,.int .i64] x
def D5 (L:Nat):Sum tT:=mU 116 [.int .i64,.int .i64] (.one .bool) (OD L)
theorem Zaa:SX D5:=fun h=>sT h (Zb (XE h) (Zb (ZbP h) Zp)) rfl (by kernel_rfl) fun _=>rfl
theorem Zoz (L:Nat)(x0:Int)(x1:Int):OD L (x0,x1,())=bif x0 == 1 then bT (D9 L (x1,())) fun y=>some y else bif x0 == 2 then some (x1 == 0 || x1 == 1) else bif x0 == 3 then bT (ZO L (x1,0,1000000000,())) fun y=>some y else some false:=by kernel_rfl
def Gg (L:Nat)(x:Ze×(List UInt8)×PUnit):Option Int:=fT [Gs L,TZ L] L EF [] (.one (.int .i64)) [.row 14,.str] x
def Ff (L:Nat):Sum tT:=mU 157 [.row 14,.str] (.one (.int .i64)) (Gg L)
theorem ZhD:SX Ff:=fun h=>sT h (Zb (O7 h) (Zb (SB h) Zp)) rfl (by kernel_rfl) fun _=>rfl
theorem Zhv (L:Nat)(x0:Ze)(x1:(List UInt8)):Gg L (x0,x1,())=bT (JZ L (x0,())) fun (y:List (List (List UInt8)))=>bT (ZL y 9) fun y=>bT (VW L (y,x1,())) fun y=>some y:=by kernel_rfl
def MJ (L:Nat)(x:Ze×Xw×PUnit):Option Int:=fT [WG L,QX L,D5 L,Ff L] L Zcq [.rnd [.slot 7 (.int .i64)]] (.one (.int .i64)) [.row 14,.row 11] x
def Zeq (L:Nat):Sum tT:=mU 119 [.row 14,.row 11] (.one (.int .i64)) (MJ L)
theorem ZlV:SX Zeq:=fun h=>sT h (Zb (WX h) (Zb (XE h) (Zb (Zaa h) (Zb (ZhD h) Zp)))) rfl (by kernel_rfl) fun _=>rfl
def Ik:Xw→Nat→ZU→(Int×PUnit→Option Int)→Int×PUnit→Option Int:=fun x1 L y self acc=>bif decide (acc.1 < (↑y.2.length:Int)) then bT (ZL y.2 acc.1) fun y=>bT (ZL x1.2 acc.1) fun y_1=>bT (bT (OD L (y.2,y_1,())) fun y=>some y) fun y=>bif !y then some 2 else self (Go.IntKind.i64.wrap (acc.1 + 1),()) else bT (ZO L (x1.3,0,1000000000,())) fun y=>bT (bif y == true then bT (ZO L (x1.4,0,1000000000,())) fun y=>some y else some false) fun y=>bT (bif y == true then bT (ZO L (x1.5,0,1000000000,())) fun y=>some y else some false) fun y=>bT (Zo L (y && (x1.4 != 0 || x1.5 == 0),2,())) fun y=>some y
theorem Zly (L:Nat)(x0:Ze)(x1:Xw):MJ L (x0,x1,())=bT (Gg L (x0,x1.1,())) fun y=>bif decide (y < 0) then some 5 else bT (ZL x0.11 y) fun y=>bif (↑x1.2.length:Int) != (↑y.2.length:Int) then some 8 else Zt (Ik x1 L y) L (0,()):=by kernel_rfl
def YT (L:Nat)(x:Zu×PUnit):Option Int:=fT [SS L] L Zcg [] (.one (.int .i64)) [.row 8] x
def Zeg (L:Nat):Sum tT:=mU 219 [.row 8] (.one (.int .i64)) (YT L)
theorem ZlM:SX Zeg:=fun h=>sT h (Zb (ZdN h) Zp) rfl (by kernel_rfl) fun _=>rfl
theorem Zlk (L:Nat)(x0:Zu):YT L (x0,())=bT (Hw L (x0,false,())) fun y=>some y:=by kernel_rfl
end Go.Proofs.YtgjcjbhhhlelnaaGreatDoor
end
noncomputable section
namespace Go.Proofs.YtgjcjbhhhlelnaaGreatDoor
open Go Go.Proofs.YtgjcjbhhhlelnaaGreatDoor.Abs Go.Proofs.YtgjcjbhhhlelnaaGreatDoor.Tl
set_option maxRecDepth 100000
set_option maxHeartbeats 0
def MG (L:Nat)(x:Z8×YO×PUnit):Option Int:=fT [Zeg L] L Zcj [.rnd [.slot 5 (.int .i64),.slot 6 (.int .i64)]] (.one (.int .i64)) [.row 9,.row 27] x
def Zem (L:Nat):Sum tT:=mU 217 [.row 9,.row 27] (.one (.int .i64)) (MG L)
theorem ZlS:SX Zem:=fun h=>sT h (Zb (ZlM h) Zp) rfl (by kernel_rfl) fun _=>rfl
def WC:Z8→Nat→(Int×Int×PUnit→Option Int)→Int×Int×PUnit→Option Int:=fun x0 L self acc=>bif acc.1 == 0 && decide (acc.2.1 < (↑x0.6.length:Int)) then bT (ZL x0.6 acc.2.1) fun y=>bT (YT L (y,())) fun y=>self (y,Go.IntKind.i64.wrap (acc.2.1 + 1),()) else some acc.1
def ZaK:Z8→Nat→(Int×Int×PUnit→Option Int)→Int×Int×PUnit→Option Int:=fun x0 L self acc=>bif acc.1 == 0 && decide (acc.2.1 < (↑x0.6.length:Int)) then bT (ZL x0.6 acc.2.1) fun y=>bT (YT L (y,())) fun y=>self (y,Go.IntKind.i64.wrap (acc.2.1 + 1),()) else some acc.1
def ZaL:Z8→Nat→(Int×Int×PUnit→Option Int)→Int×Int×PUnit→Option Int:=fun x0 L self acc=>bif acc.1 == 0 && decide (acc.2.1 < (↑x0.6.length:Int)) then bT (ZL x0.6 acc.2.1) fun y=>bT (YT L (y,())) fun y=>self (y,Go.IntKind.i64.wrap (acc.2.1 + 1),()) else some acc.1
def ZaM:Z8→Nat→(Int×Int×PUnit→Option Int)→Int×Int×PUnit→Option Int:=fun x0 L self acc=>bif acc.1 == 0 && decide (acc.2.1 < (↑x0.6.length:Int)) then bT (ZL x0.6 acc.2.1) fun y=>bT (YT L (y,())) fun y=>self (y,Go.IntKind.i64.wrap (acc.2.1 + 1),()) else some acc.1
def ZaN:Z8→Nat→(Int×Int×PUnit→Option Int)→Int×Int×PUnit→Option Int:=fun x0 L self acc=>bif acc.1 == 0 && decide (acc.2.1 < (↑x0.6.length:Int)) then bT (ZL x0.6 acc.2.1) fun y=>bT (YT L (y,())) fun y=>self (y,Go.IntKind.i64.wrap (acc.2.1 + 1),()) else some acc.1
def ZaO:Z8→Nat→(Int×Int×PUnit→Option Int)→Int×Int×PUnit→Option Int:=fun x0 L self acc=>bif acc.1 == 0 && decide (acc.2.1 < (↑x0.6.length:Int)) then bT (ZL x0.6 acc.2.1) fun y=>bT (YT L (y,())) fun y=>self (y,Go.IntKind.i64.wrap (acc.2.1 + 1),()) else some acc.1
def ZaP:Z8→Nat→(Int×Int×PUnit→Option Int)→Int×Int×PUnit→Option Int:=fun x0 L self acc=>bif acc.1 == 0 && decide (acc.2.1 < (↑x0.6.length:Int)) then bT (ZL x0.6 acc.2.1) fun y=>bT (YT L (y,())) fun y=>self (y,Go.IntKind.i64.wrap (acc.2.1 + 1),()) else some acc.1
def ZaQ:Z8→Nat→(Int×Int×PUnit→Option Int)→Int×Int×PUnit→Option Int:=fun x0 L self acc=>bif acc.1 == 0 && decide (acc.2.1 < (↑x0.6.length:Int)) then bT (ZL x0.6 acc.2.1) fun y=>bT (YT L (y,())) fun y=>self (y,Go.IntKind.i64.wrap (acc.2.1 + 1),()) else some acc.1
theorem Zlr (L:Nat)(x0:Z8)(x1:YO):MG L (x0,x1,())=bif x1.3 then bT (YT L (x0.4,())) fun y=>bif y == 0 && x1.4 then bT (YT L (x0.5,())) fun y=>bif y == 0 && decide ((↑x0.6.length:Int) > 6) then Zt (WC x0 L) L (6,0,()) else Zt (ZaK x0 L) L (y,0,()) else bif y == 0 && decide ((↑x0.6.length:Int) > 6) then Zt (ZaL x0 L) L (6,0,()) else Zt (ZaM x0 L) L (y,0,()) else bif 0 == 0 && x1.4 then bT (YT L (x0.5,())) fun y=>bif y == 0 && decide ((↑x0.6.length:Int) > 6) then Zt (ZaN x0 L) L (6,0,()) else Zt (ZaO x0 L) L (y,0,()) else bif 0 == 0 && decide ((↑x0.6.length:Int) > 6) then Zt (ZaP x0 L) L (6,0,()) else Zt (ZaQ x0 L) L (0,0,()):=by kernel_rfl
def OC (L:Nat)(x:Zu×PUnit):Option Bool:=fT [] L Zfo [] (.one .bool) [.row 8] x
def Zgk (L:Nat):Sum tT:=mU 218 [.row 8] (.one .bool) (OC L)
theorem ZoJ:SX Zgk:=fun h=>sT h Zp rfl (by kernel_rfl) fun _=>rfl
theorem Zoy (L:Nat)(x0:Zu):OC L (x0,())=some (x0.1 == 0 && x0.2 == [] && x0.3 == 0 && (↑x0.4.length:Int) == 0):=by kernel_rfl
def F5 (L:Nat)(x:Int×PUnit):Option (YO×Bool×PUnit):=fT [] L Zmp [] (.tup [.row 27,.bool]) [.int .i64] x
def ZhR (L:Nat):Sum tT:=mU 215 [.int .i64] (.tup [.row 27,.bool]) (F5 L)
theorem Znw:SX ZhR:=fun h=>sT h Zp rfl (by kernel_rfl) fun _=>rfl
theorem ZtF (L:Nat)(x0:Int):F5 L (x0,())=bif x0 == 1 then some (YO.mk true false true false false false false false false,true,()) else bif x0 == 7 then some (YO.mk true false true false false false false false false,true,()) else bif x0 == 8 then some (YO.mk true false true false false false false false false,true,()) else bif x0 == 12 then some (YO.mk true false true false false false false false false,true,()) else bif x0 == 15 then some (YO.mk true false true false false false false false false,true,()) else bif x0 == 16 then some (YO.mk true false true false false false false false false,true,()) else bif x0 == 17 then some (YO.mk true false true false false false false false false,true,()) else bif x0 == 2 then some (YO.mk true true false false false true false false false,true,()) else bif x0 == 3 then some (YO.mk false false true false false false false true true,true,()) else bif x0 == 4 then some (YO.mk false false true false false false false true false,true,()) else bif x0 == 5 then some (YO.mk false false true false false false false false false,true,()) else bif x0 == 6 then some (YO.mk true false true true false false true false false,true,()) else bif x0 == 9 then some (YO.mk true true false false false false false false false,true,()) else bif x0 == 10 then some (YO.mk true false false false false false false false false,true,()) else bif x0 == 11 then some (YO.mk true false false false false false false false false,true,()) else bif x0 == 13 then some (YO.mk true true true false true false false false false,true,()) else bif x0 == 14 then some (YO.mk true false true false true false false false false,true,()) else bif x0 == 18 then some (YO.mk false false false false false false false false false,true,()) else some (YO.mk false false false false false false false false false,false,()):=by kernel_rfl
def I5 (L:Nat)(x:Z8×PUnit):Option Bool:=fT [Dz L,Zgk L,ZhR L] L Za5 [] (.one .bool) [.row 9] x
def Zbj (L:Nat):Sum tT:=mU 216 [.row 9] (.one .bool) (I5 L)
theorem ZjH:SX Zbj:=fun h=>sT h (Zb (CZ h) (Zb (ZoJ h) (Zb (Znw h) Zp))) rfl (by kernel_rfl) fun _=>rfl
theorem Zjr (L:Nat)(x0:Z8):I5 L (x0,())=bT (F5 L (x0.1,())) fun y=>bT (bif y.1.3 == false then bT (OC L (x0.4,())) fun y=>some y else some true) fun y_1=>bT (bif y_1 == true then bif y.1.4 == false then bT (OC L (x0.5,())) fun y=>some y else some true else some false) fun y_2=>bT (bif (y.2.1 && ((y.1.1 || x0.2 == []) && (y.1.2 || x0.3 == [])) && (y_2 && (y.1.5 || (↑x0.6.length:Int) == 0)) && ((y.1.8 || (↑x0.9.length:Int) == 0) && (y.1.9 || (↑x0.10.length:Int) == 0))) == true then bif y.1.6 == false then bT (JY L (x0.7,YX.mk 0 0 0 0 [] [],())) fun y=>some y else some true else some false) fun y_3=>some (y_3 && (y.1.7 || !x0.8)):=by kernel_rfl
def F6 (L:Nat)(x:Z8×PUnit):Option Int:=fT [TW L,Zem L,XI L,Zbj L,ZhR L] L Zic [] (.one (.int .i64)) [.row 9] x
def Zen (L:Nat):Sum tT:=mU 213 [.row 9] (.one (.int .i64)) (F6 L)
theorem ZjI:SX Zen:=fun h=>sT h (Zb (SA h) (Zb (ZlS h) (Zb (VC h) (Zb (ZjH h) (Zb (Znw h) Zp))))) rfl (by kernel_rfl) fun _=>rfl
theorem Zrm (L:Nat)(x0:Z8):F6 L (x0,())=bT (F5 L (x0.1,())) fun y=>bT (I5 L (x0,())) fun y_1=>bif !y_1 then some 1 else bT (bif y.1.1 == true then bT (Qg L (x0.2,())) fun y=>some (y != 0) else some false) fun y_2=>bT (bif y_2 == false then bif y.1.2 == true then bT (Qg L (x0.3,())) fun y=>some (y != 0) else some false else some true) fun y_3=>bif y_3 then some 3 else bT (MG L (x0,y.1,())) fun y_4=>bif y_4 == 0 && y.1.6 then bT (VG L (x0.7,())) fun y=>some y else some y_4:=by kernel_rfl
def SI (L:Nat):Nat→List (Sum tT)
 | 0=>[⟨203,[.lst 21 (.row 9)],fun _=>.par _ none ((.one (.int .i64):RD).tv tT)⟩]
 | m + 1=>[⟨203,[.lst 21 (.row 9)],fun x=>.par _ (fnT tF tG (qOf tF (SI L m ++ [Zen L])) 0 L FK [.rnd [.slot 3 (.int .i64)]] (.one (.int .i64)) (tvL tT [.lst 21 (.row 9)] x) []) ((.one (.int .i64):RD).tv tT)⟩]
theorem PU {C:Cfg}{L:Nat}(h:St C L):∀ m,∀ s ∈ SI L m,Qm C s
 | 0=>(Zb (Qy _ _ _) Zp)
 | m + 1=>have ih:=PU h m
  (Zb (Y1 Yv h.L h.G (Ws Yv (Ve ih (Zb (ZjI h) Zp))) [.rnd [.slot 3 (.int .i64)]] (h.T _ _ rfl) (by kernel_rfl) fun _=>rfl) Zp)
def Ub (L m:Nat)(x:(List Z8)×PUnit):Option (Int):=fnT tF tG (qOf tF (SI L m ++ [Zen L])) 0 L FK [.rnd [.slot 3 (.int .i64)]] (.one (.int .i64)) (tvL tT [.lst 21 (.row 9)] x) []
def Zan (L:Nat)(x:(List Z8)×PUnit):Option (Int):=Ub L L x
def Zgj (L:Nat):Sum tT:=⟨203,[.lst 21 (.row 9)],fun x=>.par ((.one (.int .i64):RD).Ty tT) (Zan L x) ((.one (.int .i64):RD).tv tT)⟩
theorem ZoI {C:Cfg}{L:Nat}(h:St C L):Qm C (Zgj L):=have ih:=PU h L
 Y1 Yv h.L h.G (Ws Yv (Ve ih (Zb (ZjI h) Zp))) [.rnd [.slot 3 (.int .i64)]] (h.T _ _ rfl) (by kernel_rfl) fun _=>rfl
def Sm:Nat→List Z8→Nat→(Int×PUnit→Option Int)→Int×PUnit→Option Int:=fun (m:Nat)=>fun x0 L self acc=>bif decide (acc.1 < (↑x0.length:Int)) then bT (ZL x0 acc.1) fun y=>bT (F6 L (y,())) fun y=>bif y == 0 then bT (ZL x0 acc.1) fun y=>bT (Ub L m (y.9,())) fun y=>bif y == 0 then bT (ZL x0 acc.1) fun y=>bT (Ub L m (y.10,())) fun y=>bif y != 0 then some y else self (Go.IntKind.i64.wrap (acc.1 + 1),()) else bif y != 0 then some y else self (Go.IntKind.i64.wrap (acc.1 + 1),()) else bif y == 0 then bT (ZL x0 acc.1) fun y=>bT (Ub L m (y.10,())) fun y=>bif y != 0 then some y else self (Go.IntKind.i64.wrap (acc.1 + 1),()) else bif y != 0 then some y else self (Go.IntKind.i64.wrap (acc.1 + 1),()) else some 0
theorem Zox (L m:Nat)(x0:(List Z8)):Ub L (m + 1) (x0,())=Zt (Sm m x0 L) L (0,()):=by kernel_rfl
def BI (L:Nat):Nat→List (Sum tT)
 | 0=>[⟨202,[.lst 21 (.row 9)],fun _=>.par _ none ((.one (.int .i64):RD).tv tT)⟩]
 | m + 1=>[⟨202,[.lst 21 (.row 9)],fun x=>.par _ (fnT tF tG (qOf tF (BI L m ++ [])) 0 L Nv [.rnd [.slot 3 (.int .i64),.slot 4 (.int .i64)]] (.one (.int .i64)) (tvL tT [.lst 21 (.row 9)] x) []) ((.one (.int .i64):RD).tv tT)⟩]
theorem BJ {C:Cfg}{L:Nat}(h:St C L):∀ m,∀ s ∈ BI L m,Qm C s
 | 0=>(Zb (Qy _ _ _) Zp)
 | m + 1=>have ih:=BJ h m
  (Zb (Y1 Yv h.L h.G (Ws Yv (Ve ih Zp)) [.rnd [.slot 3 (.int .i64),.slot 4 (.int .i64)]] (h.T _ _ rfl) (by kernel_rfl) fun _=>rfl) Zp)
def UE (L m:Nat)(x:(List Z8)×PUnit):Option (Int):=fnT tF tG (qOf tF (BI L m ++ [])) 0 L Nv [.rnd [.slot 3 (.int .i64),.slot 4 (.int .i64)]] (.one (.int .i64)) (tvL tT [.lst 21 (.row 9)] x) []
def Eh (L:Nat)(x:(List Z8)×PUnit):Option (Int):=UE L L x
def Zel (L:Nat):Sum tT:=⟨202,[.lst 21 (.row 9)],fun x=>.par ((.one (.int .i64):RD).Ty tT) (Eh L x) ((.one (.int .i64):RD).tv tT)⟩
theorem ZlR {C:Cfg}{L:Nat}(h:St C L):Qm C (Zel L):=have ih:=BJ h L
 Y1 Yv h.L h.G (Ws Yv (Ve ih Zp)) [.rnd [.slot 3 (.int .i64),.slot 4 (.int .i64)]] (h.T _ _ rfl) (by kernel_rfl) fun _=>rfl
def RX:Nat→List Z8→Nat→(Int×Int×PUnit→Option Int)→Int×Int×PUnit→Option Int:=fun (m:Nat)=>fun x0 L self acc=>bif decide (acc.2.1 < (↑x0.length:Int)) then bT (ZL x0 acc.2.1) fun y=>bT (bT (UE L m (y.9,())) fun y=>some y) fun y=>bT (ZL x0 acc.2.1) fun y_1=>bT (bT (UE L m (y_1.10,())) fun y=>some y) fun y_2=>self (if Go.IntKind.i64.wrap (1 + y_2) > if Go.IntKind.i64.wrap (1 + y) > acc.1 then Go.IntKind.i64.wrap (1 + y) else acc.1 then Go.IntKind.i64.wrap (1 + y_2) else if Go.IntKind.i64.wrap (1 + y) > acc.1 then Go.IntKind.i64.wrap (1 + y) else acc.1,Go.IntKind.i64.wrap (acc.2.1 + 1),()) else some acc.1
theorem Zlq (L m:Nat)(x0:(List Z8)):UE L (m + 1) (x0,())=Zt (RX m x0 L) L (0,0,()):=by kernel_rfl
def BG (L:Nat):Nat→List (Sum tT)
 | 0=>[⟨201,[.lst 21 (.row 9)],fun _=>.par _ none ((.one (.int .i64):RD).tv tT)⟩]
 | m + 1=>[⟨201,[.lst 21 (.row 9)],fun x=>.par _ (fnT tF tG (qOf tF (BG L m ++ [])) 0 L Nu [.rnd [.slot 3 (.int .i64),.slot 4 (.int .i64)]] (.one (.int .i64)) (tvL tT [.lst 21 (.row 9)] x) []) ((.one (.int .i64):RD).tv tT)⟩]
theorem BH {C:Cfg}{L:Nat}(h:St C L):∀ m,∀ s ∈ BG L m,Qm C s
 | 0=>(Zb (Qy _ _ _) Zp)
 | m + 1=>have ih:=BH h m
  (Zb (Y1 Yv h.L h.G (Ws Yv (Ve ih Zp)) [.rnd [.slot 3 (.int .i64),.slot 4 (.int .i64)]] (h.T _ _ rfl) (by kernel_rfl) fun _=>rfl) Zp)
def UD (L m:Nat)(x:(List Z8)×PUnit):Option (Int):=fnT tF tG (qOf tF (BG L m ++ [])) 0 L Nu [.rnd [.slot 3 (.int .i64),.slot 4 (.int .i64)]] (.one (.int .i64)) (tvL tT [.lst 21 (.row 9)] x) []
def Eg (L:Nat)(x:(List Z8)×PUnit):Option (Int):=UD L L x
def Zek (L:Nat):Sum tT:=⟨201,[.lst 21 (.row 9)],fun x=>.par ((.one (.int .i64):RD).Ty tT) (Eg L x) ((.one (.int .i64):RD).tv tT)⟩
theorem ZlQ {C:Cfg}{L:Nat}(h:St C L):Qm C (Zek L):=have ih:=BH h L
 Y1 Yv h.L h.G (Ws Yv (Ve ih Zp)) [.rnd [.slot 3 (.int .i64),.slot 4 (.int .i64)]] (h.T _ _ rfl) (by kernel_rfl) fun _=>rfl
def RV:Nat→List Z8→Nat→(Int×Int×PUnit→Option Int)→Int×Int×PUnit→Option Int:=fun (m:Nat)=>fun x0 L self acc=>bif decide (acc.2.1 < (↑x0.length:Int)) then bT (ZL x0 acc.2.1) fun y=>bT (bT (UD L m (y.9,())) fun y=>some y) fun y=>bT (ZL x0 acc.2.1) fun y_1=>bT (bT (UD L m (y_1.10,())) fun y=>some y) fun y_2=>self (Go.IntKind.i64.wrap (Go.IntKind.i64.wrap (Go.IntKind.i64.wrap (acc.1 + 1) + y) + y_2),Go.IntKind.i64.wrap (acc.2.1 + 1),()) else some acc.1
theorem Zlp (L m:Nat)(x0:(List Z8)):UD L (m + 1) (x0,())=Zt (RV m x0 L) L (0,0,()):=by kernel_rfl
def MF (L:Nat)(x:(List Z8)×PUnit):Option Int:=fT [Zgj L,Zel L,Zek L] L Zci [] (.one (.int .i64)) [.lst 21 (.row 9)] x
def Zej (L:Nat):Sum tT:=mU 187 [.lst 21 (.row 9)] (.one (.int .i64)) (MF L)
theorem ZlP:SX Zej:=fun h=>sT h (Zb (ZoI h) (Zb (ZlR h) (Zb (ZlQ h) Zp))) rfl (by kernel_rfl) fun _=>rfl
theorem Zlo (L:Nat)(x0:(List Z8)):MF L (x0,())=bT (Eg L (x0,())) fun y=>bif decide (y > 200) then some 6 else bT (Eh L (x0,())) fun y=>bif decide (y > 12) then some 11 else bT (Zan L (x0,())) fun y=>some y:=by kernel_rfl
def Hy (L:Nat)(x:Int×PUnit):Option Bool:=fT [] L Zcm [] (.one .bool) [.int .i64] x
def Mc (L:Nat):Sum tT:=mU 115 [.int .i64] (.one .bool) (Hy L)
theorem SC:SX Mc:=fun h=>sT h Zp rfl (by kernel_rfl) fun _=>rfl
theorem Zlu (L:Nat)(x0:Int):Hy L (x0,())=some (x0 == 1 || x0 == 2 || x0 == 3):=by kernel_rfl
end Go.Proofs.YtgjcjbhhhlelnaaGreatDoor
end
noncomputable section
namespace Go.Proofs.YtgjcjbhhhlelnaaGreatDoor
open Go Go.Proofs.YtgjcjbhhhlelnaaGreatDoor.Abs Go.Proofs.YtgjcjbhhhlelnaaGreatDoor.Tl
set_option maxRecDepth 100000
set_option maxHeartbeats 0
def Gh (L:Nat)(x:ZU×PUnit):Option Int:=fT [Zej L,Q9 L,WG L,Mc L,JW L] L EG [.rnd [.slot 3 (.own 1 .str),.slot 5 (.int .i64)]] (.one (.int .i64)) [.row 10] x
def Fg (L:Nat):Sum tT:=mU 156 [.row 10] (.one (.int .i64)) (Gh L)
theorem ZhE:SX Fg:=fun h=>sT h (Zb (ZlP h) (Zb (Xd h) (Zb (WX h) (Zb (SC h) (Zb (GY h) Zp))))) rfl (by kernel_rfl) fun _=>rfl
def Ui:ZU→Nat→List WJ→(List (List UInt8)×Int×PUnit→Option Int)→List (List UInt8)×Int×PUnit→Option Int:=fun x0 L y self acc=>bif decide (acc.2.1 < (↑y.length:Int)) then bT (ZL y acc.2.1) fun y_1=>bT (bT (VH L (y_1.1,acc.1,())) fun y=>some y) fun y_2=>bT (ZL y acc.2.1) fun y_3=>bT (bT (Hy L (y_3.2,())) fun y=>some y) fun y_4=>bT (bT (Zo L (y_4,1,())) fun y=>some y) fun y_5=>bT (bT (Z9 L (y_2,y_5,())) fun y=>some y) fun y_6=>bif y_6 != 0 then some y_6 else bT (ZL y acc.2.1) fun y=>bT (apT 16 acc.1 [y.1]) fun y=>self (y,Go.IntKind.i64.wrap (acc.2.1 + 1),()) else bT (MF L (x0.4,())) fun y=>some y
theorem Zhw (L:Nat)(x0:ZU):Gh L (x0,())=bif decide ((↑x0.2.length:Int) > 6) || decide (Go.IntKind.i64.wrap ((↑x0.2.length:Int) + (↑x0.3.length:Int)) > 16) then some 6 else bT (apT 24 [] x0.2) fun y=>bT (apT 24 y x0.3) fun y=>Zt (Ui x0 L y) L ([],0,()):=by kernel_rfl
def Ul (L:Nat)(x:Zv×PUnit):Option Int:=fT [QX L,WG L] L P7 [.rnd [.slot 3 (.int .i64)]] (.one (.int .i64)) [.row 4] x
def Nb (L:Nat):Sum tT:=mU 186 [.row 4] (.one (.int .i64)) (Ul L)
theorem Zfb:SX Nb:=fun h=>sT h (Zb (XE h) (Zb (WX h) Zp)) rfl (by kernel_rfl) fun _=>rfl
def XD:Zv→Nat→(Int×PUnit→Option Int)→Int×PUnit→Option Int:=fun x0 L self acc=>bif decide (acc.1 < (↑x0.3.length:Int)) then bT (ZL x0.3 acc.1) fun y=>bT (ZO L (y.1,0,Go.IntKind.i64.wrap (x0.4 - 1),())) fun y_1=>bT (bif (!y_1) == false then bT (ZO L (y.2,0,1000,())) fun y=>some !y else some true) fun y_2=>bif y_2 then some 2 else bT (bif decide (acc.1 > 0) == true then bT (ZL x0.3 (Go.IntKind.i64.wrap (acc.1 - 1))) fun y_3=>some (decide (y.1≤y_3.1)) else some false) fun y=>bif y then some 12 else self (Go.IntKind.i64.wrap (acc.1 + 1),()) else some 0
theorem ZeU (L:Nat)(x0:Zv):Ul L (x0,())=bif (↑x0.3.length:Int) == 0 then bT (Zo L (x0.4 == 0,1,())) fun y=>some y else bif decide ((↑x0.3.length:Int) > 20) then some 6 else bT (ZO L (x0.4,1,1000000000,())) fun y=>bif !y then some 2 else Zt (XD x0 L) L (0,()):=by kernel_rfl
def Um (L:Nat)(x:Ze×Zv×PUnit):Option Int:=fT [TW L,Gs L,Dz L,Q9 L,Nb L,WG L,QX L] L P9 [] (.one (.int .i64)) [.row 14,.row 4] x
def Nh (L:Nat):Sum tT:=mU 155 [.row 14,.row 4] (.one (.int .i64)) (Um L)
theorem Zfd:SX Nh:=fun h=>sT h (Zb (SA h) (Zb (O7 h) (Zb (CZ h) (Zb (Xd h) (Zb (Zfb h) (Zb (WX h) (Zb (XE h) Zp))))))) rfl (by kernel_rfl) fun _=>rfl
theorem ZeV (L:Nat)(x0:Ze)(x1:Zv):Um L (x0,x1,())=bT (bT (ZO L (x1.2,0,1000,())) fun y=>some y) fun y=>bT (bT (Zo L (y,2,())) fun y=>some y) fun y=>bT (bT (Ul L (x1,())) fun y=>some y) fun y_1=>bT (bT (Z9 L (y,y_1,())) fun y=>some y) fun y=>bif y != 0 then some y else bif x1.Fault.1 == [] then bT (JY L (x1.Fault.2,YX.mk 0 0 0 0 [] [],())) fun y=>bT (bif y == true then bT (JY L (x1.Fault.3,YX.mk 0 0 0 0 [] [],())) fun y=>some y else some false) fun y=>bT (Zo L (y,1,())) fun y=>some y else bT (VW L (x0.7,x1.Fault.1,())) fun y=>bif decide (y < 0) then some 5 else bT (bT (VG L (x1.Fault.2,())) fun y=>some y) fun y=>bT (bT (VG L (x1.Fault.3,())) fun y=>some y) fun y_2=>bT (bT (Z9 L (y,y_2,())) fun y=>some y) fun y=>some y:=by kernel_rfl
def YN (L:Nat)(x:Ze×Int×Int×PUnit):Option Int:=fT [Fg L,QX L,Nh L,Q9 L,D5 L,WG L,Mc L] L P8 [] (.one (.int .i64)) [.row 14,.int .i64,.int .i64] x
def Nc (L:Nat):Sum tT:=mU 118 [.row 14,.int .i64,.int .i64] (.one (.int .i64)) (YN L)
theorem Zfc:SX Nc:=fun h=>sT h (Zb (ZhE h) (Zb (XE h) (Zb (Zfd h) (Zb (Xd h) (Zb (Zaa h) (Zb (WX h) (Zb (SC h) Zp))))))) rfl (by kernel_rfl) fun _=>rfl
theorem Xr (L:Nat)(x0:Ze)(x1:Int)(x2:Int):YN L (x0,x1,x2,())=bif x1 == 0 then bT (ZL x0.2 x2) fun y=>bT (bT (Hy L (y.2,())) fun y=>some y) fun y=>bT (bT (Zo L (y,1,())) fun y=>some y) fun y=>bT (ZL x0.2 x2) fun y_1=>bT (ZL x0.2 x2) fun y_2=>bT (bT (OD L (y_1.2,y_2.3,())) fun y=>some y) fun y_3=>bT (bT (Zo L (y_3,2,())) fun y=>some y) fun y_4=>bT (bT (Z9 L (y,y_4,())) fun y=>some y) fun y=>some y else bif x1 == 1 then bT (ZL x0.3 x2) fun y=>bT (bT (Um L (x0,y,())) fun y=>some y) fun y=>some y else bif x1 == 2 then bT (ZL x0.4 x2) fun y=>bT (ZL x0.4 x2) fun y_1=>bT (ZO L (y_1.2,1,1000,())) fun y_2=>bT (Zo L (y_2,2,())) fun y_3=>bT (Zo L (decide (y.3 ≥ 1) && decide (y.3≤3),1,())) fun y=>bT (Z9 L (y_3,y,())) fun y=>some y else bif x1 == 3 then bT (ZL x0.5 x2) fun y=>bT (ZO L (y.2,1,1000,())) fun y=>bT (bif y == true then bT (ZL x0.5 x2) fun y=>bT (ZO L (y.3,1,1000,())) fun y=>some y else some false) fun y=>bT (Zo L (y,2,())) fun y=>some y else bif x1 == 9 then bT (ZL x0.11 x2) fun y=>bT (Gh L (y,())) fun y=>some y else some 0:=by kernel_rfl
def DD (L:Nat)(x:Ze×PUnit):Option Int:=fT [Zka L,Zeq L,Q9 L,Nc L,JW L,TZ L] L Zfs [.rnd [.slot 2 (.int .i64),.slot 3 (.own 1 .str),.slot 5 (.int .i64)],.rnd [.slot 2 (.int .i64),.slot 3 (.own 1 .str),.slot 6 (.int .i64)],.rnd [.slot 2 (.int .i64),.slot 8 (.int .i64)],.rnd [.slot 10 (.own 1 .str),.slot 11 (.int .i64)]] (.one (.int .i64)) [.row 14] x
def Zgn (L:Nat):Sum tT:=mU 64 [.row 14] (.one (.int .i64)) (DD L)
theorem ZoM:SX Zgn:=fun h=>sT h (Zb (Zr5 h) (Zb (ZlV h) (Zb (Xd h) (Zb (Zfc h) (Zb (GY h) (Zb (SB h) Zp)))))) rfl (by kernel_rfl) fun _=>rfl
def GL:Ze→Nat→List (List (List UInt8))→(Int×List (List UInt8)×Int×PUnit→Option Int)→Int×List (List UInt8)×Int×PUnit→(Int×List (List UInt8)×Int×PUnit→Option Int)→Int×List (List UInt8)×Int×PUnit→Option Int:=fun x0 L y self acc self_1 acc_1=>bT (ZL y acc.2.2.1) fun y_1=>bif decide (acc_1.2.2.1 < (↑y_1.length:Int)) then bT (ZL y acc.2.2.1) fun y_2=>bT (ZL y_2 acc_1.2.2.1) fun y_3=>bT (bT (VH L (y_3,acc_1.2.1,())) fun y=>some y) fun y_4=>bT (bT (YN L (x0,acc.2.2.1,acc_1.2.2.1,())) fun y=>some y) fun y_5=>bT (bT (Z9 L (y_4,y_5,())) fun y=>some y) fun y_6=>bif y_6 != 0 then some y_6 else bT (ZL y acc.2.2.1) fun y=>bT (ZL y acc_1.2.2.1) fun y=>bT (apT 16 acc_1.2.1 [y]) fun y=>self_1 (acc_1.1,y,Go.IntKind.i64.wrap (acc_1.2.2.1 + 1),()) else self (acc_1.1,acc_1.2.1,Go.IntKind.i64.wrap (acc.2.2.1 + 1),())
def JR:Ze→Nat→(List (List UInt8)×Int×PUnit→Option Int)→List (List UInt8)×Int×PUnit→Option Int:=fun x0 L self acc=>bif decide (acc.2.1 < (↑x0.13.length:Int)) then bT (ZL x0.13 acc.2.1) fun y=>bT (bT (F7 L (x0,y,acc.1,())) fun y=>some y) fun y=>bif y != 0 then some y else bT (ZL x0.13 acc.2.1) fun y=>bT (apT 16 acc.1 [y.1]) fun y=>self (y,Go.IntKind.i64.wrap (acc.2.1 + 1),()) else some 0
def GM:Ze→Nat→(Int×Int×PUnit→Option Int)→Int×Int×PUnit→Option Int:=fun x0 L self acc=>bif decide (acc.2.1 < (↑x0.12.length:Int)) then bT (ZL x0.12 acc.2.1) fun y=>bT (bT (MJ L (x0,y,())) fun y=>some y) fun y=>bif y != 0 then some y else self (acc.1,Go.IntKind.i64.wrap (acc.2.1 + 1),()) else bif decide ((↑x0.13.length:Int) > 32) then some 6 else Zt (JR x0 L) L ([],0,())
def JS:Ze→Nat→List (List (List UInt8))→(Int×List (List UInt8)×Int×PUnit→Option Int)→Int×List (List UInt8)×Int×PUnit→Option Int:=fun x0 L y self acc=>bif decide (acc.2.2.1 < (↑y.length:Int)) then bT (ZL y acc.2.2.1) fun y_1=>bT (bif decide ((↑y_1.length:Int) > 32) == false then bif (acc.2.2.1 == 9) == true then bT (ZL y acc.2.2.1) fun y=>some (decide ((↑y.length:Int) > 16)) else some false else some true) fun y_2=>bif y_2 then some 6 else Zt (GL x0 L y self acc) L (acc.1,acc.2.1,0,()) else bif decide ((↑x0.12.length:Int) > 32) then some 6 else Zt (GM x0 L) L (acc.1,0,())
theorem Zo1 (L:Nat)(x0:Ze):DD L (x0,())=bT (JZ L (x0,())) fun (y:List (List (List UInt8)))=>Zt (JS x0 L y) L (0,[],0,()):=by kernel_rfl
def Ze5 (L:Nat)(x:VM×(List (List UInt8))×PUnit):Option Int:=fT [D5 L,Q9 L,WG L,Mc L,JW L] L Zcr [] (.one (.int .i64)) [.row 0,.lst 1 .str] x
def Zer (L:Nat):Sum tT:=mU 62 [.row 0,.lst 1 .str] (.one (.int .i64)) (Ze5 L)
theorem ZlW:SX Zer:=fun h=>sT h (Zb (Zaa h) (Zb (Xd h) (Zb (WX h) (Zb (SC h) (Zb (GY h) Zp))))) rfl (by kernel_rfl) fun _=>rfl
def MH (L:Nat)(x:QO×PUnit):Option Int:=fT [Zep L,Zgn L,JW L,Zer L,Q9 L,WG L,XI L] L Zck [.rnd [.slot 2 (.int .i64),.slot 4 (.own 1 .str),.slot 5 (.int .i64)],.rnd [.slot 6 (.own 1 .str),.slot 7 (.int .i64)]] (.one (.int .i64)) [.row 21] x
def Zeo (L:Nat):Sum tT:=mU 40 [.row 21] (.one (.int .i64)) (MH L)
theorem ZlT:SX Zeo:=fun h=>sT h (Zb (ZlU h) (Zb (ZoM h) (Zb (GY h) (Zb (ZlW h) (Zb (Xd h) (Zb (WX h) (Zb (VC h) Zp))))))) rfl (by kernel_rfl) fun _=>rfl
def RY:QO→Nat→(List (List UInt8)×Int×PUnit→Option Int)→List (List UInt8)×Int×PUnit→Option Int:=fun x0 L self acc=>bif decide (acc.2.1 < (↑x0.3.length:Int)) then bT (ZL x0.3 acc.2.1) fun y=>bT (bT (VH L (y.1,acc.1,())) fun y=>some y) fun y=>bT (ZL x0.3 acc.2.1) fun y_1=>bT (bT (DD L (y_1,())) fun y=>some y) fun y_2=>bT (bT (Z9 L (y,y_2,())) fun y=>some y) fun y=>bif y != 0 then some y else bT (ZL x0.3 acc.2.1) fun y=>bT (apT 16 acc.1 [y.1]) fun y=>self (y,Go.IntKind.i64.wrap (acc.2.1 + 1),()) else bT (MI L (x0,())) fun y=>some y
def RZ:QO→Nat→(Int×List (List UInt8)×Int×PUnit→Option Int)→Int×List (List UInt8)×Int×PUnit→Option Int:=fun x0 L self acc=>bif decide (acc.2.2.1 < (↑x0.2.length:Int)) then bT (ZL x0.2 acc.2.2.1) fun y=>bT (Ze5 L (y,acc.2.1,())) fun y=>bif y != 0 then some y else bT (ZL x0.2 acc.2.2.1) fun y=>bT (apT 16 acc.2.1 [y.1]) fun y=>self (acc.1,y,Go.IntKind.i64.wrap (acc.2.2.1 + 1),()) else bT (bT (Zo L (decide ((↑x0.3.length:Int) > 0),7,())) fun y=>some y) fun y=>bT (bT (Zo L (decide ((↑x0.3.length:Int)≤16),6,())) fun y=>some y) fun y_1=>bT (bT (Z9 L (y,y_1,())) fun y=>some y) fun y=>bif y != 0 then some y else Zt (RY x0 L) L ([],0,())
theorem Zls (L:Nat)(x0:QO):MH L (x0,())=bT (bT (Qg L (x0.1,())) fun y=>some y) fun y=>bT (bT (Zo L (decide ((↑x0.2.length:Int)≤32),6,())) fun y=>some y) fun y_1=>bT (bT (Z9 L (y,y_1,())) fun y=>some y) fun y=>bif y != 0 then some y else Zt (RZ x0 L) L (0,[],0,()):=by kernel_rfl
def VI (L:Nat)(x:Zk×PUnit):Option Int:=fT [Fh L,Zgp L,Zgq L,Zeo L,XI L] L Zcs [.rnd [.slot 2 (.int .i64),.slot 4 (.int .i64)],.rnd [.slot 2 (.int .i64),.slot 5 (.int .i64)],.rnd [.slot 3 (.int .i64),.slot 6 (.int .i64)],.rnd [.slot 3 (.int .i64),.slot 7 (.int .i64)]] (.one (.int .i64)) [.row 19] x
def Zmi (L:Nat):Sum tT:=mU 27 [.row 19] (.one (.int .i64)) (VI L)
theorem ZlX:SX Zmi:=fun h=>sT h (Zb (ZhF h) (Zb (ZoO h) (Zb (ZoP h) (Zb (ZlT h) (Zb (VC h) Zp))))) rfl (by kernel_rfl) fun _=>rfl
def U1:Zk→Nat→(Int×Int×PUnit→Option Int)→Int×Int×PUnit→(Int×Int×PUnit→Option Int)→Int×Int×PUnit→Option Int:=fun x0 L self acc self_1 acc_1=>bif decide (acc_1.2.1 < acc.2.1) then bT (ZL x0.2 acc_1.2.1) fun y=>bT (ZL x0.2 acc.2.1) fun y_1=>bif y.Decl.1 == y_1.Decl.1 then some 4 else self_1 (acc_1.1,Go.IntKind.i64.wrap (acc_1.2.1 + 1),()) else bT (ZL x0.2 acc.2.1) fun y=>bT (OG L (y,())) fun y=>bif !y then some 8 else self (acc_1.1,Go.IntKind.i64.wrap (acc.2.1 + 1),())
def U2:Zk→Nat→(Int×Int×PUnit→Option Int)→Int×Int×PUnit→(Int×Int×PUnit→Option Int)→Int×Int×PUnit→Option Int:=fun x0 L self acc self_1 acc_1=>bT (ZL x0.2 acc.2.1) fun y=>bif decide (acc_1.2.1 < (↑y.2.length:Int)) then bif acc_1.1 == 0 then bT (ZL x0.2 acc.2.1) fun y=>bT (ZL y.2 acc_1.2.1) fun y=>bT (bT (YU L (x0,acc.2.1,y,())) fun y=>some y) fun y=>self_1 (y,Go.IntKind.i64.wrap (acc_1.2.1 + 1),()) else self_1 (acc_1.1,Go.IntKind.i64.wrap (acc_1.2.1 + 1),()) else self (acc_1.1,Go.IntKind.i64.wrap (acc.2.1 + 1),())
def QV:Zk→Nat→(Int×Int×PUnit→Option Int)→Int×Int×PUnit→Option Int:=fun x0 L self acc=>bif decide (acc.2.1 < (↑x0.2.length:Int)) then Zt (U2 x0 L self acc) L (acc.1,0,()) else some acc.1
def U3:Zk→Nat→(Int×Int×PUnit→Option Int)→Int×Int×PUnit→Option Int:=fun x0 L self acc=>bif decide (acc.2.1 < (↑x0.2.length:Int)) then bT (ZL x0.2 acc.2.1) fun y=>bT (bT (MH L (QO.mk x0.1 [] [y.1] [],())) fun y=>some y) fun y=>bif y != 0 then some y else Zt (U1 x0 L self acc) L (acc.1,0,()) else bT (OE L (x0,())) fun y=>Zt (QV x0 L) L (y,0,())
theorem Zlz (L:Nat)(x0:Zk):VI L (x0,())=bT (Qg L (x0.1,())) fun y=>bif y != 0 then some y else bif (↑x0.2.length:Int) == 0 then some 7 else bif decide ((↑x0.2.length:Int) > 16) then some 6 else Zt (U3 x0 L) L (0,0,()):=by kernel_rfl
end Go.Proofs.YtgjcjbhhhlelnaaGreatDoor
end
section
namespace Go.Proofs.YtgjcjbhhhlelnaaGreatDoor
open Go Go.Proofs.YtgjcjbhhhlelnaaGreatDoor.Abs Go.Proofs.YtgjcjbhhhlelnaaGreatDoor.Tl
set_option maxRecDepth 100000
def ZsI:List Bool→Int→Int
 | [],_=>-1
 | b :: r,i=>if b=false then i else ZsI r (i + 1)
theorem ZmH:∀ (l:List Bool) (i:Int),0≤i→(0≤ZsI l i↔l.contains false=true)
 | [],i,h=>by simp [ZsI]
 | false :: r,i,h=>by simp [ZsI,h]
 | true :: r,i,h=>by
  have:=ZmH r (i + 1) (by omega)
  simp only [ZsI,Bool.true_eq_false,if_false]
  rw [this]; simp
theorem Zqg (g o len k:Nat)(i:Int)(h0:0≤i)(h1:i < len):VX (.slice k) (.arr g o len k) (.int .i64 i)=some (.ptr g (o + i.toNat * k)):=by simp [VX,h0,h1]
theorem ZxN (g o len k:Nat)(i:Int)(h0:0≤i)(h1:i < len):VX (.arr len k) (.ptr g o) (.int .i64 i)=some (.ptr g (o + i.toNat * k)):=by simp [VX,h0,h1]
section
variable {hp:List Zn}{g:Nat}{t:TypeId}{u:List Bool}
theorem Z0s (hg:hp[g]? = some (.cells (u.map .bool) t))(i:Nat){b:Bool}(h:u[i]? = some b):WW hp (.ptr g i)=some (.bool b):=by
 rw [Zqx hg,List.getElem?_map,h]; rfl
theorem Zqq (G:GT)(K:KT)(L:Nat)(hp0:HP)(hg:hp[g]? = some (.cells (u.map .bool) t))(c:Nat)(hc:c≤u.length)(hu:u.length≤16):∀ (m i:Nat),i≤c→c - i < m →
  ZQ G K L hp0 (Yp G K L hp0) m (.arr g 0 c 1) (.bool false) (.int .i64 c) (.int .i64 i) hp none=some (.int .i64 (ZsI ((u.take c).drop i) i),hp0,none)
 | 0,_,_,h=>absurd h (Nat.not_lt_zero _)
 | m + 1,i,hi,hm=>by
  rw [ZQ]
  rcases Nat.lt_or_ge i c with hlt | hge
  ·have hl:i < (u.take c).length:=by rw [List.length_take]; omega
   rw [List.drop_eq_getElem_cons hl,ZsI]
   have e:(u.take c)[i]? = some (u.take c)[i]:=List.getElem?_eq_getElem hl
   generalize (u.take c)[i]=b at *
   have e':u[i]? = some b:=by rw [List.getElem?_take_of_lt hlt] at e; exact e
   have ei:=Zqg g 0 c 1 (i:Int) (by omega) (by omega)
   rw [Int.toNat_natCast,Nat.zero_add,Nat.mul_one] at ei
   have ew:IntKind.i64.wrap ((i:Int) + 1)=((i + 1:Nat):Int):=D6 i (by omega)
   have el:decide ((i:Int) < (c:Int))=true:=by simp; omega
   have ih:=Zqq G K L hp0 hg c hc hu m (i + 1) (by omega) (by omega)
   simp only [EV,el,ei,Z0s hg i e',ew,ih,if_true]
   cases b <;> simp
  ·obtain rfl:i=c:=by omega
   rw [List.drop_eq_nil_of_le (by rw [List.length_take]; omega),ZsI]
   have el:decide ((i:Int) < (i:Int))=false:=by simp
   simp only [EV,el,Yp,Bool.false_eq_true,if_false]
theorem ZwO {C:Cfg}{L:Nat}(h:St C L)(n:Nat)(hg:hp[g]? = some (.cells (u.map .bool) t))(c:Nat)(hc:c≤u.length)(hu:u.length≤16) :
  Z5 C (n + 1) Y6 [.arr g 0 c 1,.bool false] hp=some (.int .i64 (ZsI (u.take c) 0),hp,none):=by
 refine X4 (by rw [← QR]; exact h.T _ _ (by kernel_rfl)) ?_
 have e:Xl hp .slice (AV.ro (.arr g 0 c 1))=some (.int .i64 c):=rfl
 have:=Zqq C.G (Z5 C n) C.L hp hg c hc hu C.L 0 (Nat.zero_le _) (by rw [h.L]; omega)
 simp only [YZ,e,EV]
 exact this
theorem Zub {C:Cfg}{L:Nat}(h:St C L)(n:Nat)(hp:HP):Z5 C (n + 1) Y6 [.lst 1 [],.bool false] hp=some (.int .i64 (-1),hp,none):=by
 refine X4 (by rw [← QR]; exact h.T _ _ (by kernel_rfl)) ?_
 obtain ⟨m,e⟩:∃ m,C.L=m + 1:=⟨L + 63,h.L⟩
 simp only [YZ,e,EV,List.length_nil]
 simp only [ZQ,EV]
 rfl
theorem ZoU {C:Cfg}{L:Nat}(h:St C L)(n:Nat)(hg:hp[g]? = some (.cells (u.map .bool) t))(c:Nat)(hc:c≤u.length)(hu:u.length≤16) :
  Z5 C (n + 2) Yn [.arr g 0 c 1,.bool false] hp=some (.bool ((u.take c).contains false),hp,none):=by
 refine QI (by rw [← Qo]; exact h.T _ _ (by kernel_rfl)) ?_
 have e:AV.ro (.arr g 0 c 1)=.arr g 0 c 1:=rfl
 simp only [YC,e,EV,ZwO h n hg c hc hu]
 have:=ZmH (u.take c) 0 (by omega)
 cases hb:(u.take c).contains false with
 | true=>rw [hb] at this; simp [this]
 | false=>rw [hb] at this; simp at this; simp [this]
theorem Zmk {C:Cfg}{L:Nat}(h:St C L)(n:Nat)(hp:HP):Z5 C (n + 2) Yn [.lst 1 [],.bool false] hp=some (.bool false,hp,none):=by
 refine QI (by rw [← Qo]; exact h.T _ _ (by kernel_rfl)) ?_
 simp only [YC,EV,Zub h n hp]
 rfl
end
def pcA:List Int→List Bool→Nat→Int
 | [],u,c=>if (u.take c).contains false=true then 12 else 0
 | k :: r,u,c=>if (decide (k < 0) || decide (16≤k))=true then 2 else if u[k.toNat]? = some true then pcA r u c else pcA r (u.set k.toNat true) (c + 1)
def EN:List Bool→Nat
 | []=>0
 | true :: l=>EN l + 1
 | false :: l=>EN l
theorem Zkt:∀ u:List Bool,EN u≤u.length
 | []=>Nat.le_refl _
 | true :: l=>by have:=Zkt l; simp only [EN,List.length_cons]; omega
 | false :: l=>by have:=Zkt l; simp only [EN,List.length_cons]; omega
theorem ZbE:∀ (u:List Bool) (k:Nat),u[k]? = some false→EN (u.set k true)=EN u + 1
 | [],k,h=>by simp at h
 | b :: l,0,h=>by simp at h; subst h; rw [List.set_cons_zero,EN,EN]
 | b :: l,k + 1,h=>by
  have ih:=ZbE l k (by simpa using h)
  rw [List.set_cons_succ]
  cases b <;> rw [EN,EN,ih]
theorem ZjR (h:HP)(u:List Bool)(t:TypeId)(k:Nat)(hk:k < u.length)(bs:Nat)(hb:bs≤h.length):stV bs 1 (.ptr h.length k) (.bool true) (h ++ [.cells (u.map .bool) t]) none=some (h ++ [.cells ((u.set k true).map .bool) t],none):=by
 rw [ZtT bs 1 h _ t k (.bool true) none rfl (by rw [List.length_map]; omega) rfl hb]
 congr 4
 rw [List.map_set]
 simp only [splice,AV.cells,List.length_singleton]
 rw [List.set_eq_take_append_cons_drop,if_pos (by simpa using hk),List.append_assoc]; rfl
theorem ZsR {C:Cfg}{L:Nat}(h:St C L)(n:Nat)(hp0 hq:HP)(u:List Bool)(t:TypeId)(hu:u.length=16)(c:Nat)(hc:c≤16) :
  YV C.G (Z5 C (n + 2)) C.L hp0 (.ptr hq.length 0) (.int .i64 c) (hq ++ [.cells (u.map .bool) t]) none=some (.int .i64 (if (u.take c).contains false=true then 12 else 0),hp0,none):=by
 rw [YV]
 rcases Nat.eq_zero_or_pos c with rfl | hpos
 ·have e:Vz (.arr 16 1) (.ptr hq.length 0) none (some (.int .i64 (0:Nat)))=some (.lst 1 []):=rfl
  simp only [e,EV,Zmk h n]
  simp
 ·have e:Vz (.arr 16 1) (.ptr hq.length 0) none (some (.int .i64 c))=some (.arr hq.length 0 c 1):=by
   have:(0:Nat)≠c:=by omega
   have h':(c:Int)≤16:=by omega
   simp [Vz,bound,h',this]
  simp only [e,EV,ZoU (u := u) h n (Ii hq _) c (by omega) (by omega)]
  cases (u.take c).contains false <;> rfl
theorem ZgN {C:Cfg}{L:Nat}(h:St C L)(n:Nat)(hp0 hq:HP)(hh:hp0.length≤hq.length)(t:TypeId)(l:List Int)(hl:l.length < 4611686018427387904):∀ (m i:Nat) (u:List Bool),u.length=16→i≤l.length→l.length - i < m →
  Y7 C.G (Z5 C (n + 2)) C.L hp0 (YV C.G (Z5 C (n + 2)) C.L hp0) m (.ptr hq.length 0) (.int .i64 (EN u)) (.lst 1 (l.map fun x=>[.int .i64 x])) (.int .i64 l.length) (.int .i64 i) (hq ++ [.cells (u.map .bool) t]) none=some (.int .i64 (pcA (l.drop i) u (EN u)),hp0,none)
 | 0,_,_,_,_,h=>absurd h (Nat.not_lt_zero _)
 | m + 1,i,u,hu,hi,hm=>by
  have hcu:=Zkt u
  rw [Y7]
  rcases Nat.lt_or_ge i l.length with hlt | hge
  ·rw [List.drop_eq_getElem_cons hlt,pcA]
   have ex:l[i]? = some l[i]:=List.getElem?_eq_getElem hlt
   generalize l[i]=k at *
   have ei:VX (.slice 1) (.lst 1 (l.map fun x=>[.int .i64 x])) (.int .i64 i)=some (.ref [.int .i64 k]):=by simp [VX,ex]
   have el:decide ((i:Int) < (l.length:Int))=true:=by simp; omega
   have ew:IntKind.i64.wrap ((i:Int) + 1)=((i + 1:Nat):Int):=D6 i (by omega)
   by_cases hb:(decide (k < 0) || decide (16≤k))=true
   ·simp only [EV,el,ei,hb,if_true]
   ·have hk0:¬ k < 0:=fun c=>hb (by simp [c])
    have hk1:¬ 16≤k:=fun c=>hb (by simp [c])
    have e1:VX (.arr 16 1) (.ptr hq.length 0) (.int .i64 k)=some (.ptr hq.length k.toNat):=by
     rw [ZxN hq.length 0 16 1 k (by omega) (by omega),Nat.zero_add,Nat.mul_one]
    have hkl:k.toNat < u.length:=by omega
    obtain ⟨b,eb⟩:∃ b,u[k.toNat]? = some b:=⟨_,List.getElem?_eq_getElem hkl⟩
    have e2:=Z0s (Ii hq (.cells (u.map .bool) t)) k.toNat eb
    rw [if_neg hb,eb]
    cases b with
    | true =>
     have ih:=ZgN h n hp0 hq hh t l hl m (i + 1) u hu (by omega) (by omega)
     simp only [EV,el,ei,hb,e1,e2,ew,if_true,if_false,ih,Bool.not_true,Bool.false_eq_true]
    | false =>
     have e3:=ZjR hq u t k.toNat hkl hp0.length hh
     have e4:=ZbE u k.toNat eb
     have e5:IntKind.i64.wrap ((EN u:Int) + 1)=((EN (u.set k.toNat true):Nat):Int):=by rw [e4]; exact D6 (EN u) (by omega)
     have ih:=ZgN h n hp0 hq hh t l hl m (i + 1) (u.set k.toNat true) (by rw [List.length_set]; exact hu) (by omega) (by omega)
     rw [e4] at ih
     rw [e4] at e5
     simp only [EV,el,ei,hb,e1,e2,e3,e5,ew,if_true,if_false,ih,Bool.not_false,Bool.false_eq_true,Option.some.injEq]
  ·obtain rfl:i=l.length:=by omega
   have el:decide ((l.length:Int) < (l.length:Int))=false:=by simp
   rw [List.drop_length,pcA]
   simp only [EV,el,Bool.false_eq_true,if_false]
   exact ZsR h n hp0 hq u t hu (EN u) (by omega)
end Go.Proofs.YtgjcjbhhhlelnaaGreatDoor
end
section
namespace Go.Proofs.YtgjcjbhhhlelnaaGreatDoor
open Go Go.Proofs.YtgjcjbhhhlelnaaGreatDoor.Abs Go.Proofs.YtgjcjbhhhlelnaaGreatDoor.Tl
set_option maxRecDepth 100000
theorem cells_at {c:AV}{l:List AV}{hp:HP}{g:Nat}{t:TypeId}{cs:List AV}(hg:hp[g]? = some (.cells cs t))(h:cs.map AV.ro=l)(i:Nat)(e:l[i]? = some c):WW hp (.ptr g i)=some c:=by
 rw [Zqx hg,← List.getElem?_map,h,e]
theorem Zq3 {p:Zk}{l:List Int}{avs:List AV}(h:LR [] (tvL tT [.row 19,.lst 1 (.int .i64)] (p,l,())) avs):∃ cs a,avs=[.agg cs,a]∧cs.map AV.ro=X0 p∧AV.ro a=.lst 1 (l.map fun x=>[.int .i64 x]):=by
 cases h with
 | cons _ a h1 _ _ h2=>cases h2 with
  | cons _ b h3 _ _ h4=>cases h4 with
   | nil =>
    cases h1 with
    | row _ _ cs hc=>cases h3 with
     | lst _ _ _ _ hb=>exact ⟨cs,b,rfl,hc,hb⟩
def WB:List Bool:=[false,false,false,false,false,false,false,false,false,false,false,false,false,false,false,false]
def Vo (e:Int)(n m:Nat)(r:Int):Int:=if decide (e≠0)=true then e else if decide ((n:Int)≠(m:Int))=true then 8 else r
theorem Zuc {C:Cfg}{L:Nat}(h:St C L)(n:Nat)(p:Zk)(l:List Int)(hl:l.length < L)(hl':l.length < 4611686018427387904)(hp:HP)(cs:List AV)(a:AV)(hc:cs.map AV.ro=X0 p)(ha:AV.ro a=.lst 1 (l.map fun x=>[.int .i64 x]))(e:Int)
  (hk:Z5 C (n + 2) VK [.agg (X0 p)] (hp ++ [.cells cs ZM])=some (.int .i64 e,hp ++ [.cells cs ZM],none)) :
  Z5 C (n + 3) XL [.agg cs,a] hp=some (.int .i64 (Vo e l.length p.Sites.length (pcA l WB 0)),hp,none):=by
 refine NU (by rw [← Rz]; exact h.T _ _ (by kernel_rfl)) ?_
 have hcl:cs.length=3:=by have:=congrArg List.length hc; rw [List.length_map] at this; exact this
 have e1:Vb (hp ++ [.cells cs ZM]) 3 (.ptr hp.length 0)=some (.agg (X0 p)):=by
  rw [Zqu (Ii hp _) 3 0 (by omega),List.drop_zero,List.take_of_length_le (by omega),hc]
 have e2:=cells_at (Ii hp (.cells cs ZM)) hc 1 rfl
 have e0:Zsd 3 (.agg cs)=some cs:=Zpo 3 cs hcl
 have e3:DT 1 (.ptr hp.length 0)=some (.ptr hp.length 1):=rfl
 have hq:(hp ++ [Zn.cells cs ZM]).length=hp.length + 1:=by simp
 have hm:=ZgN h n hp (hp ++ [.cells cs ZM]) (by omega) Zeb l hl' C.L 0 WB rfl (Nat.zero_le _) (by rw [h.L]; omega)
 simp only [JI,ha,e0,e1,e2,e3,hk,EV,List.length_map,Vo]
 rw [List.drop_zero] at hm
 rw [show (WB.map AV.bool)=[(.bool false),(.bool false),(.bool false),(.bool false),(.bool false),(.bool false),(.bool false),(.bool false),(.bool false),(.bool false),(.bool false),(.bool false),(.bool false),(.bool false),(.bool false),(.bool false)] from rfl] at hm
 rw [show EN WB=0 from rfl] at hm
 by_cases he:decide (e≠0)=true
 ·rw [if_pos he,if_pos he]
 ·rw [if_neg he,if_neg he]
  by_cases hn:decide ((l.length:Int)≠(p.Sites.length:Int))=true
  ·rw [if_pos hn,if_pos hn]
  ·rw [if_neg hn,if_neg hn]
   exact hm
noncomputable def QK (L:Nat)(x:Zk×List Int×PUnit):Option Int:=bT (WH L (x.1,())) fun e=>if x.2.1.length < L∧x.2.1.length < 4611686018427387904 then some (Vo e x.2.1.length x.1.Sites.length (pcA x.2.1 WB 0)) else none
noncomputable def JV (L:Nat):Sum tT:=mU XL [.row 19,.lst 1 (.int .i64)] (.one (.int .i64)) (QK L)
theorem Zmt {C:Cfg}{f:FuncId}{y:Zk×PUnit→Option Int}(hs:Qm C (mU f [.row 19] (.one (.int .i64)) y))(p:Zk){e:Int}(he:y (p,())=some e)(hp:HP):Ev fun n=>Z5 C n f [.agg (X0 p)] hp=some (.int .i64 e,hp,none):=by
 obtain ⟨a,h1,h2⟩:=hs (p,()) hp [.agg (X0 p)] (.cons _ _ (.row _ _ _ (Yv.ro 19 p)) _ _ .nil) e he
 have:=VR.int (h1 [])
 subst this
 exact h2
theorem O6:SX JV:=fun {C L} h=>fun x hp avs hv y hy=>by
 obtain ⟨(p:Zk),(l:List Int),u⟩:=x
 obtain ⟨cs,a,rfl,hc,ha⟩:=Zq3 hv
 change bT (WH L (p,())) _=some y at hy
 cases hq:WH L (p,()) with
 | none=>rw [hq] at hy; cases hy
 | some e =>
  rw [hq] at hy
  simp only [bT] at hy
  split at hy
  ·rename_i hl
   cases hy
   obtain ⟨n0,h0⟩:=Zmt (Zj6 h) p hq (hp ++ [.cells cs ZM])
   refine ⟨.int .i64 _,fun ad=>.av _ _ (.inl rfl),n0 + 3,fun m hm=>?_⟩
   obtain ⟨k,rfl⟩:∃ k,m=k + 3:=⟨m - 3,by omega⟩
   exact Zuc h k p l hl.1 hl.2 hp cs a hc ha e (h0 (k + 2) (by omega))
  ·cases hy
def rcA:List Int→List Bool→Int→Int
 | [],u,m=>if (u.take (m.toNat + 1)).contains false=true then 12 else 0
 | k :: r,u,m=>if (decide (k < 0) || decide (16≤k))=true then 2 else rcA r (u.set k.toNat true) (if k > m then k else m)
theorem ZiF (G:GT)(K:KT)(L:Nat)(hp0 hq:HP)(t:TypeId)(u:List Bool)(hu:u.length=16)(M:Nat)(hM:M < 16):∀ (m i:Nat),i≤M + 1→M + 1 - i < m →
  Xo G K L hp0 (Vr G K L hp0) m (.int .i64 M) (.arr hq.length 0 16 1) (.int .i64 i) (hq ++ [.cells (u.map .bool) t]) none=some (.int .i64 (if ((u.take (M + 1)).drop i).contains false=true then 12 else 0),hp0,none)
 | 0,_,_,h=>absurd h (Nat.not_lt_zero _)
 | m + 1,i,hi,hm=>by
  rw [Xo]
  rcases Nat.lt_or_ge i (M + 1) with hlt | hge
  ·have hl:i < (u.take (M + 1)).length:=by rw [List.length_take]; omega
   rw [List.drop_eq_getElem_cons hl]
   have e:(u.take (M + 1))[i]? = some (u.take (M + 1))[i]:=List.getElem?_eq_getElem hl
   generalize (u.take (M + 1))[i]=b at *
   have e':u[i]? = some b:=by rw [List.getElem?_take_of_lt hlt] at e; exact e
   have ei:=Zqg hq.length 0 16 1 (i:Int) (by omega) (by omega)
   rw [Int.toNat_natCast,Nat.zero_add,Nat.mul_one] at ei
   have ew:IntKind.i64.wrap ((i:Int) + 1)=((i + 1:Nat):Int):=D6 i (by omega)
   have el:decide ((i:Int)≤(M:Int))=true:=by simp; omega
   have ih:=ZiF G K L hp0 hq t u hu M hM m (i + 1) (by omega) (by omega)
   simp only [EV,el,ei,Z0s (Ii hq _) i e',ew,ih,if_true]
   cases b <;> simp
  ·obtain rfl:i=M + 1:=by omega
   rw [List.drop_eq_nil_of_le (by rw [List.length_take]; omega)]
   have el:decide (((M + 1:Nat):Int)≤(M:Int))=false:=by simp; omega
   simp only [EV,el,Vr,Bool.false_eq_true,if_false]
   simp
theorem ZmO {C:Cfg}{L:Nat}(h:St C L)(K:KT)(hp0 hq:HP)(hh:hp0.length≤hq.length)(t:TypeId)(l:List Int)(hl:l.length < 4611686018427387904):∀ (m i:Nat) (u:List Bool) (M:Int),u.length=16→0≤M→M < 16→i≤l.length→l.length - i < m →
  Xn C.G K C.L hp0 (Vq C.G K C.L hp0) m (.lst 1 (l.map fun x=>[.int .i64 x])) (.int .i64 M) (.arr hq.length 0 16 1) (.int .i64 i) (hq ++ [.cells (u.map .bool) t]) none=some (.int .i64 (rcA (l.drop i) u M),hp0,none)
 | 0,_,_,_,_,_,_,_,h=>absurd h (Nat.not_lt_zero _)
 | m + 1,i,u,M,hu,hM0,hM1,hi,hm=>by
  rw [Xn]
  rcases Nat.lt_or_ge i l.length with hlt | hge
  ·rw [List.drop_eq_getElem_cons hlt,rcA]
   have ex:l[i]? = some l[i]:=List.getElem?_eq_getElem hlt
   generalize l[i]=k at *
   have ei:VX (.slice 1) (.lst 1 (l.map fun x=>[.int .i64 x])) (.int .i64 i)=some (.ref [.int .i64 k]):=by simp [VX,ex]
   have el:decide ((i:Int) < (l.length:Int))=true:=by simp; omega
   have ew:IntKind.i64.wrap ((i:Int) + 1)=((i + 1:Nat):Int):=D6 i (by omega)
   by_cases hb:(decide (k < 0) || decide (16≤k))=true
   ·simp only [EV,el,ei,hb,if_true,List.length_map]
   ·have hk0:¬ k < 0:=fun c=>hb (by simp [c])
    have hk1:¬ 16≤k:=fun c=>hb (by simp [c])
    have e1:VX (.slice 1) (.arr hq.length 0 16 1) (.int .i64 k)=some (.ptr hq.length k.toNat):=by
     rw [Zqg hq.length 0 16 1 k (by omega) (by omega),Nat.zero_add,Nat.mul_one]
    have hkl:k.toNat < u.length:=by omega
    rw [if_neg hb]
    have e3:=ZjR hq u t k.toNat hkl hp0.length hh
    have ih:=ZmO h K hp0 hq hh t l hl m (i + 1) (u.set k.toNat true) (if k > M then k else M) (by rw [List.length_set]; exact hu) (by split <;> omega) (by split <;> omega) (by omega) (by omega)
    simp only [EV,el,ei,hb,e1,e3,ew,if_true,if_false,ih,Bool.not_false,Bool.false_eq_true,Option.some.injEq,List.length_map,max2]
  ·obtain rfl:i=l.length:=by omega
   have el:decide ((l.length:Int) < (l.length:Int))=false:=by simp
   rw [List.drop_length,rcA]
   simp only [EV,el,Bool.false_eq_true,if_false,Vq,List.length_map]
   obtain ⟨N,rfl⟩:∃ N:Nat,M=N:=⟨M.toNat,by omega⟩
   exact ZiF C.G K C.L hp0 hq t u hu N (by omega) C.L 0 (Nat.zero_le _) (by rw [h.L]; omega)
theorem Zud {C:Cfg}{L:Nat}(h:St C L)(n:Nat)(p:Zk)(l:List Int)(hl:l.length < L)(hl':l.length < 4611686018427387904)(hp:HP)(cs:List AV)(a:AV)(hc:cs.map AV.ro=X0 p)(ha:AV.ro a=.lst 1 (l.map fun x=>[.int .i64 x]))(e:Int)
  (hk:Z5 C n ZbU [.agg (X0 p)] (hp ++ [.cells cs ZM])=some (.int .i64 e,hp ++ [.cells cs ZM],none)) :
  Z5 C (n + 1) OL [.agg cs,a] hp=some (.int .i64 (Vo e l.length p.Sites.length (rcA l WB 0)),hp,none):=by
 refine Zhz (by rw [← Zc7]; exact h.T _ _ (by kernel_rfl)) ?_
 have hcl:cs.length=3:=by have:=congrArg List.length hc; rw [List.length_map] at this; exact this
 have e1:Vb (hp ++ [.cells cs ZM]) 3 (.ptr hp.length 0)=some (.agg (X0 p)):=by
  rw [Zqu (Ii hp _) 3 0 (by omega),List.drop_zero,List.take_of_length_le (by omega),hc]
 have e2:=cells_at (Ii hp (.cells cs ZM)) hc 1 rfl
 have e0:Zsd 3 (.agg cs)=some cs:=Zpo 3 cs hcl
 have e3:DT 1 (.ptr hp.length 0)=some (.ptr hp.length 1):=rfl
 have e4:ZsZ ZhQ [.bool false] (.int .i64 16) (hp ++ [.cells cs ZM])=some (.arr (hp ++ [Zn.cells cs ZM]).length 0 16 1,hp ++ [Zn.cells cs ZM] ++ [Zn.cells (WB.map .bool) ZhQ]):=rfl
 have hq:(hp ++ [Zn.cells cs ZM]).length=hp.length + 1:=by simp
 have hm:=ZmO h (Z5 C n) hp (hp ++ [.cells cs ZM]) (by omega) ZhQ l hl' C.L 0 WB 0 rfl (Int.le_refl _) (by decide) (Nat.zero_le _) (by rw [h.L]; omega)
 simp only [ND,ha,e0,e1,e2,e3,e4,hk,EV,List.length_map,Vo]
 rw [List.drop_zero] at hm
 by_cases he:decide (e≠0)=true
 ·rw [if_pos he,if_pos he]
 ·rw [if_neg he,if_neg he]
  by_cases hn:decide ((l.length:Int)≠(p.Sites.length:Int))=true
  ·rw [if_pos hn,if_pos hn]
  ·rw [if_neg hn,if_neg hn]
   exact hm
noncomputable def H5 (L:Nat)(x:Zk×List Int×PUnit):Option Int:=bT (VI L (x.1,())) fun e=>if x.2.1.length < L∧x.2.1.length < 4611686018427387904 then some (Vo e x.2.1.length x.1.Sites.length (rcA x.2.1 WB 0)) else none
noncomputable def SY (L:Nat):Sum tT:=mU OL [.row 19,.lst 1 (.int .i64)] (.one (.int .i64)) (H5 L)
theorem ZdP:SX SY:=fun {C L} h=>fun x hp avs hv y hy=>by
 obtain ⟨(p:Zk),(l:List Int),u⟩:=x
 obtain ⟨cs,a,rfl,hc,ha⟩:=Zq3 hv
 change bT (VI L (p,())) _=some y at hy
 cases hq:VI L (p,()) with
 | none=>rw [hq] at hy; cases hy
 | some e =>
  rw [hq] at hy
  simp only [bT] at hy
  split at hy
  ·rename_i hl
   cases hy
   obtain ⟨n0,h0⟩:=Zmt (ZlX h) p hq (hp ++ [.cells cs ZM])
   refine ⟨.int .i64 _,fun ad=>.av _ _ (.inl rfl),n0 + 1,fun m hm=>?_⟩
   obtain ⟨k,rfl⟩:∃ k,m=k + 1:=⟨m - 1,by omega⟩
   exact Zud h k p l hl.1 hl.2 hp cs a hc ha e (h0 k (by omega))
  ·cases hy
end Go.Proofs.YtgjcjbhhhlelnaaGreatDoor
end
section
namespace Go.Proofs.YtgjcjbhhhlelnaaGreatDoor
open Go Go.Proofs.YtgjcjbhhhlelnaaGreatDoor.Abs Go.Proofs.YtgjcjbhhhlelnaaGreatDoor.Tl
set_option maxRecDepth 100000
theorem ZbF (a:AV):∀ N:Nat,(List.replicate N [a]).flatten=List.replicate N a
 | 0=>rfl
 | N + 1=>by rw [List.replicate_succ,List.replicate_succ,List.flatten_cons,ZbF a N]; rfl
end Go.Proofs.YtgjcjbhhhlelnaaGreatDoor
end
section
namespace Go.Proofs.YtgjcjbhhhlelnaaGreatDoor
open Go Go.Proofs.YtgjcjbhhhlelnaaGreatDoor.Abs Go.Proofs.YtgjcjbhhhlelnaaGreatDoor.Tl
set_option maxRecDepth 100000
def lastT:List Bool→Nat
 | []=>0
 | _ :: l=>if l.any id=true then lastT l + 1 else 0
theorem ZpD:∀ u:List Bool,u.any id=true→0 < EN u
 | [],h=>by cases h
 | true :: l,_=>by rw [EN]; omega
 | false :: l,h=>by rw [EN]; exact ZpD l (by simpa using h)
theorem Zm1:∀ u:List Bool,u.any id=false→EN u=0
 | [],_=>rfl
 | true :: l,h=>by simp at h
 | false :: l,h=>by rw [EN]; exact Zm1 l (by simpa using h)
theorem ZiS:∀ u:List Bool,u.any id=true→((u.take (EN u)).contains false=true↔∃ k,k≤lastT u∧u[k]? = some false)
 | [],h=>by cases h
 | false :: l,h=>by
  have hl:l.any id=true:=by simpa using h
  have:=ZpD l hl
  obtain ⟨n,hn⟩:∃ n,EN l=n + 1:=⟨EN l - 1,by omega⟩
  rw [EN,hn,List.take_succ_cons]
  exact ⟨fun _=>⟨0,Nat.zero_le _,rfl⟩,fun _=>by simp⟩
 | true :: l,h=>by
  rw [EN,List.take_succ_cons,lastT]
  by_cases hl:l.any id=true
  ·rw [if_pos hl]
   have ih:=ZiS l hl
   refine ⟨fun hc=>?_,fun ⟨k,h1,h2⟩=>?_⟩
   ·obtain ⟨k,h1,h2⟩:=ih.1 (by simpa using hc)
    exact ⟨k + 1,by omega,by simpa using h2⟩
   ·cases k with
    | zero=>simp at h2
    | succ k =>
     have:=ih.2 ⟨k,by omega,by simpa using h2⟩
     simpa using this
  ·rw [Bool.not_eq_true] at hl
   rw [if_neg (by simp [hl]),Zm1 l hl,List.take_zero]
   refine ⟨fun hc=>by simp at hc,fun ⟨k,h1,h2⟩=>?_⟩
   obtain rfl:k=0:=by omega
   simp at h2
theorem Zgs:∀ (u:List Bool) (k:Nat),k < u.length→(u.set k true).any id=true
 | [],k,h=>by simp at h
 | b :: l,0,h=>by simp
 | b :: l,k + 1,h=>by
  have:=Zgs l k (by simpa using h)
  rw [List.set_cons_succ,List.any_cons,this,Bool.or_true]
theorem Zde:∀ (u:List Bool) (k:Nat),k < u.length→lastT (u.set k true)=if u.any id=true then max (lastT u) k else k
 | [],k,h=>by simp at h
 | b :: l,0,h=>by
  rw [List.set_cons_zero,lastT,lastT]
  by_cases hl:l.any id=true
  ·rw [if_pos hl,if_pos (by simp only [List.any_cons,hl,Bool.or_true])]; omega
  ·rw [if_neg hl]; split <;> omega
 | b :: l,k + 1,h=>by
  have hk:k < l.length:=by simpa using h
  have ih:=Zde l k hk
  rw [List.set_cons_succ,lastT,if_pos (Zgs l k hk),ih,lastT]
  by_cases hl:l.any id=true
  ·rw [if_pos hl,if_pos (by simp only [List.any_cons,hl,Bool.or_true]),if_pos hl]; omega
  ·rw [if_neg hl,if_neg hl]; split <;> omega
theorem ZtQ (u:List Bool)(k:Nat)(h:u[k]? = some true):u.set k true=u:=by
 refine List.ext_getElem? fun i=>?_
 rw [List.getElem?_set]
 split
 ·rename_i e; subst e; rw [h]; split
  ·rfl
  ·rename_i c; rw [List.getElem?_eq_none (by omega)] at h; cases h
 ·rfl
theorem Zn1 (u:List Bool)(n:Nat):(u.take (n + 1)).contains false=true↔∃ k,k≤n∧u[k]? = some false:=by
 rw [List.contains_iff_mem,List.mem_iff_getElem?]
 refine ⟨fun ⟨k,h⟩=>?_,fun ⟨k,h1,h2⟩=>⟨k,?_⟩⟩
 ·rw [List.getElem?_take] at h
  split at h
  ·exact ⟨k,by omega,h⟩
  ·cases h
 ·rw [List.getElem?_take,if_pos (by omega)]; exact h2
theorem ZrI:∀ (l:List Int) (u:List Bool),u.length=16→u.any id=true→pcA l u (EN u)=rcA l u (lastT u:Nat)
 | [],u,hu,ha=>by
  rw [pcA,rcA,Int.toNat_natCast]
  have h1:=ZiS u ha
  have h2:=Zn1 u (lastT u)
  by_cases h:∃ k,k≤lastT u∧u[k]? = some false
  ·rw [if_pos (h1.2 h),if_pos (h2.2 h)]
  ·rw [if_neg (fun c=>h (h1.1 c)),if_neg (fun c=>h (h2.1 c))]
 | k :: r,u,hu,ha=>by
  rw [pcA,rcA]
  by_cases hb:(decide (k < 0) || decide (16≤k))=true
  ·rw [if_pos hb,if_pos hb]
  ·rw [if_neg hb,if_neg hb]
   have hk0:¬ k < 0:=fun c=>hb (by simp [c])
   have hk1:¬ 16≤k:=fun c=>hb (by simp [c])
   have hl:k.toNat < u.length:=by omega
   have h3:=Zde u k.toNat hl
   rw [if_pos ha] at h3
   have ih:=ZrI r (u.set k.toNat true) (by rw [List.length_set]; exact hu) (Zgs u _ hl)
   have hm:(if k > (lastT u:Int) then k else (lastT u:Int))=((lastT (u.set k.toNat true):Nat):Int):=by rw [h3]; split <;> omega
   rw [hm,← ih]
   split
   ·rename_i e
    rw [ZtQ u _ e]
   ·rename_i e
    have e':u[k.toNat]? = some false:=by
     rw [List.getElem?_eq_getElem hl] at e ⊢
     cases hx:u[k.toNat] with
     | true=>rw [hx] at e; exact absurd rfl e
     | false=>rfl
    rw [ZbE u _ e']
theorem Ziu (l:List Int)(hl:l≠[]):pcA l WB 0=rcA l WB 0:=by
 cases l with
 | nil=>exact absurd rfl hl
 | cons k r =>
  rw [pcA,rcA]
  by_cases hb:(decide (k < 0) || decide (16≤k))=true
  ·rw [if_pos hb,if_pos hb]
  ·rw [if_neg hb,if_neg hb]
   have hk0:¬ k < 0:=fun c=>hb (by simp [c])
   have hk1:¬ 16≤k:=fun c=>hb (by simp [c])
   have hl:k.toNat < WB.length:=by simp only [WB,List.length_cons,List.length_nil]; omega
   have e:WB[k.toNat]? = some false:=by
    have:WB=List.replicate 16 false:=rfl
    rw [this,List.getElem?_replicate,if_pos (by omega)]
   have h3:=Zde WB k.toNat hl
   rw [if_neg (by decide)] at h3
   have hm:(if k > 0 then k else 0)=((lastT (WB.set k.toNat true):Nat):Int):=by rw [h3]; split <;> omega
   rw [hm,← ZrI r (WB.set k.toNat true) (by rw [List.length_set]; rfl) (Zgs WB _ hl),e,if_neg (by simp),ZbE WB _ e]
   rfl
def mxA:List Int→Int→Int
 | [],m=>m
 | k :: r,m=>mxA r (if k > m then k else m)
def Good (l:List Int):Prop:=(∀ x ∈ l,0≤x∧x < 16)∧∀ v:Nat,(v:Int)≤mxA l 0→(v:Int) ∈ l
theorem Zru:∀ (l:List Int) (u:List Bool) (m:Int),u.length=16→0≤m→m < 16 →
  (rcA l u m=0↔(∀ x ∈ l,0≤x∧x < 16)∧∀ v:Nat,(v:Int)≤mxA l m→u[v]? = some true∨(v:Int) ∈ l)
 | [],u,m,hu,h0,h1=>by
  rw [rcA,mxA]
  have ht:=Zn1 u m.toNat
  constructor
  ·intro h
   refine ⟨fun x hx=>(by cases hx),fun v hv=>.inl ?_⟩
   have hn:¬ ∃ k,k≤m.toNat∧u[k]? = some false:=fun c=>by rw [if_pos (ht.2 c)] at h; cases h
   have hl:v < u.length:=by omega
   rw [List.getElem?_eq_getElem hl]
   cases hx:u[v] with
   | true=>rfl
   | false=>exact absurd ⟨v,by omega,by rw [List.getElem?_eq_getElem hl,hx]⟩ hn
  ·intro ⟨_,h⟩
   rw [if_neg]
   intro c
   obtain ⟨k,h2,h3⟩:=ht.1 c
   rcases h k (by omega) with h4 | h4
   ·rw [h3] at h4; cases h4
   ·cases h4
 | k :: r,u,m,hu,h0,h1=>by
  rw [rcA,mxA]
  by_cases hb:(decide (k < 0) || decide (16≤k))=true
  ·rw [if_pos hb]
   refine ⟨fun h=>(by cases h),fun ⟨h,_⟩=>?_⟩
   have:=h k (List.mem_cons_self ..)
   simp only [Bool.or_eq_true,decide_eq_true_eq] at hb
   omega
  ·rw [if_neg hb]
   have hk0:¬ k < 0:=fun c=>hb (by simp [c])
   have hk1:¬ 16≤k:=fun c=>hb (by simp [c])
   have ih:=Zru r (u.set k.toNat true) (if k > m then k else m) (by rw [List.length_set]; exact hu) (by split <;> omega) (by split <;> omega)
   rw [ih]
   have hs:∀ v:Nat,(u.set k.toNat true)[v]? = some true↔(u[v]? = some true∨(v:Int)=k):=fun v=>by
    rw [List.getElem?_set]
    by_cases e:k.toNat=v
    ·rw [if_pos e,if_pos (by omega)]
     exact ⟨fun _=>.inr (by omega),fun _=>rfl⟩
    ·rw [if_neg e]
     exact ⟨.inl,fun h=>h.resolve_right (by omega)⟩
   constructor
   ·rintro ⟨h2,h3⟩
    refine ⟨fun x hx=>?_,fun v hv=>?_⟩
    ·rcases List.mem_cons.1 hx with rfl | hx
     ·omega
     ·exact h2 x hx
    ·rcases h3 v hv with h4 | h4
     ·rcases (hs v).1 h4 with h5 | h5
      ·exact .inl h5
      ·exact .inr (by rw [h5]; exact List.mem_cons_self ..)
     ·exact .inr (List.mem_cons_of_mem _ h4)
   ·rintro ⟨h2,h3⟩
    refine ⟨fun x hx=>h2 x (List.mem_cons_of_mem _ hx),fun v hv=>?_⟩
    rcases h3 v hv with h4 | h4
    ·exact .inl ((hs v).2 (.inl h4))
    ·rcases List.mem_cons.1 h4 with h5 | h5
     ·exact .inl ((hs v).2 (.inr h5))
     ·exact .inr h5
theorem ZnU (v:Nat):WB[v]? = some true↔False:=by
 have:WB=List.replicate 16 false:=rfl
 rw [this,List.getElem?_replicate]
 split <;> simp
theorem Zs7 (l:List Int)(hl:l≠[]):pcA l WB 0=0↔Good l:=by
 rw [Ziu l hl,Zru l WB 0 rfl (Int.le_refl _) (by decide)]
 simp only [ZnU,false_or]; exact Iff.rfl
end Go.Proofs.YtgjcjbhhhlelnaaGreatDoor
end
noncomputable section
namespace Go.Proofs.YtgjcjbhhhlelnaaGreatDoor
open Go Go.Proofs.YtgjcjbhhhlelnaaGreatDoor.Abs Go.Proofs.YtgjcjbhhhlelnaaGreatDoor.Tl
set_option maxRecDepth 100000
set_option maxHeartbeats 0
def Ed (L:Nat)(x:Zk×(List Int)×PUnit):Option Bool:=fT [] L Zcb [] (.one .bool) [.row 19,.lst 1 (.int .i64)] x
def Zee (L:Nat):Sum tT:=mU 9 [.row 19,.lst 1 (.int .i64)] (.one .bool) (Ed L)
theorem ZlK:SX Zee:=fun h=>sT h Zp rfl (by kernel_rfl) fun _=>rfl
theorem Zlf (L:Nat)(x0:Zk)(x1:(List Int)):Ed L (x0,x1,())=some (decide ((↑x0.2.length:Int)≤20) && decide ((↑x0.3.length:Int)≤40) && decide ((↑x1.length:Int)≤40)):=by kernel_rfl
def Un (L:Nat)(x:(List UF)×(List UF)×PUnit):Option Bool:=fT [] L PD [.rnd [.slot 5 (.int .i64)]] (.one .bool) [.lst 3 (.row 18),.lst 3 (.row 18)] x
def Nj (L:Nat):Sum tT:=mU 15 [.lst 3 (.row 18),.lst 3 (.row 18)] (.one .bool) (Un L)
theorem Zfe:SX Nj:=fun h=>sT h Zp rfl (by kernel_rfl) fun _=>rfl
def Jm:List UF→List UF→(Int×PUnit→Option Bool)→Int×PUnit→Option Bool:=fun x0 x1 self acc=>bif decide (acc.1 < (↑x0.length:Int)) then bT (ZL x0 acc.1) fun y=>bT (ZL x1 acc.1) fun y_1=>bif !(y.1 == y_1.1 && (y.2 == y_1.2 && (y.3 == y_1.3 && true))) then some false else self (Go.IntKind.i64.wrap (acc.1 + 1),()) else some true
theorem ZeW (L:Nat)(x0:(List UF))(x1:(List UF)):Un L (x0,x1,())=bif (↑x0.length:Int) != (↑x1.length:Int) then some false else Zt (Jm x0 x1) L (0,()):=by kernel_rfl
def QL (L:Nat)(x:Zk×(List Int)×PUnit):Option (List UF):=fT [JV L] L Rt [.rnd [.slot 5 (.own 3 (.row 18)),.slot 15 (.int .i64)]] (.one (.lst 3 (.row 18))) [.row 19,.lst 1 (.int .i64)] x
def Ho (L:Nat):Sum tT:=mU 16 [.row 19,.lst 1 (.int .i64)] (.one (.lst 3 (.row 18))) (QL L)
theorem Bq:SX Ho:=fun h=>sT h (Zb (O6 h) Zp) rfl (by kernel_rfl) fun _=>rfl
def Qk:Zk→List Int→(List UF×Int×PUnit→Option (List UF))→List UF×Int×PUnit→Option (List UF):=fun x0 x1 self acc=>bif decide (acc.2.1 < (↑x0.3.length:Int)) then bT (ZL x0.3 acc.2.1) fun y=>bT (ZL x1 y.1) fun y_1=>bT (ZL x1 y.2) fun y_2=>bif y_1 != y_2 then bT (apT 24 acc.1 [y]) fun y=>self (y,Go.IntKind.i64.wrap (acc.2.1 + 1),()) else self (acc.1,Go.IntKind.i64.wrap (acc.2.1 + 1),()) else some acc.1
theorem Zd5 (L:Nat)(x0:Zk)(x1:(List Int)):QL L (x0,x1,())=bT (QK L (x0,x1,())) fun y=>bif y != 0 then some [] else Zt (Qk x0 x1) L ([],0,()):=by kernel_rfl
def OH (L:Nat)(x:Zk×(List Int)×PUnit):Option (List UF):=fT [SY L] L Zif [.rnd [.slot 5 (.own 3 (.row 18)),.slot 6 (.int .i64)]] (.one (.lst 3 (.row 18))) [.row 19,.lst 1 (.int .i64)] x
def Zex (L:Nat):Sum tT:=mU 17 [.row 19,.lst 1 (.int .i64)] (.one (.lst 3 (.row 18))) (OH L)
theorem ZjK:SX Zex:=fun h=>sT h (Zb (ZdP h) Zp) rfl (by kernel_rfl) fun _=>rfl
def ZfX:Zk→List Int→(List UF×Int×PUnit→Option (List UF))→List UF×Int×PUnit→Option (List UF):=fun x0 x1 self acc=>bif decide (acc.2.1 < (↑x0.3.length:Int)) then bT (ZL x0.3 acc.2.1) fun y=>bT (ZL x1 y.1) fun y_1=>bT (ZL x1 y.2) fun y_2=>bif y_1 != y_2 then bT (apT 24 acc.1 [y]) fun y=>self (y,Go.IntKind.i64.wrap (acc.2.1 + 1),()) else self (acc.1,Go.IntKind.i64.wrap (acc.2.1 + 1),()) else some acc.1
theorem Zrp (L:Nat)(x0:Zk)(x1:(List Int)):OH L (x0,x1,())=bT (H5 L (x0,x1,())) fun y=>bif y != 0 then some [] else Zt (ZfX x0 x1) L ([],0,()):=by kernel_rfl
def XW (L:Nat)(x:Zk×(List Int)×PUnit):Option (Int×Bool×PUnit):=fT [Ho L] L Oh [.rnd [.slot 7 (.int .i64),.slot 22 (.int .i64)]] (.tup [.int .i64,.bool]) [.row 19,.lst 1 (.int .i64)] x
def OA (L:Nat):Sum tT:=mU 11 [.row 19,.lst 1 (.int .i64)] (.tup [.int .i64,.bool]) (XW L)
theorem CY:SX OA:=fun h=>sT h (Zb (Bq h) Zp) rfl (by kernel_rfl) fun _=>rfl
def Qs:List UF→(Int×Int×PUnit→Option (Int×Bool×PUnit))→Int×Int×PUnit→Option (Int×Bool×PUnit):=fun y self acc=>bif decide (acc.2.1 < (↑y.length:Int)) then bT (ZL y acc.2.1) fun y=>self (if y.3 < acc.1 then y.3 else acc.1,Go.IntKind.i64.wrap (acc.2.1 + 1),()) else some (acc.1,true,())
theorem CS (L:Nat)(x0:Zk)(x1:(List Int)):XW L (x0,x1,())=bT (QL L (x0,x1,())) fun y=>bif (↑y.length:Int) == 0 then some (0,false,()) else bT (ZL y 0) fun y_1=>Zt (Qs y) L (y_1.3,0,()):=by kernel_rfl
def MO (L:Nat)(x:Zk×(List Int)×PUnit):Option (Int×Bool×PUnit):=fT [Zex L] L Zc1 [.rnd [.slot 7 (.int .i64),.slot 8 (.int .i64)]] (.tup [.int .i64,.bool]) [.row 19,.lst 1 (.int .i64)] x
def Zey (L:Nat):Sum tT:=mU 12 [.row 19,.lst 1 (.int .i64)] (.tup [.int .i64,.bool]) (MO L)
theorem Zmd:SX Zey:=fun h=>sT h (Zb (ZjK h) Zp) rfl (by kernel_rfl) fun _=>rfl
def Zj1:List UF→(Int×Int×PUnit→Option (Int×Bool×PUnit))→Int×Int×PUnit→Option (Int×Bool×PUnit):=fun y self acc=>bif decide (acc.2.1 < (↑y.length:Int)) then bT (ZL y acc.2.1) fun y=>self (if y.3 < acc.1 then y.3 else acc.1,Go.IntKind.i64.wrap (acc.2.1 + 1),()) else some (acc.1,true,())
theorem Zl7 (L:Nat)(x0:Zk)(x1:(List Int)):MO L (x0,x1,())=bT (OH L (x0,x1,())) fun y=>bif (↑y.length:Int) == 0 then some (0,false,()) else bT (ZL y 0) fun y_1=>Zt (Zj1 y) L (y_1.3,0,()):=by kernel_rfl
def Xg (L:Nat)(x:Zk×(List Int)×PUnit):Option Bool:=fT [ZrF,Nj L,Zex L,Ho L,SY L,JV L,Zey L,OA L,Zee L] L VZ [] (.one .bool) [.row 19,.lst 1 (.int .i64)] x
def TU (L:Nat):Sum tT:=mU 3 [.row 19,.lst 1 (.int .i64)] (.one .bool) (Xg L)
theorem Tz:SX TU:=fun h=>sT h (Zb (Zw9 h) (Zb (Zfe h) (Zb (ZjK h) (Zb (Bq h) (Zb (ZdP h) (Zb (O6 h) (Zb (Zmd h) (Zb (CY h) (Zb (ZlK h) Zp))))))))) rfl (by kernel_rfl) fun _=>rfl
theorem Tm (L:Nat)(x0:Zk)(x1:(List Int)):Xg L (x0,x1,())=bT (Ed L (x0,x1,())) fun y=>bif !y then some true else bT (XW L (x0,x1,())) fun y=>bT (MO L (x0,x1,())) fun y_1=>bT (bT (QK L (x0,x1,())) fun y=>some y) fun y_2=>bT (bT (H5 L (x0,x1,())) fun y=>some y) fun y_3=>bT (bif (y_2 == y_3) == true then bT (bT (QL L (x0,x1,())) fun y=>some y) fun y=>bT (bT (OH L (x0,x1,())) fun y=>some y) fun y_4=>bT (bT (Un L (y,y_4,())) fun y=>some y) fun y=>some y else some false) fun y_4=>some (y_4 && y.1 == y_1.1 && y.2.1 == y_1.2.1 && true):=by kernel_rfl
end Go.Proofs.YtgjcjbhhhlelnaaGreatDoor
end
section
namespace Go.Proofs.YtgjcjbhhhlelnaaGreatDoor
open Go Go.Proofs.YtgjcjbhhhlelnaaGreatDoor.Abs Go.Proofs.YtgjcjbhhhlelnaaGreatDoor.Tl
set_option maxRecDepth 100000
theorem Zl {α:Type}(c:Bool)(a b:α):(bif c then some a else some b)=some (bif c then a else b):=by cases c <;> rfl
theorem Zm (c:Bool)(x:Option Bool):(bif c == true then x else some false)=bif c then x else some false:=by cases c <;> rfl
theorem condC (c:Bool)(x:Option Bool):(bif c == false then x else some true)=bif c then some true else x:=by cases c <;> rfl
theorem Zi (c x:Bool):(bif c == true then x else false)=(c && x):=by cases c <;> rfl
theorem Zh (c x:Bool):(bif c == false then x else true)=(c || x):=by cases c <;> rfl
theorem Xp {α:Type}(c:Prop)[Decidable c](a b:α):(if c then some a else some b)=some (if c then a else b):=by split <;> rfl
theorem Yu {α:Type}(c:Bool)(a b:α):(bif c then a else b)=if c=true then a else b:=by cases c <;> rfl
theorem Za {α:Type}(o:Option α):bT o (fun y=>some y)=o:=by cases o <;> rfl
theorem ZA {α:Type}[DecidableEq α](a b:α):(a != b)=!decide (a=b):=by
 by_cases h:a=b <;> simp [bne,h]
theorem ZI (a b:Int):(a == b)=decide (a=b):=by
 by_cases h:a=b <;> simp [h]
theorem ZR (a b:List UInt8):(a == b)=decide (a=b):=by
 by_cases h:a=b <;> simp [h]
abbrev Len {α:Type}(l:List α):Prop:=l.length≤4611686018427387
theorem Zdg {τ ρ:Type}{f:(τ→Option ρ)→τ→Option ρ}(n:Nat)(pk:Int→τ)(R:Nat→Option ρ)
  (h1:∀ self (i:Nat),i < n→self (pk ((i:Int) + 1))=R (i + 1)→f self (pk i)=R i)
  (h2:∀ self,f self (pk n)=R n):∀ (m i:Nat),i≤n→n - i < m→Zt f m (pk i)=R i
 | 0,_,_,h=>absurd h (Nat.not_lt_zero _)
 | m + 1,i,hi,hm=>by
  show f (Zt f m) (pk i)=_
  rcases Nat.lt_or_ge i n with hlt | hge
  ·exact h1 _ i hlt (Zdg n pk R h1 h2 m (i + 1) hlt (by omega))
  ·have:i=n:=by omega
   subst this
   exact h2 _
theorem ZiH {τ α σ ρ:Type}{f:(τ→Option ρ)→τ→Option ρ}(l:List α)(pk:σ→Int→τ)(R:List α→σ→Option ρ)
  (h1:∀ self s (i:Nat) x r,l[i]? = some x→i < l.length→x ∈ l→(∀ s',self (pk s' ((i:Int) + 1))=R r s')→f self (pk s i)=R (x :: r) s)
  (h2:∀ self s,f self (pk s (l.length:Nat))=R [] s):∀ (m i:Nat) (s:σ),i≤l.length→l.length - i < m→Zt f m (pk s i)=R (l.drop i) s
 | 0,_,_,_,h=>absurd h (Nat.not_lt_zero _)
 | m + 1,i,s,hi,hm=>by
  show f (Zt f m) (pk s i)=_
  rcases Nat.lt_or_ge i l.length with hlt | hge
  ·have hx:=List.getElem?_eq_getElem hlt
   rw [List.drop_eq_getElem_cons hlt]
   exact h1 _ s i _ _ hx hlt (List.getElem_mem hlt) fun s'=>ZiH l pk R h1 h2 m (i + 1) s' hlt (by omega)
  ·have:i=l.length:=by omega
   subst this
   rw [h2,List.drop_length]
theorem CB {α ρ:Type}{f:(Int×PUnit→Option ρ)→Int×PUnit→Option ρ}(l:List α)(R:List α→Option ρ){m:Nat}(hm:l.length < m)
  (h1:∀ self (i:Nat) x r,l[i]? = some x→i < l.length→x ∈ l→self ((i:Int) + 1,())=R r→f self ((i:Int),())=R (x :: r))
  (h2:∀ self,f self ((l.length:Int),())=R []):Zt f m (0,())=R l :=
 ZiH (σ := Unit) l (fun _ i=>(i,())) (fun l _=>R l) (fun self _ i x r a b c d=>h1 self i x r a b c (d ())) (fun self _=>h2 self) m 0 () (Nat.zero_le _) (by omega)
theorem ZkA {α ρ:Type}{f:(Int×PUnit→Option ρ)→Int×PUnit→Option ρ}(l:List α)(R:List α→Int→Option ρ){m:Nat}(hm:l.length < m)
  (h1:∀ self (i:Nat) x r,l[i]? = some x→i < l.length→x ∈ l→self ((i:Int) + 1,())=R r ((i:Int) + 1)→f self ((i:Int),())=R (x :: r) i)
  (h2:∀ self,f self ((l.length:Int),())=R [] l.length):Zt f m (0,())=R l 0:=by
 have:=Zdg (f := f) l.length (fun i=>(i,())) (fun i=>R (l.drop i) i) (fun self i hi e=>by
  have hx:=List.getElem?_eq_getElem hi
  rw [List.drop_eq_getElem_cons hi]
  exact h1 self i _ _ hx hi (List.getElem_mem hi) e) (fun self=>by rw [List.drop_length]; exact h2 self) m 0 (Nat.zero_le _) (by omega)
 exact this
theorem CE {α σ ρ:Type}{f:(σ×Int×PUnit→Option ρ)→σ×Int×PUnit→Option ρ}(l:List α)(R:List α→σ→Option ρ){m:Nat}(hm:l.length < m)(s:σ)
  (h1:∀ self s (i:Nat) x r,l[i]? = some x→i < l.length→x ∈ l→(∀ s',self (s',(i:Int) + 1,())=R r s')→f self (s,(i:Int),())=R (x :: r) s)
  (h2:∀ self s,f self (s,(l.length:Int),())=R [] s):Zt f m (s,0,())=R l s :=
 ZiH l (fun s i=>(s,i,())) R h1 h2 m 0 s (Nat.zero_le _) (by omega)
theorem ZeO {α β ρ:Type}{f:(Int×PUnit→Option ρ)→Int×PUnit→Option ρ}(l:List α)(l':List β)(hl:l.length=l'.length)(R:List α→List β→Option ρ){m:Nat}(hm:l.length < m)
  (h1:∀ self (i:Nat) x y r r',l[i]? = some x→l'[i]? = some y→i < l.length→x ∈ l→self ((i:Int) + 1,())=R r r'→f self ((i:Int),())=R (x :: r) (y :: r'))
  (h2:∀ self,f self ((l.length:Int),())=R [] []):Zt f m (0,())=R l l':=by
 have:=Zdg (f := f) l.length (fun i=>(i,())) (fun i=>R (l.drop i) (l'.drop i)) (fun self i hi e=>by
  have hx:=List.getElem?_eq_getElem hi
  have hy:=List.getElem?_eq_getElem (show i < l'.length by omega)
  rw [List.drop_eq_getElem_cons hi,List.drop_eq_getElem_cons (show i < l'.length by omega)]
  exact h1 self i _ _ _ _ hx hy hi (List.getElem_mem hi) e) (fun self=>by rw [List.drop_length,hl,List.drop_length]; rw [← hl]; exact h2 self) m 0 (Nat.zero_le _) (by omega)
 exact this
end Go.Proofs.YtgjcjbhhhlelnaaGreatDoor
end
section
namespace Go.Proofs.YtgjcjbhhhlelnaaGreatDoor
open Go Go.Proofs.YtgjcjbhhhlelnaaGreatDoor.Abs Go.Proofs.YtgjcjbhhhlelnaaGreatDoor.Tl
set_option maxRecDepth 100000
theorem Znf (L:Nat)(n:Int):Vw L (n,())=some (Zuv n):=ZeR L n
theorem Zdv (L:Nat)(n:Int):UA L (n,())=some (Zuv n):=Zjp L n
theorem chainB (x:List UInt8):∀ l:List (List UInt8),(l.foldr (fun k r=>bif x == k then some true else r) (some false):Option Bool)=some (l.any fun k=>decide (x=k))
 | []=>rfl
 | k :: l=>by
  rw [List.foldr_cons,chainB x l,ZR,List.any_cons]
  cases decide (x=k) <;> rfl
theorem ZqS (L:Nat)(s:List UInt8):Ju L (s,())=some (kwB s):=(Zd4 L s).trans (chainB s kws)
theorem ZiT (L:Nat)(l:List (List UInt8))(s:List UInt8)(hl:Len l)(hL:l.length < L):VW L (l,s,())=some (GG (fun k=>decide (k=s)) l 0):=by
 rw [Zot]
 refine ZkA l (fun l i=>some (GG (fun k=>decide (k=s)) l i)) hL (fun self i x r hx hi _ e=>?_) (fun self=>?_)
 ·rw [Sl]; simp only [Zj,Zd,cond_true,cond_false,Zg,Zz,Za,Zm,condC,Zi,Zh,Zl,ZI,ZR,ZA,hi,hx,wrap_succ hi (by omega),e,GG]; simp only [Yu,Xp,if_true,if_false,Bool.false_eq_true,ne_eq,decide_not,gt_iff_lt,ge_iff_le]
 ·rw [Sl]; simp only [Zj,Zd,cond_true,cond_false,Zg,Zz,Za,Zm,condC,Zi,Zh,Zl,ZI,ZR,ZA,GG]
theorem ZiX (L:Nat)(s:List UInt8)(hL:100≤L):Gf L (s,())=some (kwB s):=by
 rw [Zhu,show Uk L ()=some kws from ZeT L,Zz,ZiT L kws s (by decide) (by have:kws.length=73:=rfl; omega),Zz]
 have:=Ci (fun k=>decide (k=s)) kws 0 (Int.le_refl _)
 rw [show decide (GG (fun k=>decide (k=s)) kws 0 ≥ 0)=_ from this]
 unfold kwB
 congr 2; funext k; exact decide_eq_decide.2 ⟨Eq.symm,Eq.symm⟩
theorem ZmT (s:List UInt8):V9 s=bif (decide (s=[]) || decide ((s.length:Int) > 24)) || (!Zuv ((s.headD 0).toNat)) || kwB s then 3 else bif s.all (fun x=>Zg5 x.toNat) then 0 else 3:=by
 cases s with
 | nil=>simp [V9]
 | cons c r =>
  simp only [V9,List.headD_cons,reduceCtorEq,decide_false,Bool.false_or]
  rw [show (decide ((((c :: r).length:Nat):Int) > 24))=decide (24 < (c :: r).length) from decide_eq_decide.2 (by omega)]
  by_cases h1:24 < (c :: r).length <;> cases Zuv (c.toNat:Int) <;> cases kwB (c :: r) <;> cases (c :: r).all (fun x=>Zg5 x.toNat) <;> simp [h1]
theorem ZvJ (c:Bool)(x:UInt8):(!c && (decide ((x.toNat:Int) < 48) || decide ((x.toNat:Int) > 57)) && (!decide ((x.toNat:Int)=95)))=!(c || decide ((x.toNat:Int)=95) || (decide (48≤(x.toNat:Int)) && decide ((x.toNat:Int)≤57))):=by
 rw [show decide (48≤(x.toNat:Int))=!decide ((x.toNat:Int) < 48) by rw [← decide_not]; congr 1; exact propext Int.not_lt.symm,show decide ((x.toNat:Int)≤57)=!decide ((x.toNat:Int) > 57) by rw [← decide_not]; congr 1; exact propext Int.not_lt.symm]
 cases c <;> cases decide ((x.toNat:Int)=95) <;> cases decide ((x.toNat:Int) < 48) <;> cases decide ((x.toNat:Int) > 57) <;> rfl
theorem ZvI (L:Nat)(s:List UInt8)(h:Len s)(hL:s.length < L):Zt (Ug s L) L (0,())=some (bif s.all (fun x=>Zg5 x.toNat) then 0 else 3):=by
 refine CB s (fun s=>some (bif s.all (fun x=>Zg5 x.toNat) then 0 else 3)) hL (fun self i x r hx hi _ e=>?_) (fun self=>?_)
 ·rw [Ug]
  simp only [Zj,Zd,cond_true,cond_false,Zg,Zz,Za,Zm,condC,Zi,Zh,Zl,ZI,ZR,ZA,hi,hx,Znf,wrap_succ hi (by omega),e,ZA,ZvJ,List.all_cons,Zg5]
  cases (Zuv (x.toNat:Int) || decide ((x.toNat:Int)=95) || (decide (48≤(x.toNat:Int)) && decide ((x.toNat:Int)≤57))) <;> rfl
 ·rw [Ug]; simp only [Zj,Zd,cond_true,cond_false,Zg,Zz,Za,Zm,condC,Zi,Zh,Zl,ZI,ZR,ZA,List.all_nil]
theorem QD (L:Nat)(s:List UInt8)(h:Len s)(hL:s.length < L):ZJ L (s,())=some (V9 s):=by
 rw [Zhs,ZvI L s h hL,ZmT,Zup]
 cases s with
 | nil=>rfl
 | cons c r =>
  simp only [Zj,Zd,cond_true,cond_false,Zg,Zz,Za,Zm,condC,Zi,Zh,Zl,ZI,ZR,ZA,List.getElem?_cons_zero,Znf,ZqS,List.headD_cons,reduceCtorEq,decide_false,Bool.false_or,Bool.or_assoc]
theorem ZtH (L:Nat)(s:List UInt8)(h:Len s)(hL:s.length < L):Zt (Ij s L) L (0,())=some (bif s.all (fun x=>Zg5 x.toNat) then 0 else 3):=by
 refine CB s (fun s=>some (bif s.all (fun x=>Zg5 x.toNat) then 0 else 3)) hL (fun self i x r hx hi _ e=>?_) (fun self=>?_)
 ·rw [Ij]
  simp only [Zj,Zd,cond_true,cond_false,Zg,Zz,Za,Zm,condC,Zi,Zh,Zl,ZI,ZR,ZA,hi,hx,Zdv,wrap_succ hi (by omega),e,ZA,List.all_cons,Zg5,Zm,condC,Zl]
  rw [show decide (48≤(x.toNat:Int))=!decide ((x.toNat:Int) < 48) by rw [← decide_not]; congr 1; exact propext Int.not_lt.symm,show decide ((x.toNat:Int)≤57)=!decide ((x.toNat:Int) > 57) by rw [← decide_not]; congr 1; exact propext Int.not_lt.symm]
  cases Zuv (x.toNat:Int) <;> cases decide ((x.toNat:Int)=95) <;> cases decide ((x.toNat:Int) < 48) <;> cases decide ((x.toNat:Int) > 57) <;> rfl
 ·rw [Ij]; simp only [Zj,Zd,cond_true,cond_false,Zg,Zz,Za,Zm,condC,Zi,Zh,Zl,ZI,ZR,ZA,List.all_nil]
theorem JQ (L:Nat)(s:List UInt8)(h:Len s)(hL:s.length < L)(h1:100≤L):Qg L (s,())=some (V9 s):=by
 rw [Zli,ZtH L s h hL,ZmT,Zup]
 cases s with
 | nil=>rfl
 | cons c r =>
  have:decide ((((c :: r).length:Nat):Int) < 1)=false:=by simp only [List.length_cons,decide_eq_false_iff_not]; omega
  simp only [Zj,Zd,cond_true,cond_false,Zg,Zz,Za,Zm,condC,Zi,Zh,Zl,ZI,ZR,ZA,List.getElem?_cons_zero,Zdv,ZiX L _ h1,List.headD_cons,this,reduceCtorEq,decide_false,Bool.false_or,Bool.or_assoc]
theorem ZH {α:Type}[SizeOf α]:∀ l:List α,l.length < SizeOf.sizeOf l
 | []=>by simp
 | x :: l=>by have:=ZH l; simp only [List.length_cons,List.cons.sizeOf_spec]; omega
theorem ZtV (d:YX):SizeOf.sizeOf d.Values < SizeOf.sizeOf d∧SizeOf.sizeOf d.Weights < SizeOf.sizeOf d:=by cases d; simp; omega
theorem ZiU (L:Nat)(a b c:Int):YS L (a,b,c,())=some (btw a b c):=Zht L a b c
theorem ZbK (L:Nat)(lo hi:Int)(l:List Int)(h:Len l)(hL:l.length < L):YD L (lo,hi,l,())=some (Qa lo hi l):=by
 have:=ZkA (f := Ue lo hi l) l (fun l i=>some (GG (Zu3 lo hi) l i)) hL (fun self i x r hx hi' _ e=>by
  rw [Ue]; simp only [Zj,Zd,cond_true,cond_false,Zg,Zz,Za,Zm,condC,Zi,Zh,Zl,ZI,ZR,ZA,hi',hx,wrap_succ hi' (by omega),e,GG]; simp only [Yu,Xp,if_true,if_false,Bool.false_eq_true,ne_eq,decide_not,gt_iff_lt,ge_iff_le]; rfl) (fun self=>by rw [Ue]; simp only [Zj,Zd,cond_true,cond_false,Zg,Zz,Za,Zm,condC,Zi,Zh,Zl,ZI,ZR,ZA,GG])
 have h2:decide (GG (Zu3 lo hi) l 0 ≥ 0)=l.any (Zu3 lo hi):=Ci (Zu3 lo hi) l 0 (Int.le_refl _)
 simp only [Zhm,this,Zz,h2,Qa]
theorem Zrd (L:Nat)(h:2 < L)(lo hi a:Int):YD L (lo,hi,[a],())=some (Qa lo hi [a]):=ZbK L lo hi [a] (by simp [Len]) (by simp; omega)
theorem Zre (L:Nat)(h:2 < L)(lo hi a b:Int):YD L (lo,hi,[a,b],())=some (Qa lo hi [a,b]):=ZbK L lo hi [a,b] (by simp [Len]) (by simpa using h)
theorem Zt6 (L:Nat)(d:YX)(h:JB d):KW L (d,())=some (Ec d):=by
 simp only [Zj,Zd,cond_true,cond_false,Zg,Zz,Za,Zm,condC,Zi,Zh,Zl,ZI,ZR,ZA,Zhl,h.wr,Ec]; simp only [Yu,Xp,if_true,if_false,Bool.false_eq_true,ne_eq,decide_not,gt_iff_lt,ge_iff_le]
theorem Tj (L:Nat)(d:YX)(h:JB d)(hL:SizeOf.sizeOf d < L)(h1:100≤L):Q3 L (d,())=some (LM d):=by
 have hs:d.Values.length < L∧d.Weights.length < L:=by
  have:=ZH d.Values; have:=ZH d.Weights; have:=ZtV d; omega
 simp only [Zj,Zd,cond_true,cond_false,Zg,Zz,Za,Zm,condC,Zi,Zh,Zl,ZI,ZR,ZA,Zjg,Zt6 L d h,LM,ZbK L _ _ _ h.v hs.1,ZbK L _ _ _ h.w hs.2,Zrd L (by omega),Zre L (by omega)]
 simp only [Yu,Xp,if_true,if_false,Bool.false_eq_true,ne_eq,decide_not,gt_iff_lt,ge_iff_le]
theorem ZkS (L:Nat)(d:YX):I4 L (d,())=some (Ze0 d):=by
 simp only [Zj,Zd,cond_true,cond_false,Zg,Zz,Za,Zm,condC,Zi,Zh,Zl,ZI,ZR,ZA,Zjo,Ze0]; simp only [Yu,Xp,if_true,if_false,Bool.false_eq_true,ne_eq,decide_not,gt_iff_lt,ge_iff_le]
theorem Zwu (L:Nat)(d:YX)(h:JB d)(hL:SizeOf.sizeOf d < L):MB L (d,())=some (Zn0 d):=by
 have hs:d.Values.length < L∧d.Weights.length < L:=by
  have:=ZH d.Values; have:=ZH d.Weights; have:=ZtV d; omega
 rw [Zlh,Zn0]
 by_cases hl:d.Values.length=d.Weights.length
 ·rw [ZeO d.Values d.Weights hl (fun l m=>some (ZuG l m)) hs.1 (fun self i x y r r' hx hy hi _ e=>by
   have hv:=h.v
   rw [RQ]; simp only [Zj,Zd,cond_true,cond_false,Zg,Zz,Za,Zm,condC,Zi,Zh,Zl,ZI,ZR,ZA,hi,hx,hy,ZiU,wrap_succ hi (by omega),e,ZuG]; simp only [Yu,Xp,if_true,if_false,Bool.false_eq_true,ne_eq,decide_not,gt_iff_lt,ge_iff_le]) (fun self=>by rw [RQ]; simp only [Zj,Zd,cond_true,cond_false,Zg,Zz,Za,Zm,condC,Zi,Zh,Zl,ZI,ZR,ZA,ZuG])]
  simp only [Zj,Zd,cond_true,cond_false,Zg,Zz,Za,Zm,condC,Zi,Zh,Zl,ZI,ZR,ZA]; simp only [Yu,Xp,if_true,if_false,Bool.false_eq_true,ne_eq,decide_not,gt_iff_lt,ge_iff_le]
 ·simp only [Yu,Xp,if_true,if_false,Bool.false_eq_true,ne_eq,decide_not,gt_iff_lt,ge_iff_le,ZI,ZA,Bool.not_false,show decide ((d.Values.length:Int)=d.Weights.length)=false by simp only [decide_eq_false_iff_not]; omega]
theorem Dq (L:Nat)(d:YX)(h:JB d)(hL:SizeOf.sizeOf d < L):VG L (d,())=some (LM d):=by
 rw [← Zg8]
 simp only [Zj,Zd,cond_true,cond_false,Zg,Zz,Za,Zm,condC,Zi,Zh,Zl,ZI,ZR,ZA,Zlg,ZkS,Zst,ZiU,Zwu L d h hL]; simp only [Yu,Xp,if_true,if_false,Bool.false_eq_true,ne_eq,decide_not,gt_iff_lt,ge_iff_le]
end Go.Proofs.YtgjcjbhhhlelnaaGreatDoor
end
section
namespace Go.Proofs.YtgjcjbhhhlelnaaGreatDoor
open Go Go.Proofs.YtgjcjbhhhlelnaaGreatDoor.Abs Go.Proofs.YtgjcjbhhhlelnaaGreatDoor.Tl
set_option maxRecDepth 100000
theorem ZrE (e:Zu):SizeOf.sizeOf e.Kids < SizeOf.sizeOf e∧SizeOf.sizeOf e.Name < SizeOf.sizeOf e:=by cases e; simp; omega
theorem Yi.nl {e:Zu}(h:Yi e):Len e.Name:=by have:=h.n; unfold Len; omega
theorem Zjb (L:Nat):∀ (m:Nat) (e:Zu),Yi e→SizeOf.sizeOf e≤m→m≤L→Gj L m (e,())=some (ZpA e)
 | 0,e,h,hs,_=>absurd hs (by have:=PW e; omega)
 | m + 1,e,h,hs,hm=>by
  have hk:=ZH e.Kids; have hz:=ZrE e; have hl:=h.k
  rw [Zjj,ZpB]
  refine CE e.Kids (fun l s=>some (sumW ZpA l s)) (by omega) 1 (fun self s i x r hx hi mem e'=>?_) (fun self s=>?_)
  ·have ih:=Zjb L m x (h.Kids.2 x mem) (by have:=ES mem; omega) (by omega)
   rw [Ti]; simp only [Zj,Zd,cond_true,cond_false,Zg,Zz,Za,Zm,condC,Zi,Zh,Zl,ZI,ZR,ZA,hi,hx,ih,wrap_succ hi (by omega),e',sumW]
  ·rw [Ti]; simp only [Zj,Zd,cond_true,cond_false,Zg,Zz,Za,Zm,condC,Zi,Zh,Zl,ZI,ZR,ZA,sumW]
theorem Zjd (L:Nat):∀ (m:Nat) (e:Zu),Yi e→SizeOf.sizeOf e≤m→m≤L→IB L m (e,())=some (ZpA e)
 | 0,e,h,hs,_=>absurd hs (by have:=PW e; omega)
 | m + 1,e,h,hs,hm=>by
  have hk:=ZH e.Kids; have hz:=ZrE e; have hl:=h.k
  rw [Zlm,ZpB]
  refine CE e.Kids (fun l s=>some (sumW ZpA l s)) (by omega) 1 (fun self s i x r hx hi mem e'=>?_) (fun self s=>?_)
  ·have ih:=Zjd L m x (h.Kids.2 x mem) (by have:=ES mem; omega) (by omega)
   rw [RU]; simp only [Zj,Zd,cond_true,cond_false,Zg,Zz,Za,Zm,condC,Zi,Zh,Zl,ZI,ZR,ZA,hi,hx,ih,wrap_succ hi (by omega),e',sumW]
  ·rw [RU]; simp only [Zj,Zd,cond_true,cond_false,Zg,Zz,Za,Zm,condC,Zi,Zh,Zl,ZI,ZR,ZA,sumW]
theorem Zja (L:Nat):∀ (m:Nat) (e:Zu),Yi e→SizeOf.sizeOf e≤m→m≤L→Gi L m (e,())=some (ZoW e)
 | 0,e,h,hs,_=>absurd hs (by have:=PW e; omega)
 | m + 1,e,h,hs,hm=>by
  have hk:=ZH e.Kids; have hz:=ZrE e; have hl:=h.k
  rw [Zji,ZpI]
  refine CE e.Kids (fun l s=>some (IntKind.i64.wrap (ZsW ZoW l s + 1))) (by omega) 0 (fun self s i x r hx hi mem e'=>?_) (fun self s=>?_)
  ·have ih:=Zja L m x (h.Kids.2 x mem) (by have:=ES mem; omega) (by omega)
   rw [Tf]; simp only [Zj,Zd,cond_true,cond_false,Zg,Zz,Za,Zm,condC,Zi,Zh,Zl,ZI,ZR,ZA,hi,hx,ih,wrap_succ hi (by omega),e',ZsW]
  ·rw [Tf]; simp only [Zj,Zd,cond_true,cond_false,Zg,Zz,Za,Zm,condC,Zi,Zh,Zl,ZI,ZR,ZA,ZsW]
theorem Zjc (L:Nat):∀ (m:Nat) (e:Zu),Yi e→SizeOf.sizeOf e≤m→m≤L→IA L m (e,())=some (ZoW e)
 | 0,e,h,hs,_=>absurd hs (by have:=PW e; omega)
 | m + 1,e,h,hs,hm=>by
  have hk:=ZH e.Kids; have hz:=ZrE e; have hl:=h.k
  rw [Zll,ZpI]
  refine CE e.Kids (fun l s=>some (IntKind.i64.wrap (ZsW ZoW l s + 1))) (by omega) 0 (fun self s i x r hx hi mem e'=>?_) (fun self s=>?_)
  ·have ih:=Zjc L m x (h.Kids.2 x mem) (by have:=ES mem; omega) (by omega)
   rw [RS]; simp only [Zj,Zd,cond_true,cond_false,Zg,Zz,Za,Zm,condC,Zi,Zh,Zl,ZI,ZR,ZA,hi,hx,ih,wrap_succ hi (by omega),e',ZsW]
  ·rw [RS]; simp only [Zj,Zd,cond_true,cond_false,Zg,Zz,Za,Zm,condC,Zi,Zh,Zl,ZI,ZR,ZA,ZsW]
theorem Znh (L:Nat)(n:Int):Js L (n,())=some (ZqC n):=Zhn L n
theorem Zu6 (L:Nat)(n:Int):Hu L (n,())=some (ZiD n):=by
 simp only [Zj,Zd,cond_true,cond_false,Zg,Zz,Za,Zm,condC,Zi,Zh,Zl,ZI,ZR,ZA,Zle,ZiD]; simp only [Yu,Xp,if_true,if_false,Bool.false_eq_true,ne_eq,decide_not,gt_iff_lt,ge_iff_le]
theorem Zwl (L:Nat)(k:QF)(n:Int):Xf L (k,n,())=some (Zdd k.1 n):=by
 simp only [Zj,Zd,cond_true,cond_false,Zg,Zz,Za,Zm,condC,Zi,Zh,Zl,ZI,ZR,ZA,NZ,Zu6,Zdd]; simp only [Yu,Xp,if_true,if_false,Bool.false_eq_true,ne_eq,decide_not,gt_iff_lt,ge_iff_le]
theorem Zwm (L:Nat)(k:QF)(n:Int):Qd L (k,n,())=some (ZfJ k.1 n):=by
 simp only [Zj,Zd,cond_true,cond_false,Zg,Zz,Za,Zm,condC,Zi,Zh,Zl,ZI,ZR,ZA,Si,Znh,ZfJ]
theorem ZqX (L:Nat)(k:QF)(n:Int):Qz L (k,n,())=some ((ZrN k.1 n).1,(ZrN k.1 n).2.1,(ZrN k.1 n).2.2,()):=by
 simp only [Zj,Zd,cond_true,cond_false,Zg,Zz,Za,Zm,condC,Zi,Zh,Zl,ZI,ZR,ZA,RP,Znh,ZrN]
 cases decide (n=2) <;> cases decide (n=25) <;> cases decide (n=26) <;> cases ZqC n <;> cases k.1 <;> rfl
theorem Z04 (L:Nat)(n:Int):D8 L (n,())=some (inB n):=ZtD L n
theorem ZyM (L:Nat)(k:QF)(e:Zu)(h:Yi e)(hL:SizeOf.sizeOf e≤L):X6 L (k,e,())=some (Zb0 k.1 e):=by
 have hn:=QD L e.Name h.nl (by have:=ZH e.Name; have:=ZrE e; omega)
 simp only [Zj,Zd,cond_true,cond_false,Zg,Zz,Za,Zm,condC,Zi,Zh,Zl,ZI,ZR,ZA,Ah,Zwl,Zu6,Zwm,ZqX,Z04,hn,Zb0]; simp only [Yu,Xp,if_true,if_false,Bool.false_eq_true,ne_eq,decide_not,gt_iff_lt,ge_iff_le,Bool.or_assoc]
theorem Znn (L:Nat)(k:QF):∀ (m:Nat) (e:Zu),Yi e→SizeOf.sizeOf e≤m→m≤L→QE L m (k,e,())=some (JE k.1 e)
 | 0,e,h,hs,_=>absurd hs (by have:=PW e; omega)
 | m + 1,e,h,hs,hm=>by
  have hk:=ZH e.Kids; have hz:=ZrE e; have hl:=h.k
  have lp:Zt (QB m k e L) L (0,())=some (Yk (JE k.1) e.Kids):=by
   refine CB e.Kids (fun l=>some (Yk (JE k.1) l)) (by omega) (fun self i x r hx hi mem e'=>?_) (fun self=>?_)
   ·have ih:=Znn L k m x (h.Kids.2 x mem) (by have:=ES mem; omega) (by omega)
    rw [QB]; simp only [Zj,Zd,cond_true,cond_false,Zg,Zz,Za,Zm,condC,Zi,Zh,Zl,ZI,ZR,ZA,hi,hx,ih,wrap_succ hi (by omega),e',Yk]; simp only [Yu,Xp,if_true,if_false,Bool.false_eq_true,ne_eq,decide_not,gt_iff_lt,ge_iff_le]
   ·rw [QB]; simp only [Zj,Zd,cond_true,cond_false,Zg,Zz,Za,Zm,condC,Zi,Zh,Zl,ZI,ZR,ZA,Yk]
  rw [Sj,Zdl,lp,ZyM L k e h (by omega)]
  simp only [Zj,Zd,cond_true,cond_false,Zg,Zz,Za,Zm,condC,Zi,Zh,Zl,ZI,ZR,ZA]; simp only [Yu,Xp,if_true,if_false,Bool.false_eq_true,ne_eq,decide_not,gt_iff_lt,ge_iff_le]
theorem Zne (L:Nat)(k:QF)(e:Zu)(h:Yi e)(hL:SizeOf.sizeOf e≤L):Qc L (k,e,())=some (Qp k.1 e):=by
 simp only [Zj,Zd,cond_true,cond_false,Zg,Zz,Za,Zm,condC,Zi,Zh,Zl,ZI,ZR,ZA,NY,show BV L (e,())=_ from Zjb L L e h hL (Nat.le_refl _),show BU L (e,())=_ from Zja L L e h hL (Nat.le_refl _),show VE L (k,e,())=_ from Znn L k L e h hL (Nat.le_refl _),Qp]; simp only [Yu,Xp,if_true,if_false,Bool.false_eq_true,ne_eq,decide_not,gt_iff_lt,ge_iff_le]
theorem ZkQ (L:Nat)(e:Zu)(h:Yi e)(hL:SizeOf.sizeOf e≤L):Ql L (e,())=some (Qp true e):=by
 simp only [Zj,Zd,cond_true,cond_false,Zg,Zz,Za,Zm,condC,Zi,Zh,Zl,ZI,ZR,ZA,Zb2,Zne L _ e h hL]
theorem Zhe (L:Nat)(e:Zu)(h:Yi e)(hL:SizeOf.sizeOf e≤L):U9 L (e,())=some (Qp false e):=by
 simp only [Zj,Zd,cond_true,cond_false,Zg,Zz,Za,Zm,condC,Zi,Zh,Zl,ZI,ZR,ZA,Zjh,Zne L _ e h hL]
theorem Zwp (L:Nat)(n:Int):D9 L (n,())=some (inB n):=ZtE L n
theorem ZqZ (L:Nat)(n:Int):UB L (n,())=some (ZqC n):=Zjq L n
theorem Zwi (L:Nat)(n:Int):MC L (n,())=some (Zc6 n):=by
 simp only [Zj,Zd,cond_true,cond_false,Zg,Zz,Za,Zm,condC,Zi,Zh,Zl,ZI,ZR,ZA,Zlj,Zc6]; simp only [Yu,Xp,if_true,if_false,Bool.false_eq_true,ne_eq,decide_not,gt_iff_lt,ge_iff_le]
theorem ZyL (L:Nat)(n:Int):DC L (n,())=some (Ztb n):=by
 simp only [Zj,Zd,cond_true,cond_false,Zg,Zz,Za,Zm,condC,Zi,Zh,Zl,ZI,ZR,ZA,Zov,Ztb]; simp only [Yu,Xp,if_true,if_false,Bool.false_eq_true,ne_eq,decide_not,gt_iff_lt,ge_iff_le]
theorem Zxv (a b d:Bool)(n r:Int):(if a=true then 1 else if b=true then 2 else if (d && !decide (n=0))=true then n else r) =
  if (!decide ((if a=true then 1 else if b=true then 2 else if (d && !decide (n=0))=true then n else 0)=0))=true then (if a=true then 1 else if b=true then 2 else if (d && !decide (n=0))=true then n else 0) else r:=by
 cases a <;> cases b <;> cases d <;> by_cases h:n=0 <;> simp [h]
theorem Znp (L:Nat)(c:Bool)(h1:100≤L):∀ (m:Nat) (e:Zu),Yi e→SizeOf.sizeOf e≤m→m≤L→MS L m (e,c,())=some (JE c e)
 | 0,e,h,hs,_=>absurd hs (by have:=PW e; omega)
 | m + 1,e,h,hs,hm=>by
  have hk:=ZH e.Kids; have hz:=ZrE e; have hl:=h.k
  have lp:Zt (Tn m e c L) L (0,())=some (Yk (JE c) e.Kids):=by
   refine CB e.Kids (fun l=>some (Yk (JE c) l)) (by omega) (fun self i x r hx hi mem e'=>?_) (fun self=>?_)
   ·have ih:=Znp L c h1 m x (h.Kids.2 x mem) (by have:=ES mem; omega) (by omega)
    rw [Tn]; simp only [Zj,Zd,cond_true,cond_false,Zg,Zz,Za,Zm,condC,Zi,Zh,Zl,ZI,ZR,ZA,hi,hx,ih,wrap_succ hi (by omega),e',Yk]; simp only [Yu,Xp,if_true,if_false,Bool.false_eq_true,ne_eq,decide_not,gt_iff_lt,ge_iff_le]
   ·rw [Tn]; simp only [Zj,Zd,cond_true,cond_false,Zg,Zz,Za,Zm,condC,Zi,Zh,Zl,ZI,ZR,ZA,Yk]
  have hn:=JQ L e.Name h.nl (by have:=ZH e.Name; omega) h1
  rw [← ZqB]
  simp only [Zj,Zd,cond_true,cond_false,Zg,Zz,Za,Zm,condC,Zi,Zh,Zl,ZI,ZR,ZA,Zow,lp,Zwi,ZqZ,Zwp,ZyL,hn,ZnV]; simp only [Yu,Xp,if_true,if_false,Bool.false_eq_true,ne_eq,decide_not,gt_iff_lt,ge_iff_le,Bool.or_assoc]
  exact congrArg some (Zxv _ _ _ _ _)
theorem Zni (L:Nat)(c:Bool)(h1:100≤L)(e:Zu)(h:Yi e)(hL:SizeOf.sizeOf e≤L):Hw L (e,c,())=some (Qp c e):=by
 simp only [Zj,Zd,cond_true,cond_false,Zg,Zz,Za,Zm,condC,Zi,Zh,Zl,ZI,ZR,ZA,Zln,show Ef L (e,())=_ from Zjd L L e h hL (Nat.le_refl _),show Ee L (e,())=_ from Zjc L L e h hL (Nat.le_refl _),show Zam L (e,c,())=_ from Znp L c h1 L e h hL (Nat.le_refl _),Qp]; simp only [Yu,Xp,if_true,if_false,Bool.false_eq_true,ne_eq,decide_not,gt_iff_lt,ge_iff_le]
theorem ZiY (L:Nat)(h1:100≤L)(e:Zu)(h:Yi e)(hL:SizeOf.sizeOf e≤L):Jv L (e,())=some (Qp true e):=by
 simp only [Zj,Zd,cond_true,cond_false,Zg,Zz,Za,Zm,condC,Zi,Zh,Zl,ZI,ZR,ZA,Zd6,Zni L _ h1 e h hL]
theorem Zhf (L:Nat)(h1:100≤L)(e:Zu)(h:Yi e)(hL:SizeOf.sizeOf e≤L):YT L (e,())=some (Qp false e):=by
 simp only [Zj,Zd,cond_true,cond_false,Zg,Zz,Za,Zm,condC,Zi,Zh,Zl,ZI,ZR,ZA,Zlk,Zni L _ h1 e h hL]
theorem Znc (L:Nat)(a b:List Int)(h:Len a)(hL:a.length < L):YJ L (a,b,())=some (decide (a=b)):=by
 rw [O0]
 by_cases hl:a.length=b.length
 ·rw [ZeO a b hl (fun l m=>some (decide (l=m))) hL (fun self i x y r r' hx hy hi _ e=>by
   rw [Q7]; simp only [Zj,Zd,cond_true,cond_false,Zg,Zz,Za,Zm,condC,Zi,Zh,Zl,ZI,ZR,ZA,hi,hx,hy,wrap_succ hi (by omega),e,List.cons.injEq,Bool.decide_and]; cases decide (x=y) <;> rfl) (fun self=>by rw [Q7]; simp only [Zj,Zd,cond_true,cond_false,Zg,Zz,Za,Zm,condC,Zi,Zh,Zl,ZI,ZR,ZA,decide_true])]
  rw [ZA,show decide ((a.length:Int)=b.length)=true by simp only [decide_eq_true_eq]; omega]; rfl
 ·rw [ZA,show decide ((a.length:Int)=b.length)=false by simp only [decide_eq_false_iff_not]; omega]
  have:a≠b:=fun e=>hl (by rw [e])
  simp [this]
theorem ZfS (L:Nat)(a b:List Int)(h:Len a)(hL:a.length < L):Vx L (a,b,())=some (decide (a=b)):=by
 rw [ZeS]
 by_cases hl:a.length=b.length
 ·rw [ZeO a b hl (fun l m=>some (decide (l=m))) hL (fun self i x y r r' hx hy hi _ e=>by
   rw [GK]; simp only [Zj,Zd,cond_true,cond_false,Zg,Zz,Za,Zm,condC,Zi,Zh,Zl,ZI,ZR,ZA,hi,hx,hy,wrap_succ hi (by omega),e,List.cons.injEq,Bool.decide_and]; cases decide (x=y) <;> rfl) (fun self=>by rw [GK]; simp only [Zj,Zd,cond_true,cond_false,Zg,Zz,Za,Zm,condC,Zi,Zh,Zl,ZI,ZR,ZA,decide_true])]
  rw [ZA,show decide ((a.length:Int)=b.length)=true by simp only [decide_eq_true_eq]; omega]; rfl
 ·rw [ZA,show decide ((a.length:Int)=b.length)=false by simp only [decide_eq_false_iff_not]; omega]
  have:a≠b:=fun e=>hl (by rw [e])
  simp [this]
theorem Zhd (L:Nat)(a b:YX)(h:JB a)(hL:SizeOf.sizeOf a≤L):VF L (a,b,())=some (ZpK a b):=by
 have h1:=ZH a.Values; have h2:=ZH a.Weights; have h3:=ZtV a
 simp only [Zj,Zd,cond_true,cond_false,Zg,Zz,Za,Zm,condC,Zi,Zh,Zl,ZI,ZR,ZA,Zld,Znc L a.Values _ h.v (by omega),Znc L a.Weights _ h.w (by omega),ZpK]
theorem ZbI (L:Nat)(a b:YX)(h:JB a)(hL:SizeOf.sizeOf a≤L):JY L (a,b,())=some (ZpK a b):=by
 have h1:=ZH a.Values; have h2:=ZH a.Weights; have h3:=ZtV a
 simp only [Zj,Zd,cond_true,cond_false,Zg,Zz,Za,Zm,condC,Zi,Zh,Zl,ZI,ZR,ZA,Zos,ZfS L a.Values _ h.v (by omega),ZfS L a.Weights _ h.w (by omega),ZpK]
theorem ZwV {α β:Type}(a:List α)(b:List β):(a.length=b.length∧decide ((a.length:Int)=(b.length:Int))=true)∨(a.length≠b.length∧decide ((a.length:Int)=(b.length:Int))=false):=by
 by_cases h:a.length=b.length
 ·exact .inl ⟨h,by simp only [decide_eq_true_eq]; omega⟩
 ·exact .inr ⟨h,by simp only [decide_eq_false_iff_not]; omega⟩
theorem Znm (L:Nat):∀ (m:Nat) (a b:Zu),Yi a→SizeOf.sizeOf a≤m→m≤L→I9 L m (a,b,())=some (A8 a b)
 | 0,e,_,h,hs,_=>absurd hs (by have:=PW e; omega)
 | m + 1,e,b,h,hs,hm=>by
  have hk:=ZH e.Kids; have hz:=ZrE e; have hl:=h.k
  rw [ZbQ]
  rcases ZwV e.Kids b.Kids with ⟨hl1,hl2⟩ | ⟨hl1,hl2⟩
  ·have lp:Zt (Ie m e b L) L (0,())=some (all2 A8 e.Kids b.Kids):=by
    refine ZeO e.Kids b.Kids hl1 (fun l l'=>some (all2 A8 l l')) (by omega) (fun self i x y r r' hx hy hi mem e'=>?_) (fun self=>?_)
    ·have ih:=Znm L m x y (h.Kids.2 x mem) (by have:=ES mem; omega) (by omega)
     rw [Ie]; simp only [Zj,Zd,cond_true,cond_false,Zg,Zz,Za,Zm,condC,Zi,Zh,Zl,ZI,ZR,ZA,hi,hx,hy,ih,wrap_succ hi (by omega),e',all2]; simp only [Yu,Xp,if_true,if_false,Bool.false_eq_true,ne_eq,decide_not,gt_iff_lt,ge_iff_le]
    ·rw [Ie]; simp only [Zj,Zd,cond_true,cond_false,Zg,Zz,Za,Zm,condC,Zi,Zh,Zl,ZI,ZR,ZA,all2]
   simp only [Zj,Zd,cond_true,cond_false,Zg,Zz,Za,Zm,condC,Zi,Zh,Zl,ZI,ZR,ZA,Zd1,lp,Zk1,hl2]; simp only [Yu,Xp,if_true,if_false,Bool.false_eq_true,ne_eq,decide_not,gt_iff_lt,ge_iff_le,hl2]
  ·simp only [Zj,Zd,cond_true,cond_false,Zg,Zz,Za,Zm,condC,Zi,Zh,Zl,ZI,ZR,ZA,Zd1,Zk1,hl2,Bool.not_false,Bool.or_true]; simp only [Yu,Xp,if_true,if_false,Bool.false_eq_true,ne_eq,decide_not,gt_iff_lt,ge_iff_le,hl2,Bool.not_false,Bool.or_true]
theorem ZqV (L:Nat)(a b:Zu)(h:Yi a)(hL:SizeOf.sizeOf a≤L):Me L (a,b,())=some (A8 a b):=Znm L L a b h hL (Nat.le_refl _)
end Go.Proofs.YtgjcjbhhhlelnaaGreatDoor
end
