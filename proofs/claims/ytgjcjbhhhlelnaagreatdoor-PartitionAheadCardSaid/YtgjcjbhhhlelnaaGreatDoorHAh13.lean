import Derived.Test.YtgjcjbhhhlelnaaGreatDoorHAh12
set_option linter.all false
noncomputable section
namespace Go.Proofs.YtgjcjbhhhlelnaaGreatDoor
open Go Go.Proofs.YtgjcjbhhhlelnaaGreatDoor.Abs Go.Proofs.YtgjcjbhhhlelnaaGreatDoor.Tl
set_option maxRecDepth 100000
set_option maxHeartbeats 0
def Zf0:List (Inl tT):=[⟨184,Xf,[],.one (.bool),[]⟩,⟨200,XC,[.rnd [.slot 8 (.int .i64)]],.one (.int .i64),[]⟩,⟨185,RX,[],.one (.bool),[]⟩]
def YG (L:Nat)(x:Int×Int×(List Int)×PUnit):Option Bool:=fI [] L Zf0 Am [] (.one .bool) [.int .i64,.int .i64,.lst 1 (.int .i64)] x
def Ci (L:Nat):Sum tT:=mU 153 [.int .i64,.int .i64,.lst 1 (.int .i64)] (.one .bool) (YG L)
theorem Ziq:SX Ci:=fun h=>sI h Zu (Zb ⟨h.T _ _ rfl,by kernel_rfl⟩ (Zb ⟨h.T _ _ rfl,by kernel_rfl⟩ (Zb ⟨h.T _ _ rfl,by kernel_rfl⟩ Zu))) rfl (by kernel_rfl) fun _=>rfl
def U0:Int→Int→List Int→(Int×PUnit→Option Int)→Int×PUnit→Option Int:=fun x0 x1 x2 self acc=>bif decide (acc.1 < (↑x2.length:Int)) then bT (ZT x2 acc.1) fun y=>bif decide (y < x0) || decide (y > x1) then some acc.1 else self (Go.IntKind.i64.wrap (acc.1 + 1),()) else some (-1)
theorem ZhY (L:Nat)(x0:Int)(x1:Int)(x2:(List Int)):YG L (x0,x1,x2,())=bT (bT (Zx (U0 x0 x1 x2) L (0,())) fun y=>some (decide (y ≥ 0))) fun y=>some !y:=by kernel_rfl
def G7 (L:Nat)(x:Wj×PUnit):Option Bool:=fT [] L Ak [] (.one .bool) [.row 2] x
def Cf (L:Nat):Sum tT:=mU 152 [.row 2] (.one .bool) (G7 L)
theorem Zip:SX Cf:=fun h=>sT h Zu rfl (by kernel_rfl) fun _=>rfl
theorem ZhX (L:Nat)(x0:Wj):G7 L (x0,())=bif x0.1 == 1 then some (Go.IntKind.i64.wrap ((↑x0.5.length:Int) + (↑x0.6.length:Int)) == 0 && x0.3 == 0 && x0.4 == 0) else bif x0.1 == 2 then some (Go.IntKind.i64.wrap ((↑x0.5.length:Int) + (↑x0.6.length:Int)) == 0 && x0.4 == 0) else bif x0.1 == 5 then some (Go.IntKind.i64.wrap ((↑x0.5.length:Int) + (↑x0.6.length:Int)) == 0 && x0.4 == 0) else bif x0.1 == 4 then some (Go.IntKind.i64.wrap ((↑x0.5.length:Int) + (↑x0.6.length:Int)) == 0) else bif x0.1 == 3 then some (x0.2 == 0 && x0.3 == 0 && x0.4 == 0) else some false:=by kernel_rfl
def QJ (L:Nat)(x:Wj×PUnit):Option Int:=fT [Ci L,Cf L] L Zbe [] (.one (.int .i64)) [.row 2] x
def Ob (L:Nat):Sum tT:=mU 112 [.row 2] (.one (.int .i64)) (QJ L)
theorem Dl:SX Ob:=fun h=>sT h (Zb (Ziq h) (Zb (Zip h) Zu)) rfl (by kernel_rfl) fun _=>rfl
theorem ZjQ (L:Nat)(x0:Wj):QJ L (x0,())=bT (G7 L (x0,())) fun y=>bif !y then some 1 else bif x0.1 == 1 then bT (YG L (0,1000000000,[x0.2],())) fun y=>bif !y then some 2 else some 0 else bif x0.1 == 2 then bT (YG L (0,1000000000,[x0.2,x0.3],())) fun y=>bif !(y && decide (x0.2≤x0.3)) then some 2 else some 0 else bif x0.1 == 4 then bT (YG L (1,20,[x0.4],())) fun y=>bT (bif y == true then bT (YG L (0,1000000,[x0.2,x0.3],())) fun y=>some y else some false) fun y=>bif !(y && decide (x0.2≤x0.3)) then some 2 else some 0 else bif x0.1 == 5 then bT (YG L (1,1000,[x0.2,x0.3],())) fun y=>bif !y then some 2 else some 0 else bif x0.1 == 3 then bif (↑x0.5.length:Int) != (↑x0.6.length:Int) then some 8 else bif (↑x0.5.length:Int) == 0 then some 7 else bif decide ((↑x0.5.length:Int) > 20) then some 6 else bT (YG L (0,1000000000,x0.5,())) fun y=>bT (bif y == true then bT (YG L (1,1000,x0.6,())) fun y=>some y else some false) fun y=>bif !y then some 2 else some 0 else some 2:=by kernel_rfl
def Y5 (L:Nat)(x:XH×Int×Int×PUnit):Option Int:=fT [] L Hm [] (.one (.int .i64)) [.row 24,.int .i64,.int .i64] x
def Xw (L:Nat):Sum tT:=mU 146 [.row 24,.int .i64,.int .i64] (.one (.int .i64)) (Y5 L)
theorem VU:SX Xw:=fun h=>sT h Zu rfl (by kernel_rfl) fun _=>rfl
theorem VT (L:Nat)(x0:XH)(x1:Int)(x2:Int):Y5 L (x0,x1,x2,())=bT (ZT x0.p.2 x0.2) fun y=>bif x1 == 1 then some x0.c.3 else bif x1 == 2 then some (↑y.Decl.2.length:Int) else bif x1 == 3 then some (↑y.Decl.7.length:Int) else bif x1 == 4 then some (↑x0.c.4.length:Int) else bif x1 == 5 then some (↑y.Decl.3.length:Int) else bif x1 == 6 then some (↑y.Decl.4.length:Int) else bif x1 == 7 then some (↑y.Decl.5.length:Int) else bif x1 == 8 then some (↑y.Decl.6.length:Int) else bif x1 == 9 then some (↑x0.p.2.length:Int) else bif x1 == 10 then bT (ZT x0.p.2 x2) fun y=>some (↑y.2.length:Int) else bif x1 == 11 then some (↑y.Decl.8.length:Int) else bif x1 == 12 then some (↑y.Decl.9.length:Int) else bif x1 == 13 then some (↑y.Decl.10.length:Int) else some 1:=by kernel_rfl
def ZZ (L:Nat)(x:XH×Int×Int×Int×PUnit):Option Bool:=fT [Xw L] L IJ [] (.one .bool) [.row 24,.int .i64,.int .i64,.int .i64] x
def XL (L:Nat):Sum tT:=mU 107 [.row 24,.int .i64,.int .i64,.int .i64] (.one .bool) (ZZ L)
theorem J9:SX XL:=fun h=>sT h (Zb (VU h) Zu) rfl (by kernel_rfl) fun _=>rfl
theorem J5 (L:Nat)(x0:XH)(x1:Int)(x2:Int)(x3:Int):ZZ L (x0,x1,x2,x3,())=bT (bif decide (x2 ≥ 0) == true then bT (Y5 L (x0,x1,x3,())) fun y=>some (decide (x2 < y)) else some false) fun y=>some y:=by kernel_rfl
def KY:List (Inl tT):=[⟨150,Wq,[],.one (.bool),[]⟩,⟨183,WM,[.rnd [.slot 8 (.int .i64)]],.one (.int .i64),[]⟩,⟨151,UD,[],.one (.bool),[]⟩]
def V9 (L:Nat):Nat→List (Sum tT)
 | 0=>[⟨111,[.row 24,.row 8],fun _=>.par _ none ((.one (.bool):RD).tv tT)⟩]
 | m + 1=>[⟨111,[.row 24,.row 8],fun x=>.par _ (fnT tF tG (ZkD tF tG (qOf tF (V9 L m ++ [Xw L,XL L])) L KY 8) 0 L VN [] (.one (.bool)) (tvL tT [.row 24,.row 8] x) []) ((.one (.bool):RD).tv tT)⟩]
theorem JA {C:Cfg}{L:Nat}(h:St C L):∀ m,∀ s ∈ V9 L m,Q3 C s
 | 0=>(Zb (QH _ _ _) Zu)
 | m + 1=>have ih:=JA h m
  (Zb (Y4 Yu h.L h.G (FZ Yu h.L h.G (Wx Yu (V3 ih (Zb (VU h) (Zb (J9 h) Zu)))) (Zb ⟨h.T _ _ rfl,by kernel_rfl⟩ (Zb ⟨h.T _ _ rfl,by kernel_rfl⟩ (Zb ⟨h.T _ _ rfl,by kernel_rfl⟩ Zu))) 8) [] (h.T _ _ rfl) (by kernel_rfl) fun _=>rfl) Zu)
def Yi (L m:Nat)(x:XH×Zw×PUnit):Option (Bool):=fnT tF tG (ZkD tF tG (qOf tF (V9 L m ++ [Xw L,XL L])) L KY 8) 0 L VN [] (.one (.bool)) (tvL tT [.row 24,.row 8] x) []
def Qq (L:Nat)(x:XH×Zw×PUnit):Option (Bool):=Yi L L x
def Iu (L:Nat):Sum tT:=⟨111,[.row 24,.row 8],fun x=>.par ((.one (.bool):RD).Ty tT) (Qq L x) ((.one (.bool):RD).tv tT)⟩
theorem EC {C:Cfg}{L:Nat}(h:St C L):Q3 C (Iu L):=have ih:=JA h L
 Y4 Yu h.L h.G (FZ Yu h.L h.G (Wx Yu (V3 ih (Zb (VU h) (Zb (J9 h) Zu)))) (Zb ⟨h.T _ _ rfl,by kernel_rfl⟩ (Zb ⟨h.T _ _ rfl,by kernel_rfl⟩ (Zb ⟨h.T _ _ rfl,by kernel_rfl⟩ Zu))) 8) [] (h.T _ _ rfl) (by kernel_rfl) fun _=>rfl
def Yg:Nat→XH→Zw→Nat→(Int×PUnit→Option Int)→Int×PUnit→Option Int:=fun (m:Nat)=>fun x0 x1 L self acc=>bif decide (acc.1 < (↑x1.4.length:Int)) then bT (ZT x1.4 acc.1) fun y=>bT (bT (Yi L m (x0,y,())) fun y=>some !y) fun y=>bif y then some acc.1 else self (Go.IntKind.i64.wrap (acc.1 + 1),()) else some (-1)
def KC:Nat→XH→Zw→Nat→(Int×PUnit→Option Int)→Int×PUnit→Option Int:=fun (m:Nat)=>fun x0 x1 L self acc=>bif decide (acc.1 < (↑x1.4.length:Int)) then bT (ZT x1.4 acc.1) fun y=>bT (bT (Yi L m (x0,y,())) fun y=>some !y) fun y=>bif y then some acc.1 else self (Go.IntKind.i64.wrap (acc.1 + 1),()) else some (-1)
def KD:Nat→XH→Zw→Nat→(Int×PUnit→Option Int)→Int×PUnit→Option Int:=fun (m:Nat)=>fun x0 x1 L self acc=>bif decide (acc.1 < (↑x1.4.length:Int)) then bT (ZT x1.4 acc.1) fun y=>bT (bT (Yi L m (x0,y,())) fun y=>some !y) fun y=>bif y then some acc.1 else self (Go.IntKind.i64.wrap (acc.1 + 1),()) else some (-1)
def KE:Nat→XH→Zw→Nat→(Int×PUnit→Option Int)→Int×PUnit→Option Int:=fun (m:Nat)=>fun x0 x1 L self acc=>bif decide (acc.1 < (↑x1.4.length:Int)) then bT (ZT x1.4 acc.1) fun y=>bT (bT (Yi L m (x0,y,())) fun y=>some !y) fun y=>bif y then some acc.1 else self (Go.IntKind.i64.wrap (acc.1 + 1),()) else some (-1)
def KF:Nat→XH→Zw→Nat→(Int×PUnit→Option Int)→Int×PUnit→Option Int:=fun (m:Nat)=>fun x0 x1 L self acc=>bif decide (acc.1 < (↑x1.4.length:Int)) then bT (ZT x1.4 acc.1) fun y=>bT (bT (Yi L m (x0,y,())) fun y=>some !y) fun y=>bif y then some acc.1 else self (Go.IntKind.i64.wrap (acc.1 + 1),()) else some (-1)
def KG:Nat→XH→Zw→Nat→(Int×PUnit→Option Int)→Int×PUnit→Option Int:=fun (m:Nat)=>fun x0 x1 L self acc=>bif decide (acc.1 < (↑x1.4.length:Int)) then bT (ZT x1.4 acc.1) fun y=>bT (bT (Yi L m (x0,y,())) fun y=>some !y) fun y=>bif y then some acc.1 else self (Go.IntKind.i64.wrap (acc.1 + 1),()) else some (-1)
theorem Et (L m:Nat)(x0:XH)(x1:Zw):Yi L (m + 1) (x0,x1,())=bif x1.1 == 25 then bT (ZZ L (x0,1,x1.3,0,())) fun y=>bT (bif y == true then bT (bT (Zx (Yg m x0 x1 L) L (0,())) fun y=>some (decide (y ≥ 0))) fun y=>some !y else some false) fun y=>some y else bif x1.1 == 26 then bT (ZZ L (x0,2,x1.3,0,())) fun y=>bT (bif y == true then bT (bT (Zx (KC m x0 x1 L) L (0,())) fun y=>some (decide (y ≥ 0))) fun y=>some !y else some false) fun y=>some y else bif x1.1 == 22 then bT (ZZ L (x0,5,x1.3,0,())) fun y=>bT (bif y == true then bT (bT (Zx (KD m x0 x1 L) L (0,())) fun y=>some (decide (y ≥ 0))) fun y=>some !y else some false) fun y=>some y else bif x1.1 == 23 then bT (ZZ L (x0,6,x1.3,0,())) fun y=>bT (bif y == true then bT (bT (Zx (KE m x0 x1 L) L (0,())) fun y=>some (decide (y ≥ 0))) fun y=>some !y else some false) fun y=>some y else bif x1.1 == 24 then bT (bT (Y5 L (x0,5,0,())) fun y=>some y) fun y=>bT (bT (Y5 L (x0,8,0,())) fun y=>some y) fun y_1=>bT (bif decide (x1.3 < Go.IntKind.i64.wrap (y + y_1)) == true then bT (bT (Zx (KF m x0 x1 L) L (0,())) fun y=>some (decide (y ≥ 0))) fun y=>some !y else some false) fun y=>some y else bT (bT (bT (Zx (KG m x0 x1 L) L (0,())) fun y=>some (decide (y ≥ 0))) fun y=>some !y) fun y=>some y:=by kernel_rfl
def JG (L:Nat)(x:(List UInt8)×PUnit):Option Bool:=fT [] L Bl [] (.one .bool) [.str] x
def DD (L:Nat):Sum tT:=mU 48 [.str] (.one .bool) (JG L)
theorem Ze1:SX DD:=fun h=>sT h Zu rfl (by kernel_rfl) fun _=>rfl
theorem Zel (L:Nat)(x0:(List UInt8)):JG L (x0,())=bif x0 == [97,100,100] then some true else bif x0 == [97,102,116,101,114] then some true else bif x0 == [97,110,100] then some true else bif x0 == [97,116] then some true else bif x0 == [98,101,108,116] then some true else bif x0 == [98,111,111,108] then some true else bif x0 == [99,111,110,115,101,114,118,101] then some true else bif x0 == [99,111,110,115,116] then some true else bif x0 == [99,111,117,110,116] then some true else bif x0 == [99,121,99,108,101] then some true else bif x0 == [100,111,119,110] then some true else bif x0 == [100,114,97,119] then some true else bif x0 == [100,117,114] then some true else bif x0 == [101,108,115,101] then some true else bif x0 == [101,110,100] then some true else bif x0 == [101,118,101,114,121] then some true else bif x0 == [102,97,108,115,101] then some true else bif x0 == [102,97,117,108,116] then some true else bif x0 == [102,105,102,111] then some true else bif x0 == [102,114,101,101] then some true else bif x0 == [102,114,111,109] then some true else bif x0 == [103,101,111,109] then some true else bif x0 == [103,101,116] then some true else bif x0 == [104,111,108,100] then some true else bif x0 == [105,102] then some true else bif x0 == [105,110,116] then some true else bif x0 == [105,110,116,111] then some true else bif x0 == [108,101,97,115,116] then some true else bif x0 == [108,101,118,101,108] then some true else bif x0 == [108,105,102,111] then some true else bif x0 == [108,105,110,107] then some true else bif x0 == [108,111,99,97,108] then some true else bif x0 == [109,97,120] then some true else bif x0 == [109,105,110] then some true else bif x0 == [109,111,100,101,108] then some true else bif x0 == [110,111,116] then some true else bif x0 == [110,111,119] then some true else bif x0 == [111,98,115,101,114,118,101] then some true else bif x0 == [111,114] then some true else bif x0 == [112,97,114,97,109] then some true else bif x0 == [112,114,101,101,109,112,116] then some true else bif x0 == [112,114,105,111] then some true else bif x0 == [112,117,116] then some true else bif x0 == [113,117,101,117,101] then some true else bif x0 == [114,101,108,101,97,115,101] then some true else bif x0 == [114,101,115,111,117,114,99,101] then some true else bif x0 == [114,105,100,101] then some true else bif x0 == [114,111,117,116,105,110,101] then some true else bif x0 == [115,101,105,122,101] then some true else bif x0 == [115,101,110,100] then some true else bif x0 == [115,101,116] then some true else bif x0 == [115,104,105,102,116] then some true else bif x0 == [115,105,103,110,97,108] then some true else bif x0 == [115,105,116,101] then some true else bif x0 == [115,105,122,101] then some true else bif x0 == [115,112,97,119,110] then some true else bif x0 == [115,116,97,114,116] then some true else bif x0 == [115,116,111,112] then some true else bif x0 == [115,116,111,114,101] then some true else bif x0 == [115,116,114,101,97,109] then some true else bif x0 == [115,117,109] then some true else bif x0 == [116,97,98,108,101] then some true else bif x0 == [116,97,108,108,121] then some true else bif x0 == [116,105,99,107,115] then some true else bif x0 == [116,105,109,101] then some true else bif x0 == [116,114,117,101] then some true else bif x0 == [117,110,105,102,111,114,109] then some true else bif x0 == [117,110,116,105,108] then some true else bif x0 == [117,112] then some true else bif x0 == [118,97,114] then some true else bif x0 == [119,97,105,116] then some true else bif x0 == [119,97,105,116,105,110,103] then some true else bif x0 == [119,104,105,108,101] then some true else some false:=by kernel_rfl
def VH (L:Nat)(x:Int×PUnit):Option Bool:=fT [] L Nl [] (.one .bool) [.int .u8] x
def NR (L:Nat):Sum tT:=mU 47 [.int .u8] (.one .bool) (VH L)
theorem ZfF:SX NR:=fun h=>sT h Zu rfl (by kernel_rfl) fun _=>rfl
theorem Zf8 (L:Nat)(x0:Int):VH L (x0,())=some (decide (x0 ≥ 97) && decide (x0≤122)):=by kernel_rfl
def ZP (L:Nat)(x:(List UInt8)×PUnit):Option Int:=fT [DD L,NR L] L AA [.rnd [.slot 24 (.int .i64)]] (.one (.int .i64)) [.str] x
def Qh (L:Nat):Sum tT:=mU 33 [.str] (.one (.int .i64)) (ZP L)
theorem QD:SX Qh:=fun h=>sT h (Zb (Ze1 h) (Zb (ZfF h) Zu)) rfl (by kernel_rfl) fun _=>rfl
def U2:List UInt8→Nat→(Int×PUnit→Option Int)→Int×PUnit→Option Int:=fun x0 L self acc=>bif decide (acc.1 < (↑x0.length:Int)) then bT (ZT x0 acc.1) fun y=>bT (VH L ((↑y.toNat:Int),())) fun y_1=>bif !y_1 && (decide ((↑y.toNat:Int) < 48) || decide ((↑y.toNat:Int) > 57)) && (↑y.toNat:Int) != 95 then some 3 else self (Go.IntKind.i64.wrap (acc.1 + 1),()) else some 0
theorem Zie (L:Nat)(x0:(List UInt8)):ZP L (x0,())=bT (bif (x0 == [] || decide ((↑x0.length:Int) > 24)) == false then bT (ZT x0 0) fun y=>bT (VH L ((↑y.toNat:Int),())) fun y=>some !y else some true) fun y=>bT (bif y == false then bT (JG L (x0,())) fun y=>some y else some true) fun y=>bif y then some 3 else Zx (U2 x0 L) L (0,()):=by kernel_rfl
def JE (L:Nat)(x:Int×PUnit):Option Bool:=fT [] L Ap [] (.one .bool) [.int .i64] x
def Ld (L:Nat):Sum tT:=mU 214 [.int .i64] (.one .bool) (JE L)
theorem FT:SX Ld:=fun h=>sT h Zu rfl (by kernel_rfl) fun _=>rfl
theorem ZhZ (L:Nat)(x0:Int):JE L (x0,())=some (decide (x0 ≥ 22) && decide (x0≤24)):=by kernel_rfl
end Go.Proofs.YtgjcjbhhhlelnaaGreatDoor
end
noncomputable section
namespace Go.Proofs.YtgjcjbhhhlelnaaGreatDoor
open Go Go.Proofs.YtgjcjbhhhlelnaaGreatDoor.Abs Go.Proofs.YtgjcjbhhhlelnaaGreatDoor.Tl
set_option maxRecDepth 100000
set_option maxHeartbeats 0
def QI (L:Nat)(x:Xe×Int×PUnit):Option (Int×Int×Bool×PUnit):=fT [Ld L] L UE [] (.tup [.int .i64,.int .i64,.bool]) [.row 25,.int .i64] x
def UW (L:Nat):Sum tT:=mU 212 [.row 25,.int .i64] (.tup [.int .i64,.int .i64,.bool]) (QI L)
theorem Dk:SX UW:=fun h=>sT h (Zb (FT h) Zu) rfl (by kernel_rfl) fun _=>rfl
theorem BM (L:Nat)(x0:Xe)(x1:Int):QI L (x0,x1,())=bif x1 == 2 then some (0,1,true,()) else bif x1 == 25 then some (0,15,true,()) else bif x1 == 26 then some (0,31,true,()) else bT (JE L (x1,())) fun y=>bif y && x0.1 then some (0,63,true,()) else some (0,0,false,()):=by kernel_rfl
def P8 (L:Nat)(x:Int×PUnit):Option Bool:=fT [] L Znd [] (.one .bool) [.int .i64] x
def ZcH (L:Nat):Sum tT:=mU 142 [.int .i64] (.one .bool) (P8 L)
theorem Ziu:SX ZcH:=fun h=>sT h Zu rfl (by kernel_rfl) fun _=>rfl
theorem Zuy (L:Nat)(x0:Int):P8 L (x0,())=some (decide (x0 ≥ (-1000000000000)) && decide (x0≤1000000000000)):=by kernel_rfl
def Qs (L:Nat)(x:Xe×Int×PUnit):Option Bool:=fT [Ld L] L Hr [] (.one .bool) [.row 25,.int .i64] x
def Iy (L:Nat):Sum tT:=mU 211 [.row 25,.int .i64] (.one .bool) (Qs L)
theorem EE:SX Iy:=fun h=>sT h (Zb (FT h) Zu) rfl (by kernel_rfl) fun _=>rfl
theorem Ey (L:Nat)(x0:Xe)(x1:Int):Qs L (x0,x1,())=bT (bif (x1 == 3) == false then bT (JE L (x1,())) fun y=>some (y && !x0.1) else some true) fun y=>some y:=by kernel_rfl
def I9 (L:Nat)(x:Int×PUnit):Option Int:=fT [] L ZcQ [] (.one (.int .i64)) [.int .i64] x
def ER (L:Nat):Sum tT:=mU 210 [.int .i64] (.one (.int .i64)) (I9 L)
theorem Zez:SX ER:=fun h=>sT h Zu rfl (by kernel_rfl) fun _=>rfl
theorem ZlR (L:Nat)(x0:Int):I9 L (x0,())=bif x0 == 1 || x0 == 2 || x0 == 3 || x0 == 4 then some 0 else bif decide (x0 ≥ 5) && decide (x0≤8) then some 1 else bif decide (x0 ≥ 9) && decide (x0≤21) then some 2 else bif decide (x0 ≥ 22) && decide (x0≤26) then some 0 else some (-1):=by kernel_rfl
def Xx (L:Nat)(x:Xe×Int×PUnit):Option Bool:=fT [ER L] L Hq [] (.one .bool) [.row 25,.int .i64] x
def Iw (L:Nat):Sum tT:=mU 209 [.row 25,.int .i64] (.one .bool) (Xx L)
theorem ED:SX Iw:=fun h=>sT h (Zb (Zez h) Zu) rfl (by kernel_rfl) fun _=>rfl
theorem Ew (L:Nat)(x0:Xe)(x1:Int):Xx L (x0,x1,())=bif x1 == 3 then some !x0.1 else bif x1 == 25 then some x0.1 else bif x1 == 26 then some x0.1 else bT (I9 L (x1,())) fun y=>some (decide (y ≥ 0)):=by kernel_rfl
def XM (L:Nat)(x:Xe×Zw×PUnit):Option Int:=fT [Qh L,UW L,ZcH L,Iy L,ER L,Iw L] L IK [] (.one (.int .i64)) [.row 25,.row 8] x
def JD (L:Nat):Sum tT:=mU 199 [.row 25,.row 8] (.one (.int .i64)) (XM L)
theorem IZ:SX JD:=fun h=>sT h (Zb (QD h) (Zb (Dk h) (Zb (Ziu h) (Zb (EE h) (Zb (Zez h) (Zb (ED h) Zu)))))) rfl (by kernel_rfl) fun _=>rfl
theorem FC (L:Nat)(x0:Xe)(x1:Zw):XM L (x0,x1,())=bT (bT (Xx L (x0,x1.1,())) fun y=>some y) fun y=>bT (bif (!y) == false then bT (bT (I9 L (x1.1,())) fun y=>some y) fun y=>some ((↑x1.4.length:Int) != y) else some true) fun y=>bT (bif y == false then bif (!x1.2 == []) == true then bT (bT (Qs L (x0,x1.1,())) fun y=>some y) fun y=>some !y else some false else some true) fun y=>bif y then some 1 else bif x1.1 == 1 then bT (P8 L (x1.3,())) fun y=>bif !y then some 2 else some 0 else bT (QI L (x0,x1.1,())) fun y=>bif !y.2.2.1 && x1.3 != 0 then some 1 else bif y.2.2.1 && (decide (x1.3 < y.1) || decide (x1.3 > y.2.1)) then some 2 else bT (Qs L (x0,x1.1,())) fun y=>bif y then bT (ZP L (x1.2,())) fun y=>some y else some 0:=by kernel_rfl
def VA (L:Nat):Nat→List (Sum tT)
 | 0=>[⟨182,[.row 25,.row 8],fun _=>.par _ none ((.one (.int .i64):RD).tv tT)⟩]
 | m + 1=>[⟨182,[.row 25,.row 8],fun x=>.par _ (fnT tF tG (qOf tF (VA L m ++ [JD L])) 0 L VO [.rnd [.slot 18 (.int .i64)]] (.one (.int .i64)) (tvL tT [.row 25,.row 8] x) []) ((.one (.int .i64):RD).tv tT)⟩]
theorem JB {C:Cfg}{L:Nat}(h:St C L):∀ m,∀ s ∈ VA L m,Q3 C s
 | 0=>(Zb (QH _ _ _) Zu)
 | m + 1=>have ih:=JB h m
  (Zb (Y4 Yu h.L h.G (Wx Yu (V3 ih (Zb (IZ h) Zu))) [.rnd [.slot 18 (.int .i64)]] (h.T _ _ rfl) (by kernel_rfl) fun _=>rfl) Zu)
def Xd (L m:Nat)(x:Xe×Zw×PUnit):Option (Int):=fnT tF tG (qOf tF (VA L m ++ [JD L])) 0 L VO [.rnd [.slot 18 (.int .i64)]] (.one (.int .i64)) (tvL tT [.row 25,.row 8] x) []
def VX (L:Nat)(x:Xe×Zw×PUnit):Option (Int):=Xd L L x
def Iz (L:Nat):Sum tT:=⟨182,[.row 25,.row 8],fun x=>.par ((.one (.int .i64):RD).Ty tT) (VX L x) ((.one (.int .i64):RD).tv tT)⟩
theorem EF {C:Cfg}{L:Nat}(h:St C L):Q3 C (Iz L):=have ih:=JB h L
 Y4 Yu h.L h.G (Wx Yu (V3 ih (Zb (IZ h) Zu))) [.rnd [.slot 18 (.int .i64)]] (h.T _ _ rfl) (by kernel_rfl) fun _=>rfl
def QV:Nat→Xe→Zw→Nat→(Int×PUnit→Option Int)→Int×PUnit→Option Int:=fun (m:Nat)=>fun x0 x1 L self acc=>bif decide (acc.1 < (↑x1.4.length:Int)) then bT (ZT x1.4 acc.1) fun y=>bT (Xd L m (x0,y,())) fun y=>bif y != 0 then some y else self (Go.IntKind.i64.wrap (acc.1 + 1),()) else some 0
theorem Ez (L m:Nat)(x0:Xe)(x1:Zw):Xd L (m + 1) (x0,x1,())=bT (XM L (x0,x1,())) fun y=>bif y != 0 then some y else Zx (QV m x0 x1 L) L (0,()):=by kernel_rfl
def MP (L:Nat):Nat→List (Sum tT)
 | 0=>[⟨181,[.row 8],fun _=>.par _ none ((.one (.int .i64):RD).tv tT)⟩]
 | m + 1=>[⟨181,[.row 8],fun x=>.par _ (fnT tF tG (qOf tF (MP L m ++ [])) 0 L RY [.rnd [.slot 3 (.int .i64),.slot 9 (.int .i64)]] (.one (.int .i64)) (tvL tT [.row 8] x) []) ((.one (.int .i64):RD).tv tT)⟩]
theorem Rk {C:Cfg}{L:Nat}(h:St C L):∀ m,∀ s ∈ MP L m,Q3 C s
 | 0=>(Zb (QH _ _ _) Zu)
 | m + 1=>have ih:=Rk h m
  (Zb (Y4 Yu h.L h.G (Wx Yu (V3 ih Zu)) [.rnd [.slot 3 (.int .i64),.slot 9 (.int .i64)]] (h.T _ _ rfl) (by kernel_rfl) fun _=>rfl) Zu)
def GM (L m:Nat)(x:Zw×PUnit):Option (Int):=fnT tF tG (qOf tF (MP L m ++ [])) 0 L RY [.rnd [.slot 3 (.int .i64),.slot 9 (.int .i64)]] (.one (.int .i64)) (tvL tT [.row 8] x) []
def DL (L:Nat)(x:Zw×PUnit):Option (Int):=GM L L x
def ZbO (L:Nat):Sum tT:=⟨181,[.row 8],fun x=>.par ((.one (.int .i64):RD).Ty tT) (DL L x) ((.one (.int .i64):RD).tv tT)⟩
theorem Zku {C:Cfg}{L:Nat}(h:St C L):Q3 C (ZbO L):=have ih:=Rk h L
 Y4 Yu h.L h.G (Wx Yu (V3 ih Zu)) [.rnd [.slot 3 (.int .i64),.slot 9 (.int .i64)]] (h.T _ _ rfl) (by kernel_rfl) fun _=>rfl
def MB:Nat→Zw→Nat→(Int×Int×PUnit→Option Int)→Int×Int×PUnit→Option Int:=fun (m:Nat)=>fun x0 L self acc=>bif decide (acc.2.1 < (↑x0.4.length:Int)) then bT (ZT x0.4 acc.2.1) fun y=>bT (GM L m (y,())) fun y=>self (if y > acc.1 then y else acc.1,Go.IntKind.i64.wrap (acc.2.1 + 1),()) else some (Go.IntKind.i64.wrap (acc.1 + 1))
theorem ZjS (L m:Nat)(x0:Zw):GM L (m + 1) (x0,())=Zx (MB m x0 L) L (0,0,()):=by kernel_rfl
def MQ (L:Nat):Nat→List (Sum tT)
 | 0=>[⟨180,[.row 8],fun _=>.par _ none ((.one (.int .i64):RD).tv tT)⟩]
 | m + 1=>[⟨180,[.row 8],fun x=>.par _ (fnT tF tG (qOf tF (MQ L m ++ [])) 0 L RZ [.rnd [.slot 3 (.int .i64),.slot 9 (.int .i64)]] (.one (.int .i64)) (tvL tT [.row 8] x) []) ((.one (.int .i64):RD).tv tT)⟩]
theorem Rl {C:Cfg}{L:Nat}(h:St C L):∀ m,∀ s ∈ MQ L m,Q3 C s
 | 0=>(Zb (QH _ _ _) Zu)
 | m + 1=>have ih:=Rl h m
  (Zb (Y4 Yu h.L h.G (Wx Yu (V3 ih Zu)) [.rnd [.slot 3 (.int .i64),.slot 9 (.int .i64)]] (h.T _ _ rfl) (by kernel_rfl) fun _=>rfl) Zu)
def GN (L m:Nat)(x:Zw×PUnit):Option (Int):=fnT tF tG (qOf tF (MQ L m ++ [])) 0 L RZ [.rnd [.slot 3 (.int .i64),.slot 9 (.int .i64)]] (.one (.int .i64)) (tvL tT [.row 8] x) []
def DN (L:Nat)(x:Zw×PUnit):Option (Int):=GN L L x
def ZbP (L:Nat):Sum tT:=⟨180,[.row 8],fun x=>.par ((.one (.int .i64):RD).Ty tT) (DN L x) ((.one (.int .i64):RD).tv tT)⟩
theorem Zkv {C:Cfg}{L:Nat}(h:St C L):Q3 C (ZbP L):=have ih:=Rl h L
 Y4 Yu h.L h.G (Wx Yu (V3 ih Zu)) [.rnd [.slot 3 (.int .i64),.slot 9 (.int .i64)]] (h.T _ _ rfl) (by kernel_rfl) fun _=>rfl
def MC:Nat→Zw→Nat→(Int×Int×PUnit→Option Int)→Int×Int×PUnit→Option Int:=fun (m:Nat)=>fun x0 L self acc=>bif decide (acc.2.1 < (↑x0.4.length:Int)) then bT (ZT x0.4 acc.2.1) fun y=>bT (GN L m (y,())) fun y=>self (Go.IntKind.i64.wrap (acc.1 + y),Go.IntKind.i64.wrap (acc.2.1 + 1),()) else some acc.1
theorem ZjT (L m:Nat)(x0:Zw):GN L (m + 1) (x0,())=Zx (MC m x0 L) L (1,0,()):=by kernel_rfl
def Qr (L:Nat)(x:Xe×Zw×PUnit):Option Int:=fT [Iz L,ZbO L,ZbP L] L Ho [] (.one (.int .i64)) [.row 25,.row 8] x
def VW (L:Nat):Sum tT:=mU 149 [.row 25,.row 8] (.one (.int .i64)) (Qr L)
theorem Ij:SX VW:=fun h=>sT h (Zb (EF h) (Zb (Zku h) (Zb (Zkv h) Zu))) rfl (by kernel_rfl) fun _=>rfl
theorem Eu (L:Nat)(x0:Xe)(x1:Zw):Qr L (x0,x1,())=bT (DN L (x1,())) fun y=>bif decide (y > 60) then some 6 else bT (DL L (x1,())) fun y=>bif decide (y > 12) then some 11 else bT (VX L (x0,x1,())) fun y=>some y:=by kernel_rfl
end Go.Proofs.YtgjcjbhhhlelnaaGreatDoor
end
noncomputable section
namespace Go.Proofs.YtgjcjbhhhlelnaaGreatDoor
open Go Go.Proofs.YtgjcjbhhhlelnaaGreatDoor.Abs Go.Proofs.YtgjcjbhhhlelnaaGreatDoor.Tl
set_option maxRecDepth 100000
set_option maxHeartbeats 0
def Qz (L:Nat)(x:Zw×PUnit):Option Int:=fT [VW L] L LV [] (.one (.int .i64)) [.row 8] x
def Ru (L:Nat):Sum tT:=mU 110 [.row 8] (.one (.int .i64)) (Qz L)
theorem Zct:SX Ru:=fun h=>sT h (Zb (Ij h) Zu) rfl (by kernel_rfl) fun _=>rfl
theorem Zcp (L:Nat)(x0:Zw):Qz L (x0,())=bT (Qr L (Xe.mk true,x0,())) fun y=>some y:=by kernel_rfl
def UX (L:Nat)(x:Int×PUnit):Option Bool:=fT [] L Zbd [] (.one .bool) [.int .i64] x
def D9 (L:Nat):Sum tT:=mU 105 [.int .i64] (.one .bool) (UX L)
theorem ZbH:SX D9:=fun h=>sT h Zu rfl (by kernel_rfl) fun _=>rfl
theorem ZjP (L:Nat)(x0:Int):UX L (x0,())=some (decide (x0 ≥ 1) && decide (x0≤19)):=by kernel_rfl
def WQ (L:Nat)(x:YJ×PUnit):Option (List Zw):=fT [D9 L] L IL [] (.one (.lst 4 (.row 8))) [.row 15] x
def Oa (L:Nat):Sum tT:=mU 109 [.row 15] (.one (.lst 4 (.row 8))) (WQ L)
theorem FQ:SX Oa:=fun h=>sT h (Zb (ZbH h) Zu) rfl (by kernel_rfl) fun _=>rfl
theorem FH (L:Nat)(x0:YJ):WQ L (x0,())=bT (UX L (x0.1,())) fun y=>bif !y then some [] else bT (ZT IU x0.1) fun y=>bif y.5 then bT (apT 56 [] [x0.5]) fun y_1=>bif y.6 then bT (apT 56 y_1 [x0.6]) fun y_2=>bif y.7 then bT (apT 56 y_2 x0.7) fun y=>some y else some y_2 else bif y.7 then bT (apT 56 y_1 x0.7) fun y=>some y else some y_1 else bif y.6 then bT (apT 56 [] [x0.6]) fun y_1=>bif y.7 then bT (apT 56 y_1 x0.7) fun y=>some y else some y_1 else bif y.7 then bT (apT 56 [] x0.7) fun y=>some y else some []:=by kernel_rfl
def Zlr:List (Inl tT):=[⟨147,Qi,[.rnd [.slot 8 (.int .i64)]],.one (.int .i64),[]⟩,⟨148,Zba,[],.one (.bool),[]⟩]
def P7 (L:Nat)(x:Zl×Int×Int×PUnit):Option (Int×Bool×PUnit):=fI [] L Zlr ZfR [] (.tup [.int .i64,.bool]) [.row 19,.int .i64,.int .i64] x
def ZgN (L:Nat):Sum tT:=mU 108 [.row 19,.int .i64,.int .i64] (.tup [.int .i64,.bool]) (P7 L)
theorem Zp5:SX ZgN:=fun h=>sI h Zu (Zb ⟨h.T _ _ rfl,by kernel_rfl⟩ (Zb ⟨h.T _ _ rfl,by kernel_rfl⟩ Zu)) rfl (by kernel_rfl) fun _=>rfl
def SK:Zl→Int→Int→(Int×PUnit→Option Int)→Int×PUnit→Option Int:=fun x0 x1 x2 self acc=>bif decide (acc.1 < (↑x0.3.length:Int)) then bT (ZT x0.3 acc.1) fun y=>bif y.1 == x1 && y.2 == x2 then some acc.1 else self (Go.IntKind.i64.wrap (acc.1 + 1),()) else some (-1)
theorem Zph (L:Nat)(x0:Zl)(x1:Int)(x2:Int):P7 L (x0,x1,x2,())=bT (Zx (SK x0 x1 x2) L (0,())) fun y=>bif decide (y < 0) then some (0,false,()) else bT (ZT x0.3 y) fun y=>some (y.3,true,()):=by kernel_rfl
def YM (L:Nat)(x:(List Int)×(List Int)×PUnit):Option Bool:=fT [] L Jf [.rnd [.slot 13 (.int .i64)]] (.one .bool) [.lst 1 (.int .i64),.lst 1 (.int .i64)] x
def Jl (L:Nat):Sum tT:=mU 169 [.lst 1 (.int .i64),.lst 1 (.int .i64)] (.one .bool) (YM L)
theorem Tf:SX Jl:=fun h=>sT h Zu rfl (by kernel_rfl) fun _=>rfl
def QO:List Int→List Int→(Int×PUnit→Option Bool)→Int×PUnit→Option Bool:=fun x0 x1 self acc=>bif decide (acc.1 < (↑x0.length:Int)) then bT (ZT x0 acc.1) fun y=>bT (ZT x1 acc.1) fun y_1=>bif y != y_1 then some false else self (Go.IntKind.i64.wrap (acc.1 + 1),()) else some true
theorem OW (L:Nat)(x0:(List Int))(x1:(List Int)):YM L (x0,x1,())=bif (↑x0.length:Int) != (↑x1.length:Int) then some false else Zx (QO x0 x1) L (0,()):=by kernel_rfl
def VY (L:Nat)(x:Wj×Wj×PUnit):Option Bool:=fT [Jl L] L ZcP [] (.one .bool) [.row 2,.row 2] x
def Lc (L:Nat):Sum tT:=mU 132 [.row 2,.row 2] (.one .bool) (VY L)
theorem EG:SX Lc:=fun h=>sT h (Zb (Tf h) Zu) rfl (by kernel_rfl) fun _=>rfl
theorem ZlQ (L:Nat)(x0:Wj)(x1:Wj):VY L (x0,x1,())=bT (bif (x0.1 == x1.1 && x0.2 == x1.2 && x0.3 == x1.3 && x0.4 == x1.4) == true then bT (YM L (x0.5,x1.5,())) fun y=>some y else some false) fun y=>bT (bif y == true then bT (YM L (x0.6,x1.6,())) fun y=>some y else some false) fun y=>some y:=by kernel_rfl
def Dt (L:Nat):Nat→List (Sum tT)
 | 0=>[⟨179,[.row 8,.row 8],fun _=>.par _ none ((.one (.bool):RD).tv tT)⟩]
 | m + 1=>[⟨179,[.row 8,.row 8],fun x=>.par _ (fnT tF tG (qOf tF (Dt L m ++ [])) 0 L Sm [.rnd [.slot 38 (.int .i64)]] (.one (.bool)) (tvL tT [.row 8,.row 8] x) []) ((.one (.bool):RD).tv tT)⟩]
theorem Du {C:Cfg}{L:Nat}(h:St C L):∀ m,∀ s ∈ Dt L m,Q3 C s
 | 0=>(Zb (QH _ _ _) Zu)
 | m + 1=>have ih:=Du h m
  (Zb (Y4 Yu h.L h.G (Wx Yu (V3 ih Zu)) [.rnd [.slot 38 (.int .i64)]] (h.T _ _ rfl) (by kernel_rfl) fun _=>rfl) Zu)
def Oq (L m:Nat)(x:Zw×Zw×PUnit):Option (Bool):=fnT tF tG (qOf tF (Dt L m ++ [])) 0 L Sm [.rnd [.slot 38 (.int .i64)]] (.one (.bool)) (tvL tT [.row 8,.row 8] x) []
def Lp (L:Nat)(x:Zw×Zw×PUnit):Option (Bool):=Oq L L x
def EQ (L:Nat):Sum tT:=⟨179,[.row 8,.row 8],fun x=>.par ((.one (.bool):RD).Ty tT) (Lp L x) ((.one (.bool):RD).tv tT)⟩
theorem Zey {C:Cfg}{L:Nat}(h:St C L):Q3 C (EQ L):=have ih:=Du h L
 Y4 Yu h.L h.G (Wx Yu (V3 ih Zu)) [.rnd [.slot 38 (.int .i64)]] (h.T _ _ rfl) (by kernel_rfl) fun _=>rfl
def IR:Nat→Zw→Zw→Nat→(Int×PUnit→Option Bool)→Int×PUnit→Option Bool:=fun (m:Nat)=>fun x0 x1 L self acc=>bif decide (acc.1 < (↑x0.4.length:Int)) then bT (ZT x0.4 acc.1) fun y=>bT (ZT x1.4 acc.1) fun y_1=>bT (bT (Oq L m (y,y_1,())) fun y=>some y) fun y=>bif !y then some false else self (Go.IntKind.i64.wrap (acc.1 + 1),()) else some true
theorem Zei (L m:Nat)(x0:Zw)(x1:Zw):Oq L (m + 1) (x0,x1,())=bif x0.1 != x1.1 || !x0.2 == x1.2 || x0.3 != x1.3 || (↑x0.4.length:Int) != (↑x1.4.length:Int) then some false else Zx (IR m x0 x1 L) L (0,()):=by kernel_rfl
def I8 (L:Nat)(x:Zw×PUnit):Option Bool:=fT [EQ L] L ZcO [] (.one .bool) [.row 8] x
def ZeH (L:Nat):Sum tT:=mU 145 [.row 8] (.one .bool) (I8 L)
theorem Zm7:SX ZeH:=fun h=>sT h (Zb (Zey h) Zu) rfl (by kernel_rfl) fun _=>rfl
theorem ZlP (L:Nat)(x0:Zw):I8 L (x0,())=bT (Lp L (x0,Zw.mk 0 [] 0 [],())) fun y=>some y:=by kernel_rfl
def Oe (L:Nat)(x:YJ×PUnit):Option Bool:=fT [Lc L,ZeH L] L Zbc [] (.one .bool) [.row 15] x
def ZbM (L:Nat):Sum tT:=mU 106 [.row 15] (.one .bool) (Oe L)
theorem Zks:SX ZbM:=fun h=>sT h (Zb (EG h) (Zb (Zm7 h) Zu)) rfl (by kernel_rfl) fun _=>rfl
theorem ZjO (L:Nat)(x0:YJ):Oe L (x0,())=bT (ZT IU x0.1) fun y=>bT (bif ((y.2 != 0 || x0.2 == 0) && (y.3 != 0 || x0.3 == 0) && (y.4 || x0.4 == 0)) == true then bif y.5 == false then bT (I8 L (x0.5,())) fun y=>some y else some true else some false) fun y_1=>bT (bif y_1 == true then bif y.6 == false then bT (I8 L (x0.6,())) fun y=>some y else some true else some false) fun y_2=>bT (bif (y_2 && (y.7 || (↑x0.7.length:Int) == 0)) == true then bif y.8 == false then bT (VY L (x0.8,Wj.mk 0 0 0 0 [] [],())) fun y=>some y else some true else some false) fun y_3=>some (y_3 && (y.9 || !x0.9)):=by kernel_rfl
def Wi (L:Nat)(x:XH×YJ×PUnit):Option Int:=fT [Ob L,Iu L,Ru L,Oa L,ZgN L,XL L,ZbM L,D9 L] L KH [.rnd [.slot 103 (.int .i64)]] (.one (.int .i64)) [.row 24,.row 15] x
def Gh (L:Nat):Sum tT:=mU 57 [.row 24,.row 15] (.one (.int .i64)) (Wi L)
theorem PP:SX Gh:=fun h=>sT h (Zb (Dl h) (Zb (EC h) (Zb (Zct h) (Zb (FQ h) (Zb (Zp5 h) (Zb (J9 h) (Zb (Zks h) (Zb (ZbH h) Zu)))))))) rfl (by kernel_rfl) fun _=>rfl
def YK:XH→YJ→Nat→O0→List Zw→(Int×PUnit→Option Int)→Int×PUnit→Option Int:=fun x0 x1 L y y_1 self acc=>bif decide (acc.1 < (↑y_1.length:Int)) then bT (ZT y_1 acc.1) fun y=>bT (Qz L (y,())) fun y_2=>bif y_2 != 0 then some y_2 else bT (Qq L (x0,y,())) fun y=>bif !y then some 2 else self (Go.IntKind.i64.wrap (acc.1 + 1),()) else bif y.8 then bT (QJ L (x1.8,())) fun y=>some y else some 0
def UB:XH→YJ→Nat→O0→List Zw→(Int×PUnit→Option Int)→Int×PUnit→Option Int:=fun x0 x1 L y y_1 self acc=>bif decide (acc.1 < (↑y_1.length:Int)) then bT (ZT y_1 acc.1) fun y=>bT (Qz L (y,())) fun y_2=>bif y_2 != 0 then some y_2 else bT (Qq L (x0,y,())) fun y=>bif !y then some 2 else self (Go.IntKind.i64.wrap (acc.1 + 1),()) else bif y.8 then bT (QJ L (x1.8,())) fun y=>some y else some 0
def UC:XH→YJ→Nat→O0→List Zw→(Int×PUnit→Option Int)→Int×PUnit→Option Int:=fun x0 x1 L y y_1 self acc=>bif decide (acc.1 < (↑y_1.length:Int)) then bT (ZT y_1 acc.1) fun y=>bT (Qz L (y,())) fun y_2=>bif y_2 != 0 then some y_2 else bT (Qq L (x0,y,())) fun y=>bif !y then some 2 else self (Go.IntKind.i64.wrap (acc.1 + 1),()) else bif y.8 then bT (QJ L (x1.8,())) fun y=>some y else some 0
theorem PO (L:Nat)(x0:XH)(x1:YJ):Wi L (x0,x1,())=bT (UX L (x1.1,())) fun y=>bT (bif (!y) == false then bT (Oe L (x1,())) fun y=>some !y else some true) fun y=>bif y then some 1 else bT (ZT IU x1.1) fun y=>bT (ZZ L (x0,y.2,x1.2,0,())) fun y_1=>bif !y_1 && y.2 != 0 then some 2 else bif x1.1 == 14 then bT (P7 L (x0.1,x0.2,x1.2,())) fun y_2=>bif !y_2.2.1 || y_2.1 != x1.4 then some 16 else bT (ZZ L (x0,10,x1.3,x1.2,())) fun y_3=>bif !y_3 then some 2 else bT (ZT x0.p.2 x1.2) fun y_4=>bT (ZT y_4.2 x1.3) fun y_5=>bif (↑x1.7.length:Int) != y_5.2 then some 8 else bT (WQ L (x1,())) fun y_6=>Zx (YK x0 x1 L y y_6) L (0,()) else bif x1.1 == 15 then bT (ZZ L (x0,10,x1.3,x0.2,())) fun y_2=>bif !y_2 then some 2 else bT (ZT x0.p.2 x0.2) fun y_3=>bT (ZT y_3.2 x1.3) fun y_4=>bif (↑x1.7.length:Int) != y_4.2 then some 8 else bT (WQ L (x1,())) fun y_5=>Zx (UB x0 x1 L y y_5) L (0,()) else bT (bif (y.3 != 0) == true then bT (ZZ L (x0,y.3,x1.3,0,())) fun y=>some !y else some false) fun y_2=>bif y_2 then some 2 else bT (WQ L (x1,())) fun y_3=>Zx (UC x0 x1 L y y_3) L (0,()):=by kernel_rfl
end Go.Proofs.YtgjcjbhhhlelnaaGreatDoor
end
noncomputable section
namespace Go.Proofs.YtgjcjbhhhlelnaaGreatDoor
open Go Go.Proofs.YtgjcjbhhhlelnaaGreatDoor.Abs Go.Proofs.YtgjcjbhhhlelnaaGreatDoor.Tl
set_option maxRecDepth 100000
set_option maxHeartbeats 0
def Y6 (L:Nat)(x:Zl×Int×Wp×PUnit):Option Int:=fT [Gh L,Qh L] L PS [.rnd [.slot 66 (.int .i64)]] (.one (.int .i64)) [.row 19,.int .i64,.row 16] x
def NQ (L:Nat):Sum tT:=mU 37 [.row 19,.int .i64,.row 16] (.one (.int .i64)) (Y6 L)
theorem ZfE:SX NQ:=fun h=>sT h (Zb (PP h) (Zb (QD h) Zu)) rfl (by kernel_rfl) fun _=>rfl
def Jy:Zl→Int→Wp→Nat→(Int×PUnit→Option Int)→Int×PUnit→Option Int:=fun x0 x1 x2 L self acc=>bif decide (acc.1 < (↑x2.4.length:Int)) then bT (ZT x2.4 acc.1) fun y=>bT (Wi L (XH.mk x0 x1 x2,y,())) fun y=>bif y != 0 then some y else self (Go.IntKind.i64.wrap (acc.1 + 1),()) else bT (ZT x2.4 (Go.IntKind.i64.wrap ((↑x2.4.length:Int) - 1))) fun y=>bif y.1 != 19 && y.1 != 4 then some 8 else some 0
theorem NI (L:Nat)(x0:Zl)(x1:Int)(x2:Wp):Y6 L (x0,x1,x2,())=bif decide (x1 < 0) || decide (x1 ≥ (↑x0.2.length:Int)) then some 2 else bT (ZP L (x2.1,())) fun y=>bif y != 0 then some y else bif decide (x2.2 < 0) || decide (x2.2 > x2.3) || decide (x2.2 > 6) || decide (x2.3 > 16) then some 2 else bif (↑x2.4.length:Int) == 0 then some 7 else bif decide ((↑x2.4.length:Int) > 1000) then some 6 else Zx (Jy x0 x1 x2 L) L (0,()):=by kernel_rfl
def I7 (L:Nat)(x:Zl×PUnit):Option Int:=fT [] L ZcN [.rnd [.slot 15 (.int .i64),.cont 1 (.map (.pint .i64))]] (.one (.int .i64)) [.row 19] x
def ZeG (L:Nat):Sum tT:=mU 36 [.row 19] (.one (.int .i64)) (I7 L)
theorem Zm6:SX ZeG:=fun h=>sT h Zu rfl (by kernel_rfl) fun _=>rfl
def UJ:Zl→(Int×List (Int×Int)×PUnit→Option Int)→Int×List (Int×Int)×PUnit→Option Int:=fun x0 self acc=>bif decide (acc.1 < (↑x0.3.length:Int)) then bT (ZT x0.3 acc.1) fun y=>bif decide ((if y.2 < y.1 then y.2 else y.1) < 0) || decide ((if y.2 > y.1 then y.2 else y.1) ≥ (↑x0.2.length:Int)) || y.1 == y.2 then some 2 else bif decide (y.3 < 1) || decide (y.3 > 1000000000) then some 2 else bif hasK (MK.pint Go.IntKind.i64) acc.2.1 (y.1,y.2) then some 4 else self (Go.IntKind.i64.wrap (acc.1 + 1),Zbv (MK.pint Go.IntKind.i64) acc.2.1 (y.1,y.2),()) else some 0
theorem ZlO (L:Nat)(x0:Zl):I7 L (x0,())=bif decide ((↑x0.3.length:Int) > 32) then some 6 else Zx (UJ x0) L (0,[],()):=by kernel_rfl
def I5 (L:Nat)(x:Wp×ZX×PUnit):Option Bool:=fT [] L RV [] (.one .bool) [.row 16,.row 10] x
def D8 (L:Nat):Sum tT:=mU 56 [.row 16,.row 10] (.one .bool) (I5 L)
theorem Zex:SX D8:=fun h=>sT h Zu rfl (by kernel_rfl) fun _=>rfl
theorem Zeh (L:Nat)(x0:Wp)(x1:ZX):I5 L (x0,x1,())=some (x0.1 == x1.1 && x0.2 == (↑x1.2.length:Int) && (↑x1.4.length:Int) == 0):=by kernel_rfl
def Zfz:List (Inl tT):=[⟨55,Yd,[.rnd [.slot 17 (.int .i64)]],.one (.bool),[]⟩]
def G6 (L:Nat)(x:ZQ×PUnit):Option Bool:=fI [D8 L] L Zfz Aj [] (.one .bool) [.row 17] x
def Ce (L:Nat):Sum tT:=mU 35 [.row 17] (.one .bool) (G6 L)
theorem Zio:SX Ce:=fun h=>sI h (Zb (Zex h) Zu) (Zb ⟨h.T _ _ rfl,by kernel_rfl⟩ Zu) rfl (by kernel_rfl) fun _=>rfl
def Uw:ZQ→Nat→(Int×PUnit→Option Bool)→Int×PUnit→Option Bool:=fun x0 L self acc=>bif decide (acc.1 < (↑x0.2.length:Int)) then bT (ZT x0.2 acc.1) fun y=>bT (ZT x0.Decl.11 acc.1) fun y_1=>bT (I5 L (y,y_1,())) fun y=>bif !y then some false else self (Go.IntKind.i64.wrap (acc.1 + 1),()) else some true
theorem FD (L:Nat)(x0:ZQ):G6 L (x0,())=bT (bif (↑x0.2.length:Int) != (↑x0.Decl.11.length:Int) then some false else Zx (Uw x0 L) L (0,())) fun y=>some y:=by kernel_rfl
def ZK (L:Nat)(x:Int×Int×Int×PUnit):Option Bool:=fT [] L Nk [] (.one .bool) [.int .i64,.int .i64,.int .i64] x
def QP (L:Nat):Sum tT:=mU 78 [.int .i64,.int .i64,.int .i64] (.one .bool) (ZK L)
theorem X7:SX QP:=fun h=>sT h Zu rfl (by kernel_rfl) fun _=>rfl
theorem Zf7 (L:Nat)(x0:Int)(x1:Int)(x2:Int):ZK L (x0,x1,x2,())=some (decide (x0 ≥ x1) && decide (x0≤x2)):=by kernel_rfl
def Zh4:List (Inl tT):=[⟨143,YI,[.rnd [.slot 8 (.int .i64)]],.one (.int .i64),[]⟩,⟨144,PT,[],.one (.bool),[]⟩]
def DR (L:Nat)(x:Xj×(List UInt8)×PUnit):Option Int:=fI [] L Zh4 Zbh [] (.one (.int .i64)) [.row 21,.str] x
def ZbQ (L:Nat):Sum tT:=mU 104 [.row 21,.str] (.one (.int .i64)) (DR L)
theorem Zkw:SX ZbQ:=fun h=>sI h Zu (Zb ⟨h.T _ _ rfl,by kernel_rfl⟩ (Zb ⟨h.T _ _ rfl,by kernel_rfl⟩ Zu)) rfl (by kernel_rfl) fun _=>rfl
def Zf2:List (Inl tT):=[⟨102,JS,[.rnd [.slot 16 (.int .i64),.cont 1 (.map .pstr)]],.one (.int .i64),[(3,[.cont 1 (.map .pstr)])]⟩,⟨103,Be,[],.one (.int .i64),[(4,[.cont 1 (.map .pstr)])]⟩]
def G9 (L:Nat)(x:Xj×PUnit):Option Int:=fI [QP L,ZbQ L] L Zf2 A7 [] (.one (.int .i64)) [.row 21] x
def Cm (L:Nat):Sum tT:=mU 54 [.row 21] (.one (.int .i64)) (G9 L)
theorem Zis:SX Cm:=fun h=>sI h (Zb (X7 h) (Zb (Zkw h) Zu)) (Zb ⟨h.T _ _ rfl,by kernel_rfl⟩ (Zb ⟨h.T _ _ rfl,by kernel_rfl⟩ Zu)) rfl (by kernel_rfl) fun _=>rfl
def NG:Xj→Nat→(Int×List (List UInt8×List UInt8)×PUnit→Option (Int×List (List UInt8×List UInt8)×PUnit))→Int×List (List UInt8×List UInt8)×PUnit→Option (Int×List (List UInt8×List UInt8)×PUnit):=fun x0 L self acc=>bif decide (acc.1 < (↑x0.4.length:Int)) then bT (ZT x0.4 acc.1) fun y=>bT (bT (DR L (x0,y.1,())) fun y_1=>bT (bif decide (y_1 < 0) == false then bT (DR L (x0,y.2,())) fun y=>some (decide (y < 0)) else some true) fun y_2=>bif y_2 then some (5,acc.2.1,()) else bif y.1 == y.2 then some (1,acc.2.1,()) else bT (ZK L (y.3,1,1000000000,())) fun y_3=>bif !y_3 then some (2,acc.2.1,()) else bif hasK MK.pstr acc.2.1 (y.1,y.2) then some (4,acc.2.1,()) else some (0,Zbv MK.pstr acc.2.1 (y.1,y.2),())) fun y=>bif y.1 != 0 then some (y.1,y.2.1,()) else self (Go.IntKind.i64.wrap (acc.1 + 1),y.2.1,()) else some (0,acc.2.1,())
theorem Zic (L:Nat)(x0:Xj):G9 L (x0,())=bT (bif decide ((↑x0.4.length:Int) > 32) then some (6,[],()) else Zx (NG x0 L) L (0,[],())) fun y=>some y.1:=by kernel_rfl
def WJ (L:Nat)(x:(List (List UInt8))×(List UInt8)×PUnit):Option Int:=fT [] L Xl [.rnd [.slot 8 (.int .i64)]] (.one (.int .i64)) [.lst 1 .str,.str] x
def Xp (L:Nat):Sum tT:=mU 170 [.lst 1 .str,.str] (.one (.int .i64)) (WJ L)
theorem UU:SX Xp:=fun h=>sT h Zu rfl (by kernel_rfl) fun _=>rfl
def Wu:List (List UInt8)→List UInt8→(Int×PUnit→Option Int)→Int×PUnit→Option Int:=fun x0 x1 self acc=>bif decide (acc.1 < (↑x0.length:Int)) then bT (ZT x0 acc.1) fun y=>bif x1 == y then some acc.1 else self (Go.IntKind.i64.wrap (acc.1 + 1),()) else some (-1)
theorem UO (L:Nat)(x0:(List (List UInt8)))(x1:(List UInt8)):WJ L (x0,x1,())=Zx (Wu x0 x1) L (0,()):=by kernel_rfl
def Ye (L:Nat)(x:(List (List UInt8))×(List UInt8)×PUnit):Option Bool:=fT [Xp L] L Q4 [] (.one .bool) [.lst 1 .str,.str] x
def YW (L:Nat):Sum tT:=mU 133 [.lst 1 .str,.str] (.one .bool) (Ye L)
theorem QE:SX YW:=fun h=>sT h (Zb (UU h) Zu) rfl (by kernel_rfl) fun _=>rfl
theorem J6 (L:Nat)(x0:(List (List UInt8)))(x1:(List UInt8)):Ye L (x0,x1,())=bT (WJ L (x0,x1,())) fun y=>some (decide (y ≥ 0)):=by kernel_rfl
def Zch:List (Inl tT):=[⟨175,YR,[.rnd [.slot 8 (.int .i64)]],.one (.int .i64),[]⟩,⟨176,OE,[],.one (.bool),[]⟩]
def Qu (L:Nat)(x:Ze×(List UInt8)×PUnit):Option Int:=fI [] L Zch Bd [] (.one (.int .i64)) [.row 14,.str] x
def I4 (L:Nat):Sum tT:=mU 136 [.row 14,.str] (.one (.int .i64)) (Qu L)
theorem Dn:SX I4:=fun h=>sI h Zu (Zb ⟨h.T _ _ rfl,by kernel_rfl⟩ (Zb ⟨h.T _ _ rfl,by kernel_rfl⟩ Zu)) rfl (by kernel_rfl) fun _=>rfl
def Kz:Ze→List UInt8→(Int×PUnit→Option Int)→Int×PUnit→Option Int:=fun x0 x1 self acc=>bif decide (acc.1 < (↑x0.11.length:Int)) then bT (ZT x0.11 acc.1) fun y=>bif y.1 == x1 then some acc.1 else self (Go.IntKind.i64.wrap (acc.1 + 1),()) else some (-1)
theorem Zej (L:Nat)(x0:Ze)(x1:(List UInt8)):Qu L (x0,x1,())=bT (Zx (Kz x0 x1) L (0,())) fun y=>some y:=by kernel_rfl
def Zh7:List (Inl tT):=[⟨177,Y3,[],.one (.bool),[]⟩,⟨198,YC,[.rnd [.slot 8 (.int .i64)]],.one (.int .i64),[]⟩,⟨178,Nj,[],.one (.bool),[]⟩]
end Go.Proofs.YtgjcjbhhhlelnaaGreatDoor
end
noncomputable section
namespace Go.Proofs.YtgjcjbhhhlelnaaGreatDoor
open Go Go.Proofs.YtgjcjbhhhlelnaaGreatDoor.Abs Go.Proofs.YtgjcjbhhhlelnaaGreatDoor.Tl
set_option maxRecDepth 100000
set_option maxHeartbeats 0
def Oi (L:Nat)(x:Ze×OB×PUnit):Option Int:=fI [QP L,YW L,I4 L] L Zh7 Zbl [] (.one (.int .i64)) [.row 14,.row 12] x
def ZbT (L:Nat):Sum tT:=mU 141 [.row 14,.row 12] (.one (.int .i64)) (Oi L)
theorem Zkz:SX ZbT:=fun h=>sI h (Zb (X7 h) (Zb (QE h) (Zb (Dn h) Zu))) (Zb ⟨h.T _ _ rfl,by kernel_rfl⟩ (Zb ⟨h.T _ _ rfl,by kernel_rfl⟩ (Zb ⟨h.T _ _ rfl,by kernel_rfl⟩ Zu))) rfl (by kernel_rfl) fun _=>rfl
def Vp:Ze→OB→(Int×PUnit→Option Int)→Int×PUnit→Option Int:=fun x0 x1 self acc=>bif decide (acc.1 < (↑x0.4.length:Int)) then bT (ZT x0.4 acc.1) fun y=>bif y.1 == x1.3 then some acc.1 else self (Go.IntKind.i64.wrap (acc.1 + 1),()) else some (-1)
def F6:Ze→OB→(Int×PUnit→Option Int)→Int×PUnit→Option Int:=fun x0 x1 self acc=>bif decide (acc.1 < (↑x0.4.length:Int)) then bT (ZT x0.4 acc.1) fun y=>bif y.1 == x1.3 then some acc.1 else self (Go.IntKind.i64.wrap (acc.1 + 1),()) else some (-1)
def F7:Ze→OB→(Int×PUnit→Option Int)→Int×PUnit→Option Int:=fun x0 x1 self acc=>bif decide (acc.1 < (↑x0.4.length:Int)) then bT (ZT x0.4 acc.1) fun y=>bif y.1 == x1.3 then some acc.1 else self (Go.IntKind.i64.wrap (acc.1 + 1),()) else some (-1)
theorem ZjX (L:Nat)(x0:Ze)(x1:OB):Oi L (x0,x1,())=bif x1.2 == [99,114,101,97,116,101,100] then bT (Qu L (x0,x1.3,())) fun y=>bif !decide (y ≥ 0) then some 5 else bT (ZK L (x1.1,(-1000),1000,())) fun y=>bif !y || x1.1 == 0 then some 2 else some 0 else bif x1.2 == [101,110,100,101,100] then bT (Qu L (x0,x1.3,())) fun y=>bif !decide (y ≥ 0) then some 5 else bT (ZK L (x1.1,(-1000),1000,())) fun y=>bif !y || x1.1 == 0 then some 2 else some 0 else bif x1.2 == [105,110,115,105,100,101] then bT (Qu L (x0,x1.3,())) fun y=>bif !decide (y ≥ 0) then some 5 else bT (ZK L (x1.1,(-1000),1000,())) fun y=>bif !y || x1.1 == 0 then some 2 else some 0 else bif x1.2 == [115,116,111,114,101,100] then bT (bT (Zx (Vp x0 x1) L (0,())) fun y=>some (decide (y ≥ 0))) fun y=>bif !y then some 5 else bT (ZK L (x1.1,(-1000),1000,())) fun y=>bif !y || x1.1 == 0 then some 2 else some 0 else bif x1.2 == [101,110,116,101,114,101,100] then bT (bT (Zx (F6 x0 x1) L (0,())) fun y=>some (decide (y ≥ 0))) fun y=>bif !y then some 5 else bT (ZK L (x1.1,(-1000),1000,())) fun y=>bif !y || x1.1 == 0 then some 2 else some 0 else bif x1.2 == [108,101,102,116] then bT (bT (Zx (F7 x0 x1) L (0,())) fun y=>some (decide (y ≥ 0))) fun y=>bif !y then some 5 else bT (ZK L (x1.1,(-1000),1000,())) fun y=>bif !y || x1.1 == 0 then some 2 else some 0 else bif x1.2 == [99,111,117,110,116,101,100] then bT (Ye L (x0.10,x1.3,())) fun y=>bif !y then some 5 else bT (ZK L (x1.1,(-1000),1000,())) fun y=>bif !y || x1.1 == 0 then some 2 else some 0 else some 1:=by kernel_rfl
def Zh5:List (Inl tT):=[⟨137,UF,[.rnd [.slot 16 (.int .i64),.cont 1 (.map .str)]],.one (.int .i64),[(3,[.cont 1 (.map .str)])]⟩,⟨138,PU,[],.one (.int .i64),[(4,[.cont 1 (.map .str)])]⟩,⟨139,JU,[.rnd [.slot 16 (.int .i64),.cont 1 (.map .str)]],.one (.int .i64),[(5,[.cont 1 (.map .str)])]⟩,⟨140,LX,[],.one (.int .i64),[]⟩,⟨52,WB,[],.one (.int .i64),[(5,[.cont 1 (.map .str)])]⟩]
def Og (L:Nat)(x:Ze×PUnit):Option Int:=fI [ZcH L,ZbT L,Qh L] L Zh5 Zbj [] (.one (.int .i64)) [.row 14] x
def ZbR (L:Nat):Sum tT:=mU 101 [.row 14] (.one (.int .i64)) (Og L)
theorem Zkx:SX ZbR:=fun h=>sI h (Zb (Ziu h) (Zb (Zkz h) (Zb (QD h) Zu))) (Zb ⟨h.T _ _ rfl,by kernel_rfl⟩ (Zb ⟨h.T _ _ rfl,by kernel_rfl⟩ (Zb ⟨h.T _ _ rfl,by kernel_rfl⟩ (Zb ⟨h.T _ _ rfl,by kernel_rfl⟩ (Zb ⟨h.T _ _ rfl,by kernel_rfl⟩ Zu))))) rfl (by kernel_rfl) fun _=>rfl
def Gp:Ze→Nat→Zfn→(Int×List (List UInt8)×PUnit→Option (Int×List (List UInt8)×PUnit))→Int×List (List UInt8)×PUnit→Option (Int×List (List UInt8)×PUnit):=fun x0 L y self acc=>bif decide (acc.1 < (↑y.2.length:Int)) then bT (ZT y.2 acc.1) fun y=>bT (bT (Oi L (x0,y,())) fun y=>some y) fun y=>bif y != 0 then some (y,acc.2.1,()) else self (Go.IntKind.i64.wrap (acc.1 + 1),acc.2.1,()) else some (0,acc.2.1,())
def Gq:Ze→Nat→(Int×List (List UInt8)×PUnit→Option (Int×List (List UInt8)×PUnit))→Int×List (List UInt8)×PUnit→Option (Int×List (List UInt8)×PUnit):=fun x0 L self acc=>bif decide (acc.1 < (↑x0.13.length:Int)) then bT (ZT x0.13 acc.1) fun y=>bT (bT (bT (ZP L (y.1,())) fun y_1=>bif y_1 != 0 then some (y_1,acc.2.1,()) else bif hasK MK.str acc.2.1 y.1 then some (4,acc.2.1,()) else some (0,Zbv MK.str acc.2.1 y.1,())) fun y_1=>bif y_1.1 != 0 then some (y_1.1,y_1.2.1,()) else bif (↑y.2.length:Int) == 0 then some (7,y_1.2.1,()) else bT (bif decide ((↑y.2.length:Int) > 8) then some (6,y_1.2.1,()) else Zx (Gp x0 L y) L (0,y_1.2.1,())) fun y_2=>bif y_2.1 != 0 then some (y_2.1,y_2.2.1,()) else bT (P8 L (y.3,())) fun y=>bif !y then some (2,y_2.2.1,()) else some (0,y_2.2.1,())) fun y=>bif y.1 != 0 then some (y.1,y.2.1,()) else self (Go.IntKind.i64.wrap (acc.1 + 1),y.2.1,()) else some (0,acc.2.1,())
theorem ZjV (L:Nat)(x0:Ze):Og L (x0,())=bT (bif decide ((↑x0.13.length:Int) > 32) then some (6,[],()) else Zx (Gq x0 L) L (0,[],())) fun y=>some y.1:=by kernel_rfl
def Jm (L:Nat)(x:Int×Int×PUnit):Option Bool:=fT [QP L,ZcH L] L Zbi [] (.one .bool) [.int .i64,.int .i64] x
def Oc (L:Nat):Sum tT:=mU 131 [.int .i64,.int .i64] (.one .bool) (Jm L)
theorem Dp:SX Oc:=fun h=>sT h (Zb (X7 h) (Zb (Ziu h) Zu)) rfl (by kernel_rfl) fun _=>rfl
theorem ZjU (L:Nat)(x0:Int)(x1:Int):Jm L (x0,x1,())=bif x0 == 1 then bT (P8 L (x1,())) fun y=>some y else bif x0 == 2 then some (x1 == 0 || x1 == 1) else bif x0 == 3 then bT (ZK L (x1,0,1000000000,())) fun y=>some y else some false:=by kernel_rfl
def GG (L:Nat)(x:Ze×XB×PUnit):Option Int:=fT [QP L,Oc L,I4 L] L A8 [.rnd [.slot 30 (.int .i64)]] (.one (.int .i64)) [.row 14,.row 11] x
def C9 (L:Nat):Sum tT:=mU 99 [.row 14,.row 11] (.one (.int .i64)) (GG L)
theorem Zit:SX C9:=fun h=>sT h (Zb (X7 h) (Zb (Dp h) (Zb (Dn h) Zu))) rfl (by kernel_rfl) fun _=>rfl
def U1:XB→Nat→ZX→(Int×PUnit→Option Int)→Int×PUnit→Option Int:=fun x1 L y self acc=>bif decide (acc.1 < (↑x1.2.length:Int)) then bT (ZT x1.2 acc.1) fun y_1=>bT (ZT y.2 acc.1) fun y=>bT (Jm L (y.2,y_1,())) fun y=>bif !y then some 2 else self (Go.IntKind.i64.wrap (acc.1 + 1),()) else bT (ZK L (x1.3,0,1000000000,())) fun y=>bT (bif (!y) == false then bT (ZK L (x1.4,0,1000000000,())) fun y=>some !y else some true) fun y=>bT (bif y == false then bT (ZK L (x1.5,0,1000000000,())) fun y=>some !y else some true) fun y=>bif y || x1.4 == 0 && x1.5 != 0 then some 2 else some 0
theorem Zid (L:Nat)(x0:Ze)(x1:XB):GG L (x0,x1,())=bT (Qu L (x0,x1.1,())) fun y=>bif decide (y < 0) then some 5 else bT (ZT x0.11 y) fun y=>bif (↑x1.2.length:Int) != (↑y.2.length:Int) then some 8 else Zx (U1 x1 L y) L (0,()):=by kernel_rfl
def UY (L:Nat)(x:Zw×PUnit):Option Int:=fT [VW L] L Zbf [] (.one (.int .i64)) [.row 8] x
def ZbN (L:Nat):Sum tT:=mU 208 [.row 8] (.one (.int .i64)) (UY L)
theorem Zkt:SX ZbN:=fun h=>sT h (Zb (Ij h) Zu) rfl (by kernel_rfl) fun _=>rfl
theorem ZjR (L:Nat)(x0:Zw):UY L (x0,())=bT (Qr L (Xe.mk false,x0,())) fun y=>some y:=by kernel_rfl
def Oo (L:Nat)(x:ZF×Hl×PUnit):Option Int:=fT [Ob L,ZbN L,Qh L] L Zbu [.rnd [.slot 4 (.int .i64),.slot 26 (.int .i64)],.rnd [.slot 4 (.int .i64),.slot 53 (.int .i64)],.rnd [.slot 74 (.int .i64)]] (.one (.int .i64)) [.row 9,.row 26] x
def DJ (L:Nat):Sum tT:=mU 197 [.row 9,.row 26] (.one (.int .i64)) (Oo L)
theorem ZbJ:SX DJ:=fun h=>sT h (Zb (Dl h) (Zb (Zkt h) (Zb (QD h) Zu))) rfl (by kernel_rfl) fun _=>rfl
def Gz:ZF→Hl→Nat→(Int×PUnit→Option Int)→Int×PUnit→Option Int:=fun x0 x1 L self acc=>bif decide (acc.1 < (↑x0.6.length:Int)) then bT (ZT x0.6 acc.1) fun y=>bT (UY L (y,())) fun y=>bif y != 0 then some y else self (Go.IntKind.i64.wrap (acc.1 + 1),()) else bif x1.6 then bT (QJ L (x0.7,())) fun y=>some y else some 0
def La:ZF→Hl→Nat→Int×Int×PUnit→(Int×Int×PUnit→Option Int)→Int×Int×PUnit→Option Int:=fun x0 x1 L acc self acc_1=>bif decide (acc_1.2.1 < (↑[Tv.mk x1.3 x0.4,Tv.mk x1.4 x0.5].length:Int)) then bT (ZT [Tv.mk x1.3 x0.4,Tv.mk x1.4 x0.5] acc_1.2.1) fun y=>bif !y.1 then self (acc_1.1,Go.IntKind.i64.wrap (acc_1.2.1 + 1),()) else bT (UY L (y.2,())) fun y=>bif y != 0 then some y else self (acc_1.1,Go.IntKind.i64.wrap (acc_1.2.1 + 1),()) else bif decide ((↑x0.6.length:Int) > 6) then some 6 else Zx (Gz x0 x1 L) L (0,())
def Cb:ZF→Hl→Nat→(Int×Int×PUnit→Option Int)→Int×Int×PUnit→Option Int:=fun x0 x1 L self acc=>bif decide (acc.2.1 < (↑[Tz.mk x1.1 x0.2,Tz.mk x1.2 x0.3].length:Int)) then bT (ZT [Tz.mk x1.1 x0.2,Tz.mk x1.2 x0.3] acc.2.1) fun y=>bT (ZP L (y.2,())) fun y_1=>bif y.1 && y_1 != 0 then some y_1 else self (acc.1,Go.IntKind.i64.wrap (acc.2.1 + 1),()) else Zx (La x0 x1 L acc) L (acc.1,0,())
theorem Zkj (L:Nat)(x0:ZF)(x1:Hl):Oo L (x0,x1,())=Zx (Cb x0 x1 L) L (0,0,()):=by kernel_rfl
def JI (L:Nat)(x:Zw×PUnit):Option Bool:=fT [EQ L] L AU [] (.one .bool) [.row 8] x
def CS (L:Nat):Sum tT:=mU 207 [.row 8] (.one .bool) (JI L)
theorem Zi0:SX CS:=fun h=>sT h (Zb (Zey h) Zu) rfl (by kernel_rfl) fun _=>rfl
theorem Zik (L:Nat)(x0:Zw):JI L (x0,())=bT (Lp L (x0,Zw.mk 0 [] 0 [],())) fun y=>some y:=by kernel_rfl
def LJ (L:Nat)(x:ZF×Hl×PUnit):Option Bool:=fT [Lc L,CS L] L Zds [] (.one .bool) [.row 9,.row 26] x
def EY (L:Nat):Sum tT:=mU 196 [.row 9,.row 26] (.one .bool) (LJ L)
theorem Ze6:SX EY:=fun h=>sT h (Zb (EG h) (Zb (Zi0 h) Zu)) rfl (by kernel_rfl) fun _=>rfl
theorem Zmu (L:Nat)(x0:ZF)(x1:Hl):LJ L (x0,x1,())=bT (bif ((x1.1 || x0.2 == []) && (x1.2 || x0.3 == [])) == true then bif x1.3 == false then bT (JI L (x0.4,())) fun y=>some y else some true else some false) fun y=>bT (bif y == true then bif x1.4 == false then bT (JI L (x0.5,())) fun y=>some y else some true else some false) fun y=>bT (bif (y && (x1.5 || (↑x0.6.length:Int) == 0)) == true then bif x1.6 == false then bT (VY L (x0.7,Wj.mk 0 0 0 0 [] [],())) fun y=>some y else some true else some false) fun y=>some (y && (x1.7 || !x0.8) && (x1.8 || (↑x0.9.length:Int) == 0) && (x1.9 || (↑x0.10.length:Int) == 0)):=by kernel_rfl
def LK (L:Nat)(x:Int×PUnit):Option (Hl×Bool×PUnit):=fT [] L Zdt [] (.tup [.row 26,.bool]) [.int .i64] x
def EZ (L:Nat):Sum tT:=mU 195 [.int .i64] (.tup [.row 26,.bool]) (LK L)
theorem Ze7:SX EZ:=fun h=>sT h Zu rfl (by kernel_rfl) fun _=>rfl
theorem Zmv (L:Nat)(x0:Int):LK L (x0,())=bif x0 == 1 then some (Hl.mk true false true false false false false false false,true,()) else bif x0 == 7 then some (Hl.mk true false true false false false false false false,true,()) else bif x0 == 8 then some (Hl.mk true false true false false false false false false,true,()) else bif x0 == 12 then some (Hl.mk true false true false false false false false false,true,()) else bif x0 == 15 then some (Hl.mk true false true false false false false false false,true,()) else bif x0 == 16 then some (Hl.mk true false true false false false false false false,true,()) else bif x0 == 17 then some (Hl.mk true false true false false false false false false,true,()) else bif x0 == 2 then some (Hl.mk true true false false false true false false false,true,()) else bif x0 == 3 then some (Hl.mk false false true false false false false true true,true,()) else bif x0 == 4 then some (Hl.mk false false true false false false false true false,true,()) else bif x0 == 5 then some (Hl.mk false false true false false false false false false,true,()) else bif x0 == 6 then some (Hl.mk true false true true false false true false false,true,()) else bif x0 == 9 then some (Hl.mk true true false false false false false false false,true,()) else bif x0 == 10 then some (Hl.mk true false false false false false false false false,true,()) else bif x0 == 11 then some (Hl.mk true false false false false false false false false,true,()) else bif x0 == 13 then some (Hl.mk true true true false true false false false false,true,()) else bif x0 == 14 then some (Hl.mk true false true false true false false false false,true,()) else bif x0 == 18 then some (Hl.mk false false false false false false false false false,true,()) else some (Hl.mk false false false false false false false false false,false,()):=by kernel_rfl
def MV (L:Nat):Nat→List (Sum tT)
 | 0=>[⟨174,[.lst 21 (.row 9)],fun _=>.par _ none ((.one (.int .i64):RD).tv tT)⟩]
 | m + 1=>[⟨174,[.lst 21 (.row 9)],fun x=>.par _ (fnT tF tG (qOf tF (MV L m ++ [DJ L,EY L,EZ L])) 0 L Bz [.rnd [.slot 12 (.int .i64)]] (.one (.int .i64)) (tvL tT [.lst 21 (.row 9)] x) []) ((.one (.int .i64):RD).tv tT)⟩]
theorem Rq {C:Cfg}{L:Nat}(h:St C L):∀ m,∀ s ∈ MV L m,Q3 C s
 | 0=>(Zb (QH _ _ _) Zu)
 | m + 1=>have ih:=Rq h m
  (Zb (Y4 Yu h.L h.G (Wx Yu (V3 ih (Zb (ZbJ h) (Zb (Ze6 h) (Zb (Ze7 h) Zu))))) [.rnd [.slot 12 (.int .i64)]] (h.T _ _ rfl) (by kernel_rfl) fun _=>rfl) Zu)
def JL (L m:Nat)(x:(List ZF)×PUnit):Option (Int):=fnT tF tG (qOf tF (MV L m ++ [DJ L,EY L,EZ L])) 0 L Bz [.rnd [.slot 12 (.int .i64)]] (.one (.int .i64)) (tvL tT [.lst 21 (.row 9)] x) []
def DV (L:Nat)(x:(List ZF)×PUnit):Option (Int):=JL L L x
def Zcb (L:Nat):Sum tT:=⟨174,[.lst 21 (.row 9)],fun x=>.par ((.one (.int .i64):RD).Ty tT) (DV L x) ((.one (.int .i64):RD).tv tT)⟩
theorem Zk8 {C:Cfg}{L:Nat}(h:St C L):Q3 C (Zcb L):=have ih:=Rq h L
 Y4 Yu h.L h.G (Wx Yu (V3 ih (Zb (ZbJ h) (Zb (Ze6 h) (Zb (Ze7 h) Zu))))) [.rnd [.slot 12 (.int .i64)]] (h.T _ _ rfl) (by kernel_rfl) fun _=>rfl
def MZ:Nat→List ZF→Nat→(Int×PUnit→Option Int)→Int×PUnit→Option Int:=fun (m:Nat)=>fun x0 L self acc=>bif decide (acc.1 < (↑x0.length:Int)) then bT (ZT x0 acc.1) fun y=>bT (LK L (y.1,())) fun y_1=>bT (bif (!y_1.2.1) == false then bT (LJ L (y,y_1.1,())) fun y=>some !y else some true) fun y_2=>bif y_2 then some 1 else bT (Oo L (y,y_1.1,())) fun y_3=>bif y_3 != 0 then some y_3 else bT (JL L m (y.9,())) fun y_4=>bif y_4 != 0 then some y_4 else bT (JL L m (y.10,())) fun y=>bif y != 0 then some y else self (Go.IntKind.i64.wrap (acc.1 + 1),()) else some 0
theorem Zki (L m:Nat)(x0:(List ZF)):JL L (m + 1) (x0,())=Zx (MZ m x0 L) L (0,()):=by kernel_rfl
end Go.Proofs.YtgjcjbhhhlelnaaGreatDoor
end
noncomputable section
namespace Go.Proofs.YtgjcjbhhhlelnaaGreatDoor
open Go Go.Proofs.YtgjcjbhhhlelnaaGreatDoor.Abs Go.Proofs.YtgjcjbhhhlelnaaGreatDoor.Tl
set_option maxRecDepth 100000
set_option maxHeartbeats 0
def MS (L:Nat):Nat→List (Sum tT)
 | 0=>[⟨173,[.lst 21 (.row 9)],fun _=>.par _ none ((.one (.int .i64):RD).tv tT)⟩]
 | m + 1=>[⟨173,[.lst 21 (.row 9)],fun x=>.par _ (fnT tF tG (qOf tF (MS L m ++ [])) 0 L Bv [.rnd [.slot 3 (.int .i64),.slot 8 (.int .i64)]] (.one (.int .i64)) (tvL tT [.lst 21 (.row 9)] x) []) ((.one (.int .i64):RD).tv tT)⟩]
theorem Ro {C:Cfg}{L:Nat}(h:St C L):∀ m,∀ s ∈ MS L m,Q3 C s
 | 0=>(Zb (QH _ _ _) Zu)
 | m + 1=>have ih:=Ro h m
  (Zb (Y4 Yu h.L h.G (Wx Yu (V3 ih Zu)) [.rnd [.slot 3 (.int .i64),.slot 8 (.int .i64)]] (h.T _ _ rfl) (by kernel_rfl) fun _=>rfl) Zu)
def JK (L m:Nat)(x:(List ZF)×PUnit):Option (Int):=fnT tF tG (qOf tF (MS L m ++ [])) 0 L Bv [.rnd [.slot 3 (.int .i64),.slot 8 (.int .i64)]] (.one (.int .i64)) (tvL tT [.lst 21 (.row 9)] x) []
def DU (L:Nat)(x:(List ZF)×PUnit):Option (Int):=JK L L x
def Zca (L:Nat):Sum tT:=⟨173,[.lst 21 (.row 9)],fun x=>.par ((.one (.int .i64):RD).Ty tT) (DU L x) ((.one (.int .i64):RD).tv tT)⟩
theorem Zk7 {C:Cfg}{L:Nat}(h:St C L):Q3 C (Zca L):=have ih:=Ro h L
 Y4 Yu h.L h.G (Wx Yu (V3 ih Zu)) [.rnd [.slot 3 (.int .i64),.slot 8 (.int .i64)]] (h.T _ _ rfl) (by kernel_rfl) fun _=>rfl
def MX:Nat→List ZF→Nat→(Int×Int×PUnit→Option Int)→Int×Int×PUnit→Option Int:=fun (m:Nat)=>fun x0 L self acc=>bif decide (acc.2.1 < (↑x0.length:Int)) then bT (ZT x0 acc.2.1) fun y=>bT (bT (JK L m (y.9,())) fun y=>some y) fun y_1=>bT (bT (JK L m (y.10,())) fun y=>some y) fun y=>self (if Go.IntKind.i64.wrap (1 + y) > if Go.IntKind.i64.wrap (1 + y_1) > acc.1 then Go.IntKind.i64.wrap (1 + y_1) else acc.1 then Go.IntKind.i64.wrap (1 + y) else if Go.IntKind.i64.wrap (1 + y_1) > acc.1 then Go.IntKind.i64.wrap (1 + y_1) else acc.1,Go.IntKind.i64.wrap (acc.2.1 + 1),()) else some acc.1
theorem Zkh (L m:Nat)(x0:(List ZF)):JK L (m + 1) (x0,())=Zx (MX m x0 L) L (0,0,()):=by kernel_rfl
def MR (L:Nat):Nat→List (Sum tT)
 | 0=>[⟨172,[.lst 21 (.row 9)],fun _=>.par _ none ((.one (.int .i64):RD).tv tT)⟩]
 | m + 1=>[⟨172,[.lst 21 (.row 9)],fun x=>.par _ (fnT tF tG (qOf tF (MR L m ++ [])) 0 L Bq [.rnd [.slot 3 (.int .i64),.slot 10 (.int .i64)]] (.one (.int .i64)) (tvL tT [.lst 21 (.row 9)] x) []) ((.one (.int .i64):RD).tv tT)⟩]
theorem Rn {C:Cfg}{L:Nat}(h:St C L):∀ m,∀ s ∈ MR L m,Q3 C s
 | 0=>(Zb (QH _ _ _) Zu)
 | m + 1=>have ih:=Rn h m
  (Zb (Y4 Yu h.L h.G (Wx Yu (V3 ih Zu)) [.rnd [.slot 3 (.int .i64),.slot 10 (.int .i64)]] (h.T _ _ rfl) (by kernel_rfl) fun _=>rfl) Zu)
def JJ (L m:Nat)(x:(List ZF)×PUnit):Option (Int):=fnT tF tG (qOf tF (MR L m ++ [])) 0 L Bq [.rnd [.slot 3 (.int .i64),.slot 10 (.int .i64)]] (.one (.int .i64)) (tvL tT [.lst 21 (.row 9)] x) []
def DT (L:Nat)(x:(List ZF)×PUnit):Option (Int):=JJ L L x
def ZbZ (L:Nat):Sum tT:=⟨172,[.lst 21 (.row 9)],fun x=>.par ((.one (.int .i64):RD).Ty tT) (DT L x) ((.one (.int .i64):RD).tv tT)⟩
theorem Zk6 {C:Cfg}{L:Nat}(h:St C L):Q3 C (ZbZ L):=have ih:=Rn h L
 Y4 Yu h.L h.G (Wx Yu (V3 ih Zu)) [.rnd [.slot 3 (.int .i64),.slot 10 (.int .i64)]] (h.T _ _ rfl) (by kernel_rfl) fun _=>rfl
def MW:Nat→List ZF→Nat→(Int×Int×PUnit→Option Int)→Int×Int×PUnit→Option Int:=fun (m:Nat)=>fun x0 L self acc=>bif decide (acc.2.1 < (↑x0.length:Int)) then bT (ZT x0 acc.2.1) fun y=>bT (bT (JJ L m (y.9,())) fun y=>some y) fun y_1=>bT (bT (JJ L m (y.10,())) fun y=>some y) fun y=>self (Go.IntKind.i64.wrap (acc.1 + Go.IntKind.i64.wrap (y_1 + y)),Go.IntKind.i64.wrap (acc.2.1 + 1),()) else some acc.1
theorem Zkg (L m:Nat)(x0:(List ZF)):JJ L (m + 1) (x0,())=Zx (MW m x0 L) L ((↑x0.length:Int),0,()):=by kernel_rfl
def Om (L:Nat)(x:(List ZF)×PUnit):Option Int:=fT [Zcb L,Zca L,ZbZ L] L Zbt [] (.one (.int .i64)) [.lst 21 (.row 9)] x
def ZbY (L:Nat):Sum tT:=mU 135 [.lst 21 (.row 9)] (.one (.int .i64)) (Om L)
theorem Zk5:SX ZbY:=fun h=>sT h (Zb (Zk8 h) (Zb (Zk7 h) (Zb (Zk6 h) Zu))) rfl (by kernel_rfl) fun _=>rfl
theorem Zkf (L:Nat)(x0:(List ZF)):Om L (x0,())=bT (DT L (x0,())) fun y=>bif decide (y > 200) then some 6 else bT (DU L (x0,())) fun y=>bif decide (y > 12) then some 11 else bT (DV L (x0,())) fun y=>some y:=by kernel_rfl
def Vt (L:Nat)(x:Int×PUnit):Option Bool:=fT [] L Az [] (.one .bool) [.int .i64] x
def G5 (L:Nat):Sum tT:=mU 130 [.int .i64] (.one .bool) (Vt L)
theorem MN:SX G5:=fun h=>sT h Zu rfl (by kernel_rfl) fun _=>rfl
theorem Zib (L:Nat)(x0:Int):Vt L (x0,())=some (decide (x0 ≥ 1) && decide (x0≤3)):=by kernel_rfl
def Yh (L:Nat)(x:(List (List WL))×PUnit):Option (List WL):=fT [Zv8] L WU [.rnd [.slot 3 (.int .i64),.slot 11 (.int .i64)],.rnd [.slot 6 (.own 2 (.row 7)),.slot 27 (.int .i64)]] (.one (.lst 2 (.row 7))) [.lst 1 (.lst 2 (.row 7))] x
def WY (L:Nat):Sum tT:=mU 134 [.lst 1 (.lst 2 (.row 7))] (.one (.lst 2 (.row 7))) (Yh L)
theorem V8:SX WY:=fun h=>sT h (Zb (Z0m h) Zu) rfl (by kernel_rfl) fun _=>rfl
def Y8:List (List WL)→(List WL×Int×PUnit→Option (List WL))→List WL×Int×PUnit→Option (List WL):=fun x0 self acc=>bif decide (acc.2.1 < (↑x0.length:Int)) then bT (ZT x0 acc.2.1) fun y=>bT (apT 24 acc.1 y) fun y=>self (y,Go.IntKind.i64.wrap (acc.2.1 + 1),()) else some acc.1
def WO:List (List WL)→Nat→(Int×Int×PUnit→Option (List WL))→Int×Int×PUnit→Option (List WL):=fun x0 L self acc=>bif decide (acc.2.1 < (↑x0.length:Int)) then bT (ZT x0 acc.2.1) fun y=>bif decide (Go.IntKind.i64.wrap (acc.1 + (↑y.length:Int)) < 0) then none else self (Go.IntKind.i64.wrap (acc.1 + (↑y.length:Int)),Go.IntKind.i64.wrap (acc.2.1 + 1),()) else bT (Ztz [] acc.1) fun y=>Zx (Y8 x0) L (y,0,())
theorem V7 (L:Nat)(x0:(List (List WL))):Yh L (x0,())=Zx (WO x0 L) L (0,0,()):=by kernel_rfl
def Zci:List (Inl tT):=[⟨52,WB,[],.one (.int .i64),[(3,[.cont 1 (.map .str)])]⟩]
def JF (L:Nat)(x:ZX×PUnit):Option Int:=fI [ZbY L,G5 L,Qh L,WY L] L Zci Bf [.rnd [.slot 29 (.int .i64),.cont 1 (.map .str)]] (.one (.int .i64)) [.row 10] x
def DC (L:Nat):Sum tT:=mU 95 [.row 10] (.one (.int .i64)) (JF L)
theorem Ze0:SX DC:=fun h=>sI h (Zb (Zk5 h) (Zb (MN h) (Zb (QD h) (Zb (V8 h) Zu)))) (Zb ⟨h.T _ _ rfl,by kernel_rfl⟩ Zu) rfl (by kernel_rfl) fun _=>rfl
def VJ:ZX→Nat→List WL→(Int×List (List UInt8)×PUnit→Option Int)→Int×List (List UInt8)×PUnit→Option Int:=fun x0 L y self acc=>bif decide (acc.1 < (↑y.length:Int)) then bT (ZT y acc.1) fun y=>bT (bT (ZP L (y.1,())) fun y_1=>bif y_1 != 0 then some (y_1,acc.2.1,()) else bif hasK MK.str acc.2.1 y.1 then some (4,acc.2.1,()) else some (0,Zbv MK.str acc.2.1 y.1,())) fun y_1=>bif y_1.1 != 0 then some y_1.1 else bT (Vt L (y.2,())) fun y=>bif !y then some 1 else self (Go.IntKind.i64.wrap (acc.1 + 1),y_1.2.1,()) else bT (Om L (x0.4,())) fun y=>some y
theorem Zek (L:Nat)(x0:ZX):JF L (x0,())=bif decide ((↑x0.2.length:Int) > 6) || decide (Go.IntKind.i64.wrap ((↑x0.2.length:Int) + (↑x0.3.length:Int)) > 16) then some 6 else bT (Yh L ([x0.2,x0.3],())) fun y=>Zx (VJ x0 L y) L (0,[],()):=by kernel_rfl
def VK (L:Nat)(x:Ze×RU×PUnit):Option Int:=fT [Ob L,YW L,Lc L] L LW [] (.one (.int .i64)) [.row 14,.row 3] x
def Rw (L:Nat):Sum tT:=mU 80 [.row 14,.row 3] (.one (.int .i64)) (VK L)
theorem Zcu:SX Rw:=fun h=>sT h (Zb (Dl h) (Zb (QE h) (Zb (EG h) Zu))) rfl (by kernel_rfl) fun _=>rfl
theorem Zcq (L:Nat)(x0:Ze)(x1:RU):VK L (x0,x1,())=bT (bif (x1.1 == []) == true then bT (VY L (x1.2,Wj.mk 0 0 0 0 [] [],())) fun y=>bif (!y) == false then bT (VY L (x1.3,Wj.mk 0 0 0 0 [] [],())) fun y=>some !y else some true else some false) fun y=>bif y then some 1 else bif x1.1 == [] then some 0 else bT (Ye L (x0.7,x1.1,())) fun y=>bif !y then some 5 else bT (QJ L (x1.2,())) fun y=>bif y != 0 then some y else bT (QJ L (x1.3,())) fun y=>some y:=by kernel_rfl
def VL (L:Nat)(x:Z4×PUnit):Option Int:=fT [QP L] L LY [.rnd [.slot 25 (.int .i64)]] (.one (.int .i64)) [.row 4] x
def Rx (L:Nat):Sum tT:=mU 79 [.row 4] (.one (.int .i64)) (VL L)
theorem Zcv:SX Rx:=fun h=>sT h (Zb (X7 h) Zu) rfl (by kernel_rfl) fun _=>rfl
def Xg:Z4→Nat→(Int×PUnit→Option Int)→Int×PUnit→Option Int:=fun x0 L self acc=>bif decide (acc.1 < (↑x0.3.length:Int)) then bT (ZT x0.3 acc.1) fun y=>bT (ZK L (y.1,0,Go.IntKind.i64.wrap (x0.4 - 1),())) fun y_1=>bif !y_1 then some 2 else bT (ZK L (y.2,0,1000,())) fun y_2=>bif !y_2 then some 2 else bT (bif decide (acc.1 > 0) == true then bT (ZT x0.3 (Go.IntKind.i64.wrap (acc.1 - 1))) fun y_3=>some (decide (y.1≤y_3.1)) else some false) fun y=>bif y then some 12 else self (Go.IntKind.i64.wrap (acc.1 + 1),()) else some 0
theorem Zcr (L:Nat)(x0:Z4):VL L (x0,())=bif (↑x0.3.length:Int) == 0 then bif x0.4 != 0 then some 1 else some 0 else bif decide ((↑x0.3.length:Int) > 20) then some 6 else bT (ZK L (x0.4,1,1000000000,())) fun y=>bif !y then some 2 else Zx (Xg x0 L) L (0,()):=by kernel_rfl
def Zh6:List (Inl tT):=[⟨73,Aw,[.unr 60],.one (.int .i64),[(5,[.cont 1 (.map .str)])]⟩,⟨100,Bj,[],.one (.int .i64),[]⟩,⟨96,Bi,[],.one (.int .i64),[(5,[.cont 1 (.map .str)])]⟩,⟨97,Jq,[.rnd [.slot 16 (.int .i64),.cont 1 (.map .str)]],.one (.int .i64),[(5,[.cont 1 (.map .str)])]⟩,⟨98,OH,[],.one (.int .i64),[]⟩,⟨92,Bh,[],.one (.int .i64),[(5,[.cont 1 (.map .str)])]⟩,⟨93,VC,[.rnd [.slot 16 (.int .i64),.cont 1 (.map .str)]],.one (.int .i64),[(5,[.cont 1 (.map .str)])]⟩,⟨94,OG,[],.one (.int .i64),[(6,[.cont 1 (.map .str)])]⟩,⟨52,WB,[],.one (.int .i64),[(7,[.cont 1 (.map .str)]),(5,[.cont 1 (.map .str)])]⟩,⟨91,Bg,[],.one (.int .i64),[(5,[.cont 1 (.map .str)])]⟩,⟨90,Nh,[],.one (.int .i64),[(5,[.cont 1 (.map .str)])]⟩,⟨89,Nc,[],.one (.int .i64),[(5,[.cont 1 (.map .str)])]⟩,⟨88,Nb,[],.one (.int .i64),[(5,[.cont 1 (.map .str)])]⟩,⟨87,Na,[],.one (.int .i64),[(5,[.cont 1 (.map .str)])]⟩,⟨84,PZ,[],.one (.int .i64),[(5,[.cont 1 (.map .str)])]⟩,⟨85,Vw,[.rnd [.slot 16 (.int .i64),.cont 1 (.map .str)]],.one (.int .i64),[(5,[.cont 1 (.map .str)])]⟩,⟨86,Rh,[],.one (.int .i64),[(6,[.cont 1 (.map .str)])]⟩,⟨81,PY,[],.one (.int .i64),[(5,[.cont 1 (.map .str)])]⟩,⟨82,XQ,[.rnd [.slot 16 (.int .i64),.cont 1 (.map .str)]],.one (.int .i64),[(5,[.cont 1 (.map .str)])]⟩,⟨83,Rf,[],.one (.int .i64),[(6,[.cont 1 (.map .str)])]⟩,⟨75,PX,[],.one (.int .i64),[(5,[.cont 1 (.map .str)])]⟩,⟨76,Xk,[.rnd [.slot 16 (.int .i64),.cont 1 (.map .str)]],.one (.int .i64),[(5,[.cont 1 (.map .str)])]⟩,⟨77,LZ,[],.one (.int .i64),[(6,[.cont 1 (.map .str)])]⟩,⟨74,PW,[],.one (.int .i64),[(5,[.cont 1 (.map .str)])]⟩,⟨49,X8,[],.one (.int .i64),[(5,[.cont 1 (.map .str)])]⟩,⟨69,Xq,[.rnd [.slot 16 (.int .i64),.cont 1 (.map .str)]],.one (.int .i64),[(5,[.cont 1 (.map .str)])]⟩,⟨70,XP,[],.one (.int .i64),[(6,[.cont 1 (.map .str)])]⟩,⟨71,PV,[],.one (.int .i64),[(5,[.cont 1 (.map .str)])]⟩,⟨72,KI,[.rnd [.slot 16 (.int .i64),.cont 1 (.map .str)]],.one (.int .i64),[(5,[.cont 1 (.map .str)])]⟩]
def Oh (L:Nat)(x:Ze×PUnit):Option Int:=fI [ZbR L,C9 L,DC L,Qh L,QP L,Rw L,Rx L,Oc L,G5 L] L Zh6 Zbk [] (.one (.int .i64)) [.row 14] x
def ZbS (L:Nat):Sum tT:=mU 53 [.row 14] (.one (.int .i64)) (Oh L)
theorem Zky:SX ZbS:=fun h=>sI h (Zb (Zkx h) (Zb (Zit h) (Zb (Ze0 h) (Zb (QD h) (Zb (X7 h) (Zb (Zcu h) (Zb (Zcv h) (Zb (Dp h) (Zb (MN h) Zu))))))))) (Zb ⟨h.T _ _ rfl,by kernel_rfl⟩ (Zb ⟨h.T _ _ rfl,by kernel_rfl⟩ (Zb ⟨h.T _ _ rfl,by kernel_rfl⟩ (Zb ⟨h.T _ _ rfl,by kernel_rfl⟩ (Zb ⟨h.T _ _ rfl,by kernel_rfl⟩ (Zb ⟨h.T _ _ rfl,by kernel_rfl⟩ (Zb ⟨h.T _ _ rfl,by kernel_rfl⟩ (Zb ⟨h.T _ _ rfl,by kernel_rfl⟩ (Zb ⟨h.T _ _ rfl,by kernel_rfl⟩ (Zb ⟨h.T _ _ rfl,by kernel_rfl⟩ (Zb ⟨h.T _ _ rfl,by kernel_rfl⟩ (Zb ⟨h.T _ _ rfl,by kernel_rfl⟩ (Zb ⟨h.T _ _ rfl,by kernel_rfl⟩ (Zb ⟨h.T _ _ rfl,by kernel_rfl⟩ (Zb ⟨h.T _ _ rfl,by kernel_rfl⟩ (Zb ⟨h.T _ _ rfl,by kernel_rfl⟩ (Zb ⟨h.T _ _ rfl,by kernel_rfl⟩ (Zb ⟨h.T _ _ rfl,by kernel_rfl⟩ (Zb ⟨h.T _ _ rfl,by kernel_rfl⟩ (Zb ⟨h.T _ _ rfl,by kernel_rfl⟩ (Zb ⟨h.T _ _ rfl,by kernel_rfl⟩ (Zb ⟨h.T _ _ rfl,by kernel_rfl⟩ (Zb ⟨h.T _ _ rfl,by kernel_rfl⟩ (Zb ⟨h.T _ _ rfl,by kernel_rfl⟩ (Zb ⟨h.T _ _ rfl,by kernel_rfl⟩ (Zb ⟨h.T _ _ rfl,by kernel_rfl⟩ (Zb ⟨h.T _ _ rfl,by kernel_rfl⟩ (Zb ⟨h.T _ _ rfl,by kernel_rfl⟩ (Zb ⟨h.T _ _ rfl,by kernel_rfl⟩ Zu))))))))))))))))))))))))))))) rfl (by kernel_rfl) fun _=>rfl
def Gs:Ze→Nat→(Int×List (List UInt8)×PUnit→Option (Int×List (List UInt8)×PUnit))→Int×List (List UInt8)×PUnit→Option (Int×List (List UInt8)×PUnit):=fun x0 L self acc=>bif decide (acc.1 < (↑x0.2.length:Int)) then bT (ZT x0.2 acc.1) fun y=>bT (bT (bT (ZP L (y.1,())) fun y_1=>bif y_1 != 0 then some (y_1,acc.2.1,()) else bif hasK MK.str acc.2.1 y.1 then some (4,acc.2.1,()) else some (0,Zbv MK.str acc.2.1 y.1,())) fun y_1=>bif y_1.1 != 0 then some (y_1.1,y_1.2.1,()) else bT (Vt L (y.2,())) fun y_2=>bif !y_2 then some (1,y_1.2.1,()) else bT (Jm L (y.2,y.3,())) fun y=>bif !y then some (2,y_1.2.1,()) else some (0,y_1.2.1,())) fun y=>bif y.1 != 0 then some (y.1,y.2.1,()) else self (Go.IntKind.i64.wrap (acc.1 + 1),y.2.1,()) else some (0,acc.2.1,())
def Gt:Ze→Nat→(Int×List (List UInt8)×PUnit→Option (Int×List (List UInt8)×PUnit))→Int×List (List UInt8)×PUnit→Option (Int×List (List UInt8)×PUnit):=fun x0 L self acc=>bif decide (acc.1 < (↑x0.3.length:Int)) then bT (ZT x0.3 acc.1) fun y=>bT (bT (bT (ZP L (y.1,())) fun y_1=>bif y_1 != 0 then some (y_1,acc.2.1,()) else bif hasK MK.str acc.2.1 y.1 then some (4,acc.2.1,()) else some (0,Zbv MK.str acc.2.1 y.1,())) fun y_1=>bif y_1.1 != 0 then some (y_1.1,y_1.2.1,()) else bT (ZK L (y.2,0,1000,())) fun y_2=>bif !y_2 then some (2,y_1.2.1,()) else bT (VL L (y,())) fun y_3=>bif y_3 != 0 then some (y_3,y_1.2.1,()) else bT (VK L (x0,y.5,())) fun y=>some (y,y_1.2.1,())) fun y=>bif y.1 != 0 then some (y.1,y.2.1,()) else self (Go.IntKind.i64.wrap (acc.1 + 1),y.2.1,()) else some (0,acc.2.1,())
def Gu:Ze→Nat→(Int×List (List UInt8)×PUnit→Option (Int×List (List UInt8)×PUnit))→Int×List (List UInt8)×PUnit→Option (Int×List (List UInt8)×PUnit):=fun x0 L self acc=>bif decide (acc.1 < (↑x0.4.length:Int)) then bT (ZT x0.4 acc.1) fun y=>bT (bT (bT (ZP L (y.1,())) fun y_1=>bif y_1 != 0 then some (y_1,acc.2.1,()) else bif hasK MK.str acc.2.1 y.1 then some (4,acc.2.1,()) else some (0,Zbv MK.str acc.2.1 y.1,())) fun y_1=>bif y_1.1 != 0 then some (y_1.1,y_1.2.1,()) else bT (ZK L (y.2,1,1000,())) fun y_2=>bif !y_2 then some (2,y_1.2.1,()) else bif decide (y.3 < 1) || decide (y.3 > 3) then some (1,y_1.2.1,()) else some (0,y_1.2.1,())) fun y=>bif y.1 != 0 then some (y.1,y.2.1,()) else self (Go.IntKind.i64.wrap (acc.1 + 1),y.2.1,()) else some (0,acc.2.1,())
def Gv:Ze→Nat→(Int×List (List UInt8)×PUnit→Option (Int×List (List UInt8)×PUnit))→Int×List (List UInt8)×PUnit→Option (Int×List (List UInt8)×PUnit):=fun x0 L self acc=>bif decide (acc.1 < (↑x0.5.length:Int)) then bT (ZT x0.5 acc.1) fun y=>bT (bT (bT (ZP L (y.1,())) fun y_1=>bif y_1 != 0 then some (y_1,acc.2.1,()) else bif hasK MK.str acc.2.1 y.1 then some (4,acc.2.1,()) else some (0,Zbv MK.str acc.2.1 y.1,())) fun y_1=>bif y_1.1 != 0 then some (y_1.1,y_1.2.1,()) else bT (ZK L (y.2,1,1000,())) fun y_2=>bT (bif (!y_2) == false then bT (ZK L (y.3,1,1000,())) fun y=>some !y else some true) fun y=>bif y then some (2,y_1.2.1,()) else some (0,y_1.2.1,())) fun y=>bif y.1 != 0 then some (y.1,y.2.1,()) else self (Go.IntKind.i64.wrap (acc.1 + 1),y.2.1,()) else some (0,acc.2.1,())
def Gw:Ze→Nat→(Int×List (List UInt8)×PUnit→Option (Int×List (List UInt8)×PUnit))→Int×List (List UInt8)×PUnit→Option (Int×List (List UInt8)×PUnit):=fun x0 L self acc=>bif decide (acc.1 < (↑x0.6.length:Int)) then bT (ZT x0.6 acc.1) fun y=>bT (bT (ZP L (y,())) fun y_1=>bif y_1 != 0 then some (y_1,acc.2.1,()) else bif hasK MK.str acc.2.1 y then some (4,acc.2.1,()) else some (0,Zbv MK.str acc.2.1 y,())) fun y=>bif y.1 != 0 then some (y.1,y.2.1,()) else self (Go.IntKind.i64.wrap (acc.1 + 1),y.2.1,()) else some (0,acc.2.1,())
def Fq:Ze→Nat→(Int×List (List UInt8)×PUnit→Option (Int×List (List UInt8)×PUnit))→Int×List (List UInt8)×PUnit→Option (Int×List (List UInt8)×PUnit):=fun x0 L self acc=>bif decide (acc.1 < (↑x0.7.length:Int)) then bT (ZT x0.7 acc.1) fun y=>bT (bT (ZP L (y,())) fun y_1=>bif y_1 != 0 then some (y_1,acc.2.1,()) else bif hasK MK.str acc.2.1 y then some (4,acc.2.1,()) else some (0,Zbv MK.str acc.2.1 y,())) fun y=>bif y.1 != 0 then some (y.1,y.2.1,()) else self (Go.IntKind.i64.wrap (acc.1 + 1),y.2.1,()) else some (0,acc.2.1,())
def Fv:Ze→Nat→(Int×List (List UInt8)×PUnit→Option (Int×List (List UInt8)×PUnit))→Int×List (List UInt8)×PUnit→Option (Int×List (List UInt8)×PUnit):=fun x0 L self acc=>bif decide (acc.1 < (↑x0.8.length:Int)) then bT (ZT x0.8 acc.1) fun y=>bT (bT (ZP L (y,())) fun y_1=>bif y_1 != 0 then some (y_1,acc.2.1,()) else bif hasK MK.str acc.2.1 y then some (4,acc.2.1,()) else some (0,Zbv MK.str acc.2.1 y,())) fun y=>bif y.1 != 0 then some (y.1,y.2.1,()) else self (Go.IntKind.i64.wrap (acc.1 + 1),y.2.1,()) else some (0,acc.2.1,())
def Fz:Ze→Nat→(Int×List (List UInt8)×PUnit→Option (Int×List (List UInt8)×PUnit))→Int×List (List UInt8)×PUnit→Option (Int×List (List UInt8)×PUnit):=fun x0 L self acc=>bif decide (acc.1 < (↑x0.9.length:Int)) then bT (ZT x0.9 acc.1) fun y=>bT (bT (ZP L (y,())) fun y_1=>bif y_1 != 0 then some (y_1,acc.2.1,()) else bif hasK MK.str acc.2.1 y then some (4,acc.2.1,()) else some (0,Zbv MK.str acc.2.1 y,())) fun y=>bif y.1 != 0 then some (y.1,y.2.1,()) else self (Go.IntKind.i64.wrap (acc.1 + 1),y.2.1,()) else some (0,acc.2.1,())
def F5:Ze→Nat→(Int×List (List UInt8)×PUnit→Option (Int×List (List UInt8)×PUnit))→Int×List (List UInt8)×PUnit→Option (Int×List (List UInt8)×PUnit):=fun x0 L self acc=>bif decide (acc.1 < (↑x0.10.length:Int)) then bT (ZT x0.10 acc.1) fun y=>bT (bT (ZP L (y,())) fun y_1=>bif y_1 != 0 then some (y_1,acc.2.1,()) else bif hasK MK.str acc.2.1 y then some (4,acc.2.1,()) else some (0,Zbv MK.str acc.2.1 y,())) fun y=>bif y.1 != 0 then some (y.1,y.2.1,()) else self (Go.IntKind.i64.wrap (acc.1 + 1),y.2.1,()) else some (0,acc.2.1,())
def Gx:Ze→Nat→(Int×List (List UInt8)×PUnit→Option (Int×List (List UInt8)×PUnit))→Int×List (List UInt8)×PUnit→Option (Int×List (List UInt8)×PUnit):=fun x0 L self acc=>bif decide (acc.1 < (↑x0.11.length:Int)) then bT (ZT x0.11 acc.1) fun y=>bT (bT (bT (ZP L (y.1,())) fun y_1=>bif y_1 != 0 then some (y_1,acc.2.1,()) else bif hasK MK.str acc.2.1 y.1 then some (4,acc.2.1,()) else some (0,Zbv MK.str acc.2.1 y.1,())) fun y_1=>bif y_1.1 != 0 then some (y_1.1,y_1.2.1,()) else bT (JF L (y,())) fun y=>some (y,y_1.2.1,())) fun y=>bif y.1 != 0 then some (y.1,y.2.1,()) else self (Go.IntKind.i64.wrap (acc.1 + 1),y.2.1,()) else some (0,acc.2.1,())
def X5:Ze→Nat→(Int×List (List UInt8)×PUnit→Option (Int×List (List UInt8)×PUnit))→Int×List (List UInt8)×PUnit→Option (Int×List (List UInt8)×PUnit):=fun x0 L self acc=>bif decide (acc.1 < (↑x0.12.length:Int)) then bT (ZT x0.12 acc.1) fun y=>bT (bT (GG L (x0,y,())) fun y=>some y) fun y=>bif y != 0 then some (y,acc.2.1,()) else self (Go.IntKind.i64.wrap (acc.1 + 1),acc.2.1,()) else some (0,acc.2.1,())
theorem ZjW (L:Nat)(x0:Ze):Oh L (x0,())=bT (bT (bT (bT (bif decide ((↑x0.2.length:Int) > 32) then some (6,[],()) else Zx (Gs x0 L) L (0,[],())) fun y=>some (y.1,y.2.1,())) fun y=>some (y.1,y.2.1,())) fun y=>bif y.1 != 0 then some (y.1,y.2.1,()) else bT (bT (bif decide ((↑x0.3.length:Int) > 32) then some (6,y.2.1,()) else Zx (Gt x0 L) L (0,y.2.1,())) fun y=>some (y.1,y.2.1,())) fun y=>bif y.1 != 0 then some (y.1,y.2.1,()) else bT (bT (bif decide ((↑x0.4.length:Int) > 32) then some (6,y.2.1,()) else Zx (Gu x0 L) L (0,y.2.1,())) fun y=>some (y.1,y.2.1,())) fun y=>bif y.1 != 0 then some (y.1,y.2.1,()) else bT (bT (bif decide ((↑x0.5.length:Int) > 32) then some (6,y.2.1,()) else Zx (Gv x0 L) L (0,y.2.1,())) fun y=>some (y.1,y.2.1,())) fun y=>bif y.1 != 0 then some (y.1,y.2.1,()) else bT (bT (bT (bif decide ((↑x0.6.length:Int) > 32) then some (6,y.2.1,()) else Zx (Gw x0 L) L (0,y.2.1,())) fun y=>some (y.1,y.2.1,())) fun y=>some (y.1,y.2.1,())) fun y=>bif y.1 != 0 then some (y.1,y.2.1,()) else bT (bT (bT (bif decide ((↑x0.7.length:Int) > 32) then some (6,y.2.1,()) else Zx (Fq x0 L) L (0,y.2.1,())) fun y=>some (y.1,y.2.1,())) fun y=>some (y.1,y.2.1,())) fun y=>bif y.1 != 0 then some (y.1,y.2.1,()) else bT (bT (bT (bif decide ((↑x0.8.length:Int) > 32) then some (6,y.2.1,()) else Zx (Fv x0 L) L (0,y.2.1,())) fun y=>some (y.1,y.2.1,())) fun y=>some (y.1,y.2.1,())) fun y=>bif y.1 != 0 then some (y.1,y.2.1,()) else bT (bT (bT (bif decide ((↑x0.9.length:Int) > 32) then some (6,y.2.1,()) else Zx (Fz x0 L) L (0,y.2.1,())) fun y=>some (y.1,y.2.1,())) fun y=>some (y.1,y.2.1,())) fun y=>bif y.1 != 0 then some (y.1,y.2.1,()) else bT (bT (bT (bif decide ((↑x0.10.length:Int) > 32) then some (6,y.2.1,()) else Zx (F5 x0 L) L (0,y.2.1,())) fun y=>some (y.1,y.2.1,())) fun y=>some (y.1,y.2.1,())) fun y=>bif y.1 != 0 then some (y.1,y.2.1,()) else bT (bT (bif decide ((↑x0.11.length:Int) > 16) then some (6,y.2.1,()) else Zx (Gx x0 L) L (0,y.2.1,())) fun y=>some (y.1,y.2.1,())) fun y=>bif y.1 != 0 then some (y.1,y.2.1,()) else bT (bT (bif decide ((↑x0.12.length:Int) > 32) then some (6,y.2.1,()) else Zx (X5 x0 L) L (0,y.2.1,())) fun y=>some (y.1,y.2.1,())) fun y=>bif y.1 != 0 then some (y.1,y.2.1,()) else bT (bT (Og L (x0,())) fun y=>some y) fun y_1=>bif y_1 != 0 then some (y_1,y.2.1,()) else some (0,y.2.1,())) fun y=>some y.1:=by kernel_rfl
def Zf1:List (Inl tT):=[⟨50,Vx,[.rnd [.slot 16 (.int .i64),.cont 1 (.map .str),.cont 2 (.map .str)]],.one (.int .i64),[(4,[.cont 1 (.map .str),.cont 2 (.map .str)])]⟩,⟨51,Bc,[],.one (.int .i64),[(5,[.cont 2 (.map .str)])]⟩,⟨52,WB,[],.one (.int .i64),[(4,[.cont 1 (.map .str)]),(6,[.cont 2 (.map .str)])]⟩,⟨49,X8,[],.one (.int .i64),[(2,[.cont 1 (.map .str)])]⟩,⟨69,Xq,[.rnd [.slot 16 (.int .i64),.cont 1 (.map .str)]],.one (.int .i64),[(2,[.cont 1 (.map .str)])]⟩,⟨70,XP,[],.one (.int .i64),[(3,[.cont 1 (.map .str)])]⟩]
def G8 (L:Nat)(x:Xj×PUnit):Option Int:=fI [Cm L,ZbS L,Qh L,Oc L,G5 L] L Zf1 Au [] (.one (.int .i64)) [.row 21] x
def Cj (L:Nat):Sum tT:=mU 34 [.row 21] (.one (.int .i64)) (G8 L)
theorem Zir:SX Cj:=fun h=>sI h (Zb (Zis h) (Zb (Zky h) (Zb (QD h) (Zb (Dp h) (Zb (MN h) Zu))))) (Zb ⟨h.T _ _ rfl,by kernel_rfl⟩ (Zb ⟨h.T _ _ rfl,by kernel_rfl⟩ (Zb ⟨h.T _ _ rfl,by kernel_rfl⟩ (Zb ⟨h.T _ _ rfl,by kernel_rfl⟩ (Zb ⟨h.T _ _ rfl,by kernel_rfl⟩ (Zb ⟨h.T _ _ rfl,by kernel_rfl⟩ Zu)))))) rfl (by kernel_rfl) fun _=>rfl
def O6:Xj→Nat→(Int×List (List UInt8)×PUnit→Option (Int×List (List UInt8)×PUnit))→Int×List (List UInt8)×PUnit→Option (Int×List (List UInt8)×PUnit):=fun x0 L self acc=>bif decide (acc.1 < (↑x0.2.length:Int)) then bT (ZT x0.2 acc.1) fun y=>bT (bT (bT (ZP L (y.1,())) fun y_1=>bif y_1 != 0 then some (y_1,acc.2.1,()) else bif hasK MK.str acc.2.1 y.1 then some (4,acc.2.1,()) else some (0,Zbv MK.str acc.2.1 y.1,())) fun y_1=>bif y_1.1 != 0 then some (y_1.1,y_1.2.1,()) else bT (Vt L (y.2,())) fun y_2=>bif !y_2 then some (1,y_1.2.1,()) else bT (Jm L (y.2,y.3,())) fun y=>bif !y then some (2,y_1.2.1,()) else some (0,y_1.2.1,())) fun y=>bif y.1 != 0 then some (y.1,y.2.1,()) else self (Go.IntKind.i64.wrap (acc.1 + 1),y.2.1,()) else some (0,acc.2.1,())
def O7:Xj→Nat→(Int×List (List UInt8)×List (List UInt8)×PUnit→Option (Int×List (List UInt8)×List (List UInt8)×PUnit))→Int×List (List UInt8)×List (List UInt8)×PUnit→Option (Int×List (List UInt8)×List (List UInt8)×PUnit):=fun x0 L self acc=>bif decide (acc.1 < (↑x0.3.length:Int)) then bT (ZT x0.3 acc.1) fun y=>bT (bT (bT (ZP L (y.1,())) fun y_1=>bif y_1 != 0 then some (y_1,acc.2.2.1,()) else bif hasK MK.str acc.2.2.1 y.1 then some (4,acc.2.2.1,()) else some (0,Zbv MK.str acc.2.2.1 y.1,())) fun y_1=>bif y_1.1 != 0 then some (y_1.1,y_1.2.1,()) else bT (Oh L (y,())) fun y=>some (y,y_1.2.1,())) fun y=>bif y.1 != 0 then some (y.1,acc.2.1,y.2.1,()) else self (Go.IntKind.i64.wrap (acc.1 + 1),acc.2.1,y.2.1,()) else some (0,acc.2.1,acc.2.2.1,())
theorem Zia (L:Nat)(x0:Xj):G8 L (x0,())=bT (ZP L (x0.1,())) fun y=>bif y != 0 then some y else bT (bT (bif decide ((↑x0.2.length:Int) > 32) then some (6,[],()) else Zx (O6 x0 L) L (0,[],())) fun y=>some (y.1,y.2.1,())) fun y=>bif y.1 != 0 then some y.1 else bif (↑x0.3.length:Int) == 0 then some 7 else bT (bif decide ((↑x0.3.length:Int) > 16) then some (6,y.2.1,[],()) else Zx (O7 x0 L) L (0,y.2.1,[],())) fun y=>bif y.1 != 0 then some y.1 else bT (G9 L (x0,())) fun y=>some y:=by kernel_rfl
end Go.Proofs.YtgjcjbhhhlelnaaGreatDoor
end
noncomputable section
namespace Go.Proofs.YtgjcjbhhhlelnaaGreatDoor
open Go Go.Proofs.YtgjcjbhhhlelnaaGreatDoor.Abs Go.Proofs.YtgjcjbhhhlelnaaGreatDoor.Tl
set_option maxRecDepth 100000
set_option maxHeartbeats 0
def WH (L:Nat)(x:Zl×PUnit):Option Int:=fT [NQ L,ZeG L,Ce L,Cj L,Qh L] L Zbb [.rnd [.slot 2 (.int .i64),.slot 34 (.int .i64),.cont 1 (.map .str)],.rnd [.slot 2 (.int .i64),.slot 71 (.int .i64),.cont 1 (.map .str)],.rnd [.slot 2 (.int .i64),.slot 79 (.int .i64),.cont 1 (.map .str)]] (.one (.int .i64)) [.row 19] x
def ZkI (L:Nat):Sum tT:=mU 25 [.row 19] (.one (.int .i64)) (WH L)
theorem Zkr:SX ZkI:=fun h=>sT h (Zb (ZfE h) (Zb (Zm6 h) (Zb (Zio h) (Zb (Zir h) (Zb (QD h) Zu))))) rfl (by kernel_rfl) fun _=>rfl
def Jv:Zl→Nat→(Int×Int×List (List UInt8)×PUnit→Option Int)→Int×Int×List (List UInt8)×PUnit→ZQ→(Int×Int×List (List UInt8)×PUnit→Option Int)→Int×Int×List (List UInt8)×PUnit→Option Int:=fun x0 L self acc y self_1 acc_1=>bif decide (acc_1.2.1 < (↑y.2.length:Int)) then bT (ZT y.2 acc_1.2.1) fun y=>bT (Y6 L (x0,acc.2.1,y,())) fun y=>bif y != 0 then some y else self_1 (acc_1.1,Go.IntKind.i64.wrap (acc_1.2.1 + 1),acc_1.2.2.1,()) else self (acc_1.1,Go.IntKind.i64.wrap (acc.2.1 + 1),acc_1.2.2.1,())
def Vj:Zl→Nat→(Int×Int×List (List UInt8)×PUnit→Option Int)→Int×Int×List (List UInt8)×PUnit→Option Int:=fun x0 L self acc=>bif decide (acc.2.1 < (↑x0.2.length:Int)) then bT (ZT x0.2 acc.2.1) fun y=>Zx (Jv x0 L self acc y) L (acc.1,0,acc.2.2.1,()) else some 0
def Jw:Zl→Nat→(Int×Int×List (List UInt8)×PUnit→Option Int)→Int×Int×List (List UInt8)×PUnit→Option Int:=fun x0 L self acc=>bif decide (acc.2.1 < (↑x0.2.length:Int)) then bT (ZT x0.2 acc.2.1) fun y=>bT (G8 L (Xj.mk x0.1 [] [y.1] [],())) fun y_1=>bif y_1 != 0 then some y_1 else bif hasK MK.str acc.2.2.1 y.Decl.1 then some 4 else bT (G6 L (y,())) fun y_2=>bif !y_2 then some 8 else self (acc.1,Go.IntKind.i64.wrap (acc.2.1 + 1),Zbv MK.str acc.2.2.1 y.Decl.1,()) else bT (I7 L (x0,())) fun y=>bif y != 0 then some y else Zx (Vj x0 L) L (acc.1,0,acc.2.2.1,())
theorem Zb6 (L:Nat)(x0:Zl):WH L (x0,())=bT (ZP L (x0.1,())) fun y=>bif y != 0 then some y else bif (↑x0.2.length:Int) == 0 then some 7 else bif decide ((↑x0.2.length:Int) > 16) then some 6 else Zx (Jw x0 L) L (0,0,[],()):=by kernel_rfl
def YX (L:Nat)(x:Int×Int×Int×PUnit):Option Bool:=fT [] L AB [] (.one .bool) [.int .i64,.int .i64,.int .i64] x
def Lh (L:Nat):Sum tT:=mU 167 [.int .i64,.int .i64,.int .i64] (.one .bool) (YX L)
theorem FU:SX Lh:=fun h=>sT h Zu rfl (by kernel_rfl) fun _=>rfl
theorem Zif (L:Nat)(x0:Int)(x1:Int)(x2:Int):YX L (x0,x1,x2,())=some (decide (x0 ≥ x1) && decide (x0≤x2)):=by kernel_rfl
def Lr (L:Nat)(x:Wj×PUnit):Option Int:=fT [Lh L] L ZcU [.rnd [.slot 3 (.int .i64)]] (.one (.int .i64)) [.row 2] x
def ZeJ (L:Nat):Sum tT:=mU 168 [.row 2] (.one (.int .i64)) (Lr L)
theorem Zm9:SX ZeJ:=fun h=>sT h (Zb (FU h) Zu) rfl (by kernel_rfl) fun _=>rfl
def BN:Wj→Nat→(Int×PUnit→Option Int)→Int×PUnit→Option Int:=fun x0 L self acc=>bif decide (acc.1 < (↑x0.5.length:Int)) then bT (ZT x0.5 acc.1) fun y=>bT (YX L (y,0,1000000000,())) fun y=>bT (bif (!y) == false then bT (ZT x0.6 acc.1) fun y=>bT (YX L (y,1,1000,())) fun y=>some !y else some true) fun y=>bif y then some 2 else self (Go.IntKind.i64.wrap (acc.1 + 1),()) else some 0
theorem ZlU (L:Nat)(x0:Wj):Lr L (x0,())=bif (↑x0.5.length:Int) != (↑x0.6.length:Int) then some 8 else bif (↑x0.5.length:Int) == 0 then some 7 else bif decide ((↑x0.5.length:Int) > 20) then some 6 else Zx (BN x0 L) L (0,()):=by kernel_rfl
def Oj (L:Nat)(x:Wj×PUnit):Option Bool:=fT [] L Zbm [] (.one .bool) [.row 2] x
def ZbU (L:Nat):Sum tT:=mU 166 [.row 2] (.one .bool) (Oj L)
theorem Zk0:SX ZbU:=fun h=>sT h Zu rfl (by kernel_rfl) fun _=>rfl
theorem ZjY (L:Nat)(x0:Wj):Oj L (x0,())=bif x0.1 == 1 then some (x0.3 == 0 && x0.4 == 0 && ((↑x0.5.length:Int) == 0 && (↑x0.6.length:Int) == 0)) else bif x0.1 == 2 then some (x0.4 == 0 && ((↑x0.5.length:Int) == 0 && (↑x0.6.length:Int) == 0)) else bif x0.1 == 5 then some (x0.4 == 0 && ((↑x0.5.length:Int) == 0 && (↑x0.6.length:Int) == 0)) else bif x0.1 == 3 then some (x0.2 == 0 && x0.3 == 0 && x0.4 == 0) else bif x0.1 == 4 then some ((↑x0.5.length:Int) == 0 && (↑x0.6.length:Int) == 0) else some false:=by kernel_rfl
def VZ (L:Nat)(x:Wj×PUnit):Option Int:=fT [ZeJ L,Lh L,ZbU L] L ZcT [] (.one (.int .i64)) [.row 2] x
def Le (L:Nat):Sum tT:=mU 129 [.row 2] (.one (.int .i64)) (VZ L)
theorem EH:SX Le:=fun h=>sT h (Zb (Zm9 h) (Zb (FU h) (Zb (Zk0 h) Zu))) rfl (by kernel_rfl) fun _=>rfl
theorem ZlT (L:Nat)(x0:Wj):VZ L (x0,())=bT (Oj L (x0,())) fun y=>bif !y then some 1 else bif x0.1 == 1 then bT (YX L (x0.2,0,1000000000,())) fun y=>bif !y then some 2 else some 0 else bif x0.1 == 2 then bT (YX L (x0.2,0,x0.3,())) fun y=>bif !(y && decide (x0.3≤1000000000)) then some 2 else some 0 else bif x0.1 == 3 then bT (Lr L (x0,())) fun y=>some y else bif x0.1 == 4 then bT (YX L (x0.4,1,20,())) fun y=>bT (bif y == true then bT (YX L (x0.2,0,x0.3,())) fun y=>some y else some false) fun y=>bif !(y && decide (x0.3≤1000000)) then some 2 else some 0 else bif x0.1 == 5 then bT (YX L (x0.2,1,1000,())) fun y=>bT (bif y == true then bT (YX L (x0.3,1,1000,())) fun y=>some y else some false) fun y=>bif !y then some 2 else some 0 else some 0:=by kernel_rfl
def EO (L:Nat):Nat→List (Sum tT)
 | 0=>[⟨128,[.row 19,.int .i64,.row 16,.row 8],fun _=>.par _ none ((.one (.bool):RD).tv tT)⟩]
 | m + 1=>[⟨128,[.row 19,.int .i64,.row 16,.row 8],fun x=>.par _ (fnT tF tG (qOf tF (EO L m ++ [])) 0 L Zak [.rnd [.slot 10 (.int .i64)]] (.one (.bool)) (tvL tT [.row 19,.int .i64,.row 16,.row 8] x) []) ((.one (.bool):RD).tv tT)⟩]
theorem NM {C:Cfg}{L:Nat}(h:St C L):∀ m,∀ s ∈ EO L m,Q3 C s
 | 0=>(Zb (QH _ _ _) Zu)
 | m + 1=>have ih:=NM h m
  (Zb (Y4 Yu h.L h.G (Wx Yu (V3 ih Zu)) [.rnd [.slot 10 (.int .i64)]] (h.T _ _ rfl) (by kernel_rfl) fun _=>rfl) Zu)
def LQ (L m:Nat)(x:Zl×Int×Wp×Zw×PUnit):Option (Bool):=fnT tF tG (qOf tF (EO L m ++ [])) 0 L Zak [.rnd [.slot 10 (.int .i64)]] (.one (.bool)) (tvL tT [.row 19,.int .i64,.row 16,.row 8] x) []
def ZaZ (L:Nat)(x:Zl×Int×Wp×Zw×PUnit):Option (Bool):=LQ L L x
def ZgY (L:Nat):Sum tT:=⟨128,[.row 19,.int .i64,.row 16,.row 8],fun x=>.par ((.one (.bool):RD).Ty tT) (ZaZ L x) ((.one (.bool):RD).tv tT)⟩
theorem ZpG {C:Cfg}{L:Nat}(h:St C L):Q3 C (ZgY L):=have ih:=NM h L
 Y4 Yu h.L h.G (Wx Yu (V3 ih Zu)) [.rnd [.slot 10 (.int .i64)]] (h.T _ _ rfl) (by kernel_rfl) fun _=>rfl
def ML:Nat→Zl→Int→Wp→Zw→Nat→(Int×PUnit→Option Bool)→Int×PUnit→Option Bool:=fun (m:Nat)=>fun x0 x1 x2 x3 L self acc=>bif decide (acc.1 < (↑x3.4.length:Int)) then bT (ZT x3.4 acc.1) fun y=>bT (bT (LQ L m (x0,x1,x2,y,())) fun y=>some y) fun y=>bif !y then some false else self (Go.IntKind.i64.wrap (acc.1 + 1),()) else some true
theorem Zpu (L m:Nat)(x0:Zl)(x1:Int)(x2:Wp)(x3:Zw):LQ L (m + 1) (x0,x1,x2,x3,())=bT (ZT x0.2 x1) fun y=>bif x3.1 == 25 && decide (x3.3 ≥ x2.3) then some false else bif x3.1 == 26 && decide (x3.3 ≥ (↑y.Decl.2.length:Int)) then some false else bif x3.1 == 22 && decide (x3.3 ≥ (↑y.Decl.3.length:Int)) then some false else bif x3.1 == 23 && decide (x3.3 ≥ (↑y.Decl.4.length:Int)) then some false else bif x3.1 == 24 && decide (x3.3 ≥ Go.IntKind.i64.wrap ((↑y.Decl.3.length:Int) + (↑y.Decl.6.length:Int))) then some false else Zx (ML m x0 x1 x2 x3 L) L (0,()):=by kernel_rfl
def Jn (L:Nat)(x:(List (List UInt8))×(List UInt8)×PUnit):Option Int:=fT [] L ZfV [.rnd [.slot 5 (.int .i64)]] (.one (.int .i64)) [.lst 1 .str,.str] x
def He (L:Nat):Sum tT:=mU 113 [.lst 1 .str,.str] (.one (.int .i64)) (Jn L)
theorem Td:SX He:=fun h=>sT h Zu rfl (by kernel_rfl) fun _=>rfl
def E5:List (List UInt8)→List UInt8→(Int×PUnit→Option Int)→Int×PUnit→Option Int:=fun x0 x1 self acc=>bif decide (acc.1 < (↑x0.length:Int)) then bT (ZT x0 acc.1) fun y=>bif y == x1 then some acc.1 else self (Go.IntKind.i64.wrap (acc.1 + 1),()) else some (-1)
theorem Zpj (L:Nat)(x0:(List (List UInt8)))(x1:(List UInt8)):Jn L (x0,x1,())=Zx (E5 x0 x1) L (0,()):=by kernel_rfl
def U7 (L:Nat)(x:PUnit):Option ((List (List UInt8))):=fT [] L Nq [] (.one (.lst 1 .str)) [] x
def NT (L:Nat):Sum tT:=mU 114 [] (.one (.lst 1 .str)) (U7 L)
theorem ZfH:SX NT:=fun h=>sT h Zu rfl (by kernel_rfl) fun _=>rfl
theorem ZfA (L:Nat)  : U7 L ()=some [[97,100,100],[97,102,116,101,114],[97,110,100],[97,116],[98,101,108,116],[98,111,111,108],[99,111,110,115,101,114,118,101],[99,111,110,115,116],[99,111,117,110,116],[99,121,99,108,101],[100,111,119,110],[100,114,97,119],[100,117,114],[101,108,115,101],[101,110,100],[101,118,101,114,121],[102,97,108,115,101],[102,97,117,108,116],[102,105,102,111],[102,114,101,101],[102,114,111,109],[103,101,111,109],[103,101,116],[104,111,108,100],[105,102],[105,110,116],[105,110,116,111],[108,101,97,115,116],[108,101,118,101,108],[108,105,102,111],[108,105,110,107],[108,111,99,97,108],[109,97,120],[109,105,110],[109,111,100,101,108],[110,111,116],[110,111,119],[111,98,115,101,114,118,101],[111,114],[112,97,114,97,109],[112,114,101,101,109,112,116],[112,114,105,111],[112,117,116],[113,117,101,117,101],[114,101,108,101,97,115,101],[114,101,115,111,117,114,99,101],[114,105,100,101],[114,111,117,116,105,110,101],[115,101,105,122,101],[115,101,110,100],[115,101,116],[115,104,105,102,116],[115,105,103,110,97,108],[115,105,116,101],[115,105,122,101],[115,112,97,119,110],[115,116,97,114,116],[115,116,111,112],[115,116,111,114,101],[115,116,114,101,97,109],[115,117,109],[116,97,98,108,101],[116,97,108,108,121],[116,105,99,107,115],[116,105,109,101],[116,114,117,101],[117,110,105,102,111,114,109],[117,110,116,105,108],[117,112],[118,97,114],[119,97,105,116],[119,97,105,116,105,110,103],[119,104,105,108,101]]:=by kernel_rfl
def GH (L:Nat)(x:(List UInt8)×PUnit):Option Bool:=fT [He L,NT L] L AC [] (.one .bool) [.str] x
def CE (L:Nat):Sum tT:=mU 59 [.str] (.one .bool) (GH L)
theorem Ziv:SX CE:=fun h=>sT h (Zb (Td h) (Zb (ZfH h) Zu)) rfl (by kernel_rfl) fun _=>rfl
theorem Zig (L:Nat)(x0:(List UInt8)):GH L (x0,())=bT (U7 L ()) fun y=>bT (Jn L (y,x0,())) fun y=>some (decide (y ≥ 0)):=by kernel_rfl
def UZ (L:Nat)(x:Int×PUnit):Option Bool:=fT [] L Zbn [] (.one .bool) [.int .u8] x
def ZbV (L:Nat):Sum tT:=mU 58 [.int .u8] (.one .bool) (UZ L)
theorem Zk1:SX ZbV:=fun h=>sT h Zu rfl (by kernel_rfl) fun _=>rfl
theorem ZjZ (L:Nat)(x0:Int):UZ L (x0,())=some (decide (x0 ≥ 97) && decide (x0≤122)):=by kernel_rfl
end Go.Proofs.YtgjcjbhhhlelnaaGreatDoor
end
noncomputable section
namespace Go.Proofs.YtgjcjbhhhlelnaaGreatDoor
open Go Go.Proofs.YtgjcjbhhhlelnaaGreatDoor.Abs Go.Proofs.YtgjcjbhhhlelnaaGreatDoor.Tl
set_option maxRecDepth 100000
set_option maxHeartbeats 0
def Qv (L:Nat)(x:(List UInt8)×PUnit):Option Int:=fT [CE L,ZbV L] L ZcV [.rnd [.slot 3 (.int .i64)]] (.one (.int .i64)) [.str] x
def Vd (L:Nat):Sum tT:=mU 39 [.str] (.one (.int .i64)) (Qv L)
theorem VV:SX Vd:=fun h=>sT h (Zb (Ziv h) (Zb (Zk1 h) Zu)) rfl (by kernel_rfl) fun _=>rfl
def IW:List UInt8→Nat→(Int×PUnit→Option Int)→Int×PUnit→Option Int:=fun x0 L self acc=>bif decide (acc.1 < (↑x0.length:Int)) then bT (ZT x0 acc.1) fun y=>bT (UZ L ((↑y.toNat:Int),())) fun y=>bT (bif (!y) == true then bT (ZT x0 acc.1) fun y=>some ((↑y.toNat:Int) != 95) else some false) fun y=>bT (bif y == true then bT (ZT x0 acc.1) fun y=>bif decide ((↑y.toNat:Int) < 48) == false then bT (ZT x0 acc.1) fun y=>some (decide ((↑y.toNat:Int) > 57)) else some true else some false) fun y=>bif y then some 3 else self (Go.IntKind.i64.wrap (acc.1 + 1),()) else some 0
theorem ZlV (L:Nat)(x0:(List UInt8)):Qv L (x0,())=bT (bif (decide ((↑x0.length:Int) < 1) || decide ((↑x0.length:Int) > 24)) == false then bT (ZT x0 0) fun y=>bT (UZ L ((↑y.toNat:Int),())) fun y=>some !y else some true) fun y=>bT (bif y == false then bT (GH L (x0,())) fun y=>some y else some true) fun y=>bif y then some 3 else Zx (IW x0 L) L (0,()):=by kernel_rfl
def PD (L:Nat)(x:Int×PUnit):Option Int:=fT [] L ZfW [] (.one (.int .i64)) [.int .i64] x
def ZaV (L:Nat):Sum tT:=mU 206 [.int .i64] (.one (.int .i64)) (PD L)
theorem ZgJ:SX ZaV:=fun h=>sT h Zu rfl (by kernel_rfl) fun _=>rfl
theorem Zpl (L:Nat)(x0:Int):PD L (x0,())=bif x0 == 25 then some 15 else bif x0 == 26 then some 31 else some 63:=by kernel_rfl
def P9 (L:Nat)(x:Int×PUnit):Option Bool:=fT [] L Zne [] (.one .bool) [.int .i64] x
def CB (L:Nat):Sum tT:=mU 154 [.int .i64] (.one .bool) (P9 L)
theorem ZcE:SX CB:=fun h=>sT h Zu rfl (by kernel_rfl) fun _=>rfl
theorem Zuz (L:Nat)(x0:Int):P9 L (x0,())=some (decide (x0 ≥ (-1000000000000)) && decide (x0≤1000000000000)):=by kernel_rfl
def Ko (L:Nat)(x:Int×PUnit):Option Bool:=fT [] L Zbo [] (.one .bool) [.int .i64] x
def DI (L:Nat):Sum tT:=mU 205 [.int .i64] (.one .bool) (Ko L)
theorem ZbI:SX DI:=fun h=>sT h Zu rfl (by kernel_rfl) fun _=>rfl
theorem Zka (L:Nat)(x0:Int):Ko L (x0,())=some (decide (x0 ≥ 22) && decide (x0≤24)):=by kernel_rfl
def Ls (L:Nat)(x:Int×PUnit):Option Int:=fT [] L ZcW [] (.one (.int .i64)) [.int .i64] x
def ES (L:Nat):Sum tT:=mU 204 [.int .i64] (.one (.int .i64)) (Ls L)
theorem Ze2:SX ES:=fun h=>sT h Zu rfl (by kernel_rfl) fun _=>rfl
theorem ZlW (L:Nat)(x0:Int):Ls L (x0,())=bif decide (x0 < 1) || decide (x0 > 26) then some (-1) else bif decide (x0 ≥ 5) && decide (x0≤8) then some 1 else bif decide (x0 ≥ 9) && decide (x0≤21) then some 2 else some 0:=by kernel_rfl
def EM (L:Nat):Nat→List (Sum tT)
 | 0=>[⟨194,[.row 8,.bool],fun _=>.par _ none ((.one (.int .i64):RD).tv tT)⟩]
 | m + 1=>[⟨194,[.row 8,.bool],fun x=>.par _ (fnT tF tG (qOf tF (EM L m ++ [Vd L,ZaV L,CB L,DI L,ES L])) 0 L Zai [.rnd [.slot 10 (.int .i64)]] (.one (.int .i64)) (tvL tT [.row 8,.bool] x) []) ((.one (.int .i64):RD).tv tT)⟩]
theorem NK {C:Cfg}{L:Nat}(h:St C L):∀ m,∀ s ∈ EM L m,Q3 C s
 | 0=>(Zb (QH _ _ _) Zu)
 | m + 1=>have ih:=NK h m
  (Zb (Y4 Yu h.L h.G (Wx Yu (V3 ih (Zb (VV h) (Zb (ZgJ h) (Zb (ZcE h) (Zb (ZbI h) (Zb (Ze2 h) Zu))))))) [.rnd [.slot 10 (.int .i64)]] (h.T _ _ rfl) (by kernel_rfl) fun _=>rfl) Zu)
def LP (L m:Nat)(x:Zw×Bool×PUnit):Option (Int):=fnT tF tG (qOf tF (EM L m ++ [Vd L,ZaV L,CB L,DI L,ES L])) 0 L Zai [.rnd [.slot 10 (.int .i64)]] (.one (.int .i64)) (tvL tT [.row 8,.bool] x) []
def ZaW (L:Nat)(x:Zw×Bool×PUnit):Option (Int):=LP L L x
def ZgP (L:Nat):Sum tT:=⟨194,[.row 8,.bool],fun x=>.par ((.one (.int .i64):RD).Ty tT) (ZaW L x) ((.one (.int .i64):RD).tv tT)⟩
theorem Zp7 {C:Cfg}{L:Nat}(h:St C L):Q3 C (ZgP L):=have ih:=NK h L
 Y4 Yu h.L h.G (Wx Yu (V3 ih (Zb (VV h) (Zb (ZgJ h) (Zb (ZcE h) (Zb (ZbI h) (Zb (Ze2 h) Zu))))))) [.rnd [.slot 10 (.int .i64)]] (h.T _ _ rfl) (by kernel_rfl) fun _=>rfl
def MH:Nat→Zw→Bool→Nat→(Int×PUnit→Option Int)→Int×PUnit→Option Int:=fun (m:Nat)=>fun x0 x1 L self acc=>bif decide (acc.1 < (↑x0.4.length:Int)) then bT (ZT x0.4 acc.1) fun y=>bT (LP L m (y,x1,())) fun y=>bif y != 0 then some y else self (Go.IntKind.i64.wrap (acc.1 + 1),()) else some 0
theorem Zpm (L m:Nat)(x0:Zw)(x1:Bool):LP L (m + 1) (x0,x1,())=bT (Ls L (x0.1,())) fun y=>bT (bif (!x1) == true then bif (x0.1 == 3) == false then bT (Ko L (x0.1,())) fun y=>some y else some true else some false) fun y_1=>bT (bif x1 == true then bT (Ko L (x0.1,())) fun y=>some (y || x0.1 == 25 || x0.1 == 26) else some false) fun y_2=>bif !(decide (y ≥ 0) && (x1 && x0.1 != 3 || !x1 && decide (x0.1≤24))) || !y_1 && !x0.2 == [] || !(x0.1 == 1 || x0.1 == 2 || y_2) && x0.3 != 0 || (↑x0.4.length:Int) != y then some 1 else bT (bif (x0.1 == 1) == true then bT (bT (P9 L (x0.3,())) fun y=>some y) fun y=>some !y else some false) fun y=>bT (bif (y || x0.1 == 2 && x0.3 != 0 && x0.3 != 1) == false then bif y_2 == true then bif decide (x0.3 < 0) == false then bT (bT (PD L (x0.1,())) fun y=>some y) fun y=>some (decide (x0.3 > y)) else some true else some false else some true) fun y=>bif y then some 2 else bT (bif y_1 == true then bT (Qv L (x0.2,())) fun y=>some (y != 0) else some false) fun y=>bif y then bT (Qv L (x0.2,())) fun y=>some y else Zx (MH m x0 x1 L) L (0,()):=by kernel_rfl
def Dv (L:Nat):Nat→List (Sum tT)
 | 0=>[⟨193,[.row 8],fun _=>.par _ none ((.one (.int .i64):RD).tv tT)⟩]
 | m + 1=>[⟨193,[.row 8],fun x=>.par _ (fnT tF tG (qOf tF (Dv L m ++ [])) 0 L Sr [.rnd [.slot 3 (.int .i64),.slot 4 (.int .i64)]] (.one (.int .i64)) (tvL tT [.row 8] x) []) ((.one (.int .i64):RD).tv tT)⟩]
theorem Dw {C:Cfg}{L:Nat}(h:St C L):∀ m,∀ s ∈ Dv L m,Q3 C s
 | 0=>(Zb (QH _ _ _) Zu)
 | m + 1=>have ih:=Dw h m
  (Zb (Y4 Yu h.L h.G (Wx Yu (V3 ih Zu)) [.rnd [.slot 3 (.int .i64),.slot 4 (.int .i64)]] (h.T _ _ rfl) (by kernel_rfl) fun _=>rfl) Zu)
def Ot (L m:Nat)(x:Zw×PUnit):Option (Int):=fnT tF tG (qOf tF (Dv L m ++ [])) 0 L Sr [.rnd [.slot 3 (.int .i64),.slot 4 (.int .i64)]] (.one (.int .i64)) (tvL tT [.row 8] x) []
def Ad (L:Nat)(x:Zw×PUnit):Option (Int):=Ot L L x
def ZeL (L:Nat):Sum tT:=⟨193,[.row 8],fun x=>.par ((.one (.int .i64):RD).Ty tT) (Ad L x) ((.one (.int .i64):RD).tv tT)⟩
theorem ZmB {C:Cfg}{L:Nat}(h:St C L):Q3 C (ZeL L):=have ih:=Dw h L
 Y4 Yu h.L h.G (Wx Yu (V3 ih Zu)) [.rnd [.slot 3 (.int .i64),.slot 4 (.int .i64)]] (h.T _ _ rfl) (by kernel_rfl) fun _=>rfl
def BO:Nat→Zw→Nat→(Int×Int×PUnit→Option Int)→Int×Int×PUnit→Option Int:=fun (m:Nat)=>fun x0 L self acc=>bif decide (acc.2.1 < (↑x0.4.length:Int)) then bT (ZT x0.4 acc.2.1) fun y=>bT (Ot L m (y,())) fun y=>self (if y > acc.1 then y else acc.1,Go.IntKind.i64.wrap (acc.2.1 + 1),()) else some (Go.IntKind.i64.wrap (acc.1 + 1))
theorem ZlY (L m:Nat)(x0:Zw):Ot L (m + 1) (x0,())=Zx (BO m x0 L) L (0,0,()):=by kernel_rfl
def Dx (L:Nat):Nat→List (Sum tT)
 | 0=>[⟨192,[.row 8],fun _=>.par _ none ((.one (.int .i64):RD).tv tT)⟩]
 | m + 1=>[⟨192,[.row 8],fun x=>.par _ (fnT tF tG (qOf tF (Dx L m ++ [])) 0 L Su [.rnd [.slot 3 (.int .i64),.slot 4 (.int .i64)]] (.one (.int .i64)) (tvL tT [.row 8] x) []) ((.one (.int .i64):RD).tv tT)⟩]
theorem Dy {C:Cfg}{L:Nat}(h:St C L):∀ m,∀ s ∈ Dx L m,Q3 C s
 | 0=>(Zb (QH _ _ _) Zu)
 | m + 1=>have ih:=Dy h m
  (Zb (Y4 Yu h.L h.G (Wx Yu (V3 ih Zu)) [.rnd [.slot 3 (.int .i64),.slot 4 (.int .i64)]] (h.T _ _ rfl) (by kernel_rfl) fun _=>rfl) Zu)
def Ou (L m:Nat)(x:Zw×PUnit):Option (Int):=fnT tF tG (qOf tF (Dx L m ++ [])) 0 L Su [.rnd [.slot 3 (.int .i64),.slot 4 (.int .i64)]] (.one (.int .i64)) (tvL tT [.row 8] x) []
def Ae (L:Nat)(x:Zw×PUnit):Option (Int):=Ou L L x
def ZeM (L:Nat):Sum tT:=⟨192,[.row 8],fun x=>.par ((.one (.int .i64):RD).Ty tT) (Ae L x) ((.one (.int .i64):RD).tv tT)⟩
theorem ZmC {C:Cfg}{L:Nat}(h:St C L):Q3 C (ZeM L):=have ih:=Dy h L
 Y4 Yu h.L h.G (Wx Yu (V3 ih Zu)) [.rnd [.slot 3 (.int .i64),.slot 4 (.int .i64)]] (h.T _ _ rfl) (by kernel_rfl) fun _=>rfl
def BP:Nat→Zw→Nat→(Int×Int×PUnit→Option Int)→Int×Int×PUnit→Option Int:=fun (m:Nat)=>fun x0 L self acc=>bif decide (acc.2.1 < (↑x0.4.length:Int)) then bT (ZT x0.4 acc.2.1) fun y=>bT (Ou L m (y,())) fun y=>self (Go.IntKind.i64.wrap (acc.1 + y),Go.IntKind.i64.wrap (acc.2.1 + 1),()) else some acc.1
theorem ZlZ (L m:Nat)(x0:Zw):Ou L (m + 1) (x0,())=Zx (BP m x0 L) L (1,0,()):=by kernel_rfl
def IA (L:Nat)(x:Zw×Bool×PUnit):Option Int:=fT [ZgP L,ZeL L,ZeM L] L ZcY [] (.one (.int .i64)) [.row 8,.bool] x
def EU (L:Nat):Sum tT:=mU 165 [.row 8,.bool] (.one (.int .i64)) (IA L)
theorem Ze4:SX EU:=fun h=>sT h (Zb (Zp7 h) (Zb (ZmB h) (Zb (ZmC h) Zu))) rfl (by kernel_rfl) fun _=>rfl
theorem Zma (L:Nat)(x0:Zw)(x1:Bool):IA L (x0,x1,())=bT (Ae L (x0,())) fun y=>bif decide (y > 60) then some 6 else bT (Ad L (x0,())) fun y=>bif decide (y > 12) then some 11 else bT (ZaW L (x0,x1,())) fun y=>some y:=by kernel_rfl
def JH (L:Nat)(x:Zw×PUnit):Option Int:=fT [EU L] L Bo [] (.one (.int .i64)) [.row 8] x
def DF (L:Nat):Sum tT:=mU 127 [.row 8] (.one (.int .i64)) (JH L)
theorem Ze3:SX DF:=fun h=>sT h (Zb (Ze4 h) Zu) rfl (by kernel_rfl) fun _=>rfl
theorem Zem (L:Nat)(x0:Zw):JH L (x0,())=bT (IA L (x0,true,())) fun y=>some y:=by kernel_rfl
end Go.Proofs.YtgjcjbhhhlelnaaGreatDoor
end
noncomputable section
namespace Go.Proofs.YtgjcjbhhhlelnaaGreatDoor
open Go Go.Proofs.YtgjcjbhhhlelnaaGreatDoor.Abs Go.Proofs.YtgjcjbhhhlelnaaGreatDoor.Tl
set_option maxRecDepth 100000
set_option maxHeartbeats 0
def Vf (L:Nat)(x:PUnit):Option (List VM):=fT [] L Zdl [] (.one (.lst 9 (.row 23))) [] x
def Lm (L:Nat):Sum tT:=mU 159 [] (.one (.lst 9 (.row 23))) (Vf L)
theorem EK:SX Lm:=fun h=>sT h Zu rfl (by kernel_rfl) fun _=>rfl
theorem Zmo (L:Nat)  : Vf L ()=some [VM.mk [] [] [] false false false false false false,VM.mk [115,108,111,116] [115,108,111,116] [] false true false false false false,VM.mk [118,97,114] [118,97,114] [] false true false false false false,VM.mk [100,114,97,119] [115,108,111,116] [115,116,114,101,97,109] false false false false false true,VM.mk [106,117,109,112] [105,110,115,116,114] [] false false false false false false,VM.mk [98,114,97,110,99,104] [105,110,115,116,114] [] false true false false false false,VM.mk [104,111,108,100] [] [] false true false false false false,VM.mk [115,101,105,122,101] [114,101,115,111,117,114,99,101] [] false true true true false false,VM.mk [114,101,108,101,97,115,101] [114,101,115,111,117,114,99,101] [] false true false false false false,VM.mk [112,117,116] [115,116,111,114,101] [] false true false false false false,VM.mk [103,101,116] [115,116,111,114,101] [115,108,111,116] false false false false false false,VM.mk [114,105,100,101] [98,101,108,116] [] false false false false false false,VM.mk [119,97,105,116] [113,117,101,117,101] [] false false false false false false,VM.mk [115,105,103,110,97,108] [113,117,101,117,101] [] false true false false false false,VM.mk [115,101,110,100] [115,105,116,101] [114,111,117,116,105,110,101] true true false false true false,VM.mk [115,112,97,119,110] [] [114,111,117,116,105,110,101] false true false false true false,VM.mk [111,98,115,101,114,118,101] [116,97,108,108,121] [] false true false false false false,VM.mk [108,101,118,101,108] [108,101,118,101,108] [] false true false false false false,VM.mk [99,111,117,110,116] [99,111,117,110,116] [] false true false false false false,VM.mk [101,110,100] [] [] false false false false false false]:=by kernel_rfl
def IC (L:Nat)(x:Int×PUnit):Option Bool:=fT [] L Zdp [] (.one .bool) [.int .i64] x
def EW (L:Nat):Sum tT:=mU 123 [.int .i64] (.one .bool) (IC L)
theorem Ze5:SX EW:=fun h=>sT h Zu rfl (by kernel_rfl) fun _=>rfl
theorem Zms (L:Nat)(x0:Int):IC L (x0,())=some (decide (x0 ≥ 1) && decide (x0≤19)):=by kernel_rfl
def LC (L:Nat)(x:YJ×PUnit):Option (List Zw):=fT [Lm L,EW L] L Zdk [] (.one (.lst 4 (.row 8))) [.row 15] x
def ZeW (L:Nat):Sum tT:=mU 126 [.row 15] (.one (.lst 4 (.row 8))) (LC L)
theorem ZmM:SX ZeW:=fun h=>sT h (Zb (EK h) (Zb (Ze5 h) Zu)) rfl (by kernel_rfl) fun _=>rfl
theorem Zmn (L:Nat)(x0:YJ):LC L (x0,())=bT (IC L (x0.1,())) fun y=>bif !y then some [] else bT (bT (Vf L ()) fun y=>some y) fun y=>bT (ZT y x0.1) fun y=>bif y.5 then bT (apT 56 [] [x0.5]) fun y_1=>bif y.6 then bT (apT 56 y_1 [x0.6]) fun y_2=>bif y.8 then bT (apT 56 y_2 x0.7) fun y=>some y else some y_2 else bif y.8 then bT (apT 56 y_1 x0.7) fun y=>some y else some y_1 else bif y.6 then bT (apT 56 [] [x0.6]) fun y_1=>bif y.8 then bT (apT 56 y_1 x0.7) fun y=>some y else some y_1 else bif y.8 then bT (apT 56 [] x0.7) fun y=>some y else some []:=by kernel_rfl
def Zaa (L:Nat)(x:Zl×Int×Int×PUnit):Option (Int×Bool×PUnit):=fT [] L ZiO [.rnd [.slot 8 (.int .i64)]] (.tup [.int .i64,.bool]) [.row 19,.int .i64,.int .i64] x
def ZkK (L:Nat):Sum tT:=mU 164 [.row 19,.int .i64,.int .i64] (.tup [.int .i64,.bool]) (Zaa L)
theorem Zsy:SX ZkK:=fun h=>sT h Zu rfl (by kernel_rfl) fun _=>rfl
def ZaJ:Zl→Int→Int→(Int×PUnit→Option (Int×Bool×PUnit))→Int×PUnit→Option (Int×Bool×PUnit):=fun x0 x1 x2 self acc=>bif decide (acc.1 < (↑x0.3.length:Int)) then bT (ZT x0.3 acc.1) fun y=>bT (bif (y.1 == x1) == true then bT (ZT x0.3 acc.1) fun y=>some (y.2 == x2) else some false) fun y=>bif y then bT (ZT x0.3 acc.1) fun y=>some (y.3,true,()) else self (Go.IntKind.i64.wrap (acc.1 + 1),()) else some (0,false,())
theorem Zsi (L:Nat)(x0:Zl)(x1:Int)(x2:Int):Zaa L (x0,x1,x2,())=Zx (ZaJ x0 x1 x2) L (0,()):=by kernel_rfl
def Ur (L:Nat)(x:Zl×Int×YJ×PUnit):Option Int:=fT [] L Zdm [] (.one (.int .i64)) [.row 19,.int .i64,.row 15] x
def ZeX (L:Nat):Sum tT:=mU 163 [.row 19,.int .i64,.row 15] (.one (.int .i64)) (Ur L)
theorem ZmN:SX ZeX:=fun h=>sT h Zu rfl (by kernel_rfl) fun _=>rfl
theorem Zmp (L:Nat)(x0:Zl)(x1:Int)(x2:YJ):Ur L (x0,x1,x2,())=bT (ZT x0.2 x1) fun y=>bif decide (x2.3 < 0) || decide (x2.3 ≥ (↑y.2.length:Int)) then some 2 else bT (ZT y.2 x2.3) fun y=>bif (↑x2.7.length:Int) != y.2 then some 8 else some 0:=by kernel_rfl
def Ah (L:Nat)(x:Zl×Int×Wp×(List UInt8)×PUnit):Option Int:=fT [] L Zdn [] (.one (.int .i64)) [.row 19,.int .i64,.row 16,.str] x
def ZeY (L:Nat):Sum tT:=mU 191 [.row 19,.int .i64,.row 16,.str] (.one (.int .i64)) (Ah L)
theorem ZmO:SX ZeY:=fun h=>sT h Zu rfl (by kernel_rfl) fun _=>rfl
theorem Zmq (L:Nat)(x0:Zl)(x1:Int)(x2:Wp)(x3:(List UInt8)):Ah L (x0,x1,x2,x3,())=bT (ZT x0.2 x1) fun y=>bif x3 == [115,108,111,116] then some x2.3 else bif x3 == [105,110,115,116,114] then some (↑x2.4.length:Int) else bif x3 == [115,105,116,101] then some (↑x0.2.length:Int) else bif x3 == [118,97,114] then some (↑y.Decl.2.length:Int) else bif x3 == [114,101,115,111,117,114,99,101] then some (↑y.Decl.3.length:Int) else bif x3 == [115,116,111,114,101] then some (↑y.Decl.4.length:Int) else bif x3 == [98,101,108,116] then some (↑y.Decl.5.length:Int) else bif x3 == [113,117,101,117,101] then some (↑y.Decl.6.length:Int) else bif x3 == [115,116,114,101,97,109] then some (↑y.Decl.7.length:Int) else bif x3 == [116,97,108,108,121] then some (↑y.Decl.8.length:Int) else bif x3 == [108,101,118,101,108] then some (↑y.Decl.9.length:Int) else some (↑y.Decl.10.length:Int):=by kernel_rfl
def Kq (L:Nat)(x:Zl×Int×Wp×(List UInt8)×Int×PUnit):Option Bool:=fT [ZeY L] L Zbs [] (.one .bool) [.row 19,.int .i64,.row 16,.str,.int .i64] x
def ZbX (L:Nat):Sum tT:=mU 162 [.row 19,.int .i64,.row 16,.str,.int .i64] (.one .bool) (Kq L)
theorem Zk4:SX ZbX:=fun h=>sT h (Zb (ZmO h) Zu) rfl (by kernel_rfl) fun _=>rfl
theorem Zke (L:Nat)(x0:Zl)(x1:Int)(x2:Wp)(x3:(List UInt8))(x4:Int):Kq L (x0,x1,x2,x3,x4,())=bT (bif (x3 == []) == false then bif decide (x4 ≥ 0) == true then bT (Ah L (x0,x1,x2,x3,())) fun y=>some (decide (x4 < y)) else some false else some true) fun y=>some y:=by kernel_rfl
def LD (L:Nat)(x:Zl×Int×Wp×YJ×PUnit):Option Int:=fT [ZkK L,ZeX L,ZbX L,Lm L] L AQ [] (.one (.int .i64)) [.row 19,.int .i64,.row 16,.row 15] x
def CQ (L:Nat):Sum tT:=mU 125 [.row 19,.int .i64,.row 16,.row 15] (.one (.int .i64)) (LD L)
theorem Ziz:SX CQ:=fun h=>sT h (Zb (Zsy h) (Zb (ZmN h) (Zb (Zk4 h) (Zb (EK h) Zu)))) rfl (by kernel_rfl) fun _=>rfl
theorem Zij (L:Nat)(x0:Zl)(x1:Int)(x2:Wp)(x3:YJ):LD L (x0,x1,x2,x3,())=bT (bT (Vf L ()) fun y=>some y) fun y=>bT (ZT y x3.1) fun y=>bT (Kq L (x0,x1,x2,y.2,x3.2,())) fun y_1=>bif !y_1 then some 2 else bif x3.1 == 15 then bT (Ur L (x0,x1,x3,())) fun y=>some y else bif x3.1 == 14 then bT (Zaa L (x0,x1,x3.2,())) fun y=>bif !y.2.1 || y.1 != x3.4 then some 16 else bT (Ur L (x0,x3.2,x3,())) fun y=>some y else bT (Kq L (x0,x1,x2,y.3,x3.3,())) fun y=>bif !y then some 2 else some 0:=by kernel_rfl
def VI (L:Nat)(x:(List Int)×(List Int)×PUnit):Option Bool:=fT [] L Np [.rnd [.slot 5 (.int .i64)]] (.one .bool) [.lst 1 (.int .i64),.lst 1 (.int .i64)] x
def NS (L:Nat):Sum tT:=mU 190 [.lst 1 (.int .i64),.lst 1 (.int .i64)] (.one .bool) (VI L)
theorem ZfG:SX NS:=fun h=>sT h Zu rfl (by kernel_rfl) fun _=>rfl
def Ia:List Int→List Int→(Int×PUnit→Option Bool)→Int×PUnit→Option Bool:=fun x0 x1 self acc=>bif decide (acc.1 < (↑x0.length:Int)) then bT (ZT x0 acc.1) fun y=>bT (ZT x1 acc.1) fun y_1=>bif y != y_1 then some false else self (Go.IntKind.i64.wrap (acc.1 + 1),()) else some true
theorem Zf9 (L:Nat)(x0:(List Int))(x1:(List Int)):VI L (x0,x1,())=bif (↑x0.length:Int) != (↑x1.length:Int) then some false else Zx (Ia x0 x1) L (0,()):=by kernel_rfl
def Un (L:Nat)(x:Wj×Wj×PUnit):Option Bool:=fT [NS L] L ZfU [] (.one .bool) [.row 2,.row 2] x
def P5 (L:Nat):Sum tT:=mU 161 [.row 2,.row 2] (.one .bool) (Un L)
theorem ZaN:SX P5:=fun h=>sT h (Zb (ZfG h) Zu) rfl (by kernel_rfl) fun _=>rfl
theorem Zpi (L:Nat)(x0:Wj)(x1:Wj):Un L (x0,x1,())=bT (bif (x0.1 == x1.1 && x0.2 == x1.2 && x0.3 == x1.3 && x0.4 == x1.4) == true then bT (VI L (x0.5,x1.5,())) fun y=>some y else some false) fun y=>bT (bif y == true then bT (VI L (x0.6,x1.6,())) fun y=>some y else some false) fun y=>some y:=by kernel_rfl
end Go.Proofs.YtgjcjbhhhlelnaaGreatDoor
end
noncomputable section
namespace Go.Proofs.YtgjcjbhhhlelnaaGreatDoor
open Go Go.Proofs.YtgjcjbhhhlelnaaGreatDoor.Abs Go.Proofs.YtgjcjbhhhlelnaaGreatDoor.Tl
set_option maxRecDepth 100000
set_option maxHeartbeats 0
def YV (L:Nat):Nat→List (Sum tT)
 | 0=>[⟨189,[.lst 4 (.row 8),.lst 4 (.row 8)],fun _=>.par _ none ((.one (.bool):RD).tv tT)⟩,⟨160,[.row 8,.row 8],fun _=>.par _ none ((.one (.bool):RD).tv tT)⟩]
 | m + 1=>[⟨189,[.lst 4 (.row 8),.lst 4 (.row 8)],fun x=>.par _ (fnT tF tG (qOf tF (YV L m ++ [])) 0 L TA [.rnd [.slot 5 (.int .i64)]] (.one (.bool)) (tvL tT [.lst 4 (.row 8),.lst 4 (.row 8)] x) []) ((.one (.bool):RD).tv tT)⟩,⟨160,[.row 8,.row 8],fun x=>.par _ (fnT tF tG (qOf tF (YV L m ++ [])) 0 L Zah [] (.one (.bool)) (tvL tT [.row 8,.row 8] x) []) ((.one (.bool):RD).tv tT)⟩]
theorem Vz {C:Cfg}{L:Nat}(h:St C L):∀ m,∀ s ∈ YV L m,Q3 C s
 | 0=>(Zb (QH _ _ _) (Zb (QH _ _ _) Zu))
 | m + 1=>have ih:=Vz h m
  (Zb (Y4 Yu h.L h.G (Wx Yu (V3 ih Zu)) [.rnd [.slot 5 (.int .i64)]] (h.T _ _ rfl) (by kernel_rfl) fun _=>rfl) (Zb (Y4 Yu h.L h.G (Wx Yu (V3 ih Zu)) [] (h.T _ _ rfl) (by kernel_rfl) fun _=>rfl) Zu))
def O9 (L m:Nat)(x:(List Zw)×(List Zw)×PUnit):Option (Bool):=fnT tF tG (qOf tF (YV L m ++ [])) 0 L TA [.rnd [.slot 5 (.int .i64)]] (.one (.bool)) (tvL tT [.lst 4 (.row 8),.lst 4 (.row 8)] x) []
def LM (L m:Nat)(x:Zw×Zw×PUnit):Option (Bool):=fnT tF tG (qOf tF (YV L m ++ [])) 0 L Zah [] (.one (.bool)) (tvL tT [.row 8,.row 8] x) []
def Tj (L:Nat)(x:Zw×Zw×PUnit):Option (Bool):=LM L L x
def ZgO (L:Nat):Sum tT:=⟨160,[.row 8,.row 8],fun x=>.par ((.one (.bool):RD).Ty tT) (Tj L x) ((.one (.bool):RD).tv tT)⟩
theorem Zp6 {C:Cfg}{L:Nat}(h:St C L):Q3 C (ZgO L):=have ih:=Vz h L
 Y4 Yu h.L h.G (Wx Yu (V3 ih Zu)) [] (h.T _ _ rfl) (by kernel_rfl) fun _=>rfl
def U3:Nat→List Zw→List Zw→Nat→(Int×PUnit→Option Bool)→Int×PUnit→Option Bool:=fun (m:Nat)=>fun x0 x1 L self acc=>bif decide (acc.1 < (↑x0.length:Int)) then bT (ZT x0 acc.1) fun y=>bT (ZT x1 acc.1) fun y_1=>bT (bT (LM L m (y,y_1,())) fun y=>some y) fun y=>bif !y then some false else self (Go.IntKind.i64.wrap (acc.1 + 1),()) else some true
theorem FI (L m:Nat)(x0:(List Zw))(x1:(List Zw)):O9 L (m + 1) (x0,x1,())=bif (↑x0.length:Int) != (↑x1.length:Int) then some false else Zx (U3 m x0 x1 L) L (0,()):=by kernel_rfl
theorem Zpk (L m:Nat)(x0:Zw)(x1:Zw):LM L (m + 1) (x0,x1,())=bif x0.1 != x1.1 || !x0.2 == x1.2 || x0.3 != x1.3 then some false else bT (O9 L m (x0.4,x1.4,())) fun y=>some y:=by kernel_rfl
def LG (L:Nat)(x:YJ×PUnit):Option Bool:=fT [P5 L,ZgO L,Lm L] L Zdq [] (.one .bool) [.row 15] x
def Zfa (L:Nat):Sum tT:=mU 124 [.row 15] (.one .bool) (LG L)
theorem ZmQ:SX Zfa:=fun h=>sT h (Zb (ZaN h) (Zb (Zp6 h) (Zb (EK h) Zu))) rfl (by kernel_rfl) fun _=>rfl
theorem Zmt (L:Nat)(x0:YJ):LG L (x0,())=bT (bT (Vf L ()) fun y=>some y) fun y=>bT (ZT y x0.1) fun y=>bif y.2 == [] && x0.2 != 0 then some false else bif y.3 == [] && x0.3 != 0 then some false else bif !y.4 && x0.4 != 0 then some false else bif !y.7 && x0.9 then some false else bT (bif (!y.5) == true then bT (Tj L (x0.5,Zw.mk 0 [] 0 [],())) fun y=>some !y else some false) fun y_1=>bif y_1 then some false else bT (bif (!y.6) == true then bT (Tj L (x0.6,Zw.mk 0 [] 0 [],())) fun y=>some !y else some false) fun y_2=>bif y_2 then some false else bif !y.8 && decide ((↑x0.7.length:Int) > 0) then some false else bT (bif y.9 == false then bT (Un L (x0.8,Wj.mk 0 0 0 0 [] [],())) fun y=>some y else some true) fun y=>some y:=by kernel_rfl
def Vg (L:Nat)(x:Zl×Int×Wp×YJ×PUnit):Option Int:=fT [Le L,ZgY L,DF L,ZeW L,CQ L,Zfa L,EW L] L Zdo [.rnd [.slot 11 (.int .i64)]] (.one (.int .i64)) [.row 19,.int .i64,.row 16,.row 15] x
def ZeZ (L:Nat):Sum tT:=mU 66 [.row 19,.int .i64,.row 16,.row 15] (.one (.int .i64)) (Vg L)
theorem ZmP:SX ZeZ:=fun h=>sT h (Zb (EH h) (Zb (ZpG h) (Zb (Ze3 h) (Zb (ZmM h) (Zb (Ziz h) (Zb (ZmQ h) (Zb (Ze5 h) Zu))))))) rfl (by kernel_rfl) fun _=>rfl
def IY:Zl→Int→Wp→YJ→Nat→List Zw→(Int×PUnit→Option Int)→Int×PUnit→Option Int:=fun x0 x1 x2 x3 L y self acc=>bif decide (acc.1 < (↑y.length:Int)) then bT (ZT y acc.1) fun y_1=>bT (JH L (y_1,())) fun y_2=>bT (bif (y_2 == 0) == true then bT (ZT y acc.1) fun y=>bT (bT (ZaZ L (x0,x1,x2,y,())) fun y=>some y) fun y=>some !y else some false) fun y=>bif y then some 2 else bif y_2 != 0 then some y_2 else self (Go.IntKind.i64.wrap (acc.1 + 1),()) else bif x3.1 == 3 then bT (VZ L (x3.8,())) fun y=>some y else some 0
theorem Zmr (L:Nat)(x0:Zl)(x1:Int)(x2:Wp)(x3:YJ):Vg L (x0,x1,x2,x3,())=bT (IC L (x3.1,())) fun y=>bT (bif (!y) == false then bT (LG L (x3,())) fun y=>some !y else some true) fun y=>bif y then some 1 else bT (LD L (x0,x1,x2,x3,())) fun y=>bif y != 0 then some y else bT (LC L (x3,())) fun y=>Zx (IY x0 x1 x2 x3 L y) L (0,()):=by kernel_rfl
def YZ (L:Nat)(x:Zl×Int×Wp×PUnit):Option Int:=fT [ZeZ L,Vd L] L AP [.rnd [.slot 8 (.int .i64)]] (.one (.int .i64)) [.row 19,.int .i64,.row 16] x
def CP (L:Nat):Sum tT:=mU 43 [.row 19,.int .i64,.row 16] (.one (.int .i64)) (YZ L)
theorem Ziy:SX CP:=fun h=>sT h (Zb (ZmP h) (Zb (VV h) Zu)) rfl (by kernel_rfl) fun _=>rfl
def U5:Zl→Int→Wp→Nat→(Int×PUnit→Option Int)→Int×PUnit→Option Int:=fun x0 x1 x2 L self acc=>bif decide (acc.1 < (↑x2.4.length:Int)) then bT (ZT x2.4 acc.1) fun y=>bT (bT (Vg L (x0,x1,x2,y,())) fun y=>some y) fun y=>bif y != 0 then some y else self (Go.IntKind.i64.wrap (acc.1 + 1),()) else bT (ZT x2.4 (Go.IntKind.i64.wrap ((↑x2.4.length:Int) - 1))) fun y=>bif y.1 != 19 && y.1 != 4 then some 8 else some 0
theorem FK (L:Nat)(x0:Zl)(x1:Int)(x2:Wp):YZ L (x0,x1,x2,())=bif decide (x1 < 0) || decide (x1 ≥ (↑x0.2.length:Int)) then some 2 else bT (Qv L (x2.1,())) fun y=>bif y != 0 then some y else bif decide (x2.2 < 0) || decide (x2.2 > x2.3) || decide (x2.2 > 6) || decide (x2.3 > 16) then some 2 else bif (↑x2.4.length:Int) == 0 then some 7 else bif decide ((↑x2.4.length:Int) > 1000) then some 6 else Zx (U5 x0 x1 x2 L) L (0,()):=by kernel_rfl
def Tq (L:Nat)(x:Zl×PUnit):Option Int:=fT [] L Zgd [.rnd [.slot 2 (.int .i64),.slot 4 (.int .i64)],.rnd [.slot 2 (.int .i64),.slot 6 (.int .i64)]] (.one (.int .i64)) [.row 19] x
def ZgW (L:Nat):Sum tT:=mU 42 [.row 19] (.one (.int .i64)) (Tq L)
theorem ZpE:SX ZgW:=fun h=>sT h Zu rfl (by kernel_rfl) fun _=>rfl
def Ie:Zl→(Int×Int×PUnit→Option Int)→Int×Int×PUnit→ZiD→(Int×Int×PUnit→Option Int)→Int×Int×PUnit→Option Int:=fun x0 self acc y self_1 acc_1=>bif decide (acc_1.2.1 < acc.2.1) then bT (ZT x0.3 acc_1.2.1) fun y_1=>bT (bif (y_1.1 == y.1) == true then bT (ZT x0.3 acc_1.2.1) fun y_2=>some (y_2.2 == y.2) else some false) fun y=>bif y then some 4 else self_1 (acc_1.1,Go.IntKind.i64.wrap (acc_1.2.1 + 1),()) else self (acc_1.1,Go.IntKind.i64.wrap (acc.2.1 + 1),())
def Ig:Zl→Nat→(Int×Int×PUnit→Option Int)→Int×Int×PUnit→Option Int:=fun x0 L self acc=>bif decide (acc.2.1 < (↑x0.3.length:Int)) then bT (ZT x0.3 acc.2.1) fun y=>bif decide (y.1 < 0) || decide (y.1 ≥ (↑x0.2.length:Int)) || decide (y.2 < 0) || decide (y.2 ≥ (↑x0.2.length:Int)) || y.1 == y.2 || decide (y.3 < 1) || decide (y.3 > 1000000000) then some 2 else Zx (Ie x0 self acc y) L (acc.1,0,()) else some 0
theorem Zpt (L:Nat)(x0:Zl):Tq L (x0,())=bif decide ((↑x0.3.length:Int) > 32) then some 6 else Zx (Ig x0 L) L (0,0,()):=by kernel_rfl
def Tt (L:Nat)(x:ZQ×PUnit):Option Bool:=fT [] L Zge [.rnd [.slot 3 (.int .i64)]] (.one .bool) [.row 17] x
def ZgX (L:Nat):Sum tT:=mU 41 [.row 17] (.one .bool) (Tt L)
theorem ZpF:SX ZgX:=fun h=>sT h Zu rfl (by kernel_rfl) fun _=>rfl
def MJ:ZQ→(Int×PUnit→Option Bool)→Int×PUnit→Option Bool:=fun x0 self acc=>bif decide (acc.1 < (↑x0.2.length:Int)) then bT (ZT x0.Decl.11 acc.1) fun y=>bT (bif decide ((↑y.4.length:Int) > 0) == false then bT (ZT x0.2 acc.1) fun y_1=>some !y.1 == y_1.1 else some true) fun y_1=>bT (bif y_1 == false then bT (ZT x0.2 acc.1) fun y_2=>some ((↑y.2.length:Int) != y_2.2) else some true) fun y=>bif y then some false else self (Go.IntKind.i64.wrap (acc.1 + 1),()) else some true
theorem ZgA (L:Nat)(x0:ZQ):Tt L (x0,())=bif (↑x0.2.length:Int) != (↑x0.Decl.11.length:Int) then some false else Zx (MJ x0) L (0,()):=by kernel_rfl
def ZR (L:Nat)(x:Int×Int×Int×PUnit):Option Bool:=fT [] L Zbr [] (.one .bool) [.int .i64,.int .i64,.int .i64] x
def Xo (L:Nat):Sum tT:=mU 122 [.int .i64,.int .i64,.int .i64] (.one .bool) (ZR L)
theorem XZ:SX Xo:=fun h=>sT h Zu rfl (by kernel_rfl) fun _=>rfl
theorem Zkd (L:Nat)(x0:Int)(x1:Int)(x2:Int):ZR L (x0,x1,x2,())=some (decide (x0 ≥ x1) && decide (x0≤x2)):=by kernel_rfl
def ZaY (L:Nat)(x:Xj×(List UInt8)×PUnit):Option Int:=fT [] L Zga [.rnd [.slot 5 (.int .i64)]] (.one (.int .i64)) [.row 21,.str] x
def ZgT (L:Nat):Sum tT:=mU 121 [.row 21,.str] (.one (.int .i64)) (ZaY L)
theorem ZpB:SX ZgT:=fun h=>sT h Zu rfl (by kernel_rfl) fun _=>rfl
def L8 (L:Nat)(x:Xj×PUnit):Option Int:=fT [Xo L,ZgT L] L Zdf [.rnd [.slot 2 (.int .i64),.slot 3 (.int .i64)],.rnd [.slot 2 (.int .i64),.slot 5 (.int .i64)]] (.one (.int .i64)) [.row 21] x
def ZeT (L:Nat):Sum tT:=mU 65 [.row 21] (.one (.int .i64)) (L8 L)
theorem ZmI:SX ZeT:=fun h=>sT h (Zb (XZ h) (Zb (ZpB h) Zu)) rfl (by kernel_rfl) fun _=>rfl
def Zkl:Xj→(Int×Int×PUnit→Option Int)→Int×Int×PUnit→ZiH→(Int×Int×PUnit→Option Int)→Int×Int×PUnit→Option Int:=fun x0 self acc y self_1 acc_1=>bif decide (acc_1.2.1 < acc.2.1) then bT (ZT x0.4 acc_1.2.1) fun y_1=>bT (bif (y_1.1 == y.1) == true then bT (ZT x0.4 acc_1.2.1) fun y_2=>some (y_2.2 == y.2) else some false) fun y=>bif y then some 4 else self_1 (acc_1.1,Go.IntKind.i64.wrap (acc_1.2.1 + 1),()) else self (acc_1.1,Go.IntKind.i64.wrap (acc.2.1 + 1),())
def ZbE:Xj→Nat→(Int×Int×PUnit→Option Int)→Int×Int×PUnit→Option Int:=fun x0 L self acc=>bif decide (acc.2.1 < (↑x0.4.length:Int)) then bT (ZT x0.4 acc.2.1) fun y=>bT (ZaY L (x0,y.1,())) fun y_1=>bT (bif decide (y_1 < 0) == false then bT (ZaY L (x0,y.2,())) fun y=>some (decide (y < 0)) else some true) fun y_2=>bif y_2 then some 5 else bif y.1 == y.2 then some 1 else bT (ZR L (y.3,1,1000000000,())) fun y_3=>bif !y_3 then some 2 else Zx (Zkl x0 self acc y) L (acc.1,0,()) else some 0
theorem Zmj (L:Nat)(x0:Xj):L8 L (x0,())=bif decide ((↑x0.4.length:Int) > 32) then some 6 else Zx (ZbE x0 L) L (0,0,()):=by kernel_rfl
def ZG (L:Nat)(x:Int×Int×PUnit):Option Int:=fT [] L Zde [] (.one (.int .i64)) [.int .i64,.int .i64] x
def QQ (L:Nat):Sum tT:=mU 60 [.int .i64,.int .i64] (.one (.int .i64)) (ZG L)
theorem Xv:SX QQ:=fun h=>sT h Zu rfl (by kernel_rfl) fun _=>rfl
theorem Zmi (L:Nat)(x0:Int)(x1:Int):ZG L (x0,x1,())=bif x0 != 0 then some x0 else some x1:=by kernel_rfl
end Go.Proofs.YtgjcjbhhhlelnaaGreatDoor
end
noncomputable section
namespace Go.Proofs.YtgjcjbhhhlelnaaGreatDoor
open Go Go.Proofs.YtgjcjbhhhlelnaaGreatDoor.Abs Go.Proofs.YtgjcjbhhhlelnaaGreatDoor.Tl
set_option maxRecDepth 100000
set_option maxHeartbeats 0
def Uo (L:Nat)(x:Ze×PUnit):Option ((List (List (List UInt8)))):=fT [] L Zdc [.rnd [.slot 4 (.int .i64),.cell 1 0 (.own 1 .str),.cell 1 1 (.own 1 .str),.cell 1 2 (.own 1 .str),.cell 1 3 (.own 1 .str),.cell 1 4 (.lst 1 .str),.cell 1 5 (.lst 1 .str),.cell 1 6 (.lst 1 .str),.cell 1 7 (.lst 1 .str),.cell 1 8 (.lst 1 .str),.cell 1 9 (.own 1 .str)],.rnd [.slot 5 (.int .i64),.cell 1 0 (.own 1 .str),.cell 1 1 (.own 1 .str),.cell 1 2 (.own 1 .str),.cell 1 3 (.own 1 .str),.cell 1 4 (.lst 1 .str),.cell 1 5 (.lst 1 .str),.cell 1 6 (.lst 1 .str),.cell 1 7 (.lst 1 .str),.cell 1 8 (.lst 1 .str),.cell 1 9 (.own 1 .str)],.rnd [.slot 6 (.int .i64),.cell 1 0 (.own 1 .str),.cell 1 1 (.own 1 .str),.cell 1 2 (.own 1 .str),.cell 1 3 (.own 1 .str),.cell 1 4 (.lst 1 .str),.cell 1 5 (.lst 1 .str),.cell 1 6 (.lst 1 .str),.cell 1 7 (.lst 1 .str),.cell 1 8 (.lst 1 .str),.cell 1 9 (.own 1 .str)],.rnd [.slot 7 (.int .i64),.cell 1 0 (.own 1 .str),.cell 1 1 (.own 1 .str),.cell 1 2 (.own 1 .str),.cell 1 3 (.own 1 .str),.cell 1 4 (.lst 1 .str),.cell 1 5 (.lst 1 .str),.cell 1 6 (.lst 1 .str),.cell 1 7 (.lst 1 .str),.cell 1 8 (.lst 1 .str),.cell 1 9 (.own 1 .str)],.rnd [.slot 8 (.int .i64),.cell 1 0 (.own 1 .str),.cell 1 1 (.own 1 .str),.cell 1 2 (.own 1 .str),.cell 1 3 (.own 1 .str),.cell 1 4 (.lst 1 .str),.cell 1 5 (.lst 1 .str),.cell 1 6 (.lst 1 .str),.cell 1 7 (.lst 1 .str),.cell 1 8 (.lst 1 .str),.cell 1 9 (.own 1 .str)]] (.one (.lst 1 (.lst 1 .str))) [.row 14] x
def Lj (L:Nat):Sum tT:=mU 117 [.row 14] (.one (.lst 1 (.lst 1 .str))) (Uo L)
theorem EI:SX Lj:=fun h=>sT h Zu rfl (by kernel_rfl) fun _=>rfl
def BX:Ze→(Int×List (List UInt8)×List (List UInt8)×List (List UInt8)×List (List UInt8)×List (List UInt8)×List (List UInt8)×List (List UInt8)×List (List UInt8)×List (List UInt8)×List (List UInt8)×PUnit→Option (List (List (List UInt8))))→Int×List (List UInt8)×List (List UInt8)×List (List UInt8)×List (List UInt8)×List (List UInt8)×List (List UInt8)×List (List UInt8)×List (List UInt8)×List (List UInt8)×List (List UInt8)×PUnit→Option (List (List (List UInt8))):=fun (x0:Ze) (self:Int×List (List UInt8)×List (List UInt8)×List (List UInt8)×List (List UInt8)×List (List UInt8)×List (List UInt8)×List (List UInt8)×List (List UInt8)×List (List UInt8)×List (List UInt8)×PUnit→Option (List (List (List UInt8)))) (acc:Int×List (List UInt8)×List (List UInt8)×List (List UInt8)×List (List UInt8)×List (List UInt8)×List (List UInt8)×List (List UInt8)×List (List UInt8)×List (List UInt8)×List (List UInt8)×PUnit)=>bif decide (acc.1 < (↑x0.11.length:Int)) then bT (ZT x0.11 acc.1) fun y=>bT (apT 16 acc.2.2.2.2.2.2.2.2.2.2.1 [y.1]) fun y=>self (Go.IntKind.i64.wrap (acc.1 + 1),acc.2.1,acc.2.2.1,acc.2.2.2.1,acc.2.2.2.2.1,acc.2.2.2.2.2.1,acc.2.2.2.2.2.2.1,acc.2.2.2.2.2.2.2.1,acc.2.2.2.2.2.2.2.2.1,acc.2.2.2.2.2.2.2.2.2.1,y,()) else some [acc.2.1,acc.2.2.1,acc.2.2.2.1,acc.2.2.2.2.1,acc.2.2.2.2.2.1,acc.2.2.2.2.2.2.1,acc.2.2.2.2.2.2.2.1,acc.2.2.2.2.2.2.2.2.1,acc.2.2.2.2.2.2.2.2.2.1,acc.2.2.2.2.2.2.2.2.2.2.1]
def BZ:Ze→Nat→(Int×List (List UInt8)×List (List UInt8)×List (List UInt8)×List (List UInt8)×List (List UInt8)×List (List UInt8)×List (List UInt8)×List (List UInt8)×List (List UInt8)×List (List UInt8)×PUnit→Option (List (List (List UInt8))))→Int×List (List UInt8)×List (List UInt8)×List (List UInt8)×List (List UInt8)×List (List UInt8)×List (List UInt8)×List (List UInt8)×List (List UInt8)×List (List UInt8)×List (List UInt8)×PUnit→Option (List (List (List UInt8))):=fun (x0:Ze) (L:Nat) (self:Int×List (List UInt8)×List (List UInt8)×List (List UInt8)×List (List UInt8)×List (List UInt8)×List (List UInt8)×List (List UInt8)×List (List UInt8)×List (List UInt8)×List (List UInt8)×PUnit→Option (List (List (List UInt8)))) (acc:Int×List (List UInt8)×List (List UInt8)×List (List UInt8)×List (List UInt8)×List (List UInt8)×List (List UInt8)×List (List UInt8)×List (List UInt8)×List (List UInt8)×List (List UInt8)×PUnit)=>bif decide (acc.1 < (↑x0.5.length:Int)) then bT (ZT x0.5 acc.1) fun y=>bT (apT 16 acc.2.2.2.2.1 [y.1]) fun y=>self (Go.IntKind.i64.wrap (acc.1 + 1),acc.2.1,acc.2.2.1,acc.2.2.2.1,y,acc.2.2.2.2.2.1,acc.2.2.2.2.2.2.1,acc.2.2.2.2.2.2.2.1,acc.2.2.2.2.2.2.2.2.1,acc.2.2.2.2.2.2.2.2.2.1,acc.2.2.2.2.2.2.2.2.2.2.1,()) else Zx (BX x0) L (0,acc.2.1,acc.2.2.1,acc.2.2.2.1,acc.2.2.2.2.1,x0.6,x0.7,x0.8,x0.9,x0.10,acc.2.2.2.2.2.2.2.2.2.2.1,())
def Dc:Ze→Nat→(Int×List (List UInt8)×List (List UInt8)×List (List UInt8)×List (List UInt8)×List (List UInt8)×List (List UInt8)×List (List UInt8)×List (List UInt8)×List (List UInt8)×List (List UInt8)×PUnit→Option (List (List (List UInt8))))→Int×List (List UInt8)×List (List UInt8)×List (List UInt8)×List (List UInt8)×List (List UInt8)×List (List UInt8)×List (List UInt8)×List (List UInt8)×List (List UInt8)×List (List UInt8)×PUnit→Option (List (List (List UInt8))):=fun (x0:Ze) (L:Nat) (self:Int×List (List UInt8)×List (List UInt8)×List (List UInt8)×List (List UInt8)×List (List UInt8)×List (List UInt8)×List (List UInt8)×List (List UInt8)×List (List UInt8)×List (List UInt8)×PUnit→Option (List (List (List UInt8)))) (acc:Int×List (List UInt8)×List (List UInt8)×List (List UInt8)×List (List UInt8)×List (List UInt8)×List (List UInt8)×List (List UInt8)×List (List UInt8)×List (List UInt8)×List (List UInt8)×PUnit)=>bif decide (acc.1 < (↑x0.4.length:Int)) then bT (ZT x0.4 acc.1) fun y=>bT (apT 16 acc.2.2.2.1 [y.1]) fun y=>self (Go.IntKind.i64.wrap (acc.1 + 1),acc.2.1,acc.2.2.1,y,acc.2.2.2.2.1,acc.2.2.2.2.2.1,acc.2.2.2.2.2.2.1,acc.2.2.2.2.2.2.2.1,acc.2.2.2.2.2.2.2.2.1,acc.2.2.2.2.2.2.2.2.2.1,acc.2.2.2.2.2.2.2.2.2.2.1,()) else Zx (BZ x0 L) L (0,acc.2.1,acc.2.2.1,acc.2.2.2.1,acc.2.2.2.2.1,acc.2.2.2.2.2.1,acc.2.2.2.2.2.2.1,acc.2.2.2.2.2.2.2.1,acc.2.2.2.2.2.2.2.2.1,acc.2.2.2.2.2.2.2.2.2.1,acc.2.2.2.2.2.2.2.2.2.2.1,())
def Df:Ze→Nat→(Int×List (List UInt8)×List (List UInt8)×List (List UInt8)×List (List UInt8)×List (List UInt8)×List (List UInt8)×List (List UInt8)×List (List UInt8)×List (List UInt8)×List (List UInt8)×PUnit→Option (List (List (List UInt8))))→Int×List (List UInt8)×List (List UInt8)×List (List UInt8)×List (List UInt8)×List (List UInt8)×List (List UInt8)×List (List UInt8)×List (List UInt8)×List (List UInt8)×List (List UInt8)×PUnit→Option (List (List (List UInt8))):=fun (x0:Ze) (L:Nat) (self:Int×List (List UInt8)×List (List UInt8)×List (List UInt8)×List (List UInt8)×List (List UInt8)×List (List UInt8)×List (List UInt8)×List (List UInt8)×List (List UInt8)×List (List UInt8)×PUnit→Option (List (List (List UInt8)))) (acc:Int×List (List UInt8)×List (List UInt8)×List (List UInt8)×List (List UInt8)×List (List UInt8)×List (List UInt8)×List (List UInt8)×List (List UInt8)×List (List UInt8)×List (List UInt8)×PUnit)=>bif decide (acc.1 < (↑x0.3.length:Int)) then bT (ZT x0.3 acc.1) fun y=>bT (apT 16 acc.2.2.1 [y.1]) fun y=>self (Go.IntKind.i64.wrap (acc.1 + 1),acc.2.1,y,acc.2.2.2.1,acc.2.2.2.2.1,acc.2.2.2.2.2.1,acc.2.2.2.2.2.2.1,acc.2.2.2.2.2.2.2.1,acc.2.2.2.2.2.2.2.2.1,acc.2.2.2.2.2.2.2.2.2.1,acc.2.2.2.2.2.2.2.2.2.2.1,()) else Zx (Dc x0 L) L (0,acc.2.1,acc.2.2.1,acc.2.2.2.1,acc.2.2.2.2.1,acc.2.2.2.2.2.1,acc.2.2.2.2.2.2.1,acc.2.2.2.2.2.2.2.1,acc.2.2.2.2.2.2.2.2.1,acc.2.2.2.2.2.2.2.2.2.1,acc.2.2.2.2.2.2.2.2.2.2.1,())
def Dh:Ze→Nat→(Int×List (List UInt8)×List (List UInt8)×List (List UInt8)×List (List UInt8)×List (List UInt8)×List (List UInt8)×List (List UInt8)×List (List UInt8)×List (List UInt8)×List (List UInt8)×PUnit→Option (List (List (List UInt8))))→Int×List (List UInt8)×List (List UInt8)×List (List UInt8)×List (List UInt8)×List (List UInt8)×List (List UInt8)×List (List UInt8)×List (List UInt8)×List (List UInt8)×List (List UInt8)×PUnit→Option (List (List (List UInt8))):=fun (x0:Ze) (L:Nat) (self:Int×List (List UInt8)×List (List UInt8)×List (List UInt8)×List (List UInt8)×List (List UInt8)×List (List UInt8)×List (List UInt8)×List (List UInt8)×List (List UInt8)×List (List UInt8)×PUnit→Option (List (List (List UInt8)))) (acc:Int×List (List UInt8)×List (List UInt8)×List (List UInt8)×List (List UInt8)×List (List UInt8)×List (List UInt8)×List (List UInt8)×List (List UInt8)×List (List UInt8)×List (List UInt8)×PUnit)=>bif decide (acc.1 < (↑x0.2.length:Int)) then bT (ZT x0.2 acc.1) fun y=>bT (apT 16 acc.2.1 [y.1]) fun y=>self (Go.IntKind.i64.wrap (acc.1 + 1),y,acc.2.2.1,acc.2.2.2.1,acc.2.2.2.2.1,acc.2.2.2.2.2.1,acc.2.2.2.2.2.2.1,acc.2.2.2.2.2.2.2.1,acc.2.2.2.2.2.2.2.2.1,acc.2.2.2.2.2.2.2.2.2.1,acc.2.2.2.2.2.2.2.2.2.2.1,()) else Zx (Df x0 L) L (0,acc.2.1,acc.2.2.1,acc.2.2.2.1,acc.2.2.2.2.1,acc.2.2.2.2.2.1,acc.2.2.2.2.2.2.1,acc.2.2.2.2.2.2.2.1,acc.2.2.2.2.2.2.2.2.1,acc.2.2.2.2.2.2.2.2.2.1,acc.2.2.2.2.2.2.2.2.2.2.1,())
theorem Zmg (L:Nat)(x0:Ze):Uo L (x0,())=Zx (Dh x0 L) L (0,[],[],[],[],[],[],[],[],[],[],()):=by kernel_rfl
def Xh (L:Nat)(x:Ze×(List UInt8)×PUnit):Option (List UInt8):=fT [He L,Lj L] L ZfZ [.rnd [.slot 7 (.int .i64)]] (.one .str) [.row 14,.str] x
def ZgS (L:Nat):Sum tT:=mU 188 [.row 14,.str] (.one .str) (Xh L)
theorem ZpA:SX ZgS:=fun h=>sT h (Zb (Td h) (Zb (EI h) Zu)) rfl (by kernel_rfl) fun _=>rfl
def MI:List UInt8→Nat→List (List (List UInt8))→(Int×PUnit→Option (List UInt8))→Int×PUnit→Option (List UInt8):=fun x1 L y self acc=>bif decide (acc.1 < (↑y.length:Int)) then bT (ZT y acc.1) fun y=>bT (Jn L (y,x1,())) fun y=>bif decide (y ≥ 0) then bT (ZT [[118,97,114],[114,101,115,111,117,114,99,101],[115,116,111,114,101],[98,101,108,116],[113,117,101,117,101],[115,116,114,101,97,109],[116,97,108,108,121],[108,101,118,101,108],[99,111,117,110,116],[114,111,117,116,105,110,101]] acc.1) fun y=>some y else self (Go.IntKind.i64.wrap (acc.1 + 1),()) else some []
theorem Zpq (L:Nat)(x0:Ze)(x1:(List UInt8)):Xh L (x0,x1,())=bT (Uo L (x0,())) fun (y:List (List (List UInt8)))=>Zx (MI x1 L y) L (0,()):=by kernel_rfl
def Zt (L:Nat)(x:Bool×Int×PUnit):Option Int:=fT [] L Zbq [] (.one (.int .i64)) [.bool,.int .i64] x
def WG (L:Nat):Sum tT:=mU 61 [.bool,.int .i64] (.one (.int .i64)) (Zt L)
theorem Ql:SX WG:=fun h=>sT h Zu rfl (by kernel_rfl) fun _=>rfl
theorem Zkc (L:Nat)(x0:Bool)(x1:Int):Zt L (x0,x1,())=bif x0 then some 0 else some x1:=by kernel_rfl
def PG (L:Nat)(x:Ze×OB×PUnit):Option Int:=fT [Xo L,QQ L,ZgS L,WG L] L Zgc [] (.one (.int .i64)) [.row 14,.row 12] x
def ZgV (L:Nat):Sum tT:=mU 158 [.row 14,.row 12] (.one (.int .i64)) (PG L)
theorem ZpD:SX ZgV:=fun h=>sT h (Zb (XZ h) (Zb (Xv h) (Zb (ZpA h) (Zb (Ql h) Zu)))) rfl (by kernel_rfl) fun _=>rfl
theorem Zps (L:Nat)(x0:Ze)(x1:OB):PG L (x0,x1,())=bif x1.2 == [99,114,101,97,116,101,100] then bT (bT (Zt L (!([114,111,117,116,105,110,101]:List UInt8) == [],1,())) fun y=>some y) fun y=>bT (bT (Xh L (x0,x1.3,())) fun y=>some y) fun y_1=>bT (bT (Zt L (y_1 == [114,111,117,116,105,110,101],5,())) fun y=>some y) fun y_2=>bT (bT (ZG L (y,y_2,())) fun y=>some y) fun y=>bT (ZR L (x1.1,(-1000),1000,())) fun y_3=>bT (Zt L (y_3 && x1.1 != 0,2,())) fun y_4=>bT (ZG L (y,y_4,())) fun y=>some y else bif x1.2 == [101,110,100,101,100] then bT (bT (Zt L (!([114,111,117,116,105,110,101]:List UInt8) == [],1,())) fun y=>some y) fun y=>bT (bT (Xh L (x0,x1.3,())) fun y=>some y) fun y_1=>bT (bT (Zt L (y_1 == [114,111,117,116,105,110,101],5,())) fun y=>some y) fun y_2=>bT (bT (ZG L (y,y_2,())) fun y=>some y) fun y=>bT (ZR L (x1.1,(-1000),1000,())) fun y_3=>bT (Zt L (y_3 && x1.1 != 0,2,())) fun y_4=>bT (ZG L (y,y_4,())) fun y=>some y else bif x1.2 == [105,110,115,105,100,101] then bT (bT (Zt L (!([114,111,117,116,105,110,101]:List UInt8) == [],1,())) fun y=>some y) fun y=>bT (bT (Xh L (x0,x1.3,())) fun y=>some y) fun y_1=>bT (bT (Zt L (y_1 == [114,111,117,116,105,110,101],5,())) fun y=>some y) fun y_2=>bT (bT (ZG L (y,y_2,())) fun y=>some y) fun y=>bT (ZR L (x1.1,(-1000),1000,())) fun y_3=>bT (Zt L (y_3 && x1.1 != 0,2,())) fun y_4=>bT (ZG L (y,y_4,())) fun y=>some y else bif x1.2 == [115,116,111,114,101,100] then bT (bT (Zt L (!([115,116,111,114,101]:List UInt8) == [],1,())) fun y=>some y) fun y=>bT (bT (Xh L (x0,x1.3,())) fun y=>some y) fun y_1=>bT (bT (Zt L (y_1 == [115,116,111,114,101],5,())) fun y=>some y) fun y_2=>bT (bT (ZG L (y,y_2,())) fun y=>some y) fun y=>bT (ZR L (x1.1,(-1000),1000,())) fun y_3=>bT (Zt L (y_3 && x1.1 != 0,2,())) fun y_4=>bT (ZG L (y,y_4,())) fun y=>some y else bif x1.2 == [101,110,116,101,114,101,100] then bT (bT (Zt L (!([115,116,111,114,101]:List UInt8) == [],1,())) fun y=>some y) fun y=>bT (bT (Xh L (x0,x1.3,())) fun y=>some y) fun y_1=>bT (bT (Zt L (y_1 == [115,116,111,114,101],5,())) fun y=>some y) fun y_2=>bT (bT (ZG L (y,y_2,())) fun y=>some y) fun y=>bT (ZR L (x1.1,(-1000),1000,())) fun y_3=>bT (Zt L (y_3 && x1.1 != 0,2,())) fun y_4=>bT (ZG L (y,y_4,())) fun y=>some y else bif x1.2 == [108,101,102,116] then bT (bT (Zt L (!([115,116,111,114,101]:List UInt8) == [],1,())) fun y=>some y) fun y=>bT (bT (Xh L (x0,x1.3,())) fun y=>some y) fun y_1=>bT (bT (Zt L (y_1 == [115,116,111,114,101],5,())) fun y=>some y) fun y_2=>bT (bT (ZG L (y,y_2,())) fun y=>some y) fun y=>bT (ZR L (x1.1,(-1000),1000,())) fun y_3=>bT (Zt L (y_3 && x1.1 != 0,2,())) fun y_4=>bT (ZG L (y,y_4,())) fun y=>some y else bif x1.2 == [99,111,117,110,116,101,100] then bT (bT (Zt L (!([99,111,117,110,116]:List UInt8) == [],1,())) fun y=>some y) fun y=>bT (bT (Xh L (x0,x1.3,())) fun y=>some y) fun y_1=>bT (bT (Zt L (y_1 == [99,111,117,110,116],5,())) fun y=>some y) fun y_2=>bT (bT (ZG L (y,y_2,())) fun y=>some y) fun y=>bT (ZR L (x1.1,(-1000),1000,())) fun y_3=>bT (Zt L (y_3 && x1.1 != 0,2,())) fun y_4=>bT (ZG L (y,y_4,())) fun y=>some y else bT (bT (Zt L (!([]:List UInt8) == [],1,())) fun y=>some y) fun y=>bT (bT (Xh L (x0,x1.3,())) fun y=>some y) fun y_1=>bT (bT (Zt L (y_1 == [],5,())) fun y=>some y) fun y_2=>bT (bT (ZG L (y,y_2,())) fun y=>some y) fun y=>bT (ZR L (x1.1,(-1000),1000,())) fun y_3=>bT (Zt L (y_3 && x1.1 != 0,2,())) fun y_4=>bT (ZG L (y,y_4,())) fun y=>some y:=by kernel_rfl
def Ja (L:Nat)(x:(List UInt8)×(List (List UInt8))×PUnit):Option Int:=fT [QQ L,WG L,He L,Vd L] L Zdg [] (.one (.int .i64)) [.str,.lst 1 .str] x
def Ul (L:Nat):Sum tT:=mU 63 [.str,.lst 1 .str] (.one (.int .i64)) (Ja L)
theorem Ik:SX Ul:=fun h=>sT h (Zb (Xv h) (Zb (Ql h) (Zb (Td h) (Zb (VV h) Zu)))) rfl (by kernel_rfl) fun _=>rfl
theorem Zmk (L:Nat)(x0:(List UInt8))(x1:(List (List UInt8))):Ja L (x0,x1,())=bT (Qv L (x0,())) fun y=>bT (Jn L (x1,x0,())) fun y_1=>bT (Zt L (decide (y_1 < 0),4,())) fun y_2=>bT (ZG L (y,y_2,())) fun y=>some y:=by kernel_rfl
def CZ (L:Nat)(x:Ze×Zfn×(List (List UInt8))×PUnit):Option Int:=fT [CB L,ZgV L,QQ L,WG L,Ul L] L ZiN [.rnd [.slot 7 (.int .i64),.slot 8 (.int .i64)]] (.one (.int .i64)) [.row 14,.row 13,.lst 1 .str] x
def ZkJ (L:Nat):Sum tT:=mU 120 [.row 14,.row 13,.lst 1 .str] (.one (.int .i64)) (CZ L)
theorem Zsx:SX ZkJ:=fun h=>sT h (Zb (ZcE h) (Zb (ZpD h) (Zb (Xv h) (Zb (Ql h) (Zb (Ik h) Zu))))) rfl (by kernel_rfl) fun _=>rfl
def Po:Ze→Zfn→Nat→(Int×Int×PUnit→Option Int)→Int×Int×PUnit→Option Int:=fun x0 x1 L self acc=>bif decide (acc.2.1 < (↑x1.2.length:Int)) then bT (ZT x1.2 acc.2.1) fun y=>bT (bT (PG L (x0,y,())) fun y=>some y) fun y=>bT (bT (ZG L (acc.1,y,())) fun y=>some y) fun y=>self (y,Go.IntKind.i64.wrap (acc.2.1 + 1),()) else bT (P9 L (x1.3,())) fun y=>bT (Zt L (y,2,())) fun y=>bT (ZG L (acc.1,y,())) fun y=>some y
theorem Zsh (L:Nat)(x0:Ze)(x1:Zfn)(x2:(List (List UInt8))):CZ L (x0,x1,x2,())=bT (Ja L (x1.1,x2,())) fun y=>bT (Zt L (decide ((↑x1.2.length:Int) > 0),7,())) fun y_1=>bT (ZG L (y,y_1,())) fun y=>bT (Zt L (decide ((↑x1.2.length:Int)≤8),6,())) fun y_2=>bT (ZG L (y,y_2,())) fun y=>Zx (Po x0 x1 L) L (y,0,()):=by kernel_rfl
def Tn (L:Nat)(x:Int×Int×PUnit):Option Bool:=fT [Xo L,CB L] L ZfY [] (.one .bool) [.int .i64,.int .i64] x
def P6 (L:Nat):Sum tT:=mU 116 [.int .i64,.int .i64] (.one .bool) (Tn L)
theorem ZaO:SX P6:=fun h=>sT h (Zb (XZ h) (Zb (ZcE h) Zu)) rfl (by kernel_rfl) fun _=>rfl
theorem Zpp (L:Nat)(x0:Int)(x1:Int):Tn L (x0,x1,())=bif x0 == 1 then bT (P9 L (x1,())) fun y=>some y else bif x0 == 2 then some (x1 == 0 || x1 == 1) else bif x0 == 3 then bT (ZR L (x1,0,1000000000,())) fun y=>some y else some false:=by kernel_rfl
def GK (L:Nat)(x:Ze×(List UInt8)×PUnit):Option Int:=fT [He L,Lj L] L AL [] (.one (.int .i64)) [.row 14,.str] x
def CG (L:Nat):Sum tT:=mU 157 [.row 14,.str] (.one (.int .i64)) (GK L)
theorem Ziw:SX CG:=fun h=>sT h (Zb (Td h) (Zb (EI h) Zu)) rfl (by kernel_rfl) fun _=>rfl
theorem Zih (L:Nat)(x0:Ze)(x1:(List UInt8)):GK L (x0,x1,())=bT (Uo L (x0,())) fun (y:List (List (List UInt8)))=>bT (ZT y 9) fun y=>bT (Jn L (y,x1,())) fun y=>some y:=by kernel_rfl
def L9 (L:Nat)(x:Ze×XB×PUnit):Option Int:=fT [WG L,Xo L,P6 L,CG L] L Zdh [.rnd [.slot 7 (.int .i64)]] (.one (.int .i64)) [.row 14,.row 11] x
def ZeU (L:Nat):Sum tT:=mU 119 [.row 14,.row 11] (.one (.int .i64)) (L9 L)
theorem ZmJ:SX ZeU:=fun h=>sT h (Zb (Ql h) (Zb (XZ h) (Zb (ZaO h) (Zb (Ziw h) Zu)))) rfl (by kernel_rfl) fun _=>rfl
def IX:XB→Nat→ZX→(Int×PUnit→Option Int)→Int×PUnit→Option Int:=fun x1 L y self acc=>bif decide (acc.1 < (↑y.2.length:Int)) then bT (ZT y.2 acc.1) fun y=>bT (ZT x1.2 acc.1) fun y_1=>bT (bT (Tn L (y.2,y_1,())) fun y=>some y) fun y=>bif !y then some 2 else self (Go.IntKind.i64.wrap (acc.1 + 1),()) else bT (ZR L (x1.3,0,1000000000,())) fun y=>bT (bif y == true then bT (ZR L (x1.4,0,1000000000,())) fun y=>some y else some false) fun y=>bT (bif y == true then bT (ZR L (x1.5,0,1000000000,())) fun y=>some y else some false) fun y=>bT (Zt L (y && (x1.4 != 0 || x1.5 == 0),2,())) fun y=>some y
theorem Zml (L:Nat)(x0:Ze)(x1:XB):L9 L (x0,x1,())=bT (GK L (x0,x1.1,())) fun y=>bif decide (y < 0) then some 5 else bT (ZT x0.11 y) fun y=>bif (↑x1.2.length:Int) != (↑y.2.length:Int) then some 8 else Zx (IX x1 L y) L (0,()):=by kernel_rfl
def YY (L:Nat)(x:Zw×PUnit):Option Int:=fT [EU L] L ZcX [] (.one (.int .i64)) [.row 8] x
def ZeK (L:Nat):Sum tT:=mU 219 [.row 8] (.one (.int .i64)) (YY L)
theorem ZmA:SX ZeK:=fun h=>sT h (Zb (Ze4 h) Zu) rfl (by kernel_rfl) fun _=>rfl
theorem ZlX (L:Nat)(x0:Zw):YY L (x0,())=bT (IA L (x0,false,())) fun y=>some y:=by kernel_rfl
end Go.Proofs.YtgjcjbhhhlelnaaGreatDoor
end
noncomputable section
namespace Go.Proofs.YtgjcjbhhhlelnaaGreatDoor
open Go Go.Proofs.YtgjcjbhhhlelnaaGreatDoor.Abs Go.Proofs.YtgjcjbhhhlelnaaGreatDoor.Tl
set_option maxRecDepth 100000
set_option maxHeartbeats 0
def Lu (L:Nat)(x:ZF×YT×PUnit):Option Int:=fT [ZeK L] L Zda [.rnd [.slot 5 (.int .i64),.slot 6 (.int .i64)]] (.one (.int .i64)) [.row 9,.row 27] x
def ZeQ (L:Nat):Sum tT:=mU 217 [.row 9,.row 27] (.one (.int .i64)) (Lu L)
theorem ZmG:SX ZeQ:=fun h=>sT h (Zb (ZmA h) Zu) rfl (by kernel_rfl) fun _=>rfl
def WE:ZF→Nat→(Int×Int×PUnit→Option Int)→Int×Int×PUnit→Option Int:=fun x0 L self acc=>bif acc.1 == 0 && decide (acc.2.1 < (↑x0.6.length:Int)) then bT (ZT x0.6 acc.2.1) fun y=>bT (YY L (y,())) fun y=>self (y,Go.IntKind.i64.wrap (acc.2.1 + 1),()) else some acc.1
def Zb7:ZF→Nat→(Int×Int×PUnit→Option Int)→Int×Int×PUnit→Option Int:=fun x0 L self acc=>bif acc.1 == 0 && decide (acc.2.1 < (↑x0.6.length:Int)) then bT (ZT x0.6 acc.2.1) fun y=>bT (YY L (y,())) fun y=>self (y,Go.IntKind.i64.wrap (acc.2.1 + 1),()) else some acc.1
def Zb8:ZF→Nat→(Int×Int×PUnit→Option Int)→Int×Int×PUnit→Option Int:=fun x0 L self acc=>bif acc.1 == 0 && decide (acc.2.1 < (↑x0.6.length:Int)) then bT (ZT x0.6 acc.2.1) fun y=>bT (YY L (y,())) fun y=>self (y,Go.IntKind.i64.wrap (acc.2.1 + 1),()) else some acc.1
def Zb9:ZF→Nat→(Int×Int×PUnit→Option Int)→Int×Int×PUnit→Option Int:=fun x0 L self acc=>bif acc.1 == 0 && decide (acc.2.1 < (↑x0.6.length:Int)) then bT (ZT x0.6 acc.2.1) fun y=>bT (YY L (y,())) fun y=>self (y,Go.IntKind.i64.wrap (acc.2.1 + 1),()) else some acc.1
def ZbA:ZF→Nat→(Int×Int×PUnit→Option Int)→Int×Int×PUnit→Option Int:=fun x0 L self acc=>bif acc.1 == 0 && decide (acc.2.1 < (↑x0.6.length:Int)) then bT (ZT x0.6 acc.2.1) fun y=>bT (YY L (y,())) fun y=>self (y,Go.IntKind.i64.wrap (acc.2.1 + 1),()) else some acc.1
def ZbB:ZF→Nat→(Int×Int×PUnit→Option Int)→Int×Int×PUnit→Option Int:=fun x0 L self acc=>bif acc.1 == 0 && decide (acc.2.1 < (↑x0.6.length:Int)) then bT (ZT x0.6 acc.2.1) fun y=>bT (YY L (y,())) fun y=>self (y,Go.IntKind.i64.wrap (acc.2.1 + 1),()) else some acc.1
def ZbC:ZF→Nat→(Int×Int×PUnit→Option Int)→Int×Int×PUnit→Option Int:=fun x0 L self acc=>bif acc.1 == 0 && decide (acc.2.1 < (↑x0.6.length:Int)) then bT (ZT x0.6 acc.2.1) fun y=>bT (YY L (y,())) fun y=>self (y,Go.IntKind.i64.wrap (acc.2.1 + 1),()) else some acc.1
def ZbD:ZF→Nat→(Int×Int×PUnit→Option Int)→Int×Int×PUnit→Option Int:=fun x0 L self acc=>bif acc.1 == 0 && decide (acc.2.1 < (↑x0.6.length:Int)) then bT (ZT x0.6 acc.2.1) fun y=>bT (YY L (y,())) fun y=>self (y,Go.IntKind.i64.wrap (acc.2.1 + 1),()) else some acc.1
theorem Zme (L:Nat)(x0:ZF)(x1:YT):Lu L (x0,x1,())=bif x1.3 then bT (YY L (x0.4,())) fun y=>bif y == 0 && x1.4 then bT (YY L (x0.5,())) fun y=>bif y == 0 && decide ((↑x0.6.length:Int) > 6) then Zx (WE x0 L) L (6,0,()) else Zx (Zb7 x0 L) L (y,0,()) else bif y == 0 && decide ((↑x0.6.length:Int) > 6) then Zx (Zb8 x0 L) L (6,0,()) else Zx (Zb9 x0 L) L (y,0,()) else bif 0 == 0 && x1.4 then bT (YY L (x0.5,())) fun y=>bif y == 0 && decide ((↑x0.6.length:Int) > 6) then Zx (ZbA x0 L) L (6,0,()) else Zx (ZbB x0 L) L (y,0,()) else bif 0 == 0 && decide ((↑x0.6.length:Int) > 6) then Zx (ZbC x0 L) L (6,0,()) else Zx (ZbD x0 L) L (0,0,()):=by kernel_rfl
def Tm (L:Nat)(x:Zw×PUnit):Option Bool:=fT [] L ZfX [] (.one .bool) [.row 8] x
def ZgR (L:Nat):Sum tT:=mU 218 [.row 8] (.one .bool) (Tm L)
theorem Zp9:SX ZgR:=fun h=>sT h Zu rfl (by kernel_rfl) fun _=>rfl
theorem Zpo (L:Nat)(x0:Zw):Tm L (x0,())=some (x0.1 == 0 && x0.2 == [] && x0.3 == 0 && (↑x0.4.length:Int) == 0):=by kernel_rfl
def CX (L:Nat)(x:Int×PUnit):Option (YT×Bool×PUnit):=fT [] L Znf [] (.tup [.row 27,.bool]) [.int .i64] x
def Zi7 (L:Nat):Sum tT:=mU 215 [.int .i64] (.tup [.row 27,.bool]) (CX L)
theorem Zol:SX Zi7:=fun h=>sT h Zu rfl (by kernel_rfl) fun _=>rfl
theorem Zu0 (L:Nat)(x0:Int):CX L (x0,())=bif x0 == 1 then some (YT.mk true false true false false false false false false,true,()) else bif x0 == 7 then some (YT.mk true false true false false false false false false,true,()) else bif x0 == 8 then some (YT.mk true false true false false false false false false,true,()) else bif x0 == 12 then some (YT.mk true false true false false false false false false,true,()) else bif x0 == 15 then some (YT.mk true false true false false false false false false,true,()) else bif x0 == 16 then some (YT.mk true false true false false false false false false,true,()) else bif x0 == 17 then some (YT.mk true false true false false false false false false,true,()) else bif x0 == 2 then some (YT.mk true true false false false true false false false,true,()) else bif x0 == 3 then some (YT.mk false false true false false false false true true,true,()) else bif x0 == 4 then some (YT.mk false false true false false false false true false,true,()) else bif x0 == 5 then some (YT.mk false false true false false false false false false,true,()) else bif x0 == 6 then some (YT.mk true false true true false false true false false,true,()) else bif x0 == 9 then some (YT.mk true true false false false false false false false,true,()) else bif x0 == 10 then some (YT.mk true false false false false false false false false,true,()) else bif x0 == 11 then some (YT.mk true false false false false false false false false,true,()) else bif x0 == 13 then some (YT.mk true true true false true false false false false,true,()) else bif x0 == 14 then some (YT.mk true false true false true false false false false,true,()) else bif x0 == 18 then some (YT.mk false false false false false false false false false,true,()) else some (YT.mk false false false false false false false false false,false,()):=by kernel_rfl
def Ol (L:Nat)(x:ZF×PUnit):Option Bool:=fT [P5 L,ZgR L,Zi7 L] L Zbp [] (.one .bool) [.row 9] x
def ZbW (L:Nat):Sum tT:=mU 216 [.row 9] (.one .bool) (Ol L)
theorem Zk2:SX ZbW:=fun h=>sT h (Zb (ZaN h) (Zb (Zp9 h) (Zb (Zol h) Zu))) rfl (by kernel_rfl) fun _=>rfl
theorem Zkb (L:Nat)(x0:ZF):Ol L (x0,())=bT (CX L (x0.1,())) fun y=>bT (bif y.1.3 == false then bT (Tm L (x0.4,())) fun y=>some y else some true) fun y_1=>bT (bif y_1 == true then bif y.1.4 == false then bT (Tm L (x0.5,())) fun y=>some y else some true else some false) fun y_2=>bT (bif (y.2.1 && ((y.1.1 || x0.2 == []) && (y.1.2 || x0.3 == [])) && (y_2 && (y.1.5 || (↑x0.6.length:Int) == 0)) && ((y.1.8 || (↑x0.9.length:Int) == 0) && (y.1.9 || (↑x0.10.length:Int) == 0))) == true then bif y.1.6 == false then bT (Un L (x0.7,Wj.mk 0 0 0 0 [] [],())) fun y=>some y else some true else some false) fun y_3=>some (y_3 && (y.1.7 || !x0.8)):=by kernel_rfl
def CY (L:Nat)(x:ZF×PUnit):Option Int:=fT [Le L,ZeQ L,Vd L,ZbW L,Zi7 L] L ZiM [] (.one (.int .i64)) [.row 9] x
def ZeR (L:Nat):Sum tT:=mU 213 [.row 9] (.one (.int .i64)) (CY L)
theorem Zk3:SX ZeR:=fun h=>sT h (Zb (EH h) (Zb (ZmG h) (Zb (VV h) (Zb (Zk2 h) (Zb (Zol h) Zu))))) rfl (by kernel_rfl) fun _=>rfl
theorem Zsg (L:Nat)(x0:ZF):CY L (x0,())=bT (CX L (x0.1,())) fun y=>bT (Ol L (x0,())) fun y_1=>bif !y_1 then some 1 else bT (bif y.1.1 == true then bT (Qv L (x0.2,())) fun y=>some (y != 0) else some false) fun y_2=>bT (bif y_2 == false then bif y.1.2 == true then bT (Qv L (x0.3,())) fun y=>some (y != 0) else some false else some true) fun y_3=>bif y_3 then some 3 else bT (Lu L (x0,y.1,())) fun y_4=>bif y_4 == 0 && y.1.6 then bT (VZ L (x0.7,())) fun y=>some y else some y_4:=by kernel_rfl
def EN (L:Nat):Nat→List (Sum tT)
 | 0=>[⟨203,[.lst 21 (.row 9)],fun _=>.par _ none ((.one (.int .i64):RD).tv tT)⟩]
 | m + 1=>[⟨203,[.lst 21 (.row 9)],fun x=>.par _ (fnT tF tG (qOf tF (EN L m ++ [ZeR L])) 0 L Zaj [.rnd [.slot 3 (.int .i64)]] (.one (.int .i64)) (tvL tT [.lst 21 (.row 9)] x) []) ((.one (.int .i64):RD).tv tT)⟩]
theorem NL {C:Cfg}{L:Nat}(h:St C L):∀ m,∀ s ∈ EN L m,Q3 C s
 | 0=>(Zb (QH _ _ _) Zu)
 | m + 1=>have ih:=NL h m
  (Zb (Y4 Yu h.L h.G (Wx Yu (V3 ih (Zb (Zk3 h) Zu))) [.rnd [.slot 3 (.int .i64)]] (h.T _ _ rfl) (by kernel_rfl) fun _=>rfl) Zu)
def Us (L m:Nat)(x:(List ZF)×PUnit):Option (Int):=fnT tF tG (qOf tF (EN L m ++ [ZeR L])) 0 L Zaj [.rnd [.slot 3 (.int .i64)]] (.one (.int .i64)) (tvL tT [.lst 21 (.row 9)] x) []
def ZaX (L:Nat)(x:(List ZF)×PUnit):Option (Int):=Us L L x
def ZgQ (L:Nat):Sum tT:=⟨203,[.lst 21 (.row 9)],fun x=>.par ((.one (.int .i64):RD).Ty tT) (ZaX L x) ((.one (.int .i64):RD).tv tT)⟩
theorem Zp8 {C:Cfg}{L:Nat}(h:St C L):Q3 C (ZgQ L):=have ih:=NL h L
 Y4 Yu h.L h.G (Wx Yu (V3 ih (Zb (Zk3 h) Zu))) [.rnd [.slot 3 (.int .i64)]] (h.T _ _ rfl) (by kernel_rfl) fun _=>rfl
def E8:Nat→List ZF→Nat→(Int×PUnit→Option Int)→Int×PUnit→Option Int:=fun (m:Nat)=>fun x0 L self acc=>bif decide (acc.1 < (↑x0.length:Int)) then bT (ZT x0 acc.1) fun y=>bT (CY L (y,())) fun y=>bif y == 0 then bT (ZT x0 acc.1) fun y=>bT (Us L m (y.9,())) fun y=>bif y == 0 then bT (ZT x0 acc.1) fun y=>bT (Us L m (y.10,())) fun y=>bif y != 0 then some y else self (Go.IntKind.i64.wrap (acc.1 + 1),()) else bif y != 0 then some y else self (Go.IntKind.i64.wrap (acc.1 + 1),()) else bif y == 0 then bT (ZT x0 acc.1) fun y=>bT (Us L m (y.10,())) fun y=>bif y != 0 then some y else self (Go.IntKind.i64.wrap (acc.1 + 1),()) else bif y != 0 then some y else self (Go.IntKind.i64.wrap (acc.1 + 1),()) else some 0
theorem Zpn (L m:Nat)(x0:(List ZF)):Us L (m + 1) (x0,())=Zx (E8 m x0 L) L (0,()):=by kernel_rfl
def D6 (L:Nat):Nat→List (Sum tT)
 | 0=>[⟨202,[.lst 21 (.row 9)],fun _=>.par _ none ((.one (.int .i64):RD).tv tT)⟩]
 | m + 1=>[⟨202,[.lst 21 (.row 9)],fun x=>.par _ (fnT tF tG (qOf tF (D6 L m ++ [])) 0 L Sz [.rnd [.slot 3 (.int .i64),.slot 4 (.int .i64)]] (.one (.int .i64)) (tvL tT [.lst 21 (.row 9)] x) []) ((.one (.int .i64):RD).tv tT)⟩]
theorem D7 {C:Cfg}{L:Nat}(h:St C L):∀ m,∀ s ∈ D6 L m,Q3 C s
 | 0=>(Zb (QH _ _ _) Zu)
 | m + 1=>have ih:=D7 h m
  (Zb (Y4 Yu h.L h.G (Wx Yu (V3 ih Zu)) [.rnd [.slot 3 (.int .i64),.slot 4 (.int .i64)]] (h.T _ _ rfl) (by kernel_rfl) fun _=>rfl) Zu)
def Kt (L m:Nat)(x:(List ZF)×PUnit):Option (Int):=fnT tF tG (qOf tF (D6 L m ++ [])) 0 L Sz [.rnd [.slot 3 (.int .i64),.slot 4 (.int .i64)]] (.one (.int .i64)) (tvL tT [.lst 21 (.row 9)] x) []
def Ag (L:Nat)(x:(List ZF)×PUnit):Option (Int):=Kt L L x
def ZeP (L:Nat):Sum tT:=⟨202,[.lst 21 (.row 9)],fun x=>.par ((.one (.int .i64):RD).Ty tT) (Ag L x) ((.one (.int .i64):RD).tv tT)⟩
theorem ZmF {C:Cfg}{L:Nat}(h:St C L):Q3 C (ZeP L):=have ih:=D7 h L
 Y4 Yu h.L h.G (Wx Yu (V3 ih Zu)) [.rnd [.slot 3 (.int .i64),.slot 4 (.int .i64)]] (h.T _ _ rfl) (by kernel_rfl) fun _=>rfl
def BR:Nat→List ZF→Nat→(Int×Int×PUnit→Option Int)→Int×Int×PUnit→Option Int:=fun (m:Nat)=>fun x0 L self acc=>bif decide (acc.2.1 < (↑x0.length:Int)) then bT (ZT x0 acc.2.1) fun y=>bT (bT (Kt L m (y.9,())) fun y=>some y) fun y=>bT (ZT x0 acc.2.1) fun y_1=>bT (bT (Kt L m (y_1.10,())) fun y=>some y) fun y_2=>self (if Go.IntKind.i64.wrap (1 + y_2) > if Go.IntKind.i64.wrap (1 + y) > acc.1 then Go.IntKind.i64.wrap (1 + y) else acc.1 then Go.IntKind.i64.wrap (1 + y_2) else if Go.IntKind.i64.wrap (1 + y) > acc.1 then Go.IntKind.i64.wrap (1 + y) else acc.1,Go.IntKind.i64.wrap (acc.2.1 + 1),()) else some acc.1
theorem Zmd (L m:Nat)(x0:(List ZF)):Kt L (m + 1) (x0,())=Zx (BR m x0 L) L (0,0,()):=by kernel_rfl
def Dz (L:Nat):Nat→List (Sum tT)
 | 0=>[⟨201,[.lst 21 (.row 9)],fun _=>.par _ none ((.one (.int .i64):RD).tv tT)⟩]
 | m + 1=>[⟨201,[.lst 21 (.row 9)],fun x=>.par _ (fnT tF tG (qOf tF (Dz L m ++ [])) 0 L Sv [.rnd [.slot 3 (.int .i64),.slot 4 (.int .i64)]] (.one (.int .i64)) (tvL tT [.lst 21 (.row 9)] x) []) ((.one (.int .i64):RD).tv tT)⟩]
theorem D5 {C:Cfg}{L:Nat}(h:St C L):∀ m,∀ s ∈ Dz L m,Q3 C s
 | 0=>(Zb (QH _ _ _) Zu)
 | m + 1=>have ih:=D5 h m
  (Zb (Y4 Yu h.L h.G (Wx Yu (V3 ih Zu)) [.rnd [.slot 3 (.int .i64),.slot 4 (.int .i64)]] (h.T _ _ rfl) (by kernel_rfl) fun _=>rfl) Zu)
def Kr (L m:Nat)(x:(List ZF)×PUnit):Option (Int):=fnT tF tG (qOf tF (Dz L m ++ [])) 0 L Sv [.rnd [.slot 3 (.int .i64),.slot 4 (.int .i64)]] (.one (.int .i64)) (tvL tT [.lst 21 (.row 9)] x) []
def Af (L:Nat)(x:(List ZF)×PUnit):Option (Int):=Kr L L x
def ZeO (L:Nat):Sum tT:=⟨201,[.lst 21 (.row 9)],fun x=>.par ((.one (.int .i64):RD).Ty tT) (Af L x) ((.one (.int .i64):RD).tv tT)⟩
theorem ZmE {C:Cfg}{L:Nat}(h:St C L):Q3 C (ZeO L):=have ih:=D5 h L
 Y4 Yu h.L h.G (Wx Yu (V3 ih Zu)) [.rnd [.slot 3 (.int .i64),.slot 4 (.int .i64)]] (h.T _ _ rfl) (by kernel_rfl) fun _=>rfl
def BQ:Nat→List ZF→Nat→(Int×Int×PUnit→Option Int)→Int×Int×PUnit→Option Int:=fun (m:Nat)=>fun x0 L self acc=>bif decide (acc.2.1 < (↑x0.length:Int)) then bT (ZT x0 acc.2.1) fun y=>bT (bT (Kr L m (y.9,())) fun y=>some y) fun y=>bT (ZT x0 acc.2.1) fun y_1=>bT (bT (Kr L m (y_1.10,())) fun y=>some y) fun y_2=>self (Go.IntKind.i64.wrap (Go.IntKind.i64.wrap (Go.IntKind.i64.wrap (acc.1 + 1) + y) + y_2),Go.IntKind.i64.wrap (acc.2.1 + 1),()) else some acc.1
theorem Zmc (L m:Nat)(x0:(List ZF)):Kr L (m + 1) (x0,())=Zx (BQ m x0 L) L (0,0,()):=by kernel_rfl
def Lt (L:Nat)(x:(List ZF)×PUnit):Option Int:=fT [ZgQ L,ZeP L,ZeO L] L ZcZ [] (.one (.int .i64)) [.lst 21 (.row 9)] x
def ZeN (L:Nat):Sum tT:=mU 187 [.lst 21 (.row 9)] (.one (.int .i64)) (Lt L)
theorem ZmD:SX ZeN:=fun h=>sT h (Zb (Zp8 h) (Zb (ZmF h) (Zb (ZmE h) Zu))) rfl (by kernel_rfl) fun _=>rfl
theorem Zmb (L:Nat)(x0:(List ZF)):Lt L (x0,())=bT (Af L (x0,())) fun y=>bif decide (y > 200) then some 6 else bT (Ag L (x0,())) fun y=>bif decide (y > 12) then some 11 else bT (ZaX L (x0,())) fun y=>some y:=by kernel_rfl
def IB (L:Nat)(x:Int×PUnit):Option Bool:=fT [] L Zdd [] (.one .bool) [.int .i64] x
def Ll (L:Nat):Sum tT:=mU 115 [.int .i64] (.one .bool) (IB L)
theorem EJ:SX Ll:=fun h=>sT h Zu rfl (by kernel_rfl) fun _=>rfl
theorem Zmh (L:Nat)(x0:Int):IB L (x0,())=some (x0 == 1 || x0 == 2 || x0 == 3):=by kernel_rfl
end Go.Proofs.YtgjcjbhhhlelnaaGreatDoor
end
noncomputable section
namespace Go.Proofs.YtgjcjbhhhlelnaaGreatDoor
open Go Go.Proofs.YtgjcjbhhhlelnaaGreatDoor.Abs Go.Proofs.YtgjcjbhhhlelnaaGreatDoor.Tl
set_option maxRecDepth 100000
set_option maxHeartbeats 0
def GL (L:Nat)(x:ZX×PUnit):Option Int:=fT [ZeN L,QQ L,WG L,Ll L,Ul L] L AO [.rnd [.slot 3 (.own 1 .str),.slot 5 (.int .i64)]] (.one (.int .i64)) [.row 10] x
def CJ (L:Nat):Sum tT:=mU 156 [.row 10] (.one (.int .i64)) (GL L)
theorem Zix:SX CJ:=fun h=>sT h (Zb (ZmD h) (Zb (Xv h) (Zb (Ql h) (Zb (EJ h) (Zb (Ik h) Zu))))) rfl (by kernel_rfl) fun _=>rfl
def U4:ZX→Nat→List WL→(List (List UInt8)×Int×PUnit→Option Int)→List (List UInt8)×Int×PUnit→Option Int:=fun x0 L y self acc=>bif decide (acc.2.1 < (↑y.length:Int)) then bT (ZT y acc.2.1) fun y_1=>bT (bT (Ja L (y_1.1,acc.1,())) fun y=>some y) fun y_2=>bT (ZT y acc.2.1) fun y_3=>bT (bT (IB L (y_3.2,())) fun y=>some y) fun y_4=>bT (bT (Zt L (y_4,1,())) fun y=>some y) fun y_5=>bT (bT (ZG L (y_2,y_5,())) fun y=>some y) fun y_6=>bif y_6 != 0 then some y_6 else bT (ZT y acc.2.1) fun y=>bT (apT 16 acc.1 [y.1]) fun y=>self (y,Go.IntKind.i64.wrap (acc.2.1 + 1),()) else bT (Lt L (x0.4,())) fun y=>some y
theorem Zii (L:Nat)(x0:ZX):GL L (x0,())=bif decide ((↑x0.2.length:Int) > 6) || decide (Go.IntKind.i64.wrap ((↑x0.2.length:Int) + (↑x0.3.length:Int)) > 16) then some 6 else bT (apT 24 [] x0.2) fun y=>bT (apT 24 y x0.3) fun y=>Zx (U4 x0 L y) L ([],0,()):=by kernel_rfl
def U8 (L:Nat)(x:Z4×PUnit):Option Int:=fT [Xo L,WG L] L Nr [.rnd [.slot 3 (.int .i64)]] (.one (.int .i64)) [.row 4] x
def NU (L:Nat):Sum tT:=mU 186 [.row 4] (.one (.int .i64)) (U8 L)
theorem ZfI:SX NU:=fun h=>sT h (Zb (XZ h) (Zb (Ql h) Zu)) rfl (by kernel_rfl) fun _=>rfl
def XY:Z4→Nat→(Int×PUnit→Option Int)→Int×PUnit→Option Int:=fun x0 L self acc=>bif decide (acc.1 < (↑x0.3.length:Int)) then bT (ZT x0.3 acc.1) fun y=>bT (ZR L (y.1,0,Go.IntKind.i64.wrap (x0.4 - 1),())) fun y_1=>bT (bif (!y_1) == false then bT (ZR L (y.2,0,1000,())) fun y=>some !y else some true) fun y_2=>bif y_2 then some 2 else bT (bif decide (acc.1 > 0) == true then bT (ZT x0.3 (Go.IntKind.i64.wrap (acc.1 - 1))) fun y_3=>some (decide (y.1≤y_3.1)) else some false) fun y=>bif y then some 12 else self (Go.IntKind.i64.wrap (acc.1 + 1),()) else some 0
theorem ZfB (L:Nat)(x0:Z4):U8 L (x0,())=bif (↑x0.3.length:Int) == 0 then bT (Zt L (x0.4 == 0,1,())) fun y=>some y else bif decide ((↑x0.3.length:Int) > 20) then some 6 else bT (ZR L (x0.4,1,1000000000,())) fun y=>bif !y then some 2 else Zx (XY x0 L) L (0,()):=by kernel_rfl
def U9 (L:Nat)(x:Ze×Z4×PUnit):Option Int:=fT [Le L,He L,P5 L,QQ L,NU L,WG L,Xo L] L Nu [] (.one (.int .i64)) [.row 14,.row 4] x
def NW (L:Nat):Sum tT:=mU 155 [.row 14,.row 4] (.one (.int .i64)) (U9 L)
theorem ZfK:SX NW:=fun h=>sT h (Zb (EH h) (Zb (Td h) (Zb (ZaN h) (Zb (Xv h) (Zb (ZfI h) (Zb (Ql h) (Zb (XZ h) Zu))))))) rfl (by kernel_rfl) fun _=>rfl
theorem ZfC (L:Nat)(x0:Ze)(x1:Z4):U9 L (x0,x1,())=bT (bT (ZR L (x1.2,0,1000,())) fun y=>some y) fun y=>bT (bT (Zt L (y,2,())) fun y=>some y) fun y=>bT (bT (U8 L (x1,())) fun y=>some y) fun y_1=>bT (bT (ZG L (y,y_1,())) fun y=>some y) fun y=>bif y != 0 then some y else bif x1.Fault.1 == [] then bT (Un L (x1.Fault.2,Wj.mk 0 0 0 0 [] [],())) fun y=>bT (bif y == true then bT (Un L (x1.Fault.3,Wj.mk 0 0 0 0 [] [],())) fun y=>some y else some false) fun y=>bT (Zt L (y,1,())) fun y=>some y else bT (Jn L (x0.7,x1.Fault.1,())) fun y=>bif decide (y < 0) then some 5 else bT (bT (VZ L (x1.Fault.2,())) fun y=>some y) fun y=>bT (bT (VZ L (x1.Fault.3,())) fun y=>some y) fun y_2=>bT (bT (ZG L (y,y_2,())) fun y=>some y) fun y=>some y:=by kernel_rfl
def YS (L:Nat)(x:Ze×Int×Int×PUnit):Option Int:=fT [CJ L,Xo L,NW L,QQ L,P6 L,WG L,Ll L] L Ns [] (.one (.int .i64)) [.row 14,.int .i64,.int .i64] x
def NV (L:Nat):Sum tT:=mU 118 [.row 14,.int .i64,.int .i64] (.one (.int .i64)) (YS L)
theorem ZfJ:SX NV:=fun h=>sT h (Zb (Zix h) (Zb (XZ h) (Zb (ZfK h) (Zb (Xv h) (Zb (ZaO h) (Zb (Ql h) (Zb (EJ h) Zu))))))) rfl (by kernel_rfl) fun _=>rfl
theorem X6 (L:Nat)(x0:Ze)(x1:Int)(x2:Int):YS L (x0,x1,x2,())=bif x1 == 0 then bT (ZT x0.2 x2) fun y=>bT (bT (IB L (y.2,())) fun y=>some y) fun y=>bT (bT (Zt L (y,1,())) fun y=>some y) fun y=>bT (ZT x0.2 x2) fun y_1=>bT (ZT x0.2 x2) fun y_2=>bT (bT (Tn L (y_1.2,y_2.3,())) fun y=>some y) fun y_3=>bT (bT (Zt L (y_3,2,())) fun y=>some y) fun y_4=>bT (bT (ZG L (y,y_4,())) fun y=>some y) fun y=>some y else bif x1 == 1 then bT (ZT x0.3 x2) fun y=>bT (bT (U9 L (x0,y,())) fun y=>some y) fun y=>some y else bif x1 == 2 then bT (ZT x0.4 x2) fun y=>bT (ZT x0.4 x2) fun y_1=>bT (ZR L (y_1.2,1,1000,())) fun y_2=>bT (Zt L (y_2,2,())) fun y_3=>bT (Zt L (decide (y.3 ≥ 1) && decide (y.3≤3),1,())) fun y=>bT (ZG L (y_3,y,())) fun y=>some y else bif x1 == 3 then bT (ZT x0.5 x2) fun y=>bT (ZR L (y.2,1,1000,())) fun y=>bT (bif y == true then bT (ZT x0.5 x2) fun y=>bT (ZR L (y.3,1,1000,())) fun y=>some y else some false) fun y=>bT (Zt L (y,2,())) fun y=>some y else bif x1 == 9 then bT (ZT x0.11 x2) fun y=>bT (GL L (y,())) fun y=>some y else some 0:=by kernel_rfl
def PE (L:Nat)(x:Ze×PUnit):Option Int:=fT [ZkJ L,ZeU L,QQ L,NV L,Ul L,Lj L] L Zgb [.rnd [.slot 2 (.int .i64),.slot 3 (.own 1 .str),.slot 5 (.int .i64)],.rnd [.slot 2 (.int .i64),.slot 3 (.own 1 .str),.slot 6 (.int .i64)],.rnd [.slot 2 (.int .i64),.slot 8 (.int .i64)],.rnd [.slot 10 (.own 1 .str),.slot 11 (.int .i64)]] (.one (.int .i64)) [.row 14] x
def ZgU (L:Nat):Sum tT:=mU 64 [.row 14] (.one (.int .i64)) (PE L)
theorem ZpC:SX ZgU:=fun h=>sT h (Zb (Zsx h) (Zb (ZmJ h) (Zb (Xv h) (Zb (ZfJ h) (Zb (Ik h) (Zb (EI h) Zu)))))) rfl (by kernel_rfl) fun _=>rfl
def Ib:Ze→Nat→List (List (List UInt8))→(Int×List (List UInt8)×Int×PUnit→Option Int)→Int×List (List UInt8)×Int×PUnit→(Int×List (List UInt8)×Int×PUnit→Option Int)→Int×List (List UInt8)×Int×PUnit→Option Int:=fun x0 L y self acc self_1 acc_1=>bT (ZT y acc.2.2.1) fun y_1=>bif decide (acc_1.2.2.1 < (↑y_1.length:Int)) then bT (ZT y acc.2.2.1) fun y_2=>bT (ZT y_2 acc_1.2.2.1) fun y_3=>bT (bT (Ja L (y_3,acc_1.2.1,())) fun y=>some y) fun y_4=>bT (bT (YS L (x0,acc.2.2.1,acc_1.2.2.1,())) fun y=>some y) fun y_5=>bT (bT (ZG L (y_4,y_5,())) fun y=>some y) fun y_6=>bif y_6 != 0 then some y_6 else bT (ZT y acc.2.2.1) fun y=>bT (ZT y acc_1.2.2.1) fun y=>bT (apT 16 acc_1.2.1 [y]) fun y=>self_1 (acc_1.1,y,Go.IntKind.i64.wrap (acc_1.2.2.1 + 1),()) else self (acc_1.1,acc_1.2.1,Go.IntKind.i64.wrap (acc.2.2.1 + 1),())
def Uj:Ze→Nat→(List (List UInt8)×Int×PUnit→Option Int)→List (List UInt8)×Int×PUnit→Option Int:=fun x0 L self acc=>bif decide (acc.2.1 < (↑x0.13.length:Int)) then bT (ZT x0.13 acc.2.1) fun y=>bT (bT (CZ L (x0,y,acc.1,())) fun y=>some y) fun y=>bif y != 0 then some y else bT (ZT x0.13 acc.2.1) fun y=>bT (apT 16 acc.1 [y.1]) fun y=>self (y,Go.IntKind.i64.wrap (acc.2.1 + 1),()) else some 0
def Ic:Ze→Nat→(Int×Int×PUnit→Option Int)→Int×Int×PUnit→Option Int:=fun x0 L self acc=>bif decide (acc.2.1 < (↑x0.12.length:Int)) then bT (ZT x0.12 acc.2.1) fun y=>bT (bT (L9 L (x0,y,())) fun y=>some y) fun y=>bif y != 0 then some y else self (acc.1,Go.IntKind.i64.wrap (acc.2.1 + 1),()) else bif decide ((↑x0.13.length:Int) > 32) then some 6 else Zx (Uj x0 L) L ([],0,())
def Uk:Ze→Nat→List (List (List UInt8))→(Int×List (List UInt8)×Int×PUnit→Option Int)→Int×List (List UInt8)×Int×PUnit→Option Int:=fun x0 L y self acc=>bif decide (acc.2.2.1 < (↑y.length:Int)) then bT (ZT y acc.2.2.1) fun y_1=>bT (bif decide ((↑y_1.length:Int) > 32) == false then bif (acc.2.2.1 == 9) == true then bT (ZT y acc.2.2.1) fun y=>some (decide ((↑y.length:Int) > 16)) else some false else some true) fun y_2=>bif y_2 then some 6 else Zx (Ib x0 L y self acc) L (acc.1,acc.2.1,0,()) else bif decide ((↑x0.12.length:Int) > 32) then some 6 else Zx (Ic x0 L) L (acc.1,0,())
theorem Zpr (L:Nat)(x0:Ze):PE L (x0,())=bT (Uo L (x0,())) fun (y:List (List (List UInt8)))=>Zx (Uk x0 L y) L (0,[],0,()):=by kernel_rfl
def Zfj (L:Nat)(x:Je×(List (List UInt8))×PUnit):Option Int:=fT [P6 L,QQ L,WG L,Ll L,Ul L] L Zdi [] (.one (.int .i64)) [.row 0,.lst 1 .str] x
def ZeV (L:Nat):Sum tT:=mU 62 [.row 0,.lst 1 .str] (.one (.int .i64)) (Zfj L)
theorem ZmK:SX ZeV:=fun h=>sT h (Zb (ZaO h) (Zb (Xv h) (Zb (Ql h) (Zb (EJ h) (Zb (Ik h) Zu))))) rfl (by kernel_rfl) fun _=>rfl
def L6 (L:Nat)(x:Xj×PUnit):Option Int:=fT [ZeT L,ZgU L,Ul L,ZeV L,QQ L,WG L,Vd L] L Zdb [.rnd [.slot 2 (.int .i64),.slot 4 (.own 1 .str),.slot 5 (.int .i64)],.rnd [.slot 6 (.own 1 .str),.slot 7 (.int .i64)]] (.one (.int .i64)) [.row 21] x
def ZeS (L:Nat):Sum tT:=mU 40 [.row 21] (.one (.int .i64)) (L6 L)
theorem ZmH:SX ZeS:=fun h=>sT h (Zb (ZmI h) (Zb (ZpC h) (Zb (Ik h) (Zb (ZmK h) (Zb (Xv h) (Zb (Ql h) (Zb (VV h) Zu))))))) rfl (by kernel_rfl) fun _=>rfl
def BU:Xj→Nat→(List (List UInt8)×Int×PUnit→Option Int)→List (List UInt8)×Int×PUnit→Option Int:=fun x0 L self acc=>bif decide (acc.2.1 < (↑x0.3.length:Int)) then bT (ZT x0.3 acc.2.1) fun y=>bT (bT (Ja L (y.1,acc.1,())) fun y=>some y) fun y=>bT (ZT x0.3 acc.2.1) fun y_1=>bT (bT (PE L (y_1,())) fun y=>some y) fun y_2=>bT (bT (ZG L (y,y_2,())) fun y=>some y) fun y=>bif y != 0 then some y else bT (ZT x0.3 acc.2.1) fun y=>bT (apT 16 acc.1 [y.1]) fun y=>self (y,Go.IntKind.i64.wrap (acc.2.1 + 1),()) else bT (L8 L (x0,())) fun y=>some y
def BV:Xj→Nat→(Int×List (List UInt8)×Int×PUnit→Option Int)→Int×List (List UInt8)×Int×PUnit→Option Int:=fun x0 L self acc=>bif decide (acc.2.2.1 < (↑x0.2.length:Int)) then bT (ZT x0.2 acc.2.2.1) fun y=>bT (Zfj L (y,acc.2.1,())) fun y=>bif y != 0 then some y else bT (ZT x0.2 acc.2.2.1) fun y=>bT (apT 16 acc.2.1 [y.1]) fun y=>self (acc.1,y,Go.IntKind.i64.wrap (acc.2.2.1 + 1),()) else bT (bT (Zt L (decide ((↑x0.3.length:Int) > 0),7,())) fun y=>some y) fun y=>bT (bT (Zt L (decide ((↑x0.3.length:Int)≤16),6,())) fun y=>some y) fun y_1=>bT (bT (ZG L (y,y_1,())) fun y=>some y) fun y=>bif y != 0 then some y else Zx (BU x0 L) L ([],0,())
theorem Zmf (L:Nat)(x0:Xj):L6 L (x0,())=bT (bT (Qv L (x0.1,())) fun y=>some y) fun y=>bT (bT (Zt L (decide ((↑x0.2.length:Int)≤32),6,())) fun y=>some y) fun y_1=>bT (bT (ZG L (y,y_1,())) fun y=>some y) fun y=>bif y != 0 then some y else Zx (BV x0 L) L (0,[],0,()):=by kernel_rfl
def Jb (L:Nat)(x:Zl×PUnit):Option Int:=fT [CP L,ZgW L,ZgX L,ZeS L,Vd L] L Zdj [.rnd [.slot 2 (.int .i64),.slot 4 (.int .i64)],.rnd [.slot 2 (.int .i64),.slot 5 (.int .i64)],.rnd [.slot 3 (.int .i64),.slot 6 (.int .i64)],.rnd [.slot 3 (.int .i64),.slot 7 (.int .i64)]] (.one (.int .i64)) [.row 19] x
def ZmZ (L:Nat):Sum tT:=mU 27 [.row 19] (.one (.int .i64)) (Jb L)
theorem ZmL:SX ZmZ:=fun h=>sT h (Zb (Ziy h) (Zb (ZpE h) (Zb (ZpF h) (Zb (ZmH h) (Zb (VV h) Zu))))) rfl (by kernel_rfl) fun _=>rfl
def UQ:Zl→Nat→(Int×Int×PUnit→Option Int)→Int×Int×PUnit→(Int×Int×PUnit→Option Int)→Int×Int×PUnit→Option Int:=fun x0 L self acc self_1 acc_1=>bif decide (acc_1.2.1 < acc.2.1) then bT (ZT x0.2 acc_1.2.1) fun y=>bT (ZT x0.2 acc.2.1) fun y_1=>bif y.Decl.1 == y_1.Decl.1 then some 4 else self_1 (acc_1.1,Go.IntKind.i64.wrap (acc_1.2.1 + 1),()) else bT (ZT x0.2 acc.2.1) fun y=>bT (Tt L (y,())) fun y=>bif !y then some 8 else self (acc_1.1,Go.IntKind.i64.wrap (acc.2.1 + 1),())
def UR:Zl→Nat→(Int×Int×PUnit→Option Int)→Int×Int×PUnit→(Int×Int×PUnit→Option Int)→Int×Int×PUnit→Option Int:=fun x0 L self acc self_1 acc_1=>bT (ZT x0.2 acc.2.1) fun y=>bif decide (acc_1.2.1 < (↑y.2.length:Int)) then bif acc_1.1 == 0 then bT (ZT x0.2 acc.2.1) fun y=>bT (ZT y.2 acc_1.2.1) fun y=>bT (bT (YZ L (x0,acc.2.1,y,())) fun y=>some y) fun y=>self_1 (y,Go.IntKind.i64.wrap (acc_1.2.1 + 1),()) else self_1 (acc_1.1,Go.IntKind.i64.wrap (acc_1.2.1 + 1),()) else self (acc_1.1,Go.IntKind.i64.wrap (acc.2.1 + 1),())
def Xn:Zl→Nat→(Int×Int×PUnit→Option Int)→Int×Int×PUnit→Option Int:=fun x0 L self acc=>bif decide (acc.2.1 < (↑x0.2.length:Int)) then Zx (UR x0 L self acc) L (acc.1,0,()) else some acc.1
def UT:Zl→Nat→(Int×Int×PUnit→Option Int)→Int×Int×PUnit→Option Int:=fun x0 L self acc=>bif decide (acc.2.1 < (↑x0.2.length:Int)) then bT (ZT x0.2 acc.2.1) fun y=>bT (bT (L6 L (Xj.mk x0.1 [] [y.1] [],())) fun y=>some y) fun y=>bif y != 0 then some y else Zx (UQ x0 L self acc) L (acc.1,0,()) else bT (Tq L (x0,())) fun y=>Zx (Xn x0 L) L (y,0,())
theorem Zmm (L:Nat)(x0:Zl):Jb L (x0,())=bT (Qv L (x0.1,())) fun y=>bif y != 0 then some y else bif (↑x0.2.length:Int) == 0 then some 7 else bif decide ((↑x0.2.length:Int) > 16) then some 6 else Zx (UT x0 L) L (0,0,()):=by kernel_rfl
end Go.Proofs.YtgjcjbhhhlelnaaGreatDoor
end
section
namespace Go.Proofs.YtgjcjbhhhlelnaaGreatDoor
open Go Go.Proofs.YtgjcjbhhhlelnaaGreatDoor.Abs Go.Proofs.YtgjcjbhhhlelnaaGreatDoor.Tl
set_option maxRecDepth 100000
theorem ZyI (g o len k:Nat)(i:Int)(h0:0≤i)(h1:i < len):Qn (.slice k) (.arr g o len k) (.int .i64 i)=some (.ptr g (o + i.toNat * k)):=by simp [Qn,h0,h1]
end Go.Proofs.YtgjcjbhhhlelnaaGreatDoor
end
section
namespace Go.Proofs.YtgjcjbhhhlelnaaGreatDoor
open Go Go.Proofs.YtgjcjbhhhlelnaaGreatDoor.Abs Go.Proofs.YtgjcjbhhhlelnaaGreatDoor.Tl
set_option maxRecDepth 100000
theorem cells_at {c:AV}{l:List AV}{hp:HP}{g:Nat}{t:TypeId}{cs:List AV}(hg:hp[g]? = some (.cells cs t))(h:cs.map AV.ro=l)(i:Nat)(e:l[i]? = some c):ZV hp (.ptr g i)=some c:=by
 rw [Zlu hg,← List.getElem?_map,h,e]
theorem Znl {C:Cfg}{f:FuncId}{y:Zl×PUnit→Option Int}(hs:Q3 C (mU f [.row 19] (.one (.int .i64)) y))(p:Zl){e:Int}(he:y (p,())=some e)(hp:HP):Ev fun n=>Zr C n f [.agg (Qw p)] hp=some (.int .i64 e,hp,none):=by
 obtain ⟨a,h1,h2⟩:=hs (p,()) hp [.agg (Qw p)] (.cons _ _ (.row _ _ _ (Yu.ro 19 p)) _ _ .nil) e he
 have:=VR.int (h1 [])
 subst this
 exact h2
end Go.Proofs.YtgjcjbhhhlelnaaGreatDoor
end
section
namespace Go.Proofs.YtgjcjbhhhlelnaaGreatDoor
open Go Go.Proofs.YtgjcjbhhhlelnaaGreatDoor.Abs Go.Proofs.YtgjcjbhhhlelnaaGreatDoor.Tl
set_option maxRecDepth 100000
abbrev YO (l:List Int):List AV:=l.map (AV.int .i64)
theorem Zd2:∀ (l:List AV),chunk 1 l.length l=l.map fun a=>[a]
 | []=>rfl
 | a :: l=>by rw [List.length_cons,chunk,List.take_succ_cons,List.take_zero,List.drop_succ_cons,List.drop_zero,Zd2 l,List.map_cons]
theorem Zj2 (bs:Nat)(hp:HP)(d:Nat):∀ l:List Int,(YO l).mapM (Zc3 bs hp d)=some (YO l)
 | []=>rfl
 | n :: l=>by
  have ih:=Zj2 bs hp d l
  simp only [YO] at ih
  rw [YO,List.map_cons,List.mapM_cons,ih]
  cases d <;> rfl
theorem Zrd (l:List Int):(YO l).all AV.noId1=true:=by simp [YO,AV.noId1]
theorem ZqO {bs:Nat}{hp:HP}{d g n:Nat}{l:List Int}{t:TypeId}(hb:bs≤g)(hg:hp[g]? = some (.cells (YO l) t))(hn:l.length=n):Zc3 bs hp (d + 1) (.arr g 0 n 1)=some (.lst 1 (l.map fun x=>[.int .i64 x])):=by
 have h0:¬ g < bs:=by omega
 have hl:(YO l).length=n:=by rw [List.length_map]; exact hn
 rw [Zc3,if_neg h0]
 simp only [hg]
 rw [if_pos (by omega),List.drop_zero,List.take_of_length_le (by omega),Zj2]
 simp only [Option.bind_some]
 rw [if_pos (Zrd l),← hl,Zd2,List.map_map]; rfl
theorem ZuC {h:HP}{u:List Int}{t:TypeId}{g k:Nat}(hg:h[g]? = some (.cells (YO u) t))(hk:k < u.length)(x:Int)(bs:Nat)(hb:bs≤g)(ef:Eff):ZpP bs (.ptr g k) (.int .i64 x) h ef=some (h.set g (.cells (YO (u.set k x)) t),ef):=by
 have h0:¬ g < bs:=by omega
 simp only [ZpP,hg,Eh,if_neg h0]
 rw [if_pos ⟨rfl,by rw [List.length_map]; exact hk⟩,YO,YO,List.map_set]
theorem MF (a:AV):∀ N:Nat,(List.replicate N [a]).flatten=List.replicate N a
 | 0=>rfl
 | N + 1=>by rw [List.replicate_succ,List.replicate_succ,List.flatten_cons,MF a N]; rfl
end Go.Proofs.YtgjcjbhhhlelnaaGreatDoor
end
noncomputable section
namespace Go.Proofs.YtgjcjbhhhlelnaaGreatDoor
open Go Go.Proofs.YtgjcjbhhhlelnaaGreatDoor.Abs Go.Proofs.YtgjcjbhhhlelnaaGreatDoor.Tl
set_option maxRecDepth 100000
set_option maxHeartbeats 0
def Ac (L:Nat)(x:Zl×(List Int)×PUnit):Option Bool:=fT [] L ZcR [] (.one .bool) [.row 19,.lst 1 (.int .i64)] x
def ZeI (L:Nat):Sum tT:=mU 9 [.row 19,.lst 1 (.int .i64)] (.one .bool) (Ac L)
theorem Zm8:SX ZeI:=fun h=>sT h Zu rfl (by kernel_rfl) fun _=>rfl
theorem ZlS (L:Nat)(x0:Zl)(x1:(List Int)):Ac L (x0,x1,())=some (decide ((↑x0.2.length:Int)≤20) && decide ((↑x0.3.length:Int)≤40) && decide ((↑x1.length:Int)≤40)):=by kernel_rfl
def UA (L:Nat)(x:(List Int)×(List Int)×PUnit):Option Bool:=fT [] L Nv [.rnd [.slot 5 (.int .i64)]] (.one .bool) [.lst 1 (.int .i64),.lst 1 (.int .i64)] x
def NY (L:Nat):Sum tT:=mU 20 [.lst 1 (.int .i64),.lst 1 (.int .i64)] (.one .bool) (UA L)
theorem ZfL:SX NY:=fun h=>sT h Zu rfl (by kernel_rfl) fun _=>rfl
def J7:List Int→List Int→(Int×PUnit→Option Bool)→Int×PUnit→Option Bool:=fun x0 x1 self acc=>bif decide (acc.1 < (↑x0.length:Int)) then bT (ZT x0 acc.1) fun y=>bT (ZT x1 acc.1) fun y_1=>bif y != y_1 then some false else self (Go.IntKind.i64.wrap (acc.1 + 1),()) else some true
theorem ZfD (L:Nat)(x0:(List Int))(x1:(List Int)):UA L (x0,x1,())=bif (↑x0.length:Int) != (↑x1.length:Int) then some false else Zx (J7 x0 x1) L (0,()):=by kernel_rfl
end Go.Proofs.YtgjcjbhhhlelnaaGreatDoor
end
section
namespace Go.Proofs.YtgjcjbhhhlelnaaGreatDoor
open Go Go.Proofs.YtgjcjbhhhlelnaaGreatDoor.Abs Go.Proofs.YtgjcjbhhhlelnaaGreatDoor.Tl
set_option maxRecDepth 100000
theorem Zm {α:Type}(c:Bool)(a b:α):(bif c then some a else some b)=some (bif c then a else b):=by cases c <;> rfl
theorem Zp (c:Bool)(x:Option Bool):(bif c == true then x else some false)=bif c then x else some false:=by cases c <;> rfl
theorem condC (c:Bool)(x:Option Bool):(bif c == false then x else some true)=bif c then some true else x:=by cases c <;> rfl
theorem Zj (c x:Bool):(bif c == true then x else false)=(c && x):=by cases c <;> rfl
theorem Zi (c x:Bool):(bif c == false then x else true)=(c || x):=by cases c <;> rfl
theorem X4 {α:Type}(c:Prop)[Decidable c](a b:α):(if c then some a else some b)=some (if c then a else b):=by split <;> rfl
theorem Yt {α:Type}(c:Bool)(a b:α):(bif c then a else b)=if c=true then a else b:=by cases c <;> rfl
theorem Za {α:Type}(o:Option α):bT o (fun y=>some y)=o:=by cases o <;> rfl
theorem ZH {α:Type}[DecidableEq α](a b:α):(a != b)=!decide (a=b):=by
 by_cases h:a=b <;> simp [bne,h]
theorem ZO (a b:Int):(a == b)=decide (a=b):=by
 by_cases h:a=b <;> simp [h]
theorem ZY (a b:List UInt8):(a == b)=decide (a=b):=by
 by_cases h:a=b <;> simp [h]
abbrev Len {α:Type}(l:List α):Prop:=l.length≤4611686018427387
theorem Zf4 {τ ρ:Type}{f:(τ→Option ρ)→τ→Option ρ}(n:Nat)(pk:Int→τ)(R:Nat→Option ρ)
  (h1:∀ self (i:Nat),i < n→self (pk ((i:Int) + 1))=R (i + 1)→f self (pk i)=R i)
  (h2:∀ self,f self (pk n)=R n):∀ (m i:Nat),i≤n→n - i < m→Zx f m (pk i)=R i
 | 0,_,_,h=>absurd h (Nat.not_lt_zero _)
 | m + 1,i,hi,hm=>by
  show f (Zx f m) (pk i)=_
  rcases Nat.lt_or_ge i n with hlt | hge
  ·exact h1 _ i hlt (Zf4 n pk R h1 h2 m (i + 1) hlt (by omega))
  ·have:i=n:=by omega
   subst this
   exact h2 _
theorem Zj0 {τ α σ ρ:Type}{f:(τ→Option ρ)→τ→Option ρ}(l:List α)(pk:σ→Int→τ)(R:List α→σ→Option ρ)
  (h1:∀ self s (i:Nat) x r,l[i]? = some x→i < l.length→x ∈ l→(∀ s',self (pk s' ((i:Int) + 1))=R r s')→f self (pk s i)=R (x :: r) s)
  (h2:∀ self s,f self (pk s (l.length:Nat))=R [] s):∀ (m i:Nat) (s:σ),i≤l.length→l.length - i < m→Zx f m (pk s i)=R (l.drop i) s
 | 0,_,_,_,h=>absurd h (Nat.not_lt_zero _)
 | m + 1,i,s,hi,hm=>by
  show f (Zx f m) (pk s i)=_
  rcases Nat.lt_or_ge i l.length with hlt | hge
  ·have hx:=List.getElem?_eq_getElem hlt
   rw [List.drop_eq_getElem_cons hlt]
   exact h1 _ s i _ _ hx hlt (List.getElem_mem hlt) fun s'=>Zj0 l pk R h1 h2 m (i + 1) s' hlt (by omega)
  ·have:i=l.length:=by omega
   subst this
   rw [h2,List.drop_length]
theorem Fh {α ρ:Type}{f:(Int×PUnit→Option ρ)→Int×PUnit→Option ρ}(l:List α)(R:List α→Option ρ){m:Nat}(hm:l.length < m)
  (h1:∀ self (i:Nat) x r,l[i]? = some x→i < l.length→x ∈ l→self ((i:Int) + 1,())=R r→f self ((i:Int),())=R (x :: r))
  (h2:∀ self,f self ((l.length:Int),())=R []):Zx f m (0,())=R l :=
 Zj0 (σ := Unit) l (fun _ i=>(i,())) (fun l _=>R l) (fun self _ i x r a b c d=>h1 self i x r a b c (d ())) (fun self _=>h2 self) m 0 () (Nat.zero_le _) (by omega)
theorem Zlx {α ρ:Type}{f:(Int×PUnit→Option ρ)→Int×PUnit→Option ρ}(l:List α)(R:List α→Int→Option ρ){m:Nat}(hm:l.length < m)
  (h1:∀ self (i:Nat) x r,l[i]? = some x→i < l.length→x ∈ l→self ((i:Int) + 1,())=R r ((i:Int) + 1)→f self ((i:Int),())=R (x :: r) i)
  (h2:∀ self,f self ((l.length:Int),())=R [] l.length):Zx f m (0,())=R l 0:=by
 have:=Zf4 (f := f) l.length (fun i=>(i,())) (fun i=>R (l.drop i) i) (fun self i hi e=>by
  have hx:=List.getElem?_eq_getElem hi
  rw [List.drop_eq_getElem_cons hi]
  exact h1 self i _ _ hx hi (List.getElem_mem hi) e) (fun self=>by rw [List.drop_length]; exact h2 self) m 0 (Nat.zero_le _) (by omega)
 exact this
theorem Zcl {α σ ρ:Type}{f:(σ×Int×PUnit→Option ρ)→σ×Int×PUnit→Option ρ}(l:List α)(R:List α→σ→Option ρ){m:Nat}(hm:l.length < m)(s:σ)
  (h1:∀ self s (i:Nat) x r,l[i]? = some x→i < l.length→x ∈ l→(∀ s',self (s',(i:Int) + 1,())=R r s')→f self (s,(i:Int),())=R (x :: r) s)
  (h2:∀ self s,f self (s,(l.length:Int),())=R [] s):Zx f m (s,0,())=R l s :=
 Zj0 l (fun s i=>(s,i,())) R h1 h2 m 0 s (Nat.zero_le _) (by omega)
theorem Zf5 {α β ρ:Type}{f:(Int×PUnit→Option ρ)→Int×PUnit→Option ρ}(l:List α)(l':List β)(hl:l.length=l'.length)(R:List α→List β→Option ρ){m:Nat}(hm:l.length < m)
  (h1:∀ self (i:Nat) x y r r',l[i]? = some x→l'[i]? = some y→i < l.length→x ∈ l→self ((i:Int) + 1,())=R r r'→f self ((i:Int),())=R (x :: r) (y :: r'))
  (h2:∀ self,f self ((l.length:Int),())=R [] []):Zx f m (0,())=R l l':=by
 have:=Zf4 (f := f) l.length (fun i=>(i,())) (fun i=>R (l.drop i) (l'.drop i)) (fun self i hi e=>by
  have hx:=List.getElem?_eq_getElem hi
  have hy:=List.getElem?_eq_getElem (show i < l'.length by omega)
  rw [List.drop_eq_getElem_cons hi,List.drop_eq_getElem_cons (show i < l'.length by omega)]
  exact h1 self i _ _ _ _ hx hy hi (List.getElem_mem hi) e) (fun self=>by rw [List.drop_length,hl,List.drop_length]; rw [← hl]; exact h2 self) m 0 (Nat.zero_le _) (by omega)
 exact this
end Go.Proofs.YtgjcjbhhhlelnaaGreatDoor
end
section
namespace Go.Proofs.YtgjcjbhhhlelnaaGreatDoor
open Go Go.Proofs.YtgjcjbhhhlelnaaGreatDoor.Abs Go.Proofs.YtgjcjbhhhlelnaaGreatDoor.Tl
set_option maxRecDepth 100000
theorem ZnT (L:Nat)(n:Int):VH L (n,())=some (Zvj n):=Zf8 L n
theorem Zec (L:Nat)(n:Int):UZ L (n,())=some (Zvj n):=ZjZ L n
theorem chainB (x:List UInt8):∀ l:List (List UInt8),(l.foldr (fun k r=>bif x == k then some true else r) (some false):Option Bool)=some (l.any fun k=>decide (x=k))
 | []=>rfl
 | k :: l=>by
  rw [List.foldr_cons,chainB x l,ZY,List.any_cons]
  cases decide (x=k) <;> rfl
theorem ZrJ (L:Nat)(s:List UInt8):JG L (s,())=some (kwB s):=(Zel L s).trans (chainB s kws)
theorem ZjC (L:Nat)(l:List (List UInt8))(s:List UInt8)(hl:Len l)(hL:l.length < L):Jn L (l,s,())=some (H7 (fun k=>decide (k=s)) l 0):=by
 rw [Zpj]
 refine Zlx l (fun l i=>some (H7 (fun k=>decide (k=s)) l i)) hL (fun self i x r hx hi _ e=>?_) (fun self=>?_)
 ·rw [E5]; simp only [Zk,Zc,cond_true,cond_false,Zg,ZA,Za,Zp,condC,Zj,Zi,Zm,ZO,ZY,ZH,hi,hx,wrap_succ hi (by omega),e,H7]; simp only [Yt,X4,if_true,if_false,Bool.false_eq_true,ne_eq,decide_not,gt_iff_lt,ge_iff_le]
 ·rw [E5]; simp only [Zk,Zc,cond_true,cond_false,Zg,ZA,Za,Zp,condC,Zj,Zi,Zm,ZO,ZY,ZH,H7]
theorem ZjG (L:Nat)(s:List UInt8)(hL:100≤L):GH L (s,())=some (kwB s):=by
 rw [Zig,show U7 L ()=some kws from ZfA L,ZA,ZjC L kws s (by decide) (by have:kws.length=73:=rfl; omega),ZA]
 have:=ZaA (fun k=>decide (k=s)) kws 0 (Int.le_refl _)
 rw [show decide (H7 (fun k=>decide (k=s)) kws 0 ≥ 0)=_ from this]
 unfold kwB
 congr 2; funext k; exact decide_eq_decide.2 ⟨Eq.symm,Eq.symm⟩
theorem ZnI (s:List UInt8):VS s=bif (decide (s=[]) || decide ((s.length:Int) > 24)) || (!Zvj ((s.headD 0).toNat)) || kwB s then 3 else bif s.all (fun x=>Zho x.toNat) then 0 else 3:=by
 cases s with
 | nil=>simp [VS]
 | cons c r =>
  simp only [VS,List.headD_cons,reduceCtorEq,decide_false,Bool.false_or]
  rw [show (decide ((((c :: r).length:Nat):Int) > 24))=decide (24 < (c :: r).length) from decide_eq_decide.2 (by omega)]
  by_cases h1:24 < (c :: r).length <;> cases Zvj (c.toNat:Int) <;> cases kwB (c :: r) <;> cases (c :: r).all (fun x=>Zho x.toNat) <;> simp [h1]
theorem ZwB (c:Bool)(x:UInt8):(!c && (decide ((x.toNat:Int) < 48) || decide ((x.toNat:Int) > 57)) && (!decide ((x.toNat:Int)=95)))=!(c || decide ((x.toNat:Int)=95) || (decide (48≤(x.toNat:Int)) && decide ((x.toNat:Int)≤57))):=by
 rw [show decide (48≤(x.toNat:Int))=!decide ((x.toNat:Int) < 48) by rw [← decide_not]; congr 1; exact propext Int.not_lt.symm,show decide ((x.toNat:Int)≤57)=!decide ((x.toNat:Int) > 57) by rw [← decide_not]; congr 1; exact propext Int.not_lt.symm]
 cases c <;> cases decide ((x.toNat:Int)=95) <;> cases decide ((x.toNat:Int) < 48) <;> cases decide ((x.toNat:Int) > 57) <;> rfl
theorem ZwA (L:Nat)(s:List UInt8)(h:Len s)(hL:s.length < L):Zx (U2 s L) L (0,())=some (bif s.all (fun x=>Zho x.toNat) then 0 else 3):=by
 refine Fh s (fun s=>some (bif s.all (fun x=>Zho x.toNat) then 0 else 3)) hL (fun self i x r hx hi _ e=>?_) (fun self=>?_)
 ·rw [U2]
  simp only [Zk,Zc,cond_true,cond_false,Zg,ZA,Za,Zp,condC,Zj,Zi,Zm,ZO,ZY,ZH,hi,hx,ZnT,wrap_succ hi (by omega),e,ZH,ZwB,List.all_cons,Zho]
  cases (Zvj (x.toNat:Int) || decide ((x.toNat:Int)=95) || (decide (48≤(x.toNat:Int)) && decide ((x.toNat:Int)≤57))) <;> rfl
 ·rw [U2]; simp only [Zk,Zc,cond_true,cond_false,Zg,ZA,Za,Zp,condC,Zj,Zi,Zm,ZO,ZY,ZH,List.all_nil]
theorem Xc (L:Nat)(s:List UInt8)(h:Len s)(hL:s.length < L):ZP L (s,())=some (VS s):=by
 rw [Zie,ZwA L s h hL,ZnI,Zvd]
 cases s with
 | nil=>rfl
 | cons c r =>
  simp only [Zk,Zc,cond_true,cond_false,Zg,ZA,Za,Zp,condC,Zj,Zi,Zm,ZO,ZY,ZH,List.getElem?_cons_zero,ZnT,ZrJ,List.headD_cons,reduceCtorEq,decide_false,Bool.false_or,Bool.or_assoc]
theorem Zu2 (L:Nat)(s:List UInt8)(h:Len s)(hL:s.length < L):Zx (IW s L) L (0,())=some (bif s.all (fun x=>Zho x.toNat) then 0 else 3):=by
 refine Fh s (fun s=>some (bif s.all (fun x=>Zho x.toNat) then 0 else 3)) hL (fun self i x r hx hi _ e=>?_) (fun self=>?_)
 ·rw [IW]
  simp only [Zk,Zc,cond_true,cond_false,Zg,ZA,Za,Zp,condC,Zj,Zi,Zm,ZO,ZY,ZH,hi,hx,Zec,wrap_succ hi (by omega),e,ZH,List.all_cons,Zho,Zp,condC,Zm]
  rw [show decide (48≤(x.toNat:Int))=!decide ((x.toNat:Int) < 48) by rw [← decide_not]; congr 1; exact propext Int.not_lt.symm,show decide ((x.toNat:Int)≤57)=!decide ((x.toNat:Int) > 57) by rw [← decide_not]; congr 1; exact propext Int.not_lt.symm]
  cases Zvj (x.toNat:Int) <;> cases decide ((x.toNat:Int)=95) <;> cases decide ((x.toNat:Int) < 48) <;> cases decide ((x.toNat:Int) > 57) <;> rfl
 ·rw [IW]; simp only [Zk,Zc,cond_true,cond_false,Zg,ZA,Za,Zp,condC,Zj,Zi,Zm,ZO,ZY,ZH,List.all_nil]
theorem Ui (L:Nat)(s:List UInt8)(h:Len s)(hL:s.length < L)(h1:100≤L):Qv L (s,())=some (VS s):=by
 rw [ZlV,Zu2 L s h hL,ZnI,Zvd]
 cases s with
 | nil=>rfl
 | cons c r =>
  have:decide ((((c :: r).length:Nat):Int) < 1)=false:=by simp only [List.length_cons,decide_eq_false_iff_not]; omega
  simp only [Zk,Zc,cond_true,cond_false,Zg,ZA,Za,Zp,condC,Zj,Zi,Zm,ZO,ZY,ZH,List.getElem?_cons_zero,Zec,ZjG L _ h1,List.headD_cons,this,reduceCtorEq,decide_false,Bool.false_or,Bool.or_assoc]
theorem ZM {α:Type}[SizeOf α]:∀ l:List α,l.length < SizeOf.sizeOf l
 | []=>by simp
 | x :: l=>by have:=ZM l; simp only [List.length_cons,List.cons.sizeOf_spec]; omega
theorem ZuH (d:Wj):SizeOf.sizeOf d.Values < SizeOf.sizeOf d∧SizeOf.sizeOf d.Weights < SizeOf.sizeOf d:=by cases d; simp; omega
theorem ZjD (L:Nat)(a b c:Int):YX L (a,b,c,())=some (btw a b c):=Zif L a b c
theorem Zc9 (L:Nat)(lo hi:Int)(l:List Int)(h:Len l)(hL:l.length < L):YG L (lo,hi,l,())=some (Qp lo hi l):=by
 have:=Zlx (f := U0 lo hi l) l (fun l i=>some (H7 (Zvs lo hi) l i)) hL (fun self i x r hx hi' _ e=>by
  rw [U0]; simp only [Zk,Zc,cond_true,cond_false,Zg,ZA,Za,Zp,condC,Zj,Zi,Zm,ZO,ZY,ZH,hi',hx,wrap_succ hi' (by omega),e,H7]; simp only [Yt,X4,if_true,if_false,Bool.false_eq_true,ne_eq,decide_not,gt_iff_lt,ge_iff_le]; rfl) (fun self=>by rw [U0]; simp only [Zk,Zc,cond_true,cond_false,Zg,ZA,Za,Zp,condC,Zj,Zi,Zm,ZO,ZY,ZH,H7])
 have h2:decide (H7 (Zvs lo hi) l 0 ≥ 0)=l.any (Zvs lo hi):=ZaA (Zvs lo hi) l 0 (Int.le_refl _)
 simp only [ZhY,this,ZA,h2,Qp]
theorem ZrW (L:Nat)(h:2 < L)(lo hi a:Int):YG L (lo,hi,[a],())=some (Qp lo hi [a]):=Zc9 L lo hi [a] (by simp [Len]) (by simp; omega)
theorem ZrX (L:Nat)(h:2 < L)(lo hi a b:Int):YG L (lo,hi,[a,b],())=some (Qp lo hi [a,b]):=Zc9 L lo hi [a,b] (by simp [Len]) (by simpa using h)
theorem Zus (L:Nat)(d:Wj)(h:JQ d):G7 L (d,())=some (Aa d):=by
 simp only [Zk,Zc,cond_true,cond_false,Zg,ZA,Za,Zp,condC,Zj,Zi,Zm,ZO,ZY,ZH,ZhX,h.wr,Aa]; simp only [Yt,X4,if_true,if_false,Bool.false_eq_true,ne_eq,decide_not,gt_iff_lt,ge_iff_le]
theorem MG (L:Nat)(d:Wj)(h:JQ d)(hL:SizeOf.sizeOf d < L)(h1:100≤L):QJ L (d,())=some (RJ d):=by
 have hs:d.Values.length < L∧d.Weights.length < L:=by
  have:=ZM d.Values; have:=ZM d.Weights; have:=ZuH d; omega
 simp only [Zk,Zc,cond_true,cond_false,Zg,ZA,Za,Zp,condC,Zj,Zi,Zm,ZO,ZY,ZH,ZjQ,Zus L d h,RJ,Zc9 L _ _ _ h.v hs.1,Zc9 L _ _ _ h.w hs.2,ZrW L (by omega),ZrX L (by omega)]
 simp only [Yt,X4,if_true,if_false,Bool.false_eq_true,ne_eq,decide_not,gt_iff_lt,ge_iff_le]
theorem ZlE (L:Nat)(d:Wj):Oj L (d,())=some (Zfe d):=by
 simp only [Zk,Zc,cond_true,cond_false,Zg,ZA,Za,Zp,condC,Zj,Zi,Zm,ZO,ZY,ZH,ZjY,Zfe]; simp only [Yt,X4,if_true,if_false,Bool.false_eq_true,ne_eq,decide_not,gt_iff_lt,ge_iff_le]
theorem Zxl (L:Nat)(d:Wj)(h:JQ d)(hL:SizeOf.sizeOf d < L):Lr L (d,())=some (Zop d):=by
 have hs:d.Values.length < L∧d.Weights.length < L:=by
  have:=ZM d.Values; have:=ZM d.Weights; have:=ZuH d; omega
 rw [ZlU,Zop]
 by_cases hl:d.Values.length=d.Weights.length
 ·rw [Zf5 d.Values d.Weights hl (fun l m=>some (Zv6 l m)) hs.1 (fun self i x y r r' hx hy hi _ e=>by
   have hv:=h.v
   rw [BN]; simp only [Zk,Zc,cond_true,cond_false,Zg,ZA,Za,Zp,condC,Zj,Zi,Zm,ZO,ZY,ZH,hi,hx,hy,ZjD,wrap_succ hi (by omega),e,Zv6]; simp only [Yt,X4,if_true,if_false,Bool.false_eq_true,ne_eq,decide_not,gt_iff_lt,ge_iff_le]) (fun self=>by rw [BN]; simp only [Zk,Zc,cond_true,cond_false,Zg,ZA,Za,Zp,condC,Zj,Zi,Zm,ZO,ZY,ZH,Zv6])]
  simp only [Zk,Zc,cond_true,cond_false,Zg,ZA,Za,Zp,condC,Zj,Zi,Zm,ZO,ZY,ZH]; simp only [Yt,X4,if_true,if_false,Bool.false_eq_true,ne_eq,decide_not,gt_iff_lt,ge_iff_le]
 ·simp only [Yt,X4,if_true,if_false,Bool.false_eq_true,ne_eq,decide_not,gt_iff_lt,ge_iff_le,ZO,ZH,Bool.not_false,show decide ((d.Values.length:Int)=d.Weights.length)=false by simp only [decide_eq_false_iff_not]; omega]
theorem Pm (L:Nat)(d:Wj)(h:JQ d)(hL:SizeOf.sizeOf d < L):VZ L (d,())=some (RJ d):=by
 rw [← Zht]
 simp only [Zk,Zc,cond_true,cond_false,Zg,ZA,Za,Zp,condC,Zj,Zi,Zm,ZO,ZY,ZH,ZlT,ZlE,Ztj,ZjD,Zxl L d h hL]; simp only [Yt,X4,if_true,if_false,Bool.false_eq_true,ne_eq,decide_not,gt_iff_lt,ge_iff_le]
end Go.Proofs.YtgjcjbhhhlelnaaGreatDoor
end
section
namespace Go.Proofs.YtgjcjbhhhlelnaaGreatDoor
open Go Go.Proofs.YtgjcjbhhhlelnaaGreatDoor.Abs Go.Proofs.YtgjcjbhhhlelnaaGreatDoor.Tl
set_option maxRecDepth 100000
theorem Zs6 (e:Zw):SizeOf.sizeOf e.Kids < SizeOf.sizeOf e∧SizeOf.sizeOf e.Name < SizeOf.sizeOf e:=by cases e; simp; omega
theorem Yj.nl {e:Zw}(h:Yj e):Len e.Name:=by have:=h.n; unfold Len; omega
theorem ZjL (L:Nat):∀ (m:Nat) (e:Zw),Yj e→SizeOf.sizeOf e≤m→m≤L→GN L m (e,())=some (Zq5 e)
 | 0,e,h,hs,_=>absurd hs (by have:=NP e; omega)
 | m + 1,e,h,hs,hm=>by
  have hk:=ZM e.Kids; have hz:=Zs6 e; have hl:=h.k
  rw [ZjT,Zq6]
  refine Zcl e.Kids (fun l s=>some (sumW Zq5 l s)) (by omega) 1 (fun self s i x r hx hi mem e'=>?_) (fun self s=>?_)
  ·have ih:=ZjL L m x (h.Kids.2 x mem) (by have:=Fg mem; omega) (by omega)
   rw [MC]; simp only [Zk,Zc,cond_true,cond_false,Zg,ZA,Za,Zp,condC,Zj,Zi,Zm,ZO,ZY,ZH,hi,hx,ih,wrap_succ hi (by omega),e',sumW]
  ·rw [MC]; simp only [Zk,Zc,cond_true,cond_false,Zg,ZA,Za,Zp,condC,Zj,Zi,Zm,ZO,ZY,ZH,sumW]
theorem ZjN (L:Nat):∀ (m:Nat) (e:Zw),Yj e→SizeOf.sizeOf e≤m→m≤L→Ou L m (e,())=some (Zq5 e)
 | 0,e,h,hs,_=>absurd hs (by have:=NP e; omega)
 | m + 1,e,h,hs,hm=>by
  have hk:=ZM e.Kids; have hz:=Zs6 e; have hl:=h.k
  rw [ZlZ,Zq6]
  refine Zcl e.Kids (fun l s=>some (sumW Zq5 l s)) (by omega) 1 (fun self s i x r hx hi mem e'=>?_) (fun self s=>?_)
  ·have ih:=ZjN L m x (h.Kids.2 x mem) (by have:=Fg mem; omega) (by omega)
   rw [BP]; simp only [Zk,Zc,cond_true,cond_false,Zg,ZA,Za,Zp,condC,Zj,Zi,Zm,ZO,ZY,ZH,hi,hx,ih,wrap_succ hi (by omega),e',sumW]
  ·rw [BP]; simp only [Zk,Zc,cond_true,cond_false,Zg,ZA,Za,Zp,condC,Zj,Zi,Zm,ZO,ZY,ZH,sumW]
theorem ZjK (L:Nat):∀ (m:Nat) (e:Zw),Yj e→SizeOf.sizeOf e≤m→m≤L→GM L m (e,())=some (ZpM e)
 | 0,e,h,hs,_=>absurd hs (by have:=NP e; omega)
 | m + 1,e,h,hs,hm=>by
  have hk:=ZM e.Kids; have hz:=Zs6 e; have hl:=h.k
  rw [ZjS,ZqA]
  refine Zcl e.Kids (fun l s=>some (IntKind.i64.wrap (ZtJ ZpM l s + 1))) (by omega) 0 (fun self s i x r hx hi mem e'=>?_) (fun self s=>?_)
  ·have ih:=ZjK L m x (h.Kids.2 x mem) (by have:=Fg mem; omega) (by omega)
   rw [MB]; simp only [Zk,Zc,cond_true,cond_false,Zg,ZA,Za,Zp,condC,Zj,Zi,Zm,ZO,ZY,ZH,hi,hx,ih,wrap_succ hi (by omega),e',ZtJ]
  ·rw [MB]; simp only [Zk,Zc,cond_true,cond_false,Zg,ZA,Za,Zp,condC,Zj,Zi,Zm,ZO,ZY,ZH,ZtJ]
theorem ZjM (L:Nat):∀ (m:Nat) (e:Zw),Yj e→SizeOf.sizeOf e≤m→m≤L→Ot L m (e,())=some (ZpM e)
 | 0,e,h,hs,_=>absurd hs (by have:=NP e; omega)
 | m + 1,e,h,hs,hm=>by
  have hk:=ZM e.Kids; have hz:=Zs6 e; have hl:=h.k
  rw [ZlY,ZqA]
  refine Zcl e.Kids (fun l s=>some (IntKind.i64.wrap (ZtJ ZpM l s + 1))) (by omega) 0 (fun self s i x r hx hi mem e'=>?_) (fun self s=>?_)
  ·have ih:=ZjM L m x (h.Kids.2 x mem) (by have:=Fg mem; omega) (by omega)
   rw [BO]; simp only [Zk,Zc,cond_true,cond_false,Zg,ZA,Za,Zp,condC,Zj,Zi,Zm,ZO,ZY,ZH,hi,hx,ih,wrap_succ hi (by omega),e',ZtJ]
  ·rw [BO]; simp only [Zk,Zc,cond_true,cond_false,Zg,ZA,Za,Zp,condC,Zj,Zi,Zm,ZO,ZY,ZH,ZtJ]
theorem ZnV (L:Nat)(n:Int):JE L (n,())=some (Zr5 n):=ZhZ L n
theorem Zvv (L:Nat)(n:Int):I9 L (n,())=some (Zjx n):=by
 simp only [Zk,Zc,cond_true,cond_false,Zg,ZA,Za,Zp,condC,Zj,Zi,Zm,ZO,ZY,ZH,ZlR,Zjx]; simp only [Yt,X4,if_true,if_false,Bool.false_eq_true,ne_eq,decide_not,gt_iff_lt,ge_iff_le]
theorem Zxc (L:Nat)(k:Xe)(n:Int):Xx L (k,n,())=some (ZdP k.1 n):=by
 simp only [Zk,Zc,cond_true,cond_false,Zg,ZA,Za,Zp,condC,Zj,Zi,Zm,ZO,ZY,ZH,Ew,Zvv,ZdP]; simp only [Yt,X4,if_true,if_false,Bool.false_eq_true,ne_eq,decide_not,gt_iff_lt,ge_iff_le]
theorem Zxd (L:Nat)(k:Xe)(n:Int):Qs L (k,n,())=some (Zg0 k.1 n):=by
 simp only [Zk,Zc,cond_true,cond_false,Zg,ZA,Za,Zp,condC,Zj,Zi,Zm,ZO,ZY,ZH,Ey,ZnV,Zg0]
theorem ZrP (L:Nat)(k:Xe)(n:Int):QI L (k,n,())=some ((ZsE k.1 n).1,(ZsE k.1 n).2.1,(ZsE k.1 n).2.2,()):=by
 simp only [Zk,Zc,cond_true,cond_false,Zg,ZA,Za,Zp,condC,Zj,Zi,Zm,ZO,ZY,ZH,BM,ZnV,ZsE]
 cases decide (n=2) <;> cases decide (n=25) <;> cases decide (n=26) <;> cases Zr5 n <;> cases k.1 <;> rfl
theorem Z1H (L:Nat)(n:Int):P8 L (n,())=some (inB n):=Zuy L n
theorem ZzL (L:Nat)(k:Xe)(e:Zw)(h:Yj e)(hL:SizeOf.sizeOf e≤L):XM L (k,e,())=some (Zcn k.1 e):=by
 have hn:=Xc L e.Name h.nl (by have:=ZM e.Name; have:=Zs6 e; omega)
 simp only [Zk,Zc,cond_true,cond_false,Zg,ZA,Za,Zp,condC,Zj,Zi,Zm,ZO,ZY,ZH,FC,Zxc,Zvv,Zxd,ZrP,Z1H,hn,Zcn]; simp only [Yt,X4,if_true,if_false,Bool.false_eq_true,ne_eq,decide_not,gt_iff_lt,ge_iff_le,Bool.or_assoc]
theorem Zob (L:Nat)(k:Xe):∀ (m:Nat) (e:Zw),Yj e→SizeOf.sizeOf e≤m→m≤L→Xd L m (k,e,())=some (JV k.1 e)
 | 0,e,h,hs,_=>absurd hs (by have:=NP e; omega)
 | m + 1,e,h,hs,hm=>by
  have hk:=ZM e.Kids; have hz:=Zs6 e; have hl:=h.k
  have lp:Zx (QV m k e L) L (0,())=some (Yl (JV k.1) e.Kids):=by
   refine Fh e.Kids (fun l=>some (Yl (JV k.1) l)) (by omega) (fun self i x r hx hi mem e'=>?_) (fun self=>?_)
   ·have ih:=Zob L k m x (h.Kids.2 x mem) (by have:=Fg mem; omega) (by omega)
    rw [QV]; simp only [Zk,Zc,cond_true,cond_false,Zg,ZA,Za,Zp,condC,Zj,Zi,Zm,ZO,ZY,ZH,hi,hx,ih,wrap_succ hi (by omega),e',Yl]; simp only [Yt,X4,if_true,if_false,Bool.false_eq_true,ne_eq,decide_not,gt_iff_lt,ge_iff_le]
   ·rw [QV]; simp only [Zk,Zc,cond_true,cond_false,Zg,ZA,Za,Zp,condC,Zj,Zi,Zm,ZO,ZY,ZH,Yl]
  rw [Ez,ZdU,lp,ZzL L k e h (by omega)]
  simp only [Zk,Zc,cond_true,cond_false,Zg,ZA,Za,Zp,condC,Zj,Zi,Zm,ZO,ZY,ZH]; simp only [Yt,X4,if_true,if_false,Bool.false_eq_true,ne_eq,decide_not,gt_iff_lt,ge_iff_le]
theorem ZnS (L:Nat)(k:Xe)(e:Zw)(h:Yj e)(hL:SizeOf.sizeOf e≤L):Qr L (k,e,())=some (Q8 k.1 e):=by
 simp only [Zk,Zc,cond_true,cond_false,Zg,ZA,Za,Zp,condC,Zj,Zi,Zm,ZO,ZY,ZH,Eu,show DN L (e,())=_ from ZjL L L e h hL (Nat.le_refl _),show DL L (e,())=_ from ZjK L L e h hL (Nat.le_refl _),show VX L (k,e,())=_ from Zob L k L e h hL (Nat.le_refl _),Q8]; simp only [Yt,X4,if_true,if_false,Bool.false_eq_true,ne_eq,decide_not,gt_iff_lt,ge_iff_le]
theorem ZlC (L:Nat)(e:Zw)(h:Yj e)(hL:SizeOf.sizeOf e≤L):Qz L (e,())=some (Q8 true e):=by
 simp only [Zk,Zc,cond_true,cond_false,Zg,ZA,Za,Zp,condC,Zj,Zi,Zm,ZO,ZY,ZH,Zcp,ZnS L _ e h hL]
theorem ZhQ (L:Nat)(e:Zw)(h:Yj e)(hL:SizeOf.sizeOf e≤L):UY L (e,())=some (Q8 false e):=by
 simp only [Zk,Zc,cond_true,cond_false,Zg,ZA,Za,Zp,condC,Zj,Zi,Zm,ZO,ZY,ZH,ZjR,ZnS L _ e h hL]
theorem Zxg (L:Nat)(n:Int):P9 L (n,())=some (inB n):=Zuz L n
theorem ZrS (L:Nat)(n:Int):Ko L (n,())=some (Zr5 n):=Zka L n
theorem ZwZ (L:Nat)(n:Int):Ls L (n,())=some (Zdv n):=by
 simp only [Zk,Zc,cond_true,cond_false,Zg,ZA,Za,Zp,condC,Zj,Zi,Zm,ZO,ZY,ZH,ZlW,Zdv]; simp only [Yt,X4,if_true,if_false,Bool.false_eq_true,ne_eq,decide_not,gt_iff_lt,ge_iff_le]
theorem ZzK (L:Nat)(n:Int):PD L (n,())=some (ZtM n):=by
 simp only [Zk,Zc,cond_true,cond_false,Zg,ZA,Za,Zp,condC,Zj,Zi,Zm,ZO,ZY,ZH,Zpl,ZtM]; simp only [Yt,X4,if_true,if_false,Bool.false_eq_true,ne_eq,decide_not,gt_iff_lt,ge_iff_le]
theorem Zyp (a b d:Bool)(n r:Int):(if a=true then 1 else if b=true then 2 else if (d && !decide (n=0))=true then n else r) =
  if (!decide ((if a=true then 1 else if b=true then 2 else if (d && !decide (n=0))=true then n else 0)=0))=true then (if a=true then 1 else if b=true then 2 else if (d && !decide (n=0))=true then n else 0) else r:=by
 cases a <;> cases b <;> cases d <;> by_cases h:n=0 <;> simp [h]
theorem Zod (L:Nat)(c:Bool)(h1:100≤L):∀ (m:Nat) (e:Zw),Yj e→SizeOf.sizeOf e≤m→m≤L→LP L m (e,c,())=some (JV c e)
 | 0,e,h,hs,_=>absurd hs (by have:=NP e; omega)
 | m + 1,e,h,hs,hm=>by
  have hk:=ZM e.Kids; have hz:=Zs6 e; have hl:=h.k
  have lp:Zx (MH m e c L) L (0,())=some (Yl (JV c) e.Kids):=by
   refine Fh e.Kids (fun l=>some (Yl (JV c) l)) (by omega) (fun self i x r hx hi mem e'=>?_) (fun self=>?_)
   ·have ih:=Zod L c h1 m x (h.Kids.2 x mem) (by have:=Fg mem; omega) (by omega)
    rw [MH]; simp only [Zk,Zc,cond_true,cond_false,Zg,ZA,Za,Zp,condC,Zj,Zi,Zm,ZO,ZY,ZH,hi,hx,ih,wrap_succ hi (by omega),e',Yl]; simp only [Yt,X4,if_true,if_false,Bool.false_eq_true,ne_eq,decide_not,gt_iff_lt,ge_iff_le]
   ·rw [MH]; simp only [Zk,Zc,cond_true,cond_false,Zg,ZA,Za,Zp,condC,Zj,Zi,Zm,ZO,ZY,ZH,Yl]
  have hn:=Ui L e.Name h.nl (by have:=ZM e.Name; omega) h1
  rw [← Zr4]
  simp only [Zk,Zc,cond_true,cond_false,Zg,ZA,Za,Zp,condC,Zj,Zi,Zm,ZO,ZY,ZH,Zpm,lp,ZwZ,ZrS,Zxg,ZzK,hn,ZoL]; simp only [Yt,X4,if_true,if_false,Bool.false_eq_true,ne_eq,decide_not,gt_iff_lt,ge_iff_le,Bool.or_assoc]
  exact congrArg some (Zyp _ _ _ _ _)
theorem ZnW (L:Nat)(c:Bool)(h1:100≤L)(e:Zw)(h:Yj e)(hL:SizeOf.sizeOf e≤L):IA L (e,c,())=some (Q8 c e):=by
 simp only [Zk,Zc,cond_true,cond_false,Zg,ZA,Za,Zp,condC,Zj,Zi,Zm,ZO,ZY,ZH,Zma,show Ae L (e,())=_ from ZjN L L e h hL (Nat.le_refl _),show Ad L (e,())=_ from ZjM L L e h hL (Nat.le_refl _),show ZaW L (e,c,())=_ from Zod L c h1 L e h hL (Nat.le_refl _),Q8]; simp only [Yt,X4,if_true,if_false,Bool.false_eq_true,ne_eq,decide_not,gt_iff_lt,ge_iff_le]
theorem ZjH (L:Nat)(h1:100≤L)(e:Zw)(h:Yj e)(hL:SizeOf.sizeOf e≤L):JH L (e,())=some (Q8 true e):=by
 simp only [Zk,Zc,cond_true,cond_false,Zg,ZA,Za,Zp,condC,Zj,Zi,Zm,ZO,ZY,ZH,Zem,ZnW L _ h1 e h hL]
theorem ZhR (L:Nat)(h1:100≤L)(e:Zw)(h:Yj e)(hL:SizeOf.sizeOf e≤L):YY L (e,())=some (Q8 false e):=by
 simp only [Zk,Zc,cond_true,cond_false,Zg,ZA,Za,Zp,condC,Zj,Zi,Zm,ZO,ZY,ZH,ZlX,ZnW L _ h1 e h hL]
theorem ZnQ (L:Nat)(a b:List Int)(h:Len a)(hL:a.length < L):YM L (a,b,())=some (decide (a=b)):=by
 rw [OW]
 by_cases hl:a.length=b.length
 ·rw [Zf5 a b hl (fun l m=>some (decide (l=m))) hL (fun self i x y r r' hx hy hi _ e=>by
   rw [QO]; simp only [Zk,Zc,cond_true,cond_false,Zg,ZA,Za,Zp,condC,Zj,Zi,Zm,ZO,ZY,ZH,hi,hx,hy,wrap_succ hi (by omega),e,List.cons.injEq,Bool.decide_and]; cases decide (x=y) <;> rfl) (fun self=>by rw [QO]; simp only [Zk,Zc,cond_true,cond_false,Zg,ZA,Za,Zp,condC,Zj,Zi,Zm,ZO,ZY,ZH,decide_true])]
  rw [ZH,show decide ((a.length:Int)=b.length)=true by simp only [decide_eq_true_eq]; omega]; rfl
 ·rw [ZH,show decide ((a.length:Int)=b.length)=false by simp only [decide_eq_false_iff_not]; omega]
  have:a≠b:=fun e=>hl (by rw [e])
  simp [this]
theorem Zg9 (L:Nat)(a b:List Int)(h:Len a)(hL:a.length < L):VI L (a,b,())=some (decide (a=b)):=by
 rw [Zf9]
 by_cases hl:a.length=b.length
 ·rw [Zf5 a b hl (fun l m=>some (decide (l=m))) hL (fun self i x y r r' hx hy hi _ e=>by
   rw [Ia]; simp only [Zk,Zc,cond_true,cond_false,Zg,ZA,Za,Zp,condC,Zj,Zi,Zm,ZO,ZY,ZH,hi,hx,hy,wrap_succ hi (by omega),e,List.cons.injEq,Bool.decide_and]; cases decide (x=y) <;> rfl) (fun self=>by rw [Ia]; simp only [Zk,Zc,cond_true,cond_false,Zg,ZA,Za,Zp,condC,Zj,Zi,Zm,ZO,ZY,ZH,decide_true])]
  rw [ZH,show decide ((a.length:Int)=b.length)=true by simp only [decide_eq_true_eq]; omega]; rfl
 ·rw [ZH,show decide ((a.length:Int)=b.length)=false by simp only [decide_eq_false_iff_not]; omega]
  have:a≠b:=fun e=>hl (by rw [e])
  simp [this]
theorem ZhP (L:Nat)(a b:Wj)(h:JQ a)(hL:SizeOf.sizeOf a≤L):VY L (a,b,())=some (ZqC a b):=by
 have h1:=ZM a.Values; have h2:=ZM a.Weights; have h3:=ZuH a
 simp only [Zk,Zc,cond_true,cond_false,Zg,ZA,Za,Zp,condC,Zj,Zi,Zm,ZO,ZY,ZH,ZlQ,ZnQ L a.Values _ h.v (by omega),ZnQ L a.Weights _ h.w (by omega),ZqC]
theorem Zc7 (L:Nat)(a b:Wj)(h:JQ a)(hL:SizeOf.sizeOf a≤L):Un L (a,b,())=some (ZqC a b):=by
 have h1:=ZM a.Values; have h2:=ZM a.Weights; have h3:=ZuH a
 simp only [Zk,Zc,cond_true,cond_false,Zg,ZA,Za,Zp,condC,Zj,Zi,Zm,ZO,ZY,ZH,Zpi,Zg9 L a.Values _ h.v (by omega),Zg9 L a.Weights _ h.w (by omega),ZqC]
theorem ZxO {α β:Type}(a:List α)(b:List β):(a.length=b.length∧decide ((a.length:Int)=(b.length:Int))=true)∨(a.length≠b.length∧decide ((a.length:Int)=(b.length:Int))=false):=by
 by_cases h:a.length=b.length
 ·exact .inl ⟨h,by simp only [decide_eq_true_eq]; omega⟩
 ·exact .inr ⟨h,by simp only [decide_eq_false_iff_not]; omega⟩
theorem Zoa (L:Nat):∀ (m:Nat) (a b:Zw),Yj a→SizeOf.sizeOf a≤m→m≤L→Oq L m (a,b,())=some (FV a b)
 | 0,e,_,h,hs,_=>absurd hs (by have:=NP e; omega)
 | m + 1,e,b,h,hs,hm=>by
  have hk:=ZM e.Kids; have hz:=Zs6 e; have hl:=h.k
  rw [ZcF]
  rcases ZxO e.Kids b.Kids with ⟨hl1,hl2⟩ | ⟨hl1,hl2⟩
  ·have lp:Zx (IR m e b L) L (0,())=some (all2 FV e.Kids b.Kids):=by
    refine Zf5 e.Kids b.Kids hl1 (fun l l'=>some (all2 FV l l')) (by omega) (fun self i x y r r' hx hy hi mem e'=>?_) (fun self=>?_)
    ·have ih:=Zoa L m x y (h.Kids.2 x mem) (by have:=Fg mem; omega) (by omega)
     rw [IR]; simp only [Zk,Zc,cond_true,cond_false,Zg,ZA,Za,Zp,condC,Zj,Zi,Zm,ZO,ZY,ZH,hi,hx,hy,ih,wrap_succ hi (by omega),e',all2]; simp only [Yt,X4,if_true,if_false,Bool.false_eq_true,ne_eq,decide_not,gt_iff_lt,ge_iff_le]
    ·rw [IR]; simp only [Zk,Zc,cond_true,cond_false,Zg,ZA,Za,Zp,condC,Zj,Zi,Zm,ZO,ZY,ZH,all2]
   simp only [Zk,Zc,cond_true,cond_false,Zg,ZA,Za,Zp,condC,Zj,Zi,Zm,ZO,ZY,ZH,Zei,lp,Zlp,hl2]; simp only [Yt,X4,if_true,if_false,Bool.false_eq_true,ne_eq,decide_not,gt_iff_lt,ge_iff_le,hl2]
  ·simp only [Zk,Zc,cond_true,cond_false,Zg,ZA,Za,Zp,condC,Zj,Zi,Zm,ZO,ZY,ZH,Zei,Zlp,hl2,Bool.not_false,Bool.or_true]; simp only [Yt,X4,if_true,if_false,Bool.false_eq_true,ne_eq,decide_not,gt_iff_lt,ge_iff_le,hl2,Bool.not_false,Bool.or_true]
theorem ZrM (L:Nat)(a b:Zw)(h:Yj a)(hL:SizeOf.sizeOf a≤L):Lp L (a,b,())=some (FV a b):=Zoa L L a b h hL (Nat.le_refl _)
end Go.Proofs.YtgjcjbhhhlelnaaGreatDoor
end
