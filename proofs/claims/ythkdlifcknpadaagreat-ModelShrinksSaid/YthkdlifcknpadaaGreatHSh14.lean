import Derived.Test.YthkdlifcknpadaaGreatHSh13
set_option linter.all false
noncomputable section
namespace Go.Proofs.YthkdlifcknpadaaGreat
open Go Go.Proofs.YthkdlifcknpadaaGreat.Abs Go.Proofs.YthkdlifcknpadaaGreat.Tl
set_option maxRecDepth 100000
set_option maxHeartbeats 0
def Ie (L:Nat)(x:Zb×PUnit):Option ((List (List (List UInt8)))):=fT [] L EE [.rnd [.slot 4 (.int .i64),.cell 1 0 (.own 1 .str),.cell 1 1 (.own 1 .str),.cell 1 2 (.own 1 .str),.cell 1 3 (.own 1 .str),.cell 1 4 (.lst 1 .str),.cell 1 5 (.lst 1 .str),.cell 1 6 (.lst 1 .str),.cell 1 7 (.lst 1 .str),.cell 1 8 (.lst 1 .str),.cell 1 9 (.own 1 .str)],.rnd [.slot 5 (.int .i64),.cell 1 0 (.own 1 .str),.cell 1 1 (.own 1 .str),.cell 1 2 (.own 1 .str),.cell 1 3 (.own 1 .str),.cell 1 4 (.lst 1 .str),.cell 1 5 (.lst 1 .str),.cell 1 6 (.lst 1 .str),.cell 1 7 (.lst 1 .str),.cell 1 8 (.lst 1 .str),.cell 1 9 (.own 1 .str)],.rnd [.slot 6 (.int .i64),.cell 1 0 (.own 1 .str),.cell 1 1 (.own 1 .str),.cell 1 2 (.own 1 .str),.cell 1 3 (.own 1 .str),.cell 1 4 (.lst 1 .str),.cell 1 5 (.lst 1 .str),.cell 1 6 (.lst 1 .str),.cell 1 7 (.lst 1 .str),.cell 1 8 (.lst 1 .str),.cell 1 9 (.own 1 .str)],.rnd [.slot 7 (.int .i64),.cell 1 0 (.own 1 .str),.cell 1 1 (.own 1 .str),.cell 1 2 (.own 1 .str),.cell 1 3 (.own 1 .str),.cell 1 4 (.lst 1 .str),.cell 1 5 (.lst 1 .str),.cell 1 6 (.lst 1 .str),.cell 1 7 (.lst 1 .str),.cell 1 8 (.lst 1 .str),.cell 1 9 (.own 1 .str)],.rnd [.slot 8 (.int .i64),.cell 1 0 (.own 1 .str),.cell 1 1 (.own 1 .str),.cell 1 2 (.own 1 .str),.cell 1 3 (.own 1 .str),.cell 1 4 (.lst 1 .str),.cell 1 5 (.lst 1 .str),.cell 1 6 (.lst 1 .str),.cell 1 7 (.lst 1 .str),.cell 1 8 (.lst 1 .str),.cell 1 9 (.own 1 .str)]] (.one (.lst 1 (.lst 1 .str))) [.row 14] x
def H6 (L:Nat):Sum tT:=mU 9 [.row 14] (.one (.lst 1 (.lst 1 .str))) (Ie L)
theorem Zgl:SX H6:=fun h=>sT h Ym rfl (by kernel_rfl) fun _=>rfl
def O5:Zb→(Int×List (List UInt8)×List (List UInt8)×List (List UInt8)×List (List UInt8)×List (List UInt8)×List (List UInt8)×List (List UInt8)×List (List UInt8)×List (List UInt8)×List (List UInt8)×PUnit→Option (List (List (List UInt8))))→Int×List (List UInt8)×List (List UInt8)×List (List UInt8)×List (List UInt8)×List (List UInt8)×List (List UInt8)×List (List UInt8)×List (List UInt8)×List (List UInt8)×List (List UInt8)×PUnit→Option (List (List (List UInt8))):=fun (x0:Zb) (self:Int×List (List UInt8)×List (List UInt8)×List (List UInt8)×List (List UInt8)×List (List UInt8)×List (List UInt8)×List (List UInt8)×List (List UInt8)×List (List UInt8)×List (List UInt8)×PUnit→Option (List (List (List UInt8)))) (acc:Int×List (List UInt8)×List (List UInt8)×List (List UInt8)×List (List UInt8)×List (List UInt8)×List (List UInt8)×List (List UInt8)×List (List UInt8)×List (List UInt8)×List (List UInt8)×PUnit)=>bif decide (acc.1 < (↑x0.11.length:Int)) then bT (YH x0.11 acc.1) fun y=>bT (apT 16 acc.2.2.2.2.2.2.2.2.2.2.1 [y.1]) fun y=>self (Go.IntKind.i64.wrap (acc.1 + 1),acc.2.1,acc.2.2.1,acc.2.2.2.1,acc.2.2.2.2.1,acc.2.2.2.2.2.1,acc.2.2.2.2.2.2.1,acc.2.2.2.2.2.2.2.1,acc.2.2.2.2.2.2.2.2.1,acc.2.2.2.2.2.2.2.2.2.1,y,()) else some [acc.2.1,acc.2.2.1,acc.2.2.2.1,acc.2.2.2.2.1,acc.2.2.2.2.2.1,acc.2.2.2.2.2.2.1,acc.2.2.2.2.2.2.2.1,acc.2.2.2.2.2.2.2.2.1,acc.2.2.2.2.2.2.2.2.2.1,acc.2.2.2.2.2.2.2.2.2.2.1]
def O6:Zb→Nat→(Int×List (List UInt8)×List (List UInt8)×List (List UInt8)×List (List UInt8)×List (List UInt8)×List (List UInt8)×List (List UInt8)×List (List UInt8)×List (List UInt8)×List (List UInt8)×PUnit→Option (List (List (List UInt8))))→Int×List (List UInt8)×List (List UInt8)×List (List UInt8)×List (List UInt8)×List (List UInt8)×List (List UInt8)×List (List UInt8)×List (List UInt8)×List (List UInt8)×List (List UInt8)×PUnit→Option (List (List (List UInt8))):=fun (x0:Zb) (L:Nat) (self:Int×List (List UInt8)×List (List UInt8)×List (List UInt8)×List (List UInt8)×List (List UInt8)×List (List UInt8)×List (List UInt8)×List (List UInt8)×List (List UInt8)×List (List UInt8)×PUnit→Option (List (List (List UInt8)))) (acc:Int×List (List UInt8)×List (List UInt8)×List (List UInt8)×List (List UInt8)×List (List UInt8)×List (List UInt8)×List (List UInt8)×List (List UInt8)×List (List UInt8)×List (List UInt8)×PUnit)=>bif decide (acc.1 < (↑x0.5.length:Int)) then bT (YH x0.5 acc.1) fun y=>bT (apT 16 acc.2.2.2.2.1 [y.1]) fun y=>self (Go.IntKind.i64.wrap (acc.1 + 1),acc.2.1,acc.2.2.1,acc.2.2.2.1,y,acc.2.2.2.2.2.1,acc.2.2.2.2.2.2.1,acc.2.2.2.2.2.2.2.1,acc.2.2.2.2.2.2.2.2.1,acc.2.2.2.2.2.2.2.2.2.1,acc.2.2.2.2.2.2.2.2.2.2.1,()) else Z9 (O5 x0) L (0,acc.2.1,acc.2.2.1,acc.2.2.2.1,acc.2.2.2.2.1,x0.6,x0.7,x0.8,x0.9,x0.10,acc.2.2.2.2.2.2.2.2.2.2.1,())
def O7:Zb→Nat→(Int×List (List UInt8)×List (List UInt8)×List (List UInt8)×List (List UInt8)×List (List UInt8)×List (List UInt8)×List (List UInt8)×List (List UInt8)×List (List UInt8)×List (List UInt8)×PUnit→Option (List (List (List UInt8))))→Int×List (List UInt8)×List (List UInt8)×List (List UInt8)×List (List UInt8)×List (List UInt8)×List (List UInt8)×List (List UInt8)×List (List UInt8)×List (List UInt8)×List (List UInt8)×PUnit→Option (List (List (List UInt8))):=fun (x0:Zb) (L:Nat) (self:Int×List (List UInt8)×List (List UInt8)×List (List UInt8)×List (List UInt8)×List (List UInt8)×List (List UInt8)×List (List UInt8)×List (List UInt8)×List (List UInt8)×List (List UInt8)×PUnit→Option (List (List (List UInt8)))) (acc:Int×List (List UInt8)×List (List UInt8)×List (List UInt8)×List (List UInt8)×List (List UInt8)×List (List UInt8)×List (List UInt8)×List (List UInt8)×List (List UInt8)×List (List UInt8)×PUnit)=>bif decide (acc.1 < (↑x0.4.length:Int)) then bT (YH x0.4 acc.1) fun y=>bT (apT 16 acc.2.2.2.1 [y.1]) fun y=>self (Go.IntKind.i64.wrap (acc.1 + 1),acc.2.1,acc.2.2.1,y,acc.2.2.2.2.1,acc.2.2.2.2.2.1,acc.2.2.2.2.2.2.1,acc.2.2.2.2.2.2.2.1,acc.2.2.2.2.2.2.2.2.1,acc.2.2.2.2.2.2.2.2.2.1,acc.2.2.2.2.2.2.2.2.2.2.1,()) else Z9 (O6 x0 L) L (0,acc.2.1,acc.2.2.1,acc.2.2.2.1,acc.2.2.2.2.1,acc.2.2.2.2.2.1,acc.2.2.2.2.2.2.1,acc.2.2.2.2.2.2.2.1,acc.2.2.2.2.2.2.2.2.1,acc.2.2.2.2.2.2.2.2.2.1,acc.2.2.2.2.2.2.2.2.2.2.1,())
def O8:Zb→Nat→(Int×List (List UInt8)×List (List UInt8)×List (List UInt8)×List (List UInt8)×List (List UInt8)×List (List UInt8)×List (List UInt8)×List (List UInt8)×List (List UInt8)×List (List UInt8)×PUnit→Option (List (List (List UInt8))))→Int×List (List UInt8)×List (List UInt8)×List (List UInt8)×List (List UInt8)×List (List UInt8)×List (List UInt8)×List (List UInt8)×List (List UInt8)×List (List UInt8)×List (List UInt8)×PUnit→Option (List (List (List UInt8))):=fun (x0:Zb) (L:Nat) (self:Int×List (List UInt8)×List (List UInt8)×List (List UInt8)×List (List UInt8)×List (List UInt8)×List (List UInt8)×List (List UInt8)×List (List UInt8)×List (List UInt8)×List (List UInt8)×PUnit→Option (List (List (List UInt8)))) (acc:Int×List (List UInt8)×List (List UInt8)×List (List UInt8)×List (List UInt8)×List (List UInt8)×List (List UInt8)×List (List UInt8)×List (List UInt8)×List (List UInt8)×List (List UInt8)×PUnit)=>bif decide (acc.1 < (↑x0.3.length:Int)) then bT (YH x0.3 acc.1) fun y=>bT (apT 16 acc.2.2.1 [y.1]) fun y=>self (Go.IntKind.i64.wrap (acc.1 + 1),acc.2.1,y,acc.2.2.2.1,acc.2.2.2.2.1,acc.2.2.2.2.2.1,acc.2.2.2.2.2.2.1,acc.2.2.2.2.2.2.2.1,acc.2.2.2.2.2.2.2.2.1,acc.2.2.2.2.2.2.2.2.2.1,acc.2.2.2.2.2.2.2.2.2.2.1,()) else Z9 (O7 x0 L) L (0,acc.2.1,acc.2.2.1,acc.2.2.2.1,acc.2.2.2.2.1,acc.2.2.2.2.2.1,acc.2.2.2.2.2.2.1,acc.2.2.2.2.2.2.2.1,acc.2.2.2.2.2.2.2.2.1,acc.2.2.2.2.2.2.2.2.2.1,acc.2.2.2.2.2.2.2.2.2.2.1,())
def O9:Zb→Nat→(Int×List (List UInt8)×List (List UInt8)×List (List UInt8)×List (List UInt8)×List (List UInt8)×List (List UInt8)×List (List UInt8)×List (List UInt8)×List (List UInt8)×List (List UInt8)×PUnit→Option (List (List (List UInt8))))→Int×List (List UInt8)×List (List UInt8)×List (List UInt8)×List (List UInt8)×List (List UInt8)×List (List UInt8)×List (List UInt8)×List (List UInt8)×List (List UInt8)×List (List UInt8)×PUnit→Option (List (List (List UInt8))):=fun (x0:Zb) (L:Nat) (self:Int×List (List UInt8)×List (List UInt8)×List (List UInt8)×List (List UInt8)×List (List UInt8)×List (List UInt8)×List (List UInt8)×List (List UInt8)×List (List UInt8)×List (List UInt8)×PUnit→Option (List (List (List UInt8)))) (acc:Int×List (List UInt8)×List (List UInt8)×List (List UInt8)×List (List UInt8)×List (List UInt8)×List (List UInt8)×List (List UInt8)×List (List UInt8)×List (List UInt8)×List (List UInt8)×PUnit)=>bif decide (acc.1 < (↑x0.2.length:Int)) then bT (YH x0.2 acc.1) fun y=>bT (apT 16 acc.2.1 [y.1]) fun y=>self (Go.IntKind.i64.wrap (acc.1 + 1),y,acc.2.2.1,acc.2.2.2.1,acc.2.2.2.2.1,acc.2.2.2.2.2.1,acc.2.2.2.2.2.2.1,acc.2.2.2.2.2.2.2.1,acc.2.2.2.2.2.2.2.2.1,acc.2.2.2.2.2.2.2.2.2.1,acc.2.2.2.2.2.2.2.2.2.2.1,()) else Z9 (O8 x0 L) L (0,acc.2.1,acc.2.2.1,acc.2.2.2.1,acc.2.2.2.2.1,acc.2.2.2.2.2.1,acc.2.2.2.2.2.2.1,acc.2.2.2.2.2.2.2.1,acc.2.2.2.2.2.2.2.2.1,acc.2.2.2.2.2.2.2.2.2.1,acc.2.2.2.2.2.2.2.2.2.2.1,())
theorem ZfW (L:Nat)(x0:Zb):Ie L (x0,())=Z9 (O9 x0 L) L (0,[],[],[],[],[],[],[],[],[],[],()):=by kernel_rfl
def H7 (L:Nat)(x:ZH×PUnit):Option Bool:=fT [H6 L] L RZ [.rnd [.slot 3 (.int .i64),.slot 4 (.int .i64)],.rnd [.slot 3 (.int .i64),.slot 6 (.int .i64)]] (.one .bool) [.row 16] x
def ZcS (L:Nat):Sum tT:=mU 5 [.row 16] (.one .bool) (H7 L)
theorem ZcD:SX ZcS:=fun h=>sT h (Zl (Zgl h) Ym) rfl (by kernel_rfl) fun _=>rfl
def KU:ZH→(Int×Int×PUnit→Option Bool)→Int×Int×PUnit→List (List (List UInt8))→(Int×Int×PUnit→Option Bool)→Int×Int×PUnit→Option Bool:=fun x0 self acc y self_1 acc_1=>bif decide (acc_1.2.1 < (↑y.length:Int)) then bT (YH y acc_1.2.1) fun y=>self_1 (Go.IntKind.i64.wrap (acc_1.1 + (↑y.length:Int)),Go.IntKind.i64.wrap (acc_1.2.1 + 1),()) else bT (YH x0.3 acc.2.1) fun y=>bT (YH x0.3 acc.2.1) fun y_1=>self (Go.IntKind.i64.wrap (acc_1.1 + Go.IntKind.i64.wrap ((↑y.12.length:Int) + (↑y_1.13.length:Int))),Go.IntKind.i64.wrap (acc.2.1 + 1),())
def Jp:ZH→Nat→(Int×Int×PUnit→Option Bool)→Int×Int×PUnit→Option Bool:=fun x0 L self acc=>bif decide (acc.2.1 < (↑x0.3.length:Int)) then bT (YH x0.3 acc.2.1) fun y=>bT (Ie L (y,())) fun (y:List (List (List UInt8)))=>Z9 (KU x0 self acc y) L (acc.1,0,()) else some (decide (acc.1≤120))
theorem Zcy (L:Nat)(x0:ZH):H7 L (x0,())=bif decide ((↑x0.3.length:Int) > 20) || decide ((↑x0.2.length:Int) > 40) || decide ((↑x0.4.length:Int) > 40) then some false else Z9 (Jp x0 L) L (0,0,()):=by kernel_rfl
def ZA (L:Nat)(x:Int×Int×Int×PUnit):Option Bool:=fT [] L MJ [] (.one .bool) [.int .i64,.int .i64,.int .i64] x
def Qq (L:Nat):Sum tT:=mU 53 [.int .i64,.int .i64,.int .i64] (.one .bool) (ZA L)
theorem Xb:SX Qq:=fun h=>sT h Ym rfl (by kernel_rfl) fun _=>rfl
theorem Zas (L:Nat)(x0:Int)(x1:Int)(x2:Int):ZA L (x0,x1,x2,())=some (decide (x0 ≥ x1) && decide (x0≤x2)):=by kernel_rfl
def ZbN:List (Inl tT):=[⟨33,Y9,[.rnd [.slot 8 (.int .i64)]],.one (.int .i64),[]⟩,⟨34,TW,[],.one (.bool),[]⟩]
def JH (L:Nat)(x:ZH×(List UInt8)×PUnit):Option Int:=fI [] L ZbN PT [] (.one (.int .i64)) [.row 16,.str] x
def NS (L:Nat):Sum tT:=mU 12 [.row 16,.str] (.one (.int .i64)) (JH L)
theorem Ze3:SX NS:=fun h=>sI h Ym (Zl ⟨h.T _ _ rfl,by kernel_rfl⟩ (Zl ⟨h.T _ _ rfl,by kernel_rfl⟩ Ym)) rfl (by kernel_rfl) fun _=>rfl
def GX:ZH→List UInt8→(Int×PUnit→Option Int)→Int×PUnit→Option Int:=fun x0 x1 self acc=>bif decide (acc.1 < (↑x0.3.length:Int)) then bT (YH x0.3 acc.1) fun y=>bif y.1 == x1 then some acc.1 else self (Go.IntKind.i64.wrap (acc.1 + 1),()) else some (-1)
theorem Zeg (L:Nat)(x0:ZH)(x1:(List UInt8)):JH L (x0,x1,())=bT (Z9 (GX x0 x1) L (0,())) fun y=>some y:=by kernel_rfl
def Zao:List (Inl tT):=[⟨77,VO,[.rnd [.slot 16 (.int .i64),.cont 1 (.map .pstr)]],.one (.int .i64),[(3,[.cont 1 (.map .pstr)])]⟩,⟨78,IU,[],.one (.int .i64),[(4,[.cont 1 (.map .pstr)])]⟩]
def Ur (L:Nat)(x:ZH×PUnit):Option Int:=fI [Qq L,NS L] L Zao Bf [] (.one (.int .i64)) [.row 16] x
def D8 (L:Nat):Sum tT:=mU 23 [.row 16] (.one (.int .i64)) (Ur L)
theorem ZcF:SX D8:=fun h=>sI h (Zl (Xb h) (Zl (Ze3 h) Ym)) (Zl ⟨h.T _ _ rfl,by kernel_rfl⟩ (Zl ⟨h.T _ _ rfl,by kernel_rfl⟩ Ym)) rfl (by kernel_rfl) fun _=>rfl
def Jr:ZH→Nat→(Int×List (List UInt8×List UInt8)×PUnit→Option (Int×List (List UInt8×List UInt8)×PUnit))→Int×List (List UInt8×List UInt8)×PUnit→Option (Int×List (List UInt8×List UInt8)×PUnit):=fun x0 L self acc=>bif decide (acc.1 < (↑x0.4.length:Int)) then bT (YH x0.4 acc.1) fun y=>bT (bT (JH L (x0,y.1,())) fun y_1=>bT (bif decide (y_1 < 0) == false then bT (JH L (x0,y.2,())) fun y=>some (decide (y < 0)) else some true) fun y_2=>bif y_2 then some (5,acc.2.1,()) else bif y.1 == y.2 then some (1,acc.2.1,()) else bT (ZA L (y.3,1,1000000000,())) fun y_3=>bif !y_3 then some (2,acc.2.1,()) else bif hasK MK.pstr acc.2.1 (y.1,y.2) then some (4,acc.2.1,()) else some (0,Nl MK.pstr acc.2.1 (y.1,y.2),())) fun y=>bif y.1 != 0 then some (y.1,y.2.1,()) else self (Go.IntKind.i64.wrap (acc.1 + 1),y.2.1,()) else some (0,acc.2.1,())
theorem Zc1 (L:Nat)(x0:ZH):Ur L (x0,())=bT (bif decide ((↑x0.4.length:Int) > 32) then some (6,[],()) else Z9 (Jr x0 L) L (0,[],())) fun y=>some y.1:=by kernel_rfl
def TC (L:Nat)(x:Int×PUnit):Option Bool:=fT [] L Zg3 [] (.one .bool) [.int .i64] x
def Ej (L:Nat):Sum tT:=mU 121 [.int .i64] (.one .bool) (TC L)
theorem ZcH:SX Ej:=fun h=>sT h Ym rfl (by kernel_rfl) fun _=>rfl
theorem Zno (L:Nat)(x0:Int):TC L (x0,())=some (decide (x0 ≥ (-1000000000000)) && decide (x0≤1000000000000)):=by kernel_rfl
def WB (L:Nat)(x:(List (List UInt8))×(List UInt8)×PUnit):Option Int:=fT [] L QC [.rnd [.slot 8 (.int .i64)]] (.one (.int .i64)) [.lst 1 .str,.str] x
def QH (L:Nat):Sum tT:=mU 97 [.lst 1 .str,.str] (.one (.int .i64)) (WB L)
theorem JD:SX QH:=fun h=>sT h Ym rfl (by kernel_rfl) fun _=>rfl
def YY:List (List UInt8)→List UInt8→(Int×PUnit→Option Int)→Int×PUnit→Option Int:=fun x0 x1 self acc=>bif decide (acc.1 < (↑x0.length:Int)) then bT (YH x0 acc.1) fun y=>bif x1 == y then some acc.1 else self (Go.IntKind.i64.wrap (acc.1 + 1),()) else some (-1)
theorem JB (L:Nat)(x0:(List (List UInt8)))(x1:(List UInt8)):WB L (x0,x1,())=Z9 (YY x0 x1) L (0,()):=by kernel_rfl
def ZW (L:Nat)(x:(List (List UInt8))×(List UInt8)×PUnit):Option Bool:=fT [QH L] L Qg [] (.one .bool) [.lst 1 .str,.str] x
def YO (L:Nat):Sum tT:=mU 112 [.lst 1 .str,.str] (.one .bool) (ZW L)
theorem Ql:SX YO:=fun h=>sT h (Zl (JD h) Ym) rfl (by kernel_rfl) fun _=>rfl
theorem VC (L:Nat)(x0:(List (List UInt8)))(x1:(List UInt8)):ZW L (x0,x1,())=bT (WB L (x0,x1,())) fun y=>some (decide (y ≥ 0)):=by kernel_rfl
def Sv:List (Inl tT):=[⟨35,YG,[.rnd [.slot 8 (.int .i64)]],.one (.int .i64),[]⟩,⟨36,Gf,[],.one (.bool),[]⟩]
end Go.Proofs.YthkdlifcknpadaaGreat
end
noncomputable section
namespace Go.Proofs.YthkdlifcknpadaaGreat
open Go Go.Proofs.YthkdlifcknpadaaGreat.Abs Go.Proofs.YthkdlifcknpadaaGreat.Tl
set_option maxRecDepth 100000
set_option maxHeartbeats 0
def Qb (L:Nat)(x:Zb×(List UInt8)×PUnit):Option Int:=fI [] L Sv IR [] (.one (.int .i64)) [.row 14,.str] x
def UO (L:Nat):Sum tT:=mU 13 [.row 14,.str] (.one (.int .i64)) (Qb L)
theorem OE:SX UO:=fun h=>sI h Ym (Zl ⟨h.T _ _ rfl,by kernel_rfl⟩ (Zl ⟨h.T _ _ rfl,by kernel_rfl⟩ Ym)) rfl (by kernel_rfl) fun _=>rfl
def JQ:Zb→List UInt8→(Int×PUnit→Option Int)→Int×PUnit→Option Int:=fun x0 x1 self acc=>bif decide (acc.1 < (↑x0.11.length:Int)) then bT (YH x0.11 acc.1) fun y=>bif y.1 == x1 then some acc.1 else self (Go.IntKind.i64.wrap (acc.1 + 1),()) else some (-1)
theorem FI (L:Nat)(x0:Zb)(x1:(List UInt8)):Qb L (x0,x1,())=bT (Z9 (JQ x0 x1) L (0,())) fun y=>some y:=by kernel_rfl
def ZbQ:List (Inl tT):=[⟨139,Yx,[],.one (.bool),[]⟩,⟨93,Y3,[.rnd [.slot 8 (.int .i64)]],.one (.int .i64),[]⟩,⟨140,MI,[],.one (.bool),[]⟩]
def KF (L:Nat)(x:Zb×IK×PUnit):Option Int:=fI [Qq L,YO L,UO L] L ZbQ PX [] (.one (.int .i64)) [.row 14,.row 12] x
def NV (L:Nat):Sum tT:=mU 120 [.row 14,.row 12] (.one (.int .i64)) (KF L)
theorem Ze6:SX NV:=fun h=>sI h (Zl (Xb h) (Zl (Ql h) (Zl (OE h) Ym))) (Zl ⟨h.T _ _ rfl,by kernel_rfl⟩ (Zl ⟨h.T _ _ rfl,by kernel_rfl⟩ (Zl ⟨h.T _ _ rfl,by kernel_rfl⟩ Ym))) rfl (by kernel_rfl) fun _=>rfl
def X8:Zb→IK→(Int×PUnit→Option Int)→Int×PUnit→Option Int:=fun x0 x1 self acc=>bif decide (acc.1 < (↑x0.4.length:Int)) then bT (YH x0.4 acc.1) fun y=>bif y.1 == x1.3 then some acc.1 else self (Go.IntKind.i64.wrap (acc.1 + 1),()) else some (-1)
def BV:Zb→IK→(Int×PUnit→Option Int)→Int×PUnit→Option Int:=fun x0 x1 self acc=>bif decide (acc.1 < (↑x0.4.length:Int)) then bT (YH x0.4 acc.1) fun y=>bif y.1 == x1.3 then some acc.1 else self (Go.IntKind.i64.wrap (acc.1 + 1),()) else some (-1)
def BX:Zb→IK→(Int×PUnit→Option Int)→Int×PUnit→Option Int:=fun x0 x1 self acc=>bif decide (acc.1 < (↑x0.4.length:Int)) then bT (YH x0.4 acc.1) fun y=>bif y.1 == x1.3 then some acc.1 else self (Go.IntKind.i64.wrap (acc.1 + 1),()) else some (-1)
theorem Zek (L:Nat)(x0:Zb)(x1:IK):KF L (x0,x1,())=bif x1.2 == [99,114,101,97,116,101,100] then bT (Qb L (x0,x1.3,())) fun y=>bif !decide (y ≥ 0) then some 5 else bT (ZA L (x1.1,(-1000),1000,())) fun y=>bif !y || x1.1 == 0 then some 2 else some 0 else bif x1.2 == [101,110,100,101,100] then bT (Qb L (x0,x1.3,())) fun y=>bif !decide (y ≥ 0) then some 5 else bT (ZA L (x1.1,(-1000),1000,())) fun y=>bif !y || x1.1 == 0 then some 2 else some 0 else bif x1.2 == [105,110,115,105,100,101] then bT (Qb L (x0,x1.3,())) fun y=>bif !decide (y ≥ 0) then some 5 else bT (ZA L (x1.1,(-1000),1000,())) fun y=>bif !y || x1.1 == 0 then some 2 else some 0 else bif x1.2 == [115,116,111,114,101,100] then bT (bT (Z9 (X8 x0 x1) L (0,())) fun y=>some (decide (y ≥ 0))) fun y=>bif !y then some 5 else bT (ZA L (x1.1,(-1000),1000,())) fun y=>bif !y || x1.1 == 0 then some 2 else some 0 else bif x1.2 == [101,110,116,101,114,101,100] then bT (bT (Z9 (BV x0 x1) L (0,())) fun y=>some (decide (y ≥ 0))) fun y=>bif !y then some 5 else bT (ZA L (x1.1,(-1000),1000,())) fun y=>bif !y || x1.1 == 0 then some 2 else some 0 else bif x1.2 == [108,101,102,116] then bT (bT (Z9 (BX x0 x1) L (0,())) fun y=>some (decide (y ≥ 0))) fun y=>bif !y then some 5 else bT (ZA L (x1.1,(-1000),1000,())) fun y=>bif !y || x1.1 == 0 then some 2 else some 0 else bif x1.2 == [99,111,117,110,116,101,100] then bT (ZW L (x0.10,x1.3,())) fun y=>bif !y then some 5 else bT (ZA L (x1.1,(-1000),1000,())) fun y=>bif !y || x1.1 == 0 then some 2 else some 0 else some 1:=by kernel_rfl
def VH (L:Nat)(x:(List UInt8)×PUnit):Option Bool:=fT [] L Oh [] (.one .bool) [.str] x
def OU (L:Nat):Sum tT:=mU 43 [.str] (.one .bool) (VH L)
theorem Cb:SX OU:=fun h=>sT h Ym rfl (by kernel_rfl) fun _=>rfl
theorem FM (L:Nat)(x0:(List UInt8)):VH L (x0,())=bif x0 == [97,100,100] then some true else bif x0 == [97,102,116,101,114] then some true else bif x0 == [97,110,100] then some true else bif x0 == [97,116] then some true else bif x0 == [98,101,108,116] then some true else bif x0 == [98,111,111,108] then some true else bif x0 == [99,111,110,115,101,114,118,101] then some true else bif x0 == [99,111,110,115,116] then some true else bif x0 == [99,111,117,110,116] then some true else bif x0 == [99,121,99,108,101] then some true else bif x0 == [100,111,119,110] then some true else bif x0 == [100,114,97,119] then some true else bif x0 == [100,117,114] then some true else bif x0 == [101,108,115,101] then some true else bif x0 == [101,110,100] then some true else bif x0 == [101,118,101,114,121] then some true else bif x0 == [102,97,108,115,101] then some true else bif x0 == [102,97,117,108,116] then some true else bif x0 == [102,105,102,111] then some true else bif x0 == [102,114,101,101] then some true else bif x0 == [102,114,111,109] then some true else bif x0 == [103,101,111,109] then some true else bif x0 == [103,101,116] then some true else bif x0 == [104,111,108,100] then some true else bif x0 == [105,102] then some true else bif x0 == [105,110,116] then some true else bif x0 == [105,110,116,111] then some true else bif x0 == [108,101,97,115,116] then some true else bif x0 == [108,101,118,101,108] then some true else bif x0 == [108,105,102,111] then some true else bif x0 == [108,105,110,107] then some true else bif x0 == [108,111,99,97,108] then some true else bif x0 == [109,97,120] then some true else bif x0 == [109,105,110] then some true else bif x0 == [109,111,100,101,108] then some true else bif x0 == [110,111,116] then some true else bif x0 == [110,111,119] then some true else bif x0 == [111,98,115,101,114,118,101] then some true else bif x0 == [111,114] then some true else bif x0 == [112,97,114,97,109] then some true else bif x0 == [112,114,101,101,109,112,116] then some true else bif x0 == [112,114,105,111] then some true else bif x0 == [112,117,116] then some true else bif x0 == [113,117,101,117,101] then some true else bif x0 == [114,101,108,101,97,115,101] then some true else bif x0 == [114,101,115,111,117,114,99,101] then some true else bif x0 == [114,105,100,101] then some true else bif x0 == [114,111,117,116,105,110,101] then some true else bif x0 == [115,101,105,122,101] then some true else bif x0 == [115,101,110,100] then some true else bif x0 == [115,101,116] then some true else bif x0 == [115,104,105,102,116] then some true else bif x0 == [115,105,103,110,97,108] then some true else bif x0 == [115,105,116,101] then some true else bif x0 == [115,105,122,101] then some true else bif x0 == [115,112,97,119,110] then some true else bif x0 == [115,116,97,114,116] then some true else bif x0 == [115,116,111,112] then some true else bif x0 == [115,116,111,114,101] then some true else bif x0 == [115,116,114,101,97,109] then some true else bif x0 == [115,117,109] then some true else bif x0 == [116,97,98,108,101] then some true else bif x0 == [116,97,108,108,121] then some true else bif x0 == [116,105,99,107,115] then some true else bif x0 == [116,105,109,101] then some true else bif x0 == [116,114,117,101] then some true else bif x0 == [117,110,105,102,111,114,109] then some true else bif x0 == [117,110,116,105,108] then some true else bif x0 == [117,112] then some true else bif x0 == [118,97,114] then some true else bif x0 == [119,97,105,116] then some true else bif x0 == [119,97,105,116,105,110,103] then some true else bif x0 == [119,104,105,108,101] then some true else some false:=by kernel_rfl
def XW (L:Nat)(x:Int×PUnit):Option Bool:=fT [] L ML [] (.one .bool) [.int .u8] x
def Ld (L:Nat):Sum tT:=mU 42 [.int .u8] (.one .bool) (XW L)
theorem Zay:SX Ld:=fun h=>sT h Ym rfl (by kernel_rfl) fun _=>rfl
theorem Zat (L:Nat)(x0:Int):XW L (x0,())=some (decide (x0 ≥ 97) && decide (x0≤122)):=by kernel_rfl
def ZJ (L:Nat)(x:(List UInt8)×PUnit):Option Int:=fT [OU L,Ld L] L Bi [.rnd [.slot 24 (.int .i64)]] (.one (.int .i64)) [.str] x
def QO (L:Nat):Sum tT:=mU 17 [.str] (.one (.int .i64)) (ZJ L)
theorem XA:SX QO:=fun h=>sT h (Zl (Cb h) (Zl (Zay h) Ym)) rfl (by kernel_rfl) fun _=>rfl
def Jt:List UInt8→Nat→(Int×PUnit→Option Int)→Int×PUnit→Option Int:=fun x0 L self acc=>bif decide (acc.1 < (↑x0.length:Int)) then bT (YH x0 acc.1) fun y=>bT (XW L ((↑y.toNat:Int),())) fun y_1=>bif !y_1 && (decide ((↑y.toNat:Int) < 48) || decide ((↑y.toNat:Int) > 57)) && (↑y.toNat:Int) != 95 then some 3 else self (Go.IntKind.i64.wrap (acc.1 + 1),()) else some 0
theorem Zc3 (L:Nat)(x0:(List UInt8)):ZJ L (x0,())=bT (bif (x0 == [] || decide ((↑x0.length:Int) > 24)) == false then bT (YH x0 0) fun y=>bT (XW L ((↑y.toNat:Int),())) fun y=>some !y else some true) fun y=>bT (bif y == false then bT (VH L (x0,())) fun y=>some y else some true) fun y=>bif y then some 3 else Z9 (Jt x0 L) L (0,()):=by kernel_rfl
def ZbO:List (Inl tT):=[⟨116,J5,[.rnd [.slot 16 (.int .i64),.cont 1 (.map .str)]],.one (.int .i64),[(3,[.cont 1 (.map .str)])]⟩,⟨117,TY,[],.one (.int .i64),[(4,[.cont 1 (.map .str)])]⟩,⟨118,VP,[.rnd [.slot 16 (.int .i64),.cont 1 (.map .str)]],.one (.int .i64),[(5,[.cont 1 (.map .str)])]⟩,⟨119,Io,[],.one (.int .i64),[]⟩,⟨21,Wn,[],.one (.int .i64),[(5,[.cont 1 (.map .str)])]⟩]
def KD (L:Nat)(x:Zb×PUnit):Option Int:=fI [Ej L,NV L,QO L] L ZbO PV [] (.one (.int .i64)) [.row 14] x
def NT (L:Nat):Sum tT:=mU 76 [.row 14] (.one (.int .i64)) (KD L)
theorem Ze4:SX NT:=fun h=>sI h (Zl (ZcH h) (Zl (Ze6 h) (Zl (XA h) Ym))) (Zl ⟨h.T _ _ rfl,by kernel_rfl⟩ (Zl ⟨h.T _ _ rfl,by kernel_rfl⟩ (Zl ⟨h.T _ _ rfl,by kernel_rfl⟩ (Zl ⟨h.T _ _ rfl,by kernel_rfl⟩ (Zl ⟨h.T _ _ rfl,by kernel_rfl⟩ Ym))))) rfl (by kernel_rfl) fun _=>rfl
def Ue:Zb→Nat→ZcY→(Int×List (List UInt8)×PUnit→Option (Int×List (List UInt8)×PUnit))→Int×List (List UInt8)×PUnit→Option (Int×List (List UInt8)×PUnit):=fun x0 L y self acc=>bif decide (acc.1 < (↑y.2.length:Int)) then bT (YH y.2 acc.1) fun y=>bT (bT (KF L (x0,y,())) fun y=>some y) fun y=>bif y != 0 then some (y,acc.2.1,()) else self (Go.IntKind.i64.wrap (acc.1 + 1),acc.2.1,()) else some (0,acc.2.1,())
def Uf:Zb→Nat→(Int×List (List UInt8)×PUnit→Option (Int×List (List UInt8)×PUnit))→Int×List (List UInt8)×PUnit→Option (Int×List (List UInt8)×PUnit):=fun x0 L self acc=>bif decide (acc.1 < (↑x0.13.length:Int)) then bT (YH x0.13 acc.1) fun y=>bT (bT (bT (ZJ L (y.1,())) fun y_1=>bif y_1 != 0 then some (y_1,acc.2.1,()) else bif hasK MK.str acc.2.1 y.1 then some (4,acc.2.1,()) else some (0,Nl MK.str acc.2.1 y.1,())) fun y_1=>bif y_1.1 != 0 then some (y_1.1,y_1.2.1,()) else bif (↑y.2.length:Int) == 0 then some (7,y_1.2.1,()) else bT (bif decide ((↑y.2.length:Int) > 8) then some (6,y_1.2.1,()) else Z9 (Ue x0 L y) L (0,y_1.2.1,())) fun y_2=>bif y_2.1 != 0 then some (y_2.1,y_2.2.1,()) else bT (TC L (y.3,())) fun y=>bif !y then some (2,y_2.2.1,()) else some (0,y_2.2.1,())) fun y=>bif y.1 != 0 then some (y.1,y.2.1,()) else self (Go.IntKind.i64.wrap (acc.1 + 1),y.2.1,()) else some (0,acc.2.1,())
theorem Zei (L:Nat)(x0:Zb):KD L (x0,())=bT (bif decide ((↑x0.13.length:Int) > 32) then some (6,[],()) else Z9 (Uf x0 L) L (0,[],())) fun y=>some y.1:=by kernel_rfl
def Vx (L:Nat)(x:Int×Int×PUnit):Option Bool:=fT [Qq L,Ej L] L PU [] (.one .bool) [.int .i64,.int .i64] x
def KC (L:Nat):Sum tT:=mU 110 [.int .i64,.int .i64] (.one .bool) (Vx L)
theorem OG:SX KC:=fun h=>sT h (Zl (Xb h) (Zl (ZcH h) Ym)) rfl (by kernel_rfl) fun _=>rfl
theorem Zeh (L:Nat)(x0:Int)(x1:Int):Vx L (x0,x1,())=bif x0 == 1 then bT (TC L (x1,())) fun y=>some y else bif x0 == 2 then some (x1 == 0 || x1 == 1) else bif x0 == 3 then bT (ZA L (x1,0,1000000000,())) fun y=>some y else some false:=by kernel_rfl
def Us (L:Nat)(x:Zb×J3×PUnit):Option Int:=fT [Qq L,KC L,UO L] L Bh [.rnd [.slot 30 (.int .i64)]] (.one (.int .i64)) [.row 14,.row 11] x
def D9 (L:Nat):Sum tT:=mU 74 [.row 14,.row 11] (.one (.int .i64)) (Us L)
theorem ZcG:SX D9:=fun h=>sT h (Zl (Xb h) (Zl (OG h) (Zl (OE h) Ym))) rfl (by kernel_rfl) fun _=>rfl
def Js:J3→Nat→Yc→(Int×PUnit→Option Int)→Int×PUnit→Option Int:=fun x1 L y self acc=>bif decide (acc.1 < (↑x1.2.length:Int)) then bT (YH x1.2 acc.1) fun y_1=>bT (YH y.2 acc.1) fun y=>bT (Vx L (y.2,y_1,())) fun y=>bif !y then some 2 else self (Go.IntKind.i64.wrap (acc.1 + 1),()) else bT (ZA L (x1.3,0,1000000000,())) fun y=>bT (bif (!y) == false then bT (ZA L (x1.4,0,1000000000,())) fun y=>some !y else some true) fun y=>bT (bif y == false then bT (ZA L (x1.5,0,1000000000,())) fun y=>some !y else some true) fun y=>bif y || x1.4 == 0 && x1.5 != 0 then some 2 else some 0
theorem Zc2 (L:Nat)(x0:Zb)(x1:J3):Us L (x0,x1,())=bT (Qb L (x0,x1.1,())) fun y=>bif decide (y < 0) then some 5 else bT (YH x0.11 y) fun y=>bif (↑x1.2.length:Int) != (↑y.2.length:Int) then some 8 else Z9 (Js x1 L y) L (0,()):=by kernel_rfl
def Zam:List (Inl tT):=[⟨148,Qy,[],.one (.bool),[]⟩,⟨162,Xe,[.rnd [.slot 8 (.int .i64)]],.one (.int .i64),[]⟩,⟨149,IL,[],.one (.bool),[]⟩]
end Go.Proofs.YthkdlifcknpadaaGreat
end
noncomputable section
namespace Go.Proofs.YthkdlifcknpadaaGreat
open Go Go.Proofs.YthkdlifcknpadaaGreat.Abs Go.Proofs.YthkdlifcknpadaaGreat.Tl
set_option maxRecDepth 100000
set_option maxHeartbeats 0
def Y6 (L:Nat)(x:Int×Int×(List Int)×PUnit):Option Bool:=fI [] L Zam RV [] (.one .bool) [.int .i64,.int .i64,.lst 1 (.int .i64)] x
def D7 (L:Nat):Sum tT:=mU 134 [.int .i64,.int .i64,.lst 1 (.int .i64)] (.one .bool) (Y6 L)
theorem ZcC:SX D7:=fun h=>sI h Ym (Zl ⟨h.T _ _ rfl,by kernel_rfl⟩ (Zl ⟨h.T _ _ rfl,by kernel_rfl⟩ (Zl ⟨h.T _ _ rfl,by kernel_rfl⟩ Ym))) rfl (by kernel_rfl) fun _=>rfl
def Jn:Int→Int→List Int→(Int×PUnit→Option Int)→Int×PUnit→Option Int:=fun x0 x1 x2 self acc=>bif decide (acc.1 < (↑x2.length:Int)) then bT (YH x2 acc.1) fun y=>bif decide (y < x0) || decide (y > x1) then some acc.1 else self (Go.IntKind.i64.wrap (acc.1 + 1),()) else some (-1)
theorem Zcw (L:Nat)(x0:Int)(x1:Int)(x2:(List Int)):Y6 L (x0,x1,x2,())=bT (bT (Z9 (Jn x0 x1 x2) L (0,())) fun y=>some (decide (y ≥ 0))) fun y=>some !y:=by kernel_rfl
def Uo (L:Nat)(x:YV×PUnit):Option Bool:=fT [] L RU [] (.one .bool) [.row 2] x
def D6 (L:Nat):Sum tT:=mU 133 [.row 2] (.one .bool) (Uo L)
theorem ZcB:SX D6:=fun h=>sT h Ym rfl (by kernel_rfl) fun _=>rfl
theorem Zcv (L:Nat)(x0:YV):Uo L (x0,())=bif x0.1 == 1 then some (Go.IntKind.i64.wrap ((↑x0.5.length:Int) + (↑x0.6.length:Int)) == 0 && x0.3 == 0 && x0.4 == 0) else bif x0.1 == 2 then some (Go.IntKind.i64.wrap ((↑x0.5.length:Int) + (↑x0.6.length:Int)) == 0 && x0.4 == 0) else bif x0.1 == 5 then some (Go.IntKind.i64.wrap ((↑x0.5.length:Int) + (↑x0.6.length:Int)) == 0 && x0.4 == 0) else bif x0.1 == 4 then some (Go.IntKind.i64.wrap ((↑x0.5.length:Int) + (↑x0.6.length:Int)) == 0) else bif x0.1 == 3 then some (x0.2 == 0 && x0.3 == 0 && x0.4 == 0) else some false:=by kernel_rfl
def Vw (L:Nat)(x:YV×PUnit):Option Int:=fT [D7 L,D6 L] L PN [] (.one (.int .i64)) [.row 2] x
def OQ (L:Nat):Sum tT:=mU 113 [.row 2] (.one (.int .i64)) (Vw L)
theorem NG:SX OQ:=fun h=>sT h (Zl (ZcC h) (Zl (ZcB h) Ym)) rfl (by kernel_rfl) fun _=>rfl
theorem Zec (L:Nat)(x0:YV):Vw L (x0,())=bT (Uo L (x0,())) fun y=>bif !y then some 1 else bif x0.1 == 1 then bT (Y6 L (0,1000000000,[x0.2],())) fun y=>bif !y then some 2 else some 0 else bif x0.1 == 2 then bT (Y6 L (0,1000000000,[x0.2,x0.3],())) fun y=>bif !(y && decide (x0.2≤x0.3)) then some 2 else some 0 else bif x0.1 == 4 then bT (Y6 L (1,20,[x0.4],())) fun y=>bT (bif y == true then bT (Y6 L (0,1000000,[x0.2,x0.3],())) fun y=>some y else some false) fun y=>bif !(y && decide (x0.2≤x0.3)) then some 2 else some 0 else bif x0.1 == 5 then bT (Y6 L (1,1000,[x0.2,x0.3],())) fun y=>bif !y then some 2 else some 0 else bif x0.1 == 3 then bif (↑x0.5.length:Int) != (↑x0.6.length:Int) then some 8 else bif (↑x0.5.length:Int) == 0 then some 7 else bif decide ((↑x0.5.length:Int) > 20) then some 6 else bT (Y6 L (0,1000000000,x0.5,())) fun y=>bT (bif y == true then bT (Y6 L (1,1000,x0.6,())) fun y=>some y else some false) fun y=>bif !y then some 2 else some 0 else some 2:=by kernel_rfl
def VF (L:Nat)(x:Int×PUnit):Option Bool:=fT [] L RX [] (.one .bool) [.int .i64] x
def Hz (L:Nat):Sum tT:=mU 184 [.int .i64] (.one .bool) (VF L)
theorem Dp:SX Hz:=fun h=>sT h Ym rfl (by kernel_rfl) fun _=>rfl
theorem Zcx (L:Nat)(x0:Int):VF L (x0,())=some (decide (x0 ≥ 22) && decide (x0≤24)):=by kernel_rfl
def Qn (L:Nat)(x:Q7×Int×PUnit):Option (Int×Int×Bool×PUnit):=fT [Hz L] L J4 [] (.tup [.int .i64,.int .i64,.bool]) [.row 17,.int .i64] x
def JE (L:Nat):Sum tT:=mU 180 [.row 17,.int .i64] (.tup [.int .i64,.int .i64,.bool]) (Qn L)
theorem OC:SX JE:=fun h=>sT h (Zl (Dp h) Ym) rfl (by kernel_rfl) fun _=>rfl
theorem Ox (L:Nat)(x0:Q7)(x1:Int):Qn L (x0,x1,())=bif x1 == 2 then some (0,1,true,()) else bif x1 == 25 then some (0,15,true,()) else bif x1 == 26 then some (0,31,true,()) else bT (VF L (x1,())) fun y=>bif y && x0.1 then some (0,63,true,()) else some (0,0,false,()):=by kernel_rfl
def Qa (L:Nat)(x:Q7×Int×PUnit):Option Bool:=fT [Hz L] L U8 [] (.one .bool) [.row 17,.int .i64] x
def UM (L:Nat):Sum tT:=mU 179 [.row 17,.int .i64] (.one .bool) (Qa L)
theorem Rn:SX UM:=fun h=>sT h (Zl (Dp h) Ym) rfl (by kernel_rfl) fun _=>rfl
theorem Rf (L:Nat)(x0:Q7)(x1:Int):Qa L (x0,x1,())=bT (bif (x1 == 3) == false then bT (VF L (x1,())) fun y=>some (y && !x0.1) else some true) fun y=>some y:=by kernel_rfl
def UQ (L:Nat)(x:Int×PUnit):Option Int:=fT [] L Et [] (.one (.int .i64)) [.int .i64] x
def Ru (L:Nat):Sum tT:=mU 178 [.int .i64] (.one (.int .i64)) (UQ L)
theorem FY:SX Ru:=fun h=>sT h Ym rfl (by kernel_rfl) fun _=>rfl
theorem ZfJ (L:Nat)(x0:Int):UQ L (x0,())=bif x0 == 1 || x0 == 2 || x0 == 3 || x0 == 4 then some 0 else bif decide (x0 ≥ 5) && decide (x0≤8) then some 1 else bif decide (x0 ≥ 9) && decide (x0≤21) then some 2 else bif decide (x0 ≥ 22) && decide (x0≤26) then some 0 else some (-1):=by kernel_rfl
def QQ (L:Nat)(x:Q7×Int×PUnit):Option Bool:=fT [Ru L] L U7 [] (.one .bool) [.row 17,.int .i64] x
def UL (L:Nat):Sum tT:=mU 177 [.row 17,.int .i64] (.one .bool) (QQ L)
theorem Rl:SX UL:=fun h=>sT h (Zl (FY h) Ym) rfl (by kernel_rfl) fun _=>rfl
theorem LZ (L:Nat)(x0:Q7)(x1:Int):QQ L (x0,x1,())=bif x1 == 3 then some !x0.1 else bif x1 == 25 then some x0.1 else bif x1 == 26 then some x0.1 else bT (UQ L (x1,())) fun y=>some (decide (y ≥ 0)):=by kernel_rfl
end Go.Proofs.YthkdlifcknpadaaGreat
end
noncomputable section
namespace Go.Proofs.YthkdlifcknpadaaGreat
open Go Go.Proofs.YthkdlifcknpadaaGreat.Abs Go.Proofs.YthkdlifcknpadaaGreat.Tl
set_option maxRecDepth 100000
set_option maxHeartbeats 0
def Xj (L:Nat)(x:Q7×ZC×PUnit):Option Int:=fT [QO L,JE L,Ej L,UM L,Ru L,UL L] L Kq [] (.one (.int .i64)) [.row 17,.row 8] x
def VE (L:Nat):Sum tT:=mU 175 [.row 17,.row 8] (.one (.int .i64)) (Xj L)
theorem KA:SX VE:=fun h=>sT h (Zl (XA h) (Zl (OC h) (Zl (ZcH h) (Zl (Rn h) (Zl (FY h) (Zl (Rl h) Ym)))))) rfl (by kernel_rfl) fun _=>rfl
theorem Dh (L:Nat)(x0:Q7)(x1:ZC):Xj L (x0,x1,())=bT (bT (QQ L (x0,x1.1,())) fun y=>some y) fun y=>bT (bif (!y) == false then bT (bT (UQ L (x1.1,())) fun y=>some y) fun y=>some ((↑x1.4.length:Int) != y) else some true) fun y=>bT (bif y == false then bif (!x1.2 == []) == true then bT (bT (Qa L (x0,x1.1,())) fun y=>some y) fun y=>some !y else some false else some true) fun y=>bif y then some 1 else bif x1.1 == 1 then bT (TC L (x1.3,())) fun y=>bif !y then some 2 else some 0 else bT (Qn L (x0,x1.1,())) fun y=>bif !y.2.2.1 && x1.3 != 0 then some 1 else bif y.2.2.1 && (decide (x1.3 < y.1) || decide (x1.3 > y.2.1)) then some 2 else bT (Qa L (x0,x1.1,())) fun y=>bif y then bT (ZJ L (x1.2,())) fun y=>some y else some 0:=by kernel_rfl
def XM (L:Nat):Nat→List (Sum tT)
 | 0=>[⟨172,[.row 17,.row 8],fun _=>.par _ none ((.one (.int .i64):RD).tv tT)⟩]
 | m + 1=>[⟨172,[.row 17,.row 8],fun x=>.par _ (fnT tF tG (qOf tF (XM L m ++ [VE L])) 0 L Ve [.rnd [.slot 18 (.int .i64)]] (.one (.int .i64)) (tvL tT [.row 17,.row 8] x) []) ((.one (.int .i64):RD).tv tT)⟩]
theorem VD {C:Cfg}{L:Nat}(h:St C L):∀ m,∀ s ∈ XM L m,U4 C s
 | 0=>(Zl (Hy _ _ _) Ym)
 | m + 1=>have ih:=VD h m
  (Zl (XN XD h.L h.G (JA XD (BA ih (Zl (KA h) Ym))) [.rnd [.slot 18 (.int .i64)]] (h.T _ _ rfl) (by kernel_rfl) fun _=>rfl) Ym)
def Qx (L m:Nat)(x:Q7×ZC×PUnit):Option (Int):=fnT tF tG (qOf tF (XM L m ++ [VE L])) 0 L Ve [.rnd [.slot 18 (.int .i64)]] (.one (.int .i64)) (tvL tT [.row 17,.row 8] x) []
def Vl (L:Nat)(x:Q7×ZC×PUnit):Option (Int):=Qx L L x
def UN (L:Nat):Sum tT:=⟨172,[.row 17,.row 8],fun x=>.par ((.one (.int .i64):RD).Ty tT) (Vl L x) ((.one (.int .i64):RD).tv tT)⟩
theorem Ro {C:Cfg}{L:Nat}(h:St C L):U4 C (UN L):=have ih:=VD h L
 XN XD h.L h.G (JA XD (BA ih (Zl (KA h) Ym))) [.rnd [.slot 18 (.int .i64)]] (h.T _ _ rfl) (by kernel_rfl) fun _=>rfl
def Qu:Nat→Q7→ZC→Nat→(Int×PUnit→Option Int)→Int×PUnit→Option Int:=fun (m:Nat)=>fun x0 x1 L self acc=>bif decide (acc.1 < (↑x1.4.length:Int)) then bT (YH x1.4 acc.1) fun y=>bT (Qx L m (x0,y,())) fun y=>bif y != 0 then some y else self (Go.IntKind.i64.wrap (acc.1 + 1),()) else some 0
theorem Rh (L m:Nat)(x0:Q7)(x1:ZC):Qx L (m + 1) (x0,x1,())=bT (Xj L (x0,x1,())) fun y=>bif y != 0 then some y else Z9 (Qu m x0 x1 L) L (0,()):=by kernel_rfl
def Hg (L:Nat):Nat→List (Sum tT)
 | 0=>[⟨171,[.row 8],fun _=>.par _ none ((.one (.int .i64):RD).tv tT)⟩]
 | m + 1=>[⟨171,[.row 8],fun x=>.par _ (fnT tF tG (qOf tF (Hg L m ++ [])) 0 L IM [.rnd [.slot 3 (.int .i64),.slot 9 (.int .i64)]] (.one (.int .i64)) (tvL tT [.row 8] x) []) ((.one (.int .i64):RD).tv tT)⟩]
theorem Iz {C:Cfg}{L:Nat}(h:St C L):∀ m,∀ s ∈ Hg L m,U4 C s
 | 0=>(Zl (Hy _ _ _) Ym)
 | m + 1=>have ih:=Iz h m
  (Zl (XN XD h.L h.G (JA XD (BA ih Ym)) [.rnd [.slot 3 (.int .i64),.slot 9 (.int .i64)]] (h.T _ _ rfl) (by kernel_rfl) fun _=>rfl) Ym)
def Uw (L m:Nat)(x:ZC×PUnit):Option (Int):=fnT tF tG (qOf tF (Hg L m ++ [])) 0 L IM [.rnd [.slot 3 (.int .i64),.slot 9 (.int .i64)]] (.one (.int .i64)) (tvL tT [.row 8] x) []
def OW (L:Nat)(x:ZC×PUnit):Option (Int):=Uw L L x
def NQ (L:Nat):Sum tT:=⟨171,[.row 8],fun x=>.par ((.one (.int .i64):RD).Ty tT) (OW L x) ((.one (.int .i64):RD).tv tT)⟩
theorem Ze1 {C:Cfg}{L:Nat}(h:St C L):U4 C (NQ L):=have ih:=Iz h L
 XN XD h.L h.G (JA XD (BA ih Ym)) [.rnd [.slot 3 (.int .i64),.slot 9 (.int .i64)]] (h.T _ _ rfl) (by kernel_rfl) fun _=>rfl
def GN:Nat→ZC→Nat→(Int×Int×PUnit→Option Int)→Int×Int×PUnit→Option Int:=fun (m:Nat)=>fun x0 L self acc=>bif decide (acc.2.1 < (↑x0.4.length:Int)) then bT (YH x0.4 acc.2.1) fun y=>bT (Uw L m (y,())) fun y=>self (if y > acc.1 then y else acc.1,Go.IntKind.i64.wrap (acc.2.1 + 1),()) else some (Go.IntKind.i64.wrap (acc.1 + 1))
theorem Zee (L m:Nat)(x0:ZC):Uw L (m + 1) (x0,())=Z9 (GN m x0 L) L (0,0,()):=by kernel_rfl
def Hl (L:Nat):Nat→List (Sum tT)
 | 0=>[⟨170,[.row 8],fun _=>.par _ none ((.one (.int .i64):RD).tv tT)⟩]
 | m + 1=>[⟨170,[.row 8],fun x=>.par _ (fnT tF tG (qOf tF (Hl L m ++ [])) 0 L IP [.rnd [.slot 3 (.int .i64),.slot 9 (.int .i64)]] (.one (.int .i64)) (tvL tT [.row 8] x) []) ((.one (.int .i64):RD).tv tT)⟩]
theorem I4 {C:Cfg}{L:Nat}(h:St C L):∀ m,∀ s ∈ Hl L m,U4 C s
 | 0=>(Zl (Hy _ _ _) Ym)
 | m + 1=>have ih:=I4 h m
  (Zl (XN XD h.L h.G (JA XD (BA ih Ym)) [.rnd [.slot 3 (.int .i64),.slot 9 (.int .i64)]] (h.T _ _ rfl) (by kernel_rfl) fun _=>rfl) Ym)
def Ux (L m:Nat)(x:ZC×PUnit):Option (Int):=fnT tF tG (qOf tF (Hl L m ++ [])) 0 L IP [.rnd [.slot 3 (.int .i64),.slot 9 (.int .i64)]] (.one (.int .i64)) (tvL tT [.row 8] x) []
def OX (L:Nat)(x:ZC×PUnit):Option (Int):=Ux L L x
def NR (L:Nat):Sum tT:=⟨170,[.row 8],fun x=>.par ((.one (.int .i64):RD).Ty tT) (OX L x) ((.one (.int .i64):RD).tv tT)⟩
theorem Ze2 {C:Cfg}{L:Nat}(h:St C L):U4 C (NR L):=have ih:=I4 h L
 XN XD h.L h.G (JA XD (BA ih Ym)) [.rnd [.slot 3 (.int .i64),.slot 9 (.int .i64)]] (h.T _ _ rfl) (by kernel_rfl) fun _=>rfl
def GU:Nat→ZC→Nat→(Int×Int×PUnit→Option Int)→Int×Int×PUnit→Option Int:=fun (m:Nat)=>fun x0 L self acc=>bif decide (acc.2.1 < (↑x0.4.length:Int)) then bT (YH x0.4 acc.2.1) fun y=>bT (Ux L m (y,())) fun y=>self (Go.IntKind.i64.wrap (acc.1 + y),Go.IntKind.i64.wrap (acc.2.1 + 1),()) else some acc.1
theorem Zef (L m:Nat)(x0:ZC):Ux L (m + 1) (x0,())=Z9 (GU m x0 L) L (1,0,()):=by kernel_rfl
def QP (L:Nat)(x:Q7×ZC×PUnit):Option Int:=fT [UN L,NQ L,NR L] L U6 [] (.one (.int .i64)) [.row 17,.row 8] x
def UK (L:Nat):Sum tT:=mU 166 [.row 17,.row 8] (.one (.int .i64)) (QP L)
theorem Rk:SX UK:=fun h=>sT h (Zl (Ro h) (Zl (Ze1 h) (Zl (Ze2 h) Ym))) rfl (by kernel_rfl) fun _=>rfl
theorem LY (L:Nat)(x0:Q7)(x1:ZC):QP L (x0,x1,())=bT (OX L (x1,())) fun y=>bif decide (y > 60) then some 6 else bT (OW L (x1,())) fun y=>bif decide (y > 12) then some 11 else bT (Vl L (x0,x1,())) fun y=>some y:=by kernel_rfl
def JG (L:Nat)(x:ZC×PUnit):Option Int:=fT [UK L] L PO [] (.one (.int .i64)) [.row 8] x
def NP (L:Nat):Sum tT:=mU 164 [.row 8] (.one (.int .i64)) (JG L)
theorem Ze0:SX NP:=fun h=>sT h (Zl (Rk h) Ym) rfl (by kernel_rfl) fun _=>rfl
theorem Zed (L:Nat)(x0:ZC):JG L (x0,())=bT (QP L (Q7.mk false,x0,())) fun y=>some y:=by kernel_rfl
def KJ (L:Nat)(x:Z5×U5×PUnit):Option Int:=fT [OQ L,NP L,QO L] L Nk [.rnd [.slot 4 (.int .i64),.slot 26 (.int .i64)],.rnd [.slot 4 (.int .i64),.slot 53 (.int .i64)],.rnd [.slot 74 (.int .i64)]] (.one (.int .i64)) [.row 9,.row 18] x
def OV (L:Nat):Sum tT:=mU 152 [.row 9,.row 18] (.one (.int .i64)) (KJ L)
theorem NH:SX OV:=fun h=>sT h (Zl (NG h) (Zl (Ze0 h) (Zl (XA h) Ym))) rfl (by kernel_rfl) fun _=>rfl
def Um:Z5→U5→Nat→(Int×PUnit→Option Int)→Int×PUnit→Option Int:=fun x0 x1 L self acc=>bif decide (acc.1 < (↑x0.6.length:Int)) then bT (YH x0.6 acc.1) fun y=>bT (JG L (y,())) fun y=>bif y != 0 then some y else self (Go.IntKind.i64.wrap (acc.1 + 1),()) else bif x1.6 then bT (Vw L (x0.7,())) fun y=>some y else some 0
def Hw:Z5→U5→Nat→Int×Int×PUnit→(Int×Int×PUnit→Option Int)→Int×Int×PUnit→Option Int:=fun x0 x1 L acc self acc_1=>bif decide (acc_1.2.1 < (↑[GG.mk x1.3 x0.4,GG.mk x1.4 x0.5].length:Int)) then bT (YH [GG.mk x1.3 x0.4,GG.mk x1.4 x0.5] acc_1.2.1) fun y=>bif !y.1 then self (acc_1.1,Go.IntKind.i64.wrap (acc_1.2.1 + 1),()) else bT (JG L (y.2,())) fun y=>bif y != 0 then some y else self (acc_1.1,Go.IntKind.i64.wrap (acc_1.2.1 + 1),()) else bif decide ((↑x0.6.length:Int) > 6) then some 6 else Z9 (Um x0 x1 L) L (0,())
def Dy:Z5→U5→Nat→(Int×Int×PUnit→Option Int)→Int×Int×PUnit→Option Int:=fun x0 x1 L self acc=>bif decide (acc.2.1 < (↑[GH.mk x1.1 x0.2,GH.mk x1.2 x0.3].length:Int)) then bT (YH [GH.mk x1.1 x0.2,GH.mk x1.2 x0.3] acc.2.1) fun y=>bT (ZJ L (y.2,())) fun y_1=>bif y.1 && y_1 != 0 then some y_1 else self (acc.1,Go.IntKind.i64.wrap (acc.2.1 + 1),()) else Z9 (Hw x0 x1 L acc) L (acc.1,0,())
theorem Zev (L:Nat)(x0:Z5)(x1:U5):KJ L (x0,x1,())=Z9 (Dy x0 x1 L) L (0,0,()):=by kernel_rfl
def YD (L:Nat)(x:(List Int)×(List Int)×PUnit):Option Bool:=fT [] L Vo [.rnd [.slot 13 (.int .i64)]] (.one .bool) [.lst 1 (.int .i64),.lst 1 (.int .i64)] x
def Vu (L:Nat):Sum tT:=mU 131 [.lst 1 (.int .i64),.lst 1 (.int .i64)] (.one .bool) (YD L)
theorem G5:SX Vu:=fun h=>sT h Ym rfl (by kernel_rfl) fun _=>rfl
def Qp:List Int→List Int→(Int×PUnit→Option Bool)→Int×PUnit→Option Bool:=fun x0 x1 self acc=>bif decide (acc.1 < (↑x0.length:Int)) then bT (YH x0 acc.1) fun y=>bT (YH x1 acc.1) fun y_1=>bif y != y_1 then some false else self (Go.IntKind.i64.wrap (acc.1 + 1),()) else some true
theorem Gx (L:Nat)(x0:(List Int))(x1:(List Int)):YD L (x0,x1,())=bif (↑x0.length:Int) != (↑x1.length:Int) then some false else Z9 (Qp x0 x1) L (0,()):=by kernel_rfl
end Go.Proofs.YthkdlifcknpadaaGreat
end
noncomputable section
namespace Go.Proofs.YthkdlifcknpadaaGreat
open Go Go.Proofs.YthkdlifcknpadaaGreat.Abs Go.Proofs.YthkdlifcknpadaaGreat.Tl
set_option maxRecDepth 100000
set_option maxHeartbeats 0
def Jj (L:Nat)(x:YV×YV×PUnit):Option Bool:=fT [Vu L] L Es [] (.one .bool) [.row 2,.row 2] x
def Rt (L:Nat):Sum tT:=mU 111 [.row 2,.row 2] (.one .bool) (Jj L)
theorem FX:SX Rt:=fun h=>sT h (Zl (G5 h) Ym) rfl (by kernel_rfl) fun _=>rfl
theorem ZfI (L:Nat)(x0:YV)(x1:YV):Jj L (x0,x1,())=bT (bif (x0.1 == x1.1 && x0.2 == x1.2 && x0.3 == x1.3 && x0.4 == x1.4) == true then bT (YD L (x0.5,x1.5,())) fun y=>some y else some false) fun y=>bT (bif y == true then bT (YD L (x0.6,x1.6,())) fun y=>some y else some false) fun y=>some y:=by kernel_rfl
def OI (L:Nat):Nat→List (Sum tT)
 | 0=>[⟨160,[.row 8,.row 8],fun _=>.par _ none ((.one (.bool):RD).tv tT)⟩]
 | m + 1=>[⟨160,[.row 8,.row 8],fun x=>.par _ (fnT tF tG (qOf tF (OI L m ++ [])) 0 L Lj [.rnd [.slot 38 (.int .i64)]] (.one (.bool)) (tvL tT [.row 8,.row 8] x) []) ((.one (.bool):RD).tv tT)⟩]
theorem OJ {C:Cfg}{L:Nat}(h:St C L):∀ m,∀ s ∈ OI L m,U4 C s
 | 0=>(Zl (Hy _ _ _) Ym)
 | m + 1=>have ih:=OJ h m
  (Zl (XN XD h.L h.G (JA XD (BA ih Ym)) [.rnd [.slot 38 (.int .i64)]] (h.T _ _ rfl) (by kernel_rfl) fun _=>rfl) Ym)
def KL (L m:Nat)(x:ZC×ZC×PUnit):Option (Bool):=fnT tF tG (qOf tF (OI L m ++ [])) 0 L Lj [.rnd [.slot 38 (.int .i64)]] (.one (.bool)) (tvL tT [.row 8,.row 8] x) []
def Rz (L:Nat)(x:ZC×ZC×PUnit):Option (Bool):=KL L L x
def CS (L:Nat):Sum tT:=⟨160,[.row 8,.row 8],fun x=>.par ((.one (.bool):RD).Ty tT) (Rz L x) ((.one (.bool):RD).tv tT)⟩
theorem Zgk {C:Cfg}{L:Nat}(h:St C L):U4 C (CS L):=have ih:=OJ h L
 XN XD h.L h.G (JA XD (BA ih Ym)) [.rnd [.slot 38 (.int .i64)]] (h.T _ _ rfl) (by kernel_rfl) fun _=>rfl
def Kv:Nat→ZC→ZC→Nat→(Int×PUnit→Option Bool)→Int×PUnit→Option Bool:=fun (m:Nat)=>fun x0 x1 L self acc=>bif decide (acc.1 < (↑x0.4.length:Int)) then bT (YH x0.4 acc.1) fun y=>bT (YH x1.4 acc.1) fun y_1=>bT (bT (KL L m (y,y_1,())) fun y=>some y) fun y=>bif !y then some false else self (Go.IntKind.i64.wrap (acc.1 + 1),()) else some true
theorem FH (L m:Nat)(x0:ZC)(x1:ZC):KL L (m + 1) (x0,x1,())=bif x0.1 != x1.1 || !x0.2 == x1.2 || x0.3 != x1.3 || (↑x0.4.length:Int) != (↑x1.4.length:Int) then some false else Z9 (Kv m x0 x1 L) L (0,()):=by kernel_rfl
def VI (L:Nat)(x:ZC×PUnit):Option Bool:=fT [CS L] L Bv [] (.one .bool) [.row 8] x
def DD (L:Nat):Sum tT:=mU 163 [.row 8] (.one .bool) (VI L)
theorem ZcI:SX DD:=fun h=>sT h (Zl (Zgk h) Ym) rfl (by kernel_rfl) fun _=>rfl
theorem Zc7 (L:Nat)(x0:ZC):VI L (x0,())=bT (Rz L (x0,ZC.mk 0 [] 0 [],())) fun y=>some y:=by kernel_rfl
def Ig (L:Nat)(x:Z5×U5×PUnit):Option Bool:=fT [Rt L,DD L] L EK [] (.one .bool) [.row 9,.row 18] x
def Rw (L:Nat):Sum tT:=mU 151 [.row 9,.row 18] (.one .bool) (Ig L)
theorem Cc:SX Rw:=fun h=>sT h (Zl (FX h) (Zl (ZcI h) Ym)) rfl (by kernel_rfl) fun _=>rfl
theorem Zga (L:Nat)(x0:Z5)(x1:U5):Ig L (x0,x1,())=bT (bif ((x1.1 || x0.2 == []) && (x1.2 || x0.3 == [])) == true then bif x1.3 == false then bT (VI L (x0.4,())) fun y=>some y else some true else some false) fun y=>bT (bif y == true then bif x1.4 == false then bT (VI L (x0.5,())) fun y=>some y else some true else some false) fun y=>bT (bif (y && (x1.5 || (↑x0.6.length:Int) == 0)) == true then bif x1.6 == false then bT (Jj L (x0.7,YV.mk 0 0 0 0 [] [],())) fun y=>some y else some true else some false) fun y=>some (y && (x1.7 || !x0.8) && (x1.8 || (↑x0.9.length:Int) == 0) && (x1.9 || (↑x0.10.length:Int) == 0)):=by kernel_rfl
def Ih (L:Nat)(x:Int×PUnit):Option (U5×Bool×PUnit):=fT [] L EM [] (.tup [.row 18,.bool]) [.int .i64] x
def Rx (L:Nat):Sum tT:=mU 150 [.int .i64] (.tup [.row 18,.bool]) (Ih L)
theorem Ce:SX Rx:=fun h=>sT h Ym rfl (by kernel_rfl) fun _=>rfl
theorem Zgb (L:Nat)(x0:Int):Ih L (x0,())=bif x0 == 1 then some (U5.mk true false true false false false false false false,true,()) else bif x0 == 7 then some (U5.mk true false true false false false false false false,true,()) else bif x0 == 8 then some (U5.mk true false true false false false false false false,true,()) else bif x0 == 12 then some (U5.mk true false true false false false false false false,true,()) else bif x0 == 15 then some (U5.mk true false true false false false false false false,true,()) else bif x0 == 16 then some (U5.mk true false true false false false false false false,true,()) else bif x0 == 17 then some (U5.mk true false true false false false false false false,true,()) else bif x0 == 2 then some (U5.mk true true false false false true false false false,true,()) else bif x0 == 3 then some (U5.mk false false true false false false false true true,true,()) else bif x0 == 4 then some (U5.mk false false true false false false false true false,true,()) else bif x0 == 5 then some (U5.mk false false true false false false false false false,true,()) else bif x0 == 6 then some (U5.mk true false true true false false true false false,true,()) else bif x0 == 9 then some (U5.mk true true false false false false false false false,true,()) else bif x0 == 10 then some (U5.mk true false false false false false false false false,true,()) else bif x0 == 11 then some (U5.mk true false false false false false false false false,true,()) else bif x0 == 13 then some (U5.mk true true true false true false false false false,true,()) else bif x0 == 14 then some (U5.mk true false true false true false false false false,true,()) else bif x0 == 18 then some (U5.mk false false false false false false false false false,true,()) else some (U5.mk false false false false false false false false false,false,()):=by kernel_rfl
def Hq (L:Nat):Nat→List (Sum tT)
 | 0=>[⟨138,[.lst 21 (.row 9)],fun _=>.par _ none ((.one (.int .i64):RD).tv tT)⟩]
 | m + 1=>[⟨138,[.lst 21 (.row 9)],fun x=>.par _ (fnT tF tG (qOf tF (Hq L m ++ [OV L,Rw L,Rx L])) 0 L Ol [.rnd [.slot 12 (.int .i64)]] (.one (.int .i64)) (tvL tT [.lst 21 (.row 9)] x) []) ((.one (.int .i64):RD).tv tT)⟩]
theorem I8 {C:Cfg}{L:Nat}(h:St C L):∀ m,∀ s ∈ Hq L m,U4 C s
 | 0=>(Zl (Hy _ _ _) Ym)
 | m + 1=>have ih:=I8 h m
  (Zl (XN XD h.L h.G (JA XD (BA ih (Zl (NH h) (Zl (Cc h) (Zl (Ce h) Ym))))) [.rnd [.slot 12 (.int .i64)]] (h.T _ _ rfl) (by kernel_rfl) fun _=>rfl) Ym)
def VL (L m:Nat)(x:(List Z5)×PUnit):Option (Int):=fnT tF tG (qOf tF (Hq L m ++ [OV L,Rw L,Rx L])) 0 L Ol [.rnd [.slot 12 (.int .i64)]] (.one (.int .i64)) (tvL tT [.lst 21 (.row 9)] x) []
def Tc (L:Nat)(x:(List Z5)×PUnit):Option (Int):=VL L L x
def Sj (L:Nat):Sum tT:=⟨138,[.lst 21 (.row 9)],fun x=>.par ((.one (.int .i64):RD).Ty tT) (Tc L x) ((.one (.int .i64):RD).tv tT)⟩
theorem ZeA {C:Cfg}{L:Nat}(h:St C L):U4 C (Sj L):=have ih:=I8 h L
 XN XD h.L h.G (JA XD (BA ih (Zl (NH h) (Zl (Cc h) (Zl (Ce h) Ym))))) [.rnd [.slot 12 (.int .i64)]] (h.T _ _ rfl) (by kernel_rfl) fun _=>rfl
def Hu:Nat→List Z5→Nat→(Int×PUnit→Option Int)→Int×PUnit→Option Int:=fun (m:Nat)=>fun x0 L self acc=>bif decide (acc.1 < (↑x0.length:Int)) then bT (YH x0 acc.1) fun y=>bT (Ih L (y.1,())) fun y_1=>bT (bif (!y_1.2.1) == false then bT (Ig L (y,y_1.1,())) fun y=>some !y else some true) fun y_2=>bif y_2 then some 1 else bT (KJ L (y,y_1.1,())) fun y_3=>bif y_3 != 0 then some y_3 else bT (VL L m (y.9,())) fun y_4=>bif y_4 != 0 then some y_4 else bT (VL L m (y.10,())) fun y=>bif y != 0 then some y else self (Go.IntKind.i64.wrap (acc.1 + 1),()) else some 0
theorem Zeu (L m:Nat)(x0:(List Z5)):VL L (m + 1) (x0,())=Z9 (Hu m x0 L) L (0,()):=by kernel_rfl
def Ho (L:Nat):Nat→List (Sum tT)
 | 0=>[⟨137,[.lst 21 (.row 9)],fun _=>.par _ none ((.one (.int .i64):RD).tv tT)⟩]
 | m + 1=>[⟨137,[.lst 21 (.row 9)],fun x=>.par _ (fnT tF tG (qOf tF (Ho L m ++ [])) 0 L Oj [.rnd [.slot 3 (.int .i64),.slot 8 (.int .i64)]] (.one (.int .i64)) (tvL tT [.lst 21 (.row 9)] x) []) ((.one (.int .i64):RD).tv tT)⟩]
theorem I7 {C:Cfg}{L:Nat}(h:St C L):∀ m,∀ s ∈ Ho L m,U4 C s
 | 0=>(Zl (Hy _ _ _) Ym)
 | m + 1=>have ih:=I7 h m
  (Zl (XN XD h.L h.G (JA XD (BA ih Ym)) [.rnd [.slot 3 (.int .i64),.slot 8 (.int .i64)]] (h.T _ _ rfl) (by kernel_rfl) fun _=>rfl) Ym)
def VK (L m:Nat)(x:(List Z5)×PUnit):Option (Int):=fnT tF tG (qOf tF (Ho L m ++ [])) 0 L Oj [.rnd [.slot 3 (.int .i64),.slot 8 (.int .i64)]] (.one (.int .i64)) (tvL tT [.lst 21 (.row 9)] x) []
def OZ (L:Nat)(x:(List Z5)×PUnit):Option (Int):=VK L L x
def Si (L:Nat):Sum tT:=⟨137,[.lst 21 (.row 9)],fun x=>.par ((.one (.int .i64):RD).Ty tT) (OZ L x) ((.one (.int .i64):RD).tv tT)⟩
theorem Ze9 {C:Cfg}{L:Nat}(h:St C L):U4 C (Si L):=have ih:=I7 h L
 XN XD h.L h.G (JA XD (BA ih Ym)) [.rnd [.slot 3 (.int .i64),.slot 8 (.int .i64)]] (h.T _ _ rfl) (by kernel_rfl) fun _=>rfl
def Ht:Nat→List Z5→Nat→(Int×Int×PUnit→Option Int)→Int×Int×PUnit→Option Int:=fun (m:Nat)=>fun x0 L self acc=>bif decide (acc.2.1 < (↑x0.length:Int)) then bT (YH x0 acc.2.1) fun y=>bT (bT (VK L m (y.9,())) fun y=>some y) fun y_1=>bT (bT (VK L m (y.10,())) fun y=>some y) fun y=>self (if Go.IntKind.i64.wrap (1 + y) > if Go.IntKind.i64.wrap (1 + y_1) > acc.1 then Go.IntKind.i64.wrap (1 + y_1) else acc.1 then Go.IntKind.i64.wrap (1 + y) else if Go.IntKind.i64.wrap (1 + y_1) > acc.1 then Go.IntKind.i64.wrap (1 + y_1) else acc.1,Go.IntKind.i64.wrap (acc.2.1 + 1),()) else some acc.1
theorem Zet (L m:Nat)(x0:(List Z5)):VK L (m + 1) (x0,())=Z9 (Ht m x0 L) L (0,0,()):=by kernel_rfl
def Hm (L:Nat):Nat→List (Sum tT)
 | 0=>[⟨136,[.lst 21 (.row 9)],fun _=>.par _ none ((.one (.int .i64):RD).tv tT)⟩]
 | m + 1=>[⟨136,[.lst 21 (.row 9)],fun x=>.par _ (fnT tF tG (qOf tF (Hm L m ++ [])) 0 L Oi [.rnd [.slot 3 (.int .i64),.slot 10 (.int .i64)]] (.one (.int .i64)) (tvL tT [.lst 21 (.row 9)] x) []) ((.one (.int .i64):RD).tv tT)⟩]
theorem I5 {C:Cfg}{L:Nat}(h:St C L):∀ m,∀ s ∈ Hm L m,U4 C s
 | 0=>(Zl (Hy _ _ _) Ym)
 | m + 1=>have ih:=I5 h m
  (Zl (XN XD h.L h.G (JA XD (BA ih Ym)) [.rnd [.slot 3 (.int .i64),.slot 10 (.int .i64)]] (h.T _ _ rfl) (by kernel_rfl) fun _=>rfl) Ym)
def VJ (L m:Nat)(x:(List Z5)×PUnit):Option (Int):=fnT tF tG (qOf tF (Hm L m ++ [])) 0 L Oi [.rnd [.slot 3 (.int .i64),.slot 10 (.int .i64)]] (.one (.int .i64)) (tvL tT [.lst 21 (.row 9)] x) []
def OY (L:Nat)(x:(List Z5)×PUnit):Option (Int):=VJ L L x
def NZ (L:Nat):Sum tT:=⟨136,[.lst 21 (.row 9)],fun x=>.par ((.one (.int .i64):RD).Ty tT) (OY L x) ((.one (.int .i64):RD).tv tT)⟩
theorem Ze8 {C:Cfg}{L:Nat}(h:St C L):U4 C (NZ L):=have ih:=I5 h L
 XN XD h.L h.G (JA XD (BA ih Ym)) [.rnd [.slot 3 (.int .i64),.slot 10 (.int .i64)]] (h.T _ _ rfl) (by kernel_rfl) fun _=>rfl
def Hr:Nat→List Z5→Nat→(Int×Int×PUnit→Option Int)→Int×Int×PUnit→Option Int:=fun (m:Nat)=>fun x0 L self acc=>bif decide (acc.2.1 < (↑x0.length:Int)) then bT (YH x0 acc.2.1) fun y=>bT (bT (VJ L m (y.9,())) fun y=>some y) fun y_1=>bT (bT (VJ L m (y.10,())) fun y=>some y) fun y=>self (Go.IntKind.i64.wrap (acc.1 + Go.IntKind.i64.wrap (y_1 + y)),Go.IntKind.i64.wrap (acc.2.1 + 1),()) else some acc.1
theorem Zes (L m:Nat)(x0:(List Z5)):VJ L (m + 1) (x0,())=Z9 (Hr m x0 L) L ((↑x0.length:Int),0,()):=by kernel_rfl
end Go.Proofs.YthkdlifcknpadaaGreat
end
noncomputable section
namespace Go.Proofs.YthkdlifcknpadaaGreat
open Go Go.Proofs.YthkdlifcknpadaaGreat.Abs Go.Proofs.YthkdlifcknpadaaGreat.Tl
set_option maxRecDepth 100000
set_option maxHeartbeats 0
def KI (L:Nat)(x:(List Z5)×PUnit):Option Int:=fT [Sj L,Si L,NZ L] L Nj [] (.one (.int .i64)) [.lst 21 (.row 9)] x
def NY (L:Nat):Sum tT:=mU 115 [.lst 21 (.row 9)] (.one (.int .i64)) (KI L)
theorem Ze7:SX NY:=fun h=>sT h (Zl (ZeA h) (Zl (Ze9 h) (Zl (Ze8 h) Ym))) rfl (by kernel_rfl) fun _=>rfl
theorem Zer (L:Nat)(x0:(List Z5)):KI L (x0,())=bT (OY L (x0,())) fun y=>bif decide (y > 200) then some 6 else bT (OZ L (x0,())) fun y=>bif decide (y > 12) then some 11 else bT (Tc L (x0,())) fun y=>some y:=by kernel_rfl
def XE (L:Nat)(x:Int×PUnit):Option Bool:=fT [] L Be [] (.one .bool) [.int .i64] x
def Un (L:Nat):Sum tT:=mU 109 [.int .i64] (.one .bool) (XE L)
theorem He:SX Un:=fun h=>sT h Ym rfl (by kernel_rfl) fun _=>rfl
theorem Zc0 (L:Nat)(x0:Int):XE L (x0,())=some (decide (x0 ≥ 1) && decide (x0≤3)):=by kernel_rfl
def Ya (L:Nat)(x:(List (List WF))×PUnit):Option (List WF):=fT [Zos] L WL [.rnd [.slot 3 (.int .i64),.slot 11 (.int .i64)],.rnd [.slot 6 (.own 2 (.row 7)),.slot 27 (.int .i64)]] (.one (.lst 2 (.row 7))) [.lst 1 (.lst 2 (.row 7))] x
def WP (L:Nat):Sum tT:=mU 114 [.lst 1 (.lst 2 (.row 7))] (.one (.lst 2 (.row 7))) (Ya L)
theorem XL:SX WP:=fun h=>sT h (Zl (ZsM h) Ym) rfl (by kernel_rfl) fun _=>rfl
def Y0:List (List WF)→(List WF×Int×PUnit→Option (List WF))→List WF×Int×PUnit→Option (List WF):=fun x0 self acc=>bif decide (acc.2.1 < (↑x0.length:Int)) then bT (YH x0 acc.2.1) fun y=>bT (apT 24 acc.1 y) fun y=>self (y,Go.IntKind.i64.wrap (acc.2.1 + 1),()) else some acc.1
def WI:List (List WF)→Nat→(Int×Int×PUnit→Option (List WF))→Int×Int×PUnit→Option (List WF):=fun x0 L self acc=>bif decide (acc.2.1 < (↑x0.length:Int)) then bT (YH x0 acc.2.1) fun y=>bif decide (Go.IntKind.i64.wrap (acc.1 + (↑y.length:Int)) < 0) then none else self (Go.IntKind.i64.wrap (acc.1 + (↑y.length:Int)),Go.IntKind.i64.wrap (acc.2.1 + 1),()) else bT (Zmj [] acc.1) fun y=>Z9 (Y0 x0) L (y,0,())
theorem XK (L:Nat)(x0:(List (List WF))):Ya L (x0,())=Z9 (WI x0 L) L (0,0,()):=by kernel_rfl
def Sz:List (Inl tT):=[⟨21,Wn,[],.one (.int .i64),[(3,[.cont 1 (.map .str)])]⟩]
def VG (L:Nat)(x:Yc×PUnit):Option Int:=fI [NY L,Un L,QO L,WP L] L Sz IZ [.rnd [.slot 29 (.int .i64),.cont 1 (.map .str)]] (.one (.int .i64)) [.row 10] x
def OT (L:Nat):Sum tT:=mU 70 [.row 10] (.one (.int .i64)) (VG L)
theorem FZ:SX OT:=fun h=>sI h (Zl (Ze7 h) (Zl (He h) (Zl (XA h) (Zl (XL h) Ym)))) (Zl ⟨h.T _ _ rfl,by kernel_rfl⟩ Ym) rfl (by kernel_rfl) fun _=>rfl
def Va:Yc→Nat→List WF→(Int×List (List UInt8)×PUnit→Option Int)→Int×List (List UInt8)×PUnit→Option Int:=fun x0 L y self acc=>bif decide (acc.1 < (↑y.length:Int)) then bT (YH y acc.1) fun y=>bT (bT (ZJ L (y.1,())) fun y_1=>bif y_1 != 0 then some (y_1,acc.2.1,()) else bif hasK MK.str acc.2.1 y.1 then some (4,acc.2.1,()) else some (0,Nl MK.str acc.2.1 y.1,())) fun y_1=>bif y_1.1 != 0 then some y_1.1 else bT (XE L (y.2,())) fun y=>bif !y then some 1 else self (Go.IntKind.i64.wrap (acc.1 + 1),y_1.2.1,()) else bT (KI L (x0.4,())) fun y=>some y
theorem FK (L:Nat)(x0:Yc):VG L (x0,())=bif decide ((↑x0.2.length:Int) > 6) || decide (Go.IntKind.i64.wrap ((↑x0.2.length:Int) + (↑x0.3.length:Int)) > 16) then some 6 else bT (Ya L ([x0.2,x0.3],())) fun y=>Z9 (Va x0 L y) L (0,[],()):=by kernel_rfl
def Vb (L:Nat)(x:Zb×IJ×PUnit):Option Int:=fT [OQ L,YO L,Rt L] L Il [] (.one (.int .i64)) [.row 14,.row 3] x
def I9 (L:Nat):Sum tT:=mU 55 [.row 14,.row 3] (.one (.int .i64)) (Vb L)
theorem SL:SX I9:=fun h=>sT h (Zl (NG h) (Zl (Ql h) (Zl (FX h) Ym))) rfl (by kernel_rfl) fun _=>rfl
theorem SH (L:Nat)(x0:Zb)(x1:IJ):Vb L (x0,x1,())=bT (bif (x1.1 == []) == true then bT (Jj L (x1.2,YV.mk 0 0 0 0 [] [],())) fun y=>bif (!y) == false then bT (Jj L (x1.3,YV.mk 0 0 0 0 [] [],())) fun y=>some !y else some true else some false) fun y=>bif y then some 1 else bif x1.1 == [] then some 0 else bT (ZW L (x0.7,x1.1,())) fun y=>bif !y then some 5 else bT (Vw L (x1.2,())) fun y=>bif y != 0 then some y else bT (Vw L (x1.3,())) fun y=>some y:=by kernel_rfl
def Vd (L:Nat)(x:Zp×PUnit):Option Int:=fT [Qq L] L Iq [.rnd [.slot 25 (.int .i64)]] (.one (.int .i64)) [.row 4] x
def IA (L:Nat):Sum tT:=mU 54 [.row 4] (.one (.int .i64)) (Vd L)
theorem SN:SX IA:=fun h=>sT h (Zl (Xb h) Ym) rfl (by kernel_rfl) fun _=>rfl
def Q3:Zp→Nat→(Int×PUnit→Option Int)→Int×PUnit→Option Int:=fun x0 L self acc=>bif decide (acc.1 < (↑x0.3.length:Int)) then bT (YH x0.3 acc.1) fun y=>bT (ZA L (y.1,0,Go.IntKind.i64.wrap (x0.4 - 1),())) fun y_1=>bif !y_1 then some 2 else bT (ZA L (y.2,0,1000,())) fun y_2=>bif !y_2 then some 2 else bT (bif decide (acc.1 > 0) == true then bT (YH x0.3 (Go.IntKind.i64.wrap (acc.1 - 1))) fun y_3=>some (decide (y.1≤y_3.1)) else some false) fun y=>bif y then some 12 else self (Go.IntKind.i64.wrap (acc.1 + 1),()) else some 0
theorem SI (L:Nat)(x0:Zp):Vd L (x0,())=bif (↑x0.3.length:Int) == 0 then bif x0.4 != 0 then some 1 else some 0 else bif decide ((↑x0.3.length:Int) > 20) then some 6 else bT (ZA L (x0.4,1,1000000000,())) fun y=>bif !y then some 2 else Z9 (Q3 x0 L) L (0,()):=by kernel_rfl
def ZbP:List (Inl tT):=[⟨48,Bd,[.unr 60],.one (.int .i64),[(5,[.cont 1 (.map .str)])]⟩,⟨75,Og,[],.one (.int .i64),[]⟩,⟨71,Oe,[],.one (.int .i64),[(5,[.cont 1 (.map .str)])]⟩,⟨72,V3,[.rnd [.slot 16 (.int .i64),.cont 1 (.map .str)]],.one (.int .i64),[(5,[.cont 1 (.map .str)])]⟩,⟨73,Gi,[],.one (.int .i64),[]⟩,⟨67,Oc,[],.one (.int .i64),[(5,[.cont 1 (.map .str)])]⟩,⟨68,XO,[.rnd [.slot 16 (.int .i64),.cont 1 (.map .str)]],.one (.int .i64),[(5,[.cont 1 (.map .str)])]⟩,⟨69,Gh,[],.one (.int .i64),[(6,[.cont 1 (.map .str)])]⟩,⟨21,Wn,[],.one (.int .i64),[(7,[.cont 1 (.map .str)]),(5,[.cont 1 (.map .str)])]⟩,⟨66,Ob,[],.one (.int .i64),[(5,[.cont 1 (.map .str)])]⟩,⟨65,MH,[],.one (.int .i64),[(5,[.cont 1 (.map .str)])]⟩,⟨64,MG,[],.one (.int .i64),[(5,[.cont 1 (.map .str)])]⟩,⟨63,MF,[],.one (.int .i64),[(5,[.cont 1 (.map .str)])]⟩,⟨62,MC,[],.one (.int .i64),[(5,[.cont 1 (.map .str)])]⟩,⟨59,MB,[],.one (.int .i64),[(5,[.cont 1 (.map .str)])]⟩,⟨60,XG,[.rnd [.slot 16 (.int .i64),.cont 1 (.map .str)]],.one (.int .i64),[(5,[.cont 1 (.map .str)])]⟩,⟨61,Iw,[],.one (.int .i64),[(6,[.cont 1 (.map .str)])]⟩,⟨56,Me,[],.one (.int .i64),[(5,[.cont 1 (.map .str)])]⟩,⟨57,Xo,[.rnd [.slot 16 (.int .i64),.cont 1 (.map .str)]],.one (.int .i64),[(5,[.cont 1 (.map .str)])]⟩,⟨58,Iu,[],.one (.int .i64),[(6,[.cont 1 (.map .str)])]⟩,⟨50,Md,[],.one (.int .i64),[(5,[.cont 1 (.map .str)])]⟩,⟨51,Q9,[.rnd [.slot 16 (.int .i64),.cont 1 (.map .str)]],.one (.int .i64),[(5,[.cont 1 (.map .str)])]⟩,⟨52,Ir,[],.one (.int .i64),[(6,[.cont 1 (.map .str)])]⟩,⟨49,Mc,[],.one (.int .i64),[(5,[.cont 1 (.map .str)])]⟩,⟨18,Xd,[],.one (.int .i64),[(5,[.cont 1 (.map .str)])]⟩,⟨44,QI,[.rnd [.slot 16 (.int .i64),.cont 1 (.map .str)]],.one (.int .i64),[(5,[.cont 1 (.map .str)])]⟩,⟨45,Xn,[],.one (.int .i64),[(6,[.cont 1 (.map .str)])]⟩,⟨46,TZ,[],.one (.int .i64),[(5,[.cont 1 (.map .str)])]⟩,⟨47,JU,[.rnd [.slot 16 (.int .i64),.cont 1 (.map .str)]],.one (.int .i64),[(5,[.cont 1 (.map .str)])]⟩]
def KE (L:Nat)(x:Zb×PUnit):Option Int:=fI [NT L,D9 L,OT L,QO L,Qq L,I9 L,IA L,KC L,Un L] L ZbP PW [] (.one (.int .i64)) [.row 14] x
def NU (L:Nat):Sum tT:=mU 22 [.row 14] (.one (.int .i64)) (KE L)
theorem Ze5:SX NU:=fun h=>sI h (Zl (Ze4 h) (Zl (ZcG h) (Zl (FZ h) (Zl (XA h) (Zl (Xb h) (Zl (SL h) (Zl (SN h) (Zl (OG h) (Zl (He h) Ym))))))))) (Zl ⟨h.T _ _ rfl,by kernel_rfl⟩ (Zl ⟨h.T _ _ rfl,by kernel_rfl⟩ (Zl ⟨h.T _ _ rfl,by kernel_rfl⟩ (Zl ⟨h.T _ _ rfl,by kernel_rfl⟩ (Zl ⟨h.T _ _ rfl,by kernel_rfl⟩ (Zl ⟨h.T _ _ rfl,by kernel_rfl⟩ (Zl ⟨h.T _ _ rfl,by kernel_rfl⟩ (Zl ⟨h.T _ _ rfl,by kernel_rfl⟩ (Zl ⟨h.T _ _ rfl,by kernel_rfl⟩ (Zl ⟨h.T _ _ rfl,by kernel_rfl⟩ (Zl ⟨h.T _ _ rfl,by kernel_rfl⟩ (Zl ⟨h.T _ _ rfl,by kernel_rfl⟩ (Zl ⟨h.T _ _ rfl,by kernel_rfl⟩ (Zl ⟨h.T _ _ rfl,by kernel_rfl⟩ (Zl ⟨h.T _ _ rfl,by kernel_rfl⟩ (Zl ⟨h.T _ _ rfl,by kernel_rfl⟩ (Zl ⟨h.T _ _ rfl,by kernel_rfl⟩ (Zl ⟨h.T _ _ rfl,by kernel_rfl⟩ (Zl ⟨h.T _ _ rfl,by kernel_rfl⟩ (Zl ⟨h.T _ _ rfl,by kernel_rfl⟩ (Zl ⟨h.T _ _ rfl,by kernel_rfl⟩ (Zl ⟨h.T _ _ rfl,by kernel_rfl⟩ (Zl ⟨h.T _ _ rfl,by kernel_rfl⟩ (Zl ⟨h.T _ _ rfl,by kernel_rfl⟩ (Zl ⟨h.T _ _ rfl,by kernel_rfl⟩ (Zl ⟨h.T _ _ rfl,by kernel_rfl⟩ (Zl ⟨h.T _ _ rfl,by kernel_rfl⟩ (Zl ⟨h.T _ _ rfl,by kernel_rfl⟩ (Zl ⟨h.T _ _ rfl,by kernel_rfl⟩ Ym))))))))))))))))))))))))))))) rfl (by kernel_rfl) fun _=>rfl
def Ug:Zb→Nat→(Int×List (List UInt8)×PUnit→Option (Int×List (List UInt8)×PUnit))→Int×List (List UInt8)×PUnit→Option (Int×List (List UInt8)×PUnit):=fun x0 L self acc=>bif decide (acc.1 < (↑x0.2.length:Int)) then bT (YH x0.2 acc.1) fun y=>bT (bT (bT (ZJ L (y.1,())) fun y_1=>bif y_1 != 0 then some (y_1,acc.2.1,()) else bif hasK MK.str acc.2.1 y.1 then some (4,acc.2.1,()) else some (0,Nl MK.str acc.2.1 y.1,())) fun y_1=>bif y_1.1 != 0 then some (y_1.1,y_1.2.1,()) else bT (XE L (y.2,())) fun y_2=>bif !y_2 then some (1,y_1.2.1,()) else bT (Vx L (y.2,y.3,())) fun y=>bif !y then some (2,y_1.2.1,()) else some (0,y_1.2.1,())) fun y=>bif y.1 != 0 then some (y.1,y.2.1,()) else self (Go.IntKind.i64.wrap (acc.1 + 1),y.2.1,()) else some (0,acc.2.1,())
def Uh:Zb→Nat→(Int×List (List UInt8)×PUnit→Option (Int×List (List UInt8)×PUnit))→Int×List (List UInt8)×PUnit→Option (Int×List (List UInt8)×PUnit):=fun x0 L self acc=>bif decide (acc.1 < (↑x0.3.length:Int)) then bT (YH x0.3 acc.1) fun y=>bT (bT (bT (ZJ L (y.1,())) fun y_1=>bif y_1 != 0 then some (y_1,acc.2.1,()) else bif hasK MK.str acc.2.1 y.1 then some (4,acc.2.1,()) else some (0,Nl MK.str acc.2.1 y.1,())) fun y_1=>bif y_1.1 != 0 then some (y_1.1,y_1.2.1,()) else bT (ZA L (y.2,0,1000,())) fun y_2=>bif !y_2 then some (2,y_1.2.1,()) else bT (Vd L (y,())) fun y_3=>bif y_3 != 0 then some (y_3,y_1.2.1,()) else bT (Vb L (x0,y.5,())) fun y=>some (y,y_1.2.1,())) fun y=>bif y.1 != 0 then some (y.1,y.2.1,()) else self (Go.IntKind.i64.wrap (acc.1 + 1),y.2.1,()) else some (0,acc.2.1,())
def Ui:Zb→Nat→(Int×List (List UInt8)×PUnit→Option (Int×List (List UInt8)×PUnit))→Int×List (List UInt8)×PUnit→Option (Int×List (List UInt8)×PUnit):=fun x0 L self acc=>bif decide (acc.1 < (↑x0.4.length:Int)) then bT (YH x0.4 acc.1) fun y=>bT (bT (bT (ZJ L (y.1,())) fun y_1=>bif y_1 != 0 then some (y_1,acc.2.1,()) else bif hasK MK.str acc.2.1 y.1 then some (4,acc.2.1,()) else some (0,Nl MK.str acc.2.1 y.1,())) fun y_1=>bif y_1.1 != 0 then some (y_1.1,y_1.2.1,()) else bT (ZA L (y.2,1,1000,())) fun y_2=>bif !y_2 then some (2,y_1.2.1,()) else bif decide (y.3 < 1) || decide (y.3 > 3) then some (1,y_1.2.1,()) else some (0,y_1.2.1,())) fun y=>bif y.1 != 0 then some (y.1,y.2.1,()) else self (Go.IntKind.i64.wrap (acc.1 + 1),y.2.1,()) else some (0,acc.2.1,())
def Uj:Zb→Nat→(Int×List (List UInt8)×PUnit→Option (Int×List (List UInt8)×PUnit))→Int×List (List UInt8)×PUnit→Option (Int×List (List UInt8)×PUnit):=fun x0 L self acc=>bif decide (acc.1 < (↑x0.5.length:Int)) then bT (YH x0.5 acc.1) fun y=>bT (bT (bT (ZJ L (y.1,())) fun y_1=>bif y_1 != 0 then some (y_1,acc.2.1,()) else bif hasK MK.str acc.2.1 y.1 then some (4,acc.2.1,()) else some (0,Nl MK.str acc.2.1 y.1,())) fun y_1=>bif y_1.1 != 0 then some (y_1.1,y_1.2.1,()) else bT (ZA L (y.2,1,1000,())) fun y_2=>bT (bif (!y_2) == false then bT (ZA L (y.3,1,1000,())) fun y=>some !y else some true) fun y=>bif y then some (2,y_1.2.1,()) else some (0,y_1.2.1,())) fun y=>bif y.1 != 0 then some (y.1,y.2.1,()) else self (Go.IntKind.i64.wrap (acc.1 + 1),y.2.1,()) else some (0,acc.2.1,())
def Uk:Zb→Nat→(Int×List (List UInt8)×PUnit→Option (Int×List (List UInt8)×PUnit))→Int×List (List UInt8)×PUnit→Option (Int×List (List UInt8)×PUnit):=fun x0 L self acc=>bif decide (acc.1 < (↑x0.6.length:Int)) then bT (YH x0.6 acc.1) fun y=>bT (bT (ZJ L (y,())) fun y_1=>bif y_1 != 0 then some (y_1,acc.2.1,()) else bif hasK MK.str acc.2.1 y then some (4,acc.2.1,()) else some (0,Nl MK.str acc.2.1 y,())) fun y=>bif y.1 != 0 then some (y.1,y.2.1,()) else self (Go.IntKind.i64.wrap (acc.1 + 1),y.2.1,()) else some (0,acc.2.1,())
def BP:Zb→Nat→(Int×List (List UInt8)×PUnit→Option (Int×List (List UInt8)×PUnit))→Int×List (List UInt8)×PUnit→Option (Int×List (List UInt8)×PUnit):=fun x0 L self acc=>bif decide (acc.1 < (↑x0.7.length:Int)) then bT (YH x0.7 acc.1) fun y=>bT (bT (ZJ L (y,())) fun y_1=>bif y_1 != 0 then some (y_1,acc.2.1,()) else bif hasK MK.str acc.2.1 y then some (4,acc.2.1,()) else some (0,Nl MK.str acc.2.1 y,())) fun y=>bif y.1 != 0 then some (y.1,y.2.1,()) else self (Go.IntKind.i64.wrap (acc.1 + 1),y.2.1,()) else some (0,acc.2.1,())
def BQ:Zb→Nat→(Int×List (List UInt8)×PUnit→Option (Int×List (List UInt8)×PUnit))→Int×List (List UInt8)×PUnit→Option (Int×List (List UInt8)×PUnit):=fun x0 L self acc=>bif decide (acc.1 < (↑x0.8.length:Int)) then bT (YH x0.8 acc.1) fun y=>bT (bT (ZJ L (y,())) fun y_1=>bif y_1 != 0 then some (y_1,acc.2.1,()) else bif hasK MK.str acc.2.1 y then some (4,acc.2.1,()) else some (0,Nl MK.str acc.2.1 y,())) fun y=>bif y.1 != 0 then some (y.1,y.2.1,()) else self (Go.IntKind.i64.wrap (acc.1 + 1),y.2.1,()) else some (0,acc.2.1,())
def BR:Zb→Nat→(Int×List (List UInt8)×PUnit→Option (Int×List (List UInt8)×PUnit))→Int×List (List UInt8)×PUnit→Option (Int×List (List UInt8)×PUnit):=fun x0 L self acc=>bif decide (acc.1 < (↑x0.9.length:Int)) then bT (YH x0.9 acc.1) fun y=>bT (bT (ZJ L (y,())) fun y_1=>bif y_1 != 0 then some (y_1,acc.2.1,()) else bif hasK MK.str acc.2.1 y then some (4,acc.2.1,()) else some (0,Nl MK.str acc.2.1 y,())) fun y=>bif y.1 != 0 then some (y.1,y.2.1,()) else self (Go.IntKind.i64.wrap (acc.1 + 1),y.2.1,()) else some (0,acc.2.1,())
def BU:Zb→Nat→(Int×List (List UInt8)×PUnit→Option (Int×List (List UInt8)×PUnit))→Int×List (List UInt8)×PUnit→Option (Int×List (List UInt8)×PUnit):=fun x0 L self acc=>bif decide (acc.1 < (↑x0.10.length:Int)) then bT (YH x0.10 acc.1) fun y=>bT (bT (ZJ L (y,())) fun y_1=>bif y_1 != 0 then some (y_1,acc.2.1,()) else bif hasK MK.str acc.2.1 y then some (4,acc.2.1,()) else some (0,Nl MK.str acc.2.1 y,())) fun y=>bif y.1 != 0 then some (y.1,y.2.1,()) else self (Go.IntKind.i64.wrap (acc.1 + 1),y.2.1,()) else some (0,acc.2.1,())
def Ul:Zb→Nat→(Int×List (List UInt8)×PUnit→Option (Int×List (List UInt8)×PUnit))→Int×List (List UInt8)×PUnit→Option (Int×List (List UInt8)×PUnit):=fun x0 L self acc=>bif decide (acc.1 < (↑x0.11.length:Int)) then bT (YH x0.11 acc.1) fun y=>bT (bT (bT (ZJ L (y.1,())) fun y_1=>bif y_1 != 0 then some (y_1,acc.2.1,()) else bif hasK MK.str acc.2.1 y.1 then some (4,acc.2.1,()) else some (0,Nl MK.str acc.2.1 y.1,())) fun y_1=>bif y_1.1 != 0 then some (y_1.1,y_1.2.1,()) else bT (VG L (y,())) fun y=>some (y,y_1.2.1,())) fun y=>bif y.1 != 0 then some (y.1,y.2.1,()) else self (Go.IntKind.i64.wrap (acc.1 + 1),y.2.1,()) else some (0,acc.2.1,())
def QY:Zb→Nat→(Int×List (List UInt8)×PUnit→Option (Int×List (List UInt8)×PUnit))→Int×List (List UInt8)×PUnit→Option (Int×List (List UInt8)×PUnit):=fun x0 L self acc=>bif decide (acc.1 < (↑x0.12.length:Int)) then bT (YH x0.12 acc.1) fun y=>bT (bT (Us L (x0,y,())) fun y=>some y) fun y=>bif y != 0 then some (y,acc.2.1,()) else self (Go.IntKind.i64.wrap (acc.1 + 1),acc.2.1,()) else some (0,acc.2.1,())
theorem Zej (L:Nat)(x0:Zb):KE L (x0,())=bT (bT (bT (bT (bif decide ((↑x0.2.length:Int) > 32) then some (6,[],()) else Z9 (Ug x0 L) L (0,[],())) fun y=>some (y.1,y.2.1,())) fun y=>some (y.1,y.2.1,())) fun y=>bif y.1 != 0 then some (y.1,y.2.1,()) else bT (bT (bif decide ((↑x0.3.length:Int) > 32) then some (6,y.2.1,()) else Z9 (Uh x0 L) L (0,y.2.1,())) fun y=>some (y.1,y.2.1,())) fun y=>bif y.1 != 0 then some (y.1,y.2.1,()) else bT (bT (bif decide ((↑x0.4.length:Int) > 32) then some (6,y.2.1,()) else Z9 (Ui x0 L) L (0,y.2.1,())) fun y=>some (y.1,y.2.1,())) fun y=>bif y.1 != 0 then some (y.1,y.2.1,()) else bT (bT (bif decide ((↑x0.5.length:Int) > 32) then some (6,y.2.1,()) else Z9 (Uj x0 L) L (0,y.2.1,())) fun y=>some (y.1,y.2.1,())) fun y=>bif y.1 != 0 then some (y.1,y.2.1,()) else bT (bT (bT (bif decide ((↑x0.6.length:Int) > 32) then some (6,y.2.1,()) else Z9 (Uk x0 L) L (0,y.2.1,())) fun y=>some (y.1,y.2.1,())) fun y=>some (y.1,y.2.1,())) fun y=>bif y.1 != 0 then some (y.1,y.2.1,()) else bT (bT (bT (bif decide ((↑x0.7.length:Int) > 32) then some (6,y.2.1,()) else Z9 (BP x0 L) L (0,y.2.1,())) fun y=>some (y.1,y.2.1,())) fun y=>some (y.1,y.2.1,())) fun y=>bif y.1 != 0 then some (y.1,y.2.1,()) else bT (bT (bT (bif decide ((↑x0.8.length:Int) > 32) then some (6,y.2.1,()) else Z9 (BQ x0 L) L (0,y.2.1,())) fun y=>some (y.1,y.2.1,())) fun y=>some (y.1,y.2.1,())) fun y=>bif y.1 != 0 then some (y.1,y.2.1,()) else bT (bT (bT (bif decide ((↑x0.9.length:Int) > 32) then some (6,y.2.1,()) else Z9 (BR x0 L) L (0,y.2.1,())) fun y=>some (y.1,y.2.1,())) fun y=>some (y.1,y.2.1,())) fun y=>bif y.1 != 0 then some (y.1,y.2.1,()) else bT (bT (bT (bif decide ((↑x0.10.length:Int) > 32) then some (6,y.2.1,()) else Z9 (BU x0 L) L (0,y.2.1,())) fun y=>some (y.1,y.2.1,())) fun y=>some (y.1,y.2.1,())) fun y=>bif y.1 != 0 then some (y.1,y.2.1,()) else bT (bT (bif decide ((↑x0.11.length:Int) > 16) then some (6,y.2.1,()) else Z9 (Ul x0 L) L (0,y.2.1,())) fun y=>some (y.1,y.2.1,())) fun y=>bif y.1 != 0 then some (y.1,y.2.1,()) else bT (bT (bif decide ((↑x0.12.length:Int) > 32) then some (6,y.2.1,()) else Z9 (QY x0 L) L (0,y.2.1,())) fun y=>some (y.1,y.2.1,())) fun y=>bif y.1 != 0 then some (y.1,y.2.1,()) else bT (bT (KD L (x0,())) fun y=>some y) fun y_1=>bif y_1 != 0 then some (y_1,y.2.1,()) else some (0,y.2.1,())) fun y=>some y.1:=by kernel_rfl
def Zan:List (Inl tT):=[⟨19,XH,[.rnd [.slot 16 (.int .i64),.cont 1 (.map .str),.cont 2 (.map .str)]],.one (.int .i64),[(4,[.cont 1 (.map .str),.cont 2 (.map .str)])]⟩,⟨20,IQ,[],.one (.int .i64),[(5,[.cont 2 (.map .str)])]⟩,⟨21,Wn,[],.one (.int .i64),[(4,[.cont 1 (.map .str)]),(6,[.cont 2 (.map .str)])]⟩,⟨18,Xd,[],.one (.int .i64),[(2,[.cont 1 (.map .str)])]⟩,⟨44,QI,[.rnd [.slot 16 (.int .i64),.cont 1 (.map .str)]],.one (.int .i64),[(2,[.cont 1 (.map .str)])]⟩,⟨45,Xn,[],.one (.int .i64),[(3,[.cont 1 (.map .str)])]⟩]
def H8 (L:Nat)(x:ZH×PUnit):Option Int:=fI [D8 L,NU L,QO L,KC L,Un L] L Zan Ba [] (.one (.int .i64)) [.row 16] x
def ZcT (L:Nat):Sum tT:=mU 7 [.row 16] (.one (.int .i64)) (H8 L)
theorem ZcE:SX ZcT:=fun h=>sI h (Zl (ZcF h) (Zl (Ze5 h) (Zl (XA h) (Zl (OG h) (Zl (He h) Ym))))) (Zl ⟨h.T _ _ rfl,by kernel_rfl⟩ (Zl ⟨h.T _ _ rfl,by kernel_rfl⟩ (Zl ⟨h.T _ _ rfl,by kernel_rfl⟩ (Zl ⟨h.T _ _ rfl,by kernel_rfl⟩ (Zl ⟨h.T _ _ rfl,by kernel_rfl⟩ (Zl ⟨h.T _ _ rfl,by kernel_rfl⟩ Ym)))))) rfl (by kernel_rfl) fun _=>rfl
def Jq:ZH→Nat→(Int×List (List UInt8)×PUnit→Option (Int×List (List UInt8)×PUnit))→Int×List (List UInt8)×PUnit→Option (Int×List (List UInt8)×PUnit):=fun x0 L self acc=>bif decide (acc.1 < (↑x0.2.length:Int)) then bT (YH x0.2 acc.1) fun y=>bT (bT (bT (ZJ L (y.1,())) fun y_1=>bif y_1 != 0 then some (y_1,acc.2.1,()) else bif hasK MK.str acc.2.1 y.1 then some (4,acc.2.1,()) else some (0,Nl MK.str acc.2.1 y.1,())) fun y_1=>bif y_1.1 != 0 then some (y_1.1,y_1.2.1,()) else bT (XE L (y.2,())) fun y_2=>bif !y_2 then some (1,y_1.2.1,()) else bT (Vx L (y.2,y.3,())) fun y=>bif !y then some (2,y_1.2.1,()) else some (0,y_1.2.1,())) fun y=>bif y.1 != 0 then some (y.1,y.2.1,()) else self (Go.IntKind.i64.wrap (acc.1 + 1),y.2.1,()) else some (0,acc.2.1,())
def QX:ZH→Nat→(Int×List (List UInt8)×List (List UInt8)×PUnit→Option (Int×List (List UInt8)×List (List UInt8)×PUnit))→Int×List (List UInt8)×List (List UInt8)×PUnit→Option (Int×List (List UInt8)×List (List UInt8)×PUnit):=fun x0 L self acc=>bif decide (acc.1 < (↑x0.3.length:Int)) then bT (YH x0.3 acc.1) fun y=>bT (bT (bT (ZJ L (y.1,())) fun y_1=>bif y_1 != 0 then some (y_1,acc.2.2.1,()) else bif hasK MK.str acc.2.2.1 y.1 then some (4,acc.2.2.1,()) else some (0,Nl MK.str acc.2.2.1 y.1,())) fun y_1=>bif y_1.1 != 0 then some (y_1.1,y_1.2.1,()) else bT (KE L (y,())) fun y=>some (y,y_1.2.1,())) fun y=>bif y.1 != 0 then some (y.1,acc.2.1,y.2.1,()) else self (Go.IntKind.i64.wrap (acc.1 + 1),acc.2.1,y.2.1,()) else some (0,acc.2.1,acc.2.2.1,())
theorem Zcz (L:Nat)(x0:ZH):H8 L (x0,())=bT (ZJ L (x0.1,())) fun y=>bif y != 0 then some y else bT (bT (bif decide ((↑x0.2.length:Int) > 32) then some (6,[],()) else Z9 (Jq x0 L) L (0,[],())) fun y=>some (y.1,y.2.1,())) fun y=>bif y.1 != 0 then some y.1 else bif (↑x0.3.length:Int) == 0 then some 7 else bT (bif decide ((↑x0.3.length:Int) > 16) then some (6,y.2.1,[],()) else Z9 (QX x0 L) L (0,y.2.1,[],())) fun y=>bif y.1 != 0 then some y.1 else bT (Ur L (x0,())) fun y=>some y:=by kernel_rfl
end Go.Proofs.YthkdlifcknpadaaGreat
end
noncomputable section
namespace Go.Proofs.YthkdlifcknpadaaGreat
open Go Go.Proofs.YthkdlifcknpadaaGreat.Abs Go.Proofs.YthkdlifcknpadaaGreat.Tl
set_option maxRecDepth 100000
set_option maxHeartbeats 0
def WA (L:Nat)(x:Int×Int×Int×PUnit):Option Bool:=fT [] L Nh [] (.one .bool) [.int .i64,.int .i64,.int .i64] x
def Vt (L:Nat):Sum tT:=mU 88 [.int .i64,.int .i64,.int .i64] (.one .bool) (WA L)
theorem Zeq (L:Nat)(x0:Int)(x1:Int)(x2:Int):WA L (x0,x1,x2,())=some (decide (x0 ≥ x1) && decide (x0≤x2)):=by kernel_rfl
def DL (L:Nat)(x:Int×PUnit):Option Bool:=fT [] L Zg4 [] (.one .bool) [.int .i64] x
def Em (L:Nat):Sum tT:=mU 123 [.int .i64] (.one .bool) (DL L)
theorem Znp (L:Nat)(x0:Int):DL L (x0,())=some (decide (x0 ≥ (-1000000000000)) && decide (x0≤1000000000000)):=by kernel_rfl
def Qr (L:Nat)(x:Int×Int×PUnit):Option Int:=fT [] L EG [] (.one (.int .i64)) [.int .i64,.int .i64] x
def Jh (L:Nat):Sum tT:=mU 24 [.int .i64,.int .i64] (.one (.int .i64)) (Qr L)
theorem ZfY (L:Nat)(x0:Int)(x1:Int):Qr L (x0,x1,())=bif x0 != 0 then some x0 else some x1:=by kernel_rfl
def U2 (L:Nat)(x:(List (List UInt8))×(List UInt8)×PUnit):Option Int:=fT [] L Za8 [.rnd [.slot 5 (.int .i64)]] (.one (.int .i64)) [.lst 1 .str,.str] x
def G7 (L:Nat):Sum tT:=mU 83 [.lst 1 .str,.str] (.one (.int .i64)) (U2 L)
def Ri:List (List UInt8)→List UInt8→(Int×PUnit→Option Int)→Int×PUnit→Option Int:=fun x0 x1 self acc=>bif decide (acc.1 < (↑x0.length:Int)) then bT (YH x0 acc.1) fun y=>bif y == x1 then some acc.1 else self (Go.IntKind.i64.wrap (acc.1 + 1),()) else some (-1)
theorem Zit (L:Nat)(x0:(List (List UInt8)))(x1:(List UInt8)):U2 L (x0,x1,())=Z9 (Ri x0 x1) L (0,()):=by kernel_rfl
def ZiK (L:Nat)(x:Zb×(List UInt8)×PUnit):Option (List UInt8):=fT [G7 L,H6 L] L ZaC [.rnd [.slot 7 (.int .i64)]] (.one .str) [.row 14,.str] x
def ZiH (L:Nat):Sum tT:=mU 145 [.row 14,.str] (.one .str) (ZiK L)
def YC (L:Nat)(x:Bool×Int×PUnit):Option Int:=fT [] L Nc [] (.one (.int .i64)) [.bool,.int .i64] x
def QG (L:Nat):Sum tT:=mU 26 [.bool,.int .i64] (.one (.int .i64)) (YC L)
theorem Zep (L:Nat)(x0:Bool)(x1:Int):YC L (x0,x1,())=bif x0 then some 0 else some x1:=by kernel_rfl
end Go.Proofs.YthkdlifcknpadaaGreat
end
noncomputable section
namespace Go.Proofs.YthkdlifcknpadaaGreat
open Go Go.Proofs.YthkdlifcknpadaaGreat.Abs Go.Proofs.YthkdlifcknpadaaGreat.Tl
set_option maxRecDepth 100000
set_option maxHeartbeats 0
def ZiL (L:Nat)(x:Zb×IK×PUnit):Option Int:=fT [Vt L,Jh L,ZiH L,QG L] L ZaD [] (.one (.int .i64)) [.row 14,.row 12] x
def ZiI (L:Nat):Sum tT:=mU 127 [.row 14,.row 12] (.one (.int .i64)) (ZiL L)
def Jv (L:Nat)(x:PUnit):Option ((List (List UInt8))):=fT [] L MN [] (.one (.lst 1 .str)) [] x
def Za1 (L:Nat):Sum tT:=mU 122 [] (.one (.lst 1 .str)) (Jv L)
theorem Zav (L:Nat)  : Jv L ()=some [[97,100,100],[97,102,116,101,114],[97,110,100],[97,116],[98,101,108,116],[98,111,111,108],[99,111,110,115,101,114,118,101],[99,111,110,115,116],[99,111,117,110,116],[99,121,99,108,101],[100,111,119,110],[100,114,97,119],[100,117,114],[101,108,115,101],[101,110,100],[101,118,101,114,121],[102,97,108,115,101],[102,97,117,108,116],[102,105,102,111],[102,114,101,101],[102,114,111,109],[103,101,111,109],[103,101,116],[104,111,108,100],[105,102],[105,110,116],[105,110,116,111],[108,101,97,115,116],[108,101,118,101,108],[108,105,102,111],[108,105,110,107],[108,111,99,97,108],[109,97,120],[109,105,110],[109,111,100,101,108],[110,111,116],[110,111,119],[111,98,115,101,114,118,101],[111,114],[112,97,114,97,109],[112,114,101,101,109,112,116],[112,114,105,111],[112,117,116],[113,117,101,117,101],[114,101,108,101,97,115,101],[114,101,115,111,117,114,99,101],[114,105,100,101],[114,111,117,116,105,110,101],[115,101,105,122,101],[115,101,110,100],[115,101,116],[115,104,105,102,116],[115,105,103,110,97,108],[115,105,116,101],[115,105,122,101],[115,112,97,119,110],[115,116,97,114,116],[115,116,111,112],[115,116,111,114,101],[115,116,114,101,97,109],[115,117,109],[116,97,98,108,101],[116,97,108,108,121],[116,105,99,107,115],[116,105,109,101],[116,114,117,101],[117,110,105,102,111,114,109],[117,110,116,105,108],[117,112],[118,97,114],[119,97,105,116],[119,97,105,116,105,110,103],[119,104,105,108,101]]:=by kernel_rfl
def Ut (L:Nat)(x:(List UInt8)×PUnit):Option Bool:=fT [G7 L,Za1 L] L Bl [] (.one .bool) [.str] x
def ZcU (L:Nat):Sum tT:=mU 80 [.str] (.one .bool) (Ut L)
theorem Zc5 (L:Nat)(x0:(List UInt8)):Ut L (x0,())=bT (Jv L ()) fun y=>bT (U2 L (y,x0,())) fun y=>some (decide (y ≥ 0)):=by kernel_rfl
def JI (L:Nat)(x:Int×PUnit):Option Bool:=fT [] L PZ [] (.one .bool) [.int .u8] x
def ZeL (L:Nat):Sum tT:=mU 79 [.int .u8] (.one .bool) (JI L)
theorem Zem (L:Nat)(x0:Int):JI L (x0,())=some (decide (x0 ≥ 97) && decide (x0≤122)):=by kernel_rfl
def Xz (L:Nat)(x:(List UInt8)×PUnit):Option Int:=fT [ZcU L,ZeL L] L Ey [.rnd [.slot 3 (.int .i64)]] (.one (.int .i64)) [.str] x
def H5 (L:Nat):Sum tT:=mU 25 [.str] (.one (.int .i64)) (Xz L)
def Kz:List UInt8→Nat→(Int×PUnit→Option Int)→Int×PUnit→Option Int:=fun x0 L self acc=>bif decide (acc.1 < (↑x0.length:Int)) then bT (YH x0 acc.1) fun y=>bT (JI L ((↑y.toNat:Int),())) fun y=>bT (bif (!y) == true then bT (YH x0 acc.1) fun y=>some ((↑y.toNat:Int) != 95) else some false) fun y=>bT (bif y == true then bT (YH x0 acc.1) fun y=>bif decide ((↑y.toNat:Int) < 48) == false then bT (YH x0 acc.1) fun y=>some (decide ((↑y.toNat:Int) > 57)) else some true else some false) fun y=>bif y then some 3 else self (Go.IntKind.i64.wrap (acc.1 + 1),()) else some 0
theorem ZfM (L:Nat)(x0:(List UInt8)):Xz L (x0,())=bT (bif (decide ((↑x0.length:Int) < 1) || decide ((↑x0.length:Int) > 24)) == false then bT (YH x0 0) fun y=>bT (JI L ((↑y.toNat:Int),())) fun y=>some !y else some true) fun y=>bT (bif y == false then bT (Ut L (x0,())) fun y=>some y else some true) fun y=>bif y then some 3 else Z9 (Kz x0 L) L (0,()):=by kernel_rfl
def UT (L:Nat)(x:(List UInt8)×(List (List UInt8))×PUnit):Option Int:=fT [Jh L,QG L,G7 L,H5 L] L EH [] (.one (.int .i64)) [.str,.lst 1 .str] x
def CY (L:Nat):Sum tT:=mU 28 [.str,.lst 1 .str] (.one (.int .i64)) (UT L)
theorem ZfZ (L:Nat)(x0:(List UInt8))(x1:(List (List UInt8))):UT L (x0,x1,())=bT (Xz L (x0,())) fun y=>bT (U2 L (x1,x0,())) fun y_1=>bT (YC L (decide (y_1 < 0),4,())) fun y_2=>bT (Qr L (y,y_2,())) fun y=>some y:=by kernel_rfl
def Zlz (L:Nat)(x:Zb×ZcY×(List (List UInt8))×PUnit):Option Int:=fT [Em L,ZiI L,Jh L,QG L,CY L] L Zdj [.rnd [.slot 7 (.int .i64),.slot 8 (.int .i64)]] (.one (.int .i64)) [.row 14,.row 13,.lst 1 .str] x
def TJ (L:Nat)(x:Int×Int×PUnit):Option Bool:=fT [Vt L,Em L] L ZaB [] (.one .bool) [.int .i64,.int .i64] x
def Zbw (L:Nat):Sum tT:=mU 82 [.int .i64,.int .i64] (.one .bool) (TJ L)
theorem Ziy (L:Nat)(x0:Int)(x1:Int):TJ L (x0,x1,())=bif x0 == 1 then bT (DL L (x1,())) fun y=>some y else bif x0 == 2 then some (x1 == 0 || x1 == 1) else bif x0 == 3 then bT (WA L (x1,0,1000000000,())) fun y=>some y else some false:=by kernel_rfl
end Go.Proofs.YthkdlifcknpadaaGreat
end
noncomputable section
namespace Go.Proofs.YthkdlifcknpadaaGreat
open Go Go.Proofs.YthkdlifcknpadaaGreat.Abs Go.Proofs.YthkdlifcknpadaaGreat.Tl
set_option maxRecDepth 100000
set_option maxHeartbeats 0
def ZcX (L:Nat)(x:Zb×(List UInt8)×PUnit):Option Int:=fT [G7 L,H6 L] L Bo [] (.one (.int .i64)) [.row 14,.str] x
def ZcV (L:Nat):Sum tT:=mU 126 [.row 14,.str] (.one (.int .i64)) (ZcX L)
def Zgz (L:Nat)(x:Zb×J3×PUnit):Option Int:=fT [QG L,Vt L,Zbw L,ZcV L] L EI [.rnd [.slot 7 (.int .i64)]] (.one (.int .i64)) [.row 14,.row 11] x
def YP (L:Nat)(x:Int×Int×Int×PUnit):Option Bool:=fT [] L Bj [] (.one .bool) [.int .i64,.int .i64,.int .i64] x
def DC (L:Nat):Sum tT:=mU 155 [.int .i64,.int .i64,.int .i64] (.one .bool) (YP L)
theorem Zc4 (L:Nat)(x0:Int)(x1:Int)(x2:Int):YP L (x0,x1,x2,())=some (decide (x0 ≥ x1) && decide (x0≤x2)):=by kernel_rfl
def H9 (L:Nat)(x:YV×PUnit):Option Int:=fT [DC L] L Ew [.rnd [.slot 3 (.int .i64)]] (.one (.int .i64)) [.row 2] x
def Zgo (L:Nat):Sum tT:=mU 156 [.row 2] (.one (.int .i64)) (H9 L)
def Oy:YV→Nat→(Int×PUnit→Option Int)→Int×PUnit→Option Int:=fun x0 L self acc=>bif decide (acc.1 < (↑x0.5.length:Int)) then bT (YH x0.5 acc.1) fun y=>bT (YP L (y,0,1000000000,())) fun y=>bT (bif (!y) == false then bT (YH x0.6 acc.1) fun y=>bT (YP L (y,1,1000,())) fun y=>some !y else some true) fun y=>bif y then some 2 else self (Go.IntKind.i64.wrap (acc.1 + 1),()) else some 0
theorem ZfL (L:Nat)(x0:YV):H9 L (x0,())=bif (↑x0.5.length:Int) != (↑x0.6.length:Int) then some 8 else bif (↑x0.5.length:Int) == 0 then some 7 else bif decide ((↑x0.5.length:Int) > 20) then some 6 else Z9 (Oy x0 L) L (0,()):=by kernel_rfl
def KG (L:Nat)(x:YV×PUnit):Option Bool:=fT [] L PY [] (.one .bool) [.row 2] x
def ZeK (L:Nat):Sum tT:=mU 154 [.row 2] (.one .bool) (KG L)
theorem Zel (L:Nat)(x0:YV):KG L (x0,())=bif x0.1 == 1 then some (x0.3 == 0 && x0.4 == 0 && ((↑x0.5.length:Int) == 0 && (↑x0.6.length:Int) == 0)) else bif x0.1 == 2 then some (x0.4 == 0 && ((↑x0.5.length:Int) == 0 && (↑x0.6.length:Int) == 0)) else bif x0.1 == 5 then some (x0.4 == 0 && ((↑x0.5.length:Int) == 0 && (↑x0.6.length:Int) == 0)) else bif x0.1 == 3 then some (x0.2 == 0 && x0.3 == 0 && x0.4 == 0) else bif x0.1 == 4 then some ((↑x0.5.length:Int) == 0 && (↑x0.6.length:Int) == 0) else some false:=by kernel_rfl
def Jk (L:Nat)(x:YV×PUnit):Option Int:=fT [Zgo L,DC L,ZeK L] L Eu [] (.one (.int .i64)) [.row 2] x
def CU (L:Nat):Sum tT:=mU 143 [.row 2] (.one (.int .i64)) (Jk L)
theorem ZfK (L:Nat)(x0:YV):Jk L (x0,())=bT (KG L (x0,())) fun y=>bif !y then some 1 else bif x0.1 == 1 then bT (YP L (x0.2,0,1000000000,())) fun y=>bif !y then some 2 else some 0 else bif x0.1 == 2 then bT (YP L (x0.2,0,x0.3,())) fun y=>bif !(y && decide (x0.3≤1000000000)) then some 2 else some 0 else bif x0.1 == 3 then bT (H9 L (x0,())) fun y=>some y else bif x0.1 == 4 then bT (YP L (x0.4,1,20,())) fun y=>bT (bif y == true then bT (YP L (x0.2,0,x0.3,())) fun y=>some y else some false) fun y=>bif !(y && decide (x0.3≤1000000)) then some 2 else some 0 else bif x0.1 == 5 then bT (YP L (x0.2,1,1000,())) fun y=>bT (bif y == true then bT (YP L (x0.3,1,1000,())) fun y=>some y else some false) fun y=>bif !y then some 2 else some 0 else some 0:=by kernel_rfl
def TD (L:Nat)(x:Int×PUnit):Option Int:=fT [] L Za9 [] (.one (.int .i64)) [.int .i64] x
def Zbv (L:Nat):Sum tT:=mU 187 [.int .i64] (.one (.int .i64)) (TD L)
theorem Ziu (L:Nat)(x0:Int):TD L (x0,())=bif x0 == 25 then some 15 else bif x0 == 26 then some 31 else some 63:=by kernel_rfl
def JJ (L:Nat)(x:Int×PUnit):Option Bool:=fT [] L Na [] (.one .bool) [.int .i64] x
def NW (L:Nat):Sum tT:=mU 186 [.int .i64] (.one .bool) (JJ L)
theorem Zen (L:Nat)(x0:Int):JJ L (x0,())=some (decide (x0 ≥ 22) && decide (x0≤24)):=by kernel_rfl
end Go.Proofs.YthkdlifcknpadaaGreat
end
noncomputable section
namespace Go.Proofs.YthkdlifcknpadaaGreat
open Go Go.Proofs.YthkdlifcknpadaaGreat.Abs Go.Proofs.YthkdlifcknpadaaGreat.Tl
set_option maxRecDepth 100000
set_option maxHeartbeats 0
def HY (L:Nat)(x:Int×PUnit):Option Int:=fT [] L Ez [] (.one (.int .i64)) [.int .i64] x
def CV (L:Nat):Sum tT:=mU 185 [.int .i64] (.one (.int .i64)) (HY L)
theorem ZfN (L:Nat)(x0:Int):HY L (x0,())=bif decide (x0 < 1) || decide (x0 > 26) then some (-1) else bif decide (x0 ≥ 5) && decide (x0≤8) then some 1 else bif decide (x0 ≥ 9) && decide (x0≤21) then some 2 else some 0:=by kernel_rfl
def Cj (L:Nat):Nat→List (Sum tT)
 | 0=>[⟨183,[.row 8,.bool],fun _=>.par _ none ((.one (.int .i64):RD).tv tT)⟩]
 | m + 1=>[⟨183,[.row 8,.bool],fun x=>.par _ (fnT tF tG (qOf tF (Cj L m ++ [H5 L,Zbv L,Em L,NW L,CV L])) 0 L DX [.rnd [.slot 10 (.int .i64)]] (.one (.int .i64)) (tvL tT [.row 8,.bool] x) []) ((.one (.int .i64):RD).tv tT)⟩]
def Ii (L m:Nat)(x:ZC×Bool×PUnit):Option (Int):=fnT tF tG (qOf tF (Cj L m ++ [H5 L,Zbv L,Em L,NW L,CV L])) 0 L DX [.rnd [.slot 10 (.int .i64)]] (.one (.int .i64)) (tvL tT [.row 8,.bool] x) []
def PL (L:Nat)(x:ZC×Bool×PUnit):Option (Int):=Ii L L x
def ZiE (L:Nat):Sum tT:=⟨183,[.row 8,.bool],fun x=>.par ((.one (.int .i64):RD).Ty tT) (PL L x) ((.one (.int .i64):RD).tv tT)⟩
def GZ:Nat→ZC→Bool→Nat→(Int×PUnit→Option Int)→Int×PUnit→Option Int:=fun (m:Nat)=>fun x0 x1 L self acc=>bif decide (acc.1 < (↑x0.4.length:Int)) then bT (YH x0.4 acc.1) fun y=>bT (Ii L m (y,x1,())) fun y=>bif y != 0 then some y else self (Go.IntKind.i64.wrap (acc.1 + 1),()) else some 0
theorem Ziv (L m:Nat)(x0:ZC)(x1:Bool):Ii L (m + 1) (x0,x1,())=bT (HY L (x0.1,())) fun y=>bT (bif (!x1) == true then bif (x0.1 == 3) == false then bT (JJ L (x0.1,())) fun y=>some y else some true else some false) fun y_1=>bT (bif x1 == true then bT (JJ L (x0.1,())) fun y=>some (y || x0.1 == 25 || x0.1 == 26) else some false) fun y_2=>bif !(decide (y ≥ 0) && (x1 && x0.1 != 3 || !x1 && decide (x0.1≤24))) || !y_1 && !x0.2 == [] || !(x0.1 == 1 || x0.1 == 2 || y_2) && x0.3 != 0 || (↑x0.4.length:Int) != y then some 1 else bT (bif (x0.1 == 1) == true then bT (bT (DL L (x0.3,())) fun y=>some y) fun y=>some !y else some false) fun y=>bT (bif (y || x0.1 == 2 && x0.3 != 0 && x0.3 != 1) == false then bif y_2 == true then bif decide (x0.3 < 0) == false then bT (bT (TD L (x0.1,())) fun y=>some y) fun y=>some (decide (x0.3 > y)) else some true else some false else some true) fun y=>bif y then some 2 else bT (bif y_1 == true then bT (Xz L (x0.2,())) fun y=>some (y != 0) else some false) fun y=>bif y then bT (Xz L (x0.2,())) fun y=>some y else Z9 (GZ m x0 x1 L) L (0,()):=by kernel_rfl
def NI (L:Nat):Nat→List (Sum tT)
 | 0=>[⟨182,[.row 8],fun _=>.par _ none ((.one (.int .i64):RD).tv tT)⟩]
 | m + 1=>[⟨182,[.row 8],fun x=>.par _ (fnT tF tG (qOf tF (NI L m ++ [])) 0 L Ll [.rnd [.slot 3 (.int .i64),.slot 4 (.int .i64)]] (.one (.int .i64)) (tvL tT [.row 8] x) []) ((.one (.int .i64):RD).tv tT)⟩]
def KN (L m:Nat)(x:ZC×PUnit):Option (Int):=fnT tF tG (qOf tF (NI L m ++ [])) 0 L Ll [.rnd [.slot 3 (.int .i64),.slot 4 (.int .i64)]] (.one (.int .i64)) (tvL tT [.row 8] x) []
def RF (L:Nat)(x:ZC×PUnit):Option (Int):=KN L L x
def Zgq (L:Nat):Sum tT:=⟨182,[.row 8],fun x=>.par ((.one (.int .i64):RD).Ty tT) (RF L x) ((.one (.int .i64):RD).tv tT)⟩
def Oz:Nat→ZC→Nat→(Int×Int×PUnit→Option Int)→Int×Int×PUnit→Option Int:=fun (m:Nat)=>fun x0 L self acc=>bif decide (acc.2.1 < (↑x0.4.length:Int)) then bT (YH x0.4 acc.2.1) fun y=>bT (KN L m (y,())) fun y=>self (if y > acc.1 then y else acc.1,Go.IntKind.i64.wrap (acc.2.1 + 1),()) else some (Go.IntKind.i64.wrap (acc.1 + 1))
theorem ZfP (L m:Nat)(x0:ZC):KN L (m + 1) (x0,())=Z9 (Oz m x0 L) L (0,0,()):=by kernel_rfl
def NJ (L:Nat):Nat→List (Sum tT)
 | 0=>[⟨181,[.row 8],fun _=>.par _ none ((.one (.int .i64):RD).tv tT)⟩]
 | m + 1=>[⟨181,[.row 8],fun x=>.par _ (fnT tF tG (qOf tF (NJ L m ++ [])) 0 L Lm [.rnd [.slot 3 (.int .i64),.slot 4 (.int .i64)]] (.one (.int .i64)) (tvL tT [.row 8] x) []) ((.one (.int .i64):RD).tv tT)⟩]
def KO (L m:Nat)(x:ZC×PUnit):Option (Int):=fnT tF tG (qOf tF (NJ L m ++ [])) 0 L Lm [.rnd [.slot 3 (.int .i64),.slot 4 (.int .i64)]] (.one (.int .i64)) (tvL tT [.row 8] x) []
def RG (L:Nat)(x:ZC×PUnit):Option (Int):=KO L L x
def Zgr (L:Nat):Sum tT:=⟨181,[.row 8],fun x=>.par ((.one (.int .i64):RD).Ty tT) (RG L x) ((.one (.int .i64):RD).tv tT)⟩
def O0:Nat→ZC→Nat→(Int×Int×PUnit→Option Int)→Int×Int×PUnit→Option Int:=fun (m:Nat)=>fun x0 L self acc=>bif decide (acc.2.1 < (↑x0.4.length:Int)) then bT (YH x0.4 acc.2.1) fun y=>bT (KO L m (y,())) fun y=>self (Go.IntKind.i64.wrap (acc.1 + y),Go.IntKind.i64.wrap (acc.2.1 + 1),()) else some acc.1
theorem ZfQ (L m:Nat)(x0:ZC):KO L (m + 1) (x0,())=Z9 (O0 m x0 L) L (1,0,()):=by kernel_rfl
def Ia (L:Nat)(x:ZC×Bool×PUnit):Option Int:=fT [ZiE L,Zgq L,Zgr L] L E8 [] (.one (.int .i64)) [.row 8,.bool] x
def Zgs (L:Nat):Sum tT:=mU 176 [.row 8,.bool] (.one (.int .i64)) (Ia L)
theorem ZfR (L:Nat)(x0:ZC)(x1:Bool):Ia L (x0,x1,())=bT (RG L (x0,())) fun y=>bif decide (y > 60) then some 6 else bT (RF L (x0,())) fun y=>bif decide (y > 12) then some 11 else bT (PL L (x0,x1,())) fun y=>some y:=by kernel_rfl
def YQ (L:Nat)(x:ZC×PUnit):Option Int:=fT [Zgs L] L E5 [] (.one (.int .i64)) [.row 8] x
def Zgp (L:Nat):Sum tT:=mU 174 [.row 8] (.one (.int .i64)) (YQ L)
theorem ZfO (L:Nat)(x0:ZC):YQ L (x0,())=bT (Ia L (x0,false,())) fun y=>some y:=by kernel_rfl
def Ic (L:Nat)(x:Z5×YI×PUnit):Option Int:=fT [Zgp L] L ED [.rnd [.slot 5 (.int .i64),.slot 6 (.int .i64)]] (.one (.int .i64)) [.row 9,.row 19] x
def Zgw (L:Nat):Sum tT:=mU 169 [.row 9,.row 19] (.one (.int .i64)) (Ic L)
def Wv:Z5→Nat→(Int×Int×PUnit→Option Int)→Int×Int×PUnit→Option Int:=fun x0 L self acc=>bif acc.1 == 0 && decide (acc.2.1 < (↑x0.6.length:Int)) then bT (YH x0.6 acc.2.1) fun y=>bT (YQ L (y,())) fun y=>self (y,Go.IntKind.i64.wrap (acc.2.1 + 1),()) else some acc.1
def Nz:Z5→Nat→(Int×Int×PUnit→Option Int)→Int×Int×PUnit→Option Int:=fun x0 L self acc=>bif acc.1 == 0 && decide (acc.2.1 < (↑x0.6.length:Int)) then bT (YH x0.6 acc.2.1) fun y=>bT (YQ L (y,())) fun y=>self (y,Go.IntKind.i64.wrap (acc.2.1 + 1),()) else some acc.1
def N7:Z5→Nat→(Int×Int×PUnit→Option Int)→Int×Int×PUnit→Option Int:=fun x0 L self acc=>bif acc.1 == 0 && decide (acc.2.1 < (↑x0.6.length:Int)) then bT (YH x0.6 acc.2.1) fun y=>bT (YQ L (y,())) fun y=>self (y,Go.IntKind.i64.wrap (acc.2.1 + 1),()) else some acc.1
def N8:Z5→Nat→(Int×Int×PUnit→Option Int)→Int×Int×PUnit→Option Int:=fun x0 L self acc=>bif acc.1 == 0 && decide (acc.2.1 < (↑x0.6.length:Int)) then bT (YH x0.6 acc.2.1) fun y=>bT (YQ L (y,())) fun y=>self (y,Go.IntKind.i64.wrap (acc.2.1 + 1),()) else some acc.1
def N9:Z5→Nat→(Int×Int×PUnit→Option Int)→Int×Int×PUnit→Option Int:=fun x0 L self acc=>bif acc.1 == 0 && decide (acc.2.1 < (↑x0.6.length:Int)) then bT (YH x0.6 acc.2.1) fun y=>bT (YQ L (y,())) fun y=>self (y,Go.IntKind.i64.wrap (acc.2.1 + 1),()) else some acc.1
def NC:Z5→Nat→(Int×Int×PUnit→Option Int)→Int×Int×PUnit→Option Int:=fun x0 L self acc=>bif acc.1 == 0 && decide (acc.2.1 < (↑x0.6.length:Int)) then bT (YH x0.6 acc.2.1) fun y=>bT (YQ L (y,())) fun y=>self (y,Go.IntKind.i64.wrap (acc.2.1 + 1),()) else some acc.1
def ND:Z5→Nat→(Int×Int×PUnit→Option Int)→Int×Int×PUnit→Option Int:=fun x0 L self acc=>bif acc.1 == 0 && decide (acc.2.1 < (↑x0.6.length:Int)) then bT (YH x0.6 acc.2.1) fun y=>bT (YQ L (y,())) fun y=>self (y,Go.IntKind.i64.wrap (acc.2.1 + 1),()) else some acc.1
def NE:Z5→Nat→(Int×Int×PUnit→Option Int)→Int×Int×PUnit→Option Int:=fun x0 L self acc=>bif acc.1 == 0 && decide (acc.2.1 < (↑x0.6.length:Int)) then bT (YH x0.6 acc.2.1) fun y=>bT (YQ L (y,())) fun y=>self (y,Go.IntKind.i64.wrap (acc.2.1 + 1),()) else some acc.1
theorem ZfV (L:Nat)(x0:Z5)(x1:YI):Ic L (x0,x1,())=bif x1.3 then bT (YQ L (x0.4,())) fun y=>bif y == 0 && x1.4 then bT (YQ L (x0.5,())) fun y=>bif y == 0 && decide ((↑x0.6.length:Int) > 6) then Z9 (Wv x0 L) L (6,0,()) else Z9 (Nz x0 L) L (y,0,()) else bif y == 0 && decide ((↑x0.6.length:Int) > 6) then Z9 (N7 x0 L) L (6,0,()) else Z9 (N8 x0 L) L (y,0,()) else bif 0 == 0 && x1.4 then bT (YQ L (x0.5,())) fun y=>bif y == 0 && decide ((↑x0.6.length:Int) > 6) then Z9 (N9 x0 L) L (6,0,()) else Z9 (NC x0 L) L (y,0,()) else bif 0 == 0 && decide ((↑x0.6.length:Int) > 6) then Z9 (ND x0 L) L (6,0,()) else Z9 (NE x0 L) L (0,0,()):=by kernel_rfl
def XX (L:Nat)(x:(List Int)×(List Int)×PUnit):Option Bool:=fT [] L MM [.rnd [.slot 5 (.int .i64)]] (.one .bool) [.lst 1 (.int .i64),.lst 1 (.int .i64)] x
def Za0 (L:Nat):Sum tT:=mU 153 [.lst 1 (.int .i64),.lst 1 (.int .i64)] (.one .bool) (XX L)
def UH:List Int→List Int→(Int×PUnit→Option Bool)→Int×PUnit→Option Bool:=fun x0 x1 self acc=>bif decide (acc.1 < (↑x0.length:Int)) then bT (YH x0 acc.1) fun y=>bT (YH x1 acc.1) fun y_1=>bif y != y_1 then some false else self (Go.IntKind.i64.wrap (acc.1 + 1),()) else some true
theorem Zau (L:Nat)(x0:(List Int))(x1:(List Int)):XX L (x0,x1,())=bif (↑x0.length:Int) != (↑x1.length:Int) then some false else Z9 (UH x0 x1) L (0,()):=by kernel_rfl
end Go.Proofs.YthkdlifcknpadaaGreat
end
noncomputable section
namespace Go.Proofs.YthkdlifcknpadaaGreat
open Go Go.Proofs.YthkdlifcknpadaaGreat.Abs Go.Proofs.YthkdlifcknpadaaGreat.Tl
set_option maxRecDepth 100000
set_option maxHeartbeats 0
def U1 (L:Nat)(x:YV×YV×PUnit):Option Bool:=fT [Za0 L] L Za7 [] (.one .bool) [.row 2,.row 2] x
def Zbu (L:Nat):Sum tT:=mU 142 [.row 2,.row 2] (.one .bool) (U1 L)
theorem Zis (L:Nat)(x0:YV)(x1:YV):U1 L (x0,x1,())=bT (bif (x0.1 == x1.1 && x0.2 == x1.2 && x0.3 == x1.3 && x0.4 == x1.4) == true then bT (XX L (x0.5,x1.5,())) fun y=>some y else some false) fun y=>bT (bif y == true then bT (XX L (x0.6,x1.6,())) fun y=>some y else some false) fun y=>some y:=by kernel_rfl
def G8 (L:Nat)(x:ZC×PUnit):Option Bool:=fT [] L ZaA [] (.one .bool) [.row 8] x
def ZiG (L:Nat):Sum tT:=mU 173 [.row 8] (.one .bool) (G8 L)
theorem Zix (L:Nat)(x0:ZC):G8 L (x0,())=some (x0.1 == 0 && x0.2 == [] && x0.3 == 0 && (↑x0.4.length:Int) == 0):=by kernel_rfl
def DN (L:Nat)(x:Int×PUnit):Option (YI×Bool×PUnit):=fT [] L Zg5 [] (.tup [.row 19,.bool]) [.int .i64] x
def ZhE (L:Nat):Sum tT:=mU 167 [.int .i64] (.tup [.row 19,.bool]) (DN L)
theorem Znq (L:Nat)(x0:Int):DN L (x0,())=bif x0 == 1 then some (YI.mk true false true false false false false false false,true,()) else bif x0 == 7 then some (YI.mk true false true false false false false false false,true,()) else bif x0 == 8 then some (YI.mk true false true false false false false false false,true,()) else bif x0 == 12 then some (YI.mk true false true false false false false false false,true,()) else bif x0 == 15 then some (YI.mk true false true false false false false false false,true,()) else bif x0 == 16 then some (YI.mk true false true false false false false false false,true,()) else bif x0 == 17 then some (YI.mk true false true false false false false false false,true,()) else bif x0 == 2 then some (YI.mk true true false false false true false false false,true,()) else bif x0 == 3 then some (YI.mk false false true false false false false true true,true,()) else bif x0 == 4 then some (YI.mk false false true false false false false true false,true,()) else bif x0 == 5 then some (YI.mk false false true false false false false false false,true,()) else bif x0 == 6 then some (YI.mk true false true true false false true false false,true,()) else bif x0 == 9 then some (YI.mk true true false false false false false false false,true,()) else bif x0 == 10 then some (YI.mk true false false false false false false false false,true,()) else bif x0 == 11 then some (YI.mk true false false false false false false false false,true,()) else bif x0 == 13 then some (YI.mk true true true false true false false false false,true,()) else bif x0 == 14 then some (YI.mk true false true false true false false false false,true,()) else bif x0 == 18 then some (YI.mk false false false false false false false false false,true,()) else some (YI.mk false false false false false false false false false,false,()):=by kernel_rfl
def KH (L:Nat)(x:Z5×PUnit):Option Bool:=fT [Zbu L,ZiG L,ZhE L] L Nb [] (.one .bool) [.row 9] x
def ZeM (L:Nat):Sum tT:=mU 168 [.row 9] (.one .bool) (KH L)
theorem Zeo (L:Nat)(x0:Z5):KH L (x0,())=bT (DN L (x0.1,())) fun y=>bT (bif y.1.3 == false then bT (G8 L (x0.4,())) fun y=>some y else some true) fun y_1=>bT (bif y_1 == true then bif y.1.4 == false then bT (G8 L (x0.5,())) fun y=>some y else some true else some false) fun y_2=>bT (bif (y.2.1 && ((y.1.1 || x0.2 == []) && (y.1.2 || x0.3 == [])) && (y_2 && (y.1.5 || (↑x0.6.length:Int) == 0)) && ((y.1.8 || (↑x0.9.length:Int) == 0) && (y.1.9 || (↑x0.10.length:Int) == 0))) == true then bif y.1.6 == false then bT (U1 L (x0.7,YV.mk 0 0 0 0 [] [],())) fun y=>some y else some true else some false) fun y_3=>some (y_3 && (y.1.7 || !x0.8)):=by kernel_rfl
def DR (L:Nat)(x:Z5×PUnit):Option Int:=fT [CU L,Zgw L,H5 L,ZeM L,ZhE L] L Zdi [] (.one (.int .i64)) [.row 9] x
def ZeN (L:Nat):Sum tT:=mU 165 [.row 9] (.one (.int .i64)) (DR L)
theorem ZkS (L:Nat)(x0:Z5):DR L (x0,())=bT (DN L (x0.1,())) fun y=>bT (KH L (x0,())) fun y_1=>bif !y_1 then some 1 else bT (bif y.1.1 == true then bT (Xz L (x0.2,())) fun y=>some (y != 0) else some false) fun y_2=>bT (bif y_2 == false then bif y.1.2 == true then bT (Xz L (x0.3,())) fun y=>some (y != 0) else some false else some true) fun y_3=>bif y_3 then some 3 else bT (Ic L (x0,y.1,())) fun y_4=>bif y_4 == 0 && y.1.6 then bT (Jk L (x0.7,())) fun y=>some y else some y_4:=by kernel_rfl
def Cm (L:Nat):Nat→List (Sum tT)
 | 0=>[⟨159,[.lst 21 (.row 9)],fun _=>.par _ none ((.one (.int .i64):RD).tv tT)⟩]
 | m + 1=>[⟨159,[.lst 21 (.row 9)],fun x=>.par _ (fnT tF tG (qOf tF (Cm L m ++ [ZeN L])) 0 L DY [.rnd [.slot 3 (.int .i64)]] (.one (.int .i64)) (tvL tT [.lst 21 (.row 9)] x) []) ((.one (.int .i64):RD).tv tT)⟩]
def Jl (L m:Nat)(x:(List Z5)×PUnit):Option (Int):=fnT tF tG (qOf tF (Cm L m ++ [ZeN L])) 0 L DY [.rnd [.slot 3 (.int .i64)]] (.one (.int .i64)) (tvL tT [.lst 21 (.row 9)] x) []
def PM (L:Nat)(x:(List Z5)×PUnit):Option (Int):=Jl L L x
def ZiF (L:Nat):Sum tT:=⟨159,[.lst 21 (.row 9)],fun x=>.par ((.one (.int .i64):RD).Ty tT) (PM L x) ((.one (.int .i64):RD).tv tT)⟩
def Rj:Nat→List Z5→Nat→(Int×PUnit→Option Int)→Int×PUnit→Option Int:=fun (m:Nat)=>fun x0 L self acc=>bif decide (acc.1 < (↑x0.length:Int)) then bT (YH x0 acc.1) fun y=>bT (DR L (y,())) fun y=>bif y == 0 then bT (YH x0 acc.1) fun y=>bT (Jl L m (y.9,())) fun y=>bif y == 0 then bT (YH x0 acc.1) fun y=>bT (Jl L m (y.10,())) fun y=>bif y != 0 then some y else self (Go.IntKind.i64.wrap (acc.1 + 1),()) else bif y != 0 then some y else self (Go.IntKind.i64.wrap (acc.1 + 1),()) else bif y == 0 then bT (YH x0 acc.1) fun y=>bT (Jl L m (y.10,())) fun y=>bif y != 0 then some y else self (Go.IntKind.i64.wrap (acc.1 + 1),()) else bif y != 0 then some y else self (Go.IntKind.i64.wrap (acc.1 + 1),()) else some 0
theorem Ziw (L m:Nat)(x0:(List Z5)):Jl L (m + 1) (x0,())=Z9 (Rj m x0 L) L (0,()):=by kernel_rfl
def NL (L:Nat):Nat→List (Sum tT)
 | 0=>[⟨158,[.lst 21 (.row 9)],fun _=>.par _ none ((.one (.int .i64):RD).tv tT)⟩]
 | m + 1=>[⟨158,[.lst 21 (.row 9)],fun x=>.par _ (fnT tF tG (qOf tF (NL L m ++ [])) 0 L Lr [.rnd [.slot 3 (.int .i64),.slot 4 (.int .i64)]] (.one (.int .i64)) (tvL tT [.lst 21 (.row 9)] x) []) ((.one (.int .i64):RD).tv tT)⟩]
def JL (L m:Nat)(x:(List Z5)×PUnit):Option (Int):=fnT tF tG (qOf tF (NL L m ++ [])) 0 L Lr [.rnd [.slot 3 (.int .i64),.slot 4 (.int .i64)]] (.one (.int .i64)) (tvL tT [.lst 21 (.row 9)] x) []
def RI (L:Nat)(x:(List Z5)×PUnit):Option (Int):=JL L L x
def Zgv (L:Nat):Sum tT:=⟨158,[.lst 21 (.row 9)],fun x=>.par ((.one (.int .i64):RD).Ty tT) (RI L x) ((.one (.int .i64):RD).tv tT)⟩
def O4:Nat→List Z5→Nat→(Int×Int×PUnit→Option Int)→Int×Int×PUnit→Option Int:=fun (m:Nat)=>fun x0 L self acc=>bif decide (acc.2.1 < (↑x0.length:Int)) then bT (YH x0 acc.2.1) fun y=>bT (bT (JL L m (y.9,())) fun y=>some y) fun y=>bT (YH x0 acc.2.1) fun y_1=>bT (bT (JL L m (y_1.10,())) fun y=>some y) fun y_2=>self (if Go.IntKind.i64.wrap (1 + y_2) > if Go.IntKind.i64.wrap (1 + y) > acc.1 then Go.IntKind.i64.wrap (1 + y) else acc.1 then Go.IntKind.i64.wrap (1 + y_2) else if Go.IntKind.i64.wrap (1 + y) > acc.1 then Go.IntKind.i64.wrap (1 + y) else acc.1,Go.IntKind.i64.wrap (acc.2.1 + 1),()) else some acc.1
theorem ZfU (L m:Nat)(x0:(List Z5)):JL L (m + 1) (x0,())=Z9 (O4 m x0 L) L (0,0,()):=by kernel_rfl
def NK (L:Nat):Nat→List (Sum tT)
 | 0=>[⟨157,[.lst 21 (.row 9)],fun _=>.par _ none ((.one (.int .i64):RD).tv tT)⟩]
 | m + 1=>[⟨157,[.lst 21 (.row 9)],fun x=>.par _ (fnT tF tG (qOf tF (NK L m ++ [])) 0 L Lp [.rnd [.slot 3 (.int .i64),.slot 4 (.int .i64)]] (.one (.int .i64)) (tvL tT [.lst 21 (.row 9)] x) []) ((.one (.int .i64):RD).tv tT)⟩]
def JK (L m:Nat)(x:(List Z5)×PUnit):Option (Int):=fnT tF tG (qOf tF (NK L m ++ [])) 0 L Lp [.rnd [.slot 3 (.int .i64),.slot 4 (.int .i64)]] (.one (.int .i64)) (tvL tT [.lst 21 (.row 9)] x) []
def RH (L:Nat)(x:(List Z5)×PUnit):Option (Int):=JK L L x
def Zgu (L:Nat):Sum tT:=⟨157,[.lst 21 (.row 9)],fun x=>.par ((.one (.int .i64):RD).Ty tT) (RH L x) ((.one (.int .i64):RD).tv tT)⟩
def O3:Nat→List Z5→Nat→(Int×Int×PUnit→Option Int)→Int×Int×PUnit→Option Int:=fun (m:Nat)=>fun x0 L self acc=>bif decide (acc.2.1 < (↑x0.length:Int)) then bT (YH x0 acc.2.1) fun y=>bT (bT (JK L m (y.9,())) fun y=>some y) fun y=>bT (YH x0 acc.2.1) fun y_1=>bT (bT (JK L m (y_1.10,())) fun y=>some y) fun y_2=>self (Go.IntKind.i64.wrap (Go.IntKind.i64.wrap (Go.IntKind.i64.wrap (acc.1 + 1) + y) + y_2),Go.IntKind.i64.wrap (acc.2.1 + 1),()) else some acc.1
theorem ZfT (L m:Nat)(x0:(List Z5)):JK L (m + 1) (x0,())=Z9 (O3 m x0 L) L (0,0,()):=by kernel_rfl
end Go.Proofs.YthkdlifcknpadaaGreat
end
noncomputable section
namespace Go.Proofs.YthkdlifcknpadaaGreat
open Go Go.Proofs.YthkdlifcknpadaaGreat.Abs Go.Proofs.YthkdlifcknpadaaGreat.Tl
set_option maxRecDepth 100000
set_option maxHeartbeats 0
def Ib (L:Nat)(x:(List Z5)×PUnit):Option Int:=fT [ZiF L,Zgv L,Zgu L] L EC [] (.one (.int .i64)) [.lst 21 (.row 9)] x
def Zgt (L:Nat):Sum tT:=mU 144 [.lst 21 (.row 9)] (.one (.int .i64)) (Ib L)
theorem ZfS (L:Nat)(x0:(List Z5)):Ib L (x0,())=bT (RH L (x0,())) fun y=>bif decide (y > 200) then some 6 else bT (RI L (x0,())) fun y=>bif decide (y > 12) then some 11 else bT (PM L (x0,())) fun y=>some y:=by kernel_rfl
def UR (L:Nat)(x:Int×PUnit):Option Bool:=fT [] L EF [] (.one .bool) [.int .i64] x
def CX (L:Nat):Sum tT:=mU 81 [.int .i64] (.one .bool) (UR L)
theorem ZfX (L:Nat)(x0:Int):UR L (x0,())=some (x0 == 1 || x0 == 2 || x0 == 3):=by kernel_rfl
def Uu (L:Nat)(x:Yc×PUnit):Option Int:=fT [Zgt L,Jh L,QG L,CX L,CY L] L Bq [.rnd [.slot 3 (.own 1 .str),.slot 5 (.int .i64)]] (.one (.int .i64)) [.row 10] x
def ZcW (L:Nat):Sum tT:=mU 125 [.row 10] (.one (.int .i64)) (Uu L)
def Ju:Yc→Nat→List WF→(List (List UInt8)×Int×PUnit→Option Int)→List (List UInt8)×Int×PUnit→Option Int:=fun x0 L y self acc=>bif decide (acc.2.1 < (↑y.length:Int)) then bT (YH y acc.2.1) fun y_1=>bT (bT (UT L (y_1.1,acc.1,())) fun y=>some y) fun y_2=>bT (YH y acc.2.1) fun y_3=>bT (bT (UR L (y_3.2,())) fun y=>some y) fun y_4=>bT (bT (YC L (y_4,1,())) fun y=>some y) fun y_5=>bT (bT (Qr L (y_2,y_5,())) fun y=>some y) fun y_6=>bif y_6 != 0 then some y_6 else bT (YH y acc.2.1) fun y=>bT (apT 16 acc.1 [y.1]) fun y=>self (y,Go.IntKind.i64.wrap (acc.2.1 + 1),()) else bT (Ib L (x0.4,())) fun y=>some y
theorem Zc6 (L:Nat)(x0:Yc):Uu L (x0,())=bif decide ((↑x0.2.length:Int) > 6) || decide (Go.IntKind.i64.wrap ((↑x0.2.length:Int) + (↑x0.3.length:Int)) > 16) then some 6 else bT (apT 24 [] x0.2) fun y=>bT (apT 24 y x0.3) fun y=>Z9 (Ju x0 L y) L ([],0,()):=by kernel_rfl
def Jw (L:Nat)(x:Zp×PUnit):Option Int:=fT [Vt L,QG L] L MP [.rnd [.slot 3 (.int .i64)]] (.one (.int .i64)) [.row 4] x
def Za2 (L:Nat):Sum tT:=mU 141 [.row 4] (.one (.int .i64)) (Jw L)
def Xt:Zp→Nat→(Int×PUnit→Option Int)→Int×PUnit→Option Int:=fun x0 L self acc=>bif decide (acc.1 < (↑x0.3.length:Int)) then bT (YH x0.3 acc.1) fun y=>bT (WA L (y.1,0,Go.IntKind.i64.wrap (x0.4 - 1),())) fun y_1=>bT (bif (!y_1) == false then bT (WA L (y.2,0,1000,())) fun y=>some !y else some true) fun y_2=>bif y_2 then some 2 else bT (bif decide (acc.1 > 0) == true then bT (YH x0.3 (Go.IntKind.i64.wrap (acc.1 - 1))) fun y_3=>some (decide (y.1≤y_3.1)) else some false) fun y=>bif y then some 12 else self (Go.IntKind.i64.wrap (acc.1 + 1),()) else some 0
theorem Zaw (L:Nat)(x0:Zp):Jw L (x0,())=bif (↑x0.3.length:Int) == 0 then bT (YC L (x0.4 == 0,1,())) fun y=>some y else bif decide ((↑x0.3.length:Int) > 20) then some 6 else bT (WA L (x0.4,1,1000000000,())) fun y=>bif !y then some 2 else Z9 (Xt x0 L) L (0,()):=by kernel_rfl
def Jy (L:Nat)(x:Zb×Zp×PUnit):Option Int:=fT [CU L,G7 L,Zbu L,Jh L,Za2 L,QG L,Vt L] L MR [] (.one (.int .i64)) [.row 14,.row 4] x
def Za3 (L:Nat):Sum tT:=mU 124 [.row 14,.row 4] (.one (.int .i64)) (Jy L)
theorem Zax (L:Nat)(x0:Zb)(x1:Zp):Jy L (x0,x1,())=bT (bT (WA L (x1.2,0,1000,())) fun y=>some y) fun y=>bT (bT (YC L (y,2,())) fun y=>some y) fun y=>bT (bT (Jw L (x1,())) fun y=>some y) fun y_1=>bT (bT (Qr L (y,y_1,())) fun y=>some y) fun y=>bif y != 0 then some y else bif x1.Fault.1 == [] then bT (U1 L (x1.Fault.2,YV.mk 0 0 0 0 [] [],())) fun y=>bT (bif y == true then bT (U1 L (x1.Fault.3,YV.mk 0 0 0 0 [] [],())) fun y=>some y else some false) fun y=>bT (YC L (y,1,())) fun y=>some y else bT (U2 L (x0.7,x1.Fault.1,())) fun y=>bif decide (y < 0) then some 5 else bT (bT (Jk L (x1.Fault.2,())) fun y=>some y) fun y=>bT (bT (Jk L (x1.Fault.3,())) fun y=>some y) fun y_2=>bT (bT (Qr L (y,y_2,())) fun y=>some y) fun y=>some y:=by kernel_rfl
def Wl (L:Nat)(x:Zb×Int×Int×PUnit):Option Int:=fT [ZcW L,Vt L,Za3 L,Jh L,Zbw L,QG L,CX L] L MQ [] (.one (.int .i64)) [.row 14,.int .i64,.int .i64] x
theorem Xa (L:Nat)(x0:Zb)(x1:Int)(x2:Int):Wl L (x0,x1,x2,())=bif x1 == 0 then bT (YH x0.2 x2) fun y=>bT (bT (UR L (y.2,())) fun y=>some y) fun y=>bT (bT (YC L (y,1,())) fun y=>some y) fun y=>bT (YH x0.2 x2) fun y_1=>bT (YH x0.2 x2) fun y_2=>bT (bT (TJ L (y_1.2,y_2.3,())) fun y=>some y) fun y_3=>bT (bT (YC L (y_3,2,())) fun y=>some y) fun y_4=>bT (bT (Qr L (y,y_4,())) fun y=>some y) fun y=>some y else bif x1 == 1 then bT (YH x0.3 x2) fun y=>bT (bT (Jy L (x0,y,())) fun y=>some y) fun y=>some y else bif x1 == 2 then bT (YH x0.4 x2) fun y=>bT (YH x0.4 x2) fun y_1=>bT (WA L (y_1.2,1,1000,())) fun y_2=>bT (YC L (y_2,2,())) fun y_3=>bT (YC L (decide (y.3 ≥ 1) && decide (y.3≤3),1,())) fun y=>bT (Qr L (y_3,y,())) fun y=>some y else bif x1 == 3 then bT (YH x0.5 x2) fun y=>bT (WA L (y.2,1,1000,())) fun y=>bT (bif y == true then bT (YH x0.5 x2) fun y=>bT (WA L (y.3,1,1000,())) fun y=>some y else some false) fun y=>bT (YC L (y,2,())) fun y=>some y else bif x1 == 9 then bT (YH x0.11 x2) fun y=>bT (Uu L (y,())) fun y=>some y else some 0:=by kernel_rfl
def UI:Zb→Nat→List (List (List UInt8))→(Int×List (List UInt8)×Int×PUnit→Option Int)→Int×List (List UInt8)×Int×PUnit→(Int×List (List UInt8)×Int×PUnit→Option Int)→Int×List (List UInt8)×Int×PUnit→Option Int:=fun x0 L y self acc self_1 acc_1=>bT (YH y acc.2.2.1) fun y_1=>bif decide (acc_1.2.2.1 < (↑y_1.length:Int)) then bT (YH y acc.2.2.1) fun y_2=>bT (YH y_2 acc_1.2.2.1) fun y_3=>bT (bT (UT L (y_3,acc_1.2.1,())) fun y=>some y) fun y_4=>bT (bT (Wl L (x0,acc.2.2.1,acc_1.2.2.1,())) fun y=>some y) fun y_5=>bT (bT (Qr L (y_4,y_5,())) fun y=>some y) fun y_6=>bif y_6 != 0 then some y_6 else bT (YH y acc.2.2.1) fun y=>bT (YH y acc_1.2.2.1) fun y=>bT (apT 16 acc_1.2.1 [y]) fun y=>self_1 (acc_1.1,y,Go.IntKind.i64.wrap (acc_1.2.2.1 + 1),()) else self (acc_1.1,acc_1.2.1,Go.IntKind.i64.wrap (acc.2.2.1 + 1),())
def Zgc:Zb→Nat→(List (List UInt8)×Int×PUnit→Option Int)→List (List UInt8)×Int×PUnit→Option Int:=fun x0 L self acc=>bif decide (acc.2.1 < (↑x0.13.length:Int)) then bT (YH x0.13 acc.2.1) fun y=>bT (bT (Zlz L (x0,y,acc.1,())) fun y=>some y) fun y=>bif y != 0 then some y else bT (YH x0.13 acc.2.1) fun y=>bT (apT 16 acc.1 [y.1]) fun y=>self (y,Go.IntKind.i64.wrap (acc.2.1 + 1),()) else some 0
def FO:Zb→Nat→(Int×Int×PUnit→Option Int)→Int×Int×PUnit→Option Int:=fun x0 L self acc=>bif decide (acc.2.1 < (↑x0.12.length:Int)) then bT (YH x0.12 acc.2.1) fun y=>bT (bT (Zgz L (x0,y,())) fun y=>some y) fun y=>bif y != 0 then some y else self (acc.1,Go.IntKind.i64.wrap (acc.2.1 + 1),()) else bif decide ((↑x0.13.length:Int) > 32) then some 6 else Z9 (Zgc x0 L) L ([],0,())
def UJ:Zb→Nat→List (List (List UInt8))→(Int×List (List UInt8)×Int×PUnit→Option Int)→Int×List (List UInt8)×Int×PUnit→Option Int:=fun x0 L y self acc=>bif decide (acc.2.2.1 < (↑y.length:Int)) then bT (YH y acc.2.2.1) fun y_1=>bT (bif decide ((↑y_1.length:Int) > 32) == false then bif (acc.2.2.1 == 9) == true then bT (YH y acc.2.2.1) fun y=>some (decide ((↑y.length:Int) > 16)) else some false else some true) fun y_2=>bif y_2 then some 6 else Z9 (UI x0 L y self acc) L (acc.1,acc.2.1,0,()) else bif decide ((↑x0.12.length:Int) > 32) then some 6 else Z9 (FO x0 L) L (acc.1,0,())
end Go.Proofs.YthkdlifcknpadaaGreat
end
section
namespace Go.Proofs.YthkdlifcknpadaaGreat
open Go Go.Proofs.YthkdlifcknpadaaGreat.Abs Go.Proofs.YthkdlifcknpadaaGreat.Tl
set_option maxRecDepth 100000
theorem Zx {α:Type}(c:Bool)(a b:α):(bif c then some a else some b)=some (bif c then a else b):=by cases c <;> rfl
theorem Zw (c:Bool)(x:Option Bool):(bif c == true then x else some false)=bif c then x else some false:=by cases c <;> rfl
theorem condC (c:Bool)(x:Option Bool):(bif c == false then x else some true)=bif c then some true else x:=by cases c <;> rfl
theorem Zj (c x:Bool):(bif c == true then x else false)=(c && x):=by cases c <;> rfl
theorem Zk (c x:Bool):(bif c == false then x else true)=(c || x):=by cases c <;> rfl
theorem Ja {α:Type}(c:Prop)[Decidable c](a b:α):(if c then some a else some b)=some (if c then a else b):=by split <;> rfl
theorem Wj {α:Type}(c:Bool)(a b:α):(bif c then a else b)=if c=true then a else b:=by cases c <;> rfl
theorem Zd {α:Type}(o:Option α):bT o (fun y=>some y)=o:=by cases o <;> rfl
theorem ZZ {α:Type}[DecidableEq α](a b:α):(a != b)=!decide (a=b):=by
 by_cases h:a=b <;> simp [bne,h]
theorem Yr (a b:Int):(a == b)=decide (a=b):=by
 by_cases h:a=b <;> simp [h]
theorem Yt (a b:List UInt8):(a == b)=decide (a=b):=by
 by_cases h:a=b <;> simp [h]
abbrev Len {α:Type}(l:List α):Prop:=l.length≤4611686018427387
theorem Zkk {τ ρ:Type}{f:(τ→Option ρ)→τ→Option ρ}(n:Nat)(pk:Int→τ)(R:Nat→Option ρ)
  (h1:∀ self (i:Nat),i < n→self (pk ((i:Int) + 1))=R (i + 1)→f self (pk i)=R i)
  (h2:∀ self,f self (pk n)=R n):∀ (m i:Nat),i≤n→n - i < m→Z9 f m (pk i)=R i
 | 0,_,_,h=>absurd h (Nat.not_lt_zero _)
 | m + 1,i,hi,hm=>by
  show f (Z9 f m) (pk i)=_
  rcases Nat.lt_or_ge i n with hlt | hge
  ·exact h1 _ i hlt (Zkk n pk R h1 h2 m (i + 1) hlt (by omega))
  ·have:i=n:=by omega
   subst this
   exact h2 _
theorem Zig {τ α σ ρ:Type}{f:(τ→Option ρ)→τ→Option ρ}(l:List α)(pk:σ→Int→τ)(R:List α→σ→Option ρ)
  (h1:∀ self s (i:Nat) x r,l[i]? = some x→i < l.length→x ∈ l→(∀ s',self (pk s' ((i:Int) + 1))=R r s')→f self (pk s i)=R (x :: r) s)
  (h2:∀ self s,f self (pk s (l.length:Nat))=R [] s):∀ (m i:Nat) (s:σ),i≤l.length→l.length - i < m→Z9 f m (pk s i)=R (l.drop i) s
 | 0,_,_,_,h=>absurd h (Nat.not_lt_zero _)
 | m + 1,i,s,hi,hm=>by
  show f (Z9 f m) (pk s i)=_
  rcases Nat.lt_or_ge i l.length with hlt | hge
  ·have hx:=List.getElem?_eq_getElem hlt
   rw [List.drop_eq_getElem_cons hlt]
   exact h1 _ s i _ _ hx hlt (List.getElem_mem hlt) fun s'=>Zig l pk R h1 h2 m (i + 1) s' hlt (by omega)
  ·have:i=l.length:=by omega
   subst this
   rw [h2,List.drop_length]
theorem Zft {α ρ:Type}{f:(Int×PUnit→Option ρ)→Int×PUnit→Option ρ}(l:List α)(R:List α→Option ρ){m:Nat}(hm:l.length < m)
  (h1:∀ self (i:Nat) x r,l[i]? = some x→i < l.length→x ∈ l→self ((i:Int) + 1,())=R r→f self ((i:Int),())=R (x :: r))
  (h2:∀ self,f self ((l.length:Int),())=R []):Z9 f m (0,())=R l :=
 Zig (σ := Unit) l (fun _ i=>(i,())) (fun l _=>R l) (fun self _ i x r a b c d=>h1 self i x r a b c (d ())) (fun self _=>h2 self) m 0 () (Nat.zero_le _) (by omega)
theorem Zif {α ρ:Type}{f:(Int×PUnit→Option ρ)→Int×PUnit→Option ρ}(l:List α)(R:List α→Int→Option ρ){m:Nat}(hm:l.length < m)
  (h1:∀ self (i:Nat) x r,l[i]? = some x→i < l.length→x ∈ l→self ((i:Int) + 1,())=R r ((i:Int) + 1)→f self ((i:Int),())=R (x :: r) i)
  (h2:∀ self,f self ((l.length:Int),())=R [] l.length):Z9 f m (0,())=R l 0:=by
 have:=Zkk (f := f) l.length (fun i=>(i,())) (fun i=>R (l.drop i) i) (fun self i hi e=>by
  have hx:=List.getElem?_eq_getElem hi
  rw [List.drop_eq_getElem_cons hi]
  exact h1 self i _ _ hx hi (List.getElem_mem hi) e) (fun self=>by rw [List.drop_length]; exact h2 self) m 0 (Nat.zero_le _) (by omega)
 exact this
theorem ZbX {α σ ρ:Type}{f:(σ×Int×PUnit→Option ρ)→σ×Int×PUnit→Option ρ}(l:List α)(R:List α→σ→Option ρ){m:Nat}(hm:l.length < m)(s:σ)
  (h1:∀ self s (i:Nat) x r,l[i]? = some x→i < l.length→x ∈ l→(∀ s',self (s',(i:Int) + 1,())=R r s')→f self (s,(i:Int),())=R (x :: r) s)
  (h2:∀ self s,f self (s,(l.length:Int),())=R [] s):Z9 f m (s,0,())=R l s :=
 Zig l (fun s i=>(s,i,())) R h1 h2 m 0 s (Nat.zero_le _) (by omega)
theorem Zkl {α β ρ:Type}{f:(Int×PUnit→Option ρ)→Int×PUnit→Option ρ}(l:List α)(l':List β)(hl:l.length=l'.length)(R:List α→List β→Option ρ){m:Nat}(hm:l.length < m)
  (h1:∀ self (i:Nat) x y r r',l[i]? = some x→l'[i]? = some y→i < l.length→x ∈ l→self ((i:Int) + 1,())=R r r'→f self ((i:Int),())=R (x :: r) (y :: r'))
  (h2:∀ self,f self ((l.length:Int),())=R [] []):Z9 f m (0,())=R l l':=by
 have:=Zkk (f := f) l.length (fun i=>(i,())) (fun i=>R (l.drop i) (l'.drop i)) (fun self i hi e=>by
  have hx:=List.getElem?_eq_getElem hi
  have hy:=List.getElem?_eq_getElem (show i < l'.length by omega)
  rw [List.drop_eq_getElem_cons hi,List.drop_eq_getElem_cons (show i < l'.length by omega)]
  exact h1 self i _ _ _ _ hx hy hi (List.getElem_mem hi) e) (fun self=>by rw [List.drop_length,hl,List.drop_length]; rw [← hl]; exact h2 self) m 0 (Nat.zero_le _) (by omega)
 exact this
end Go.Proofs.YthkdlifcknpadaaGreat
end
section
namespace Go.Proofs.YthkdlifcknpadaaGreat
open Go Go.Proofs.YthkdlifcknpadaaGreat.Abs Go.Proofs.YthkdlifcknpadaaGreat.Tl
set_option maxRecDepth 100000
theorem Zhp (L:Nat)(n:Int):XW L (n,())=some (ZnW n):=Zat L n
theorem F8 (L:Nat)(n:Int):JI L (n,())=some (ZnW n):=Zem L n
theorem chainB (x:List UInt8):∀ l:List (List UInt8),(l.foldr (fun k r=>bif x == k then some true else r) (some false):Option Bool)=some (l.any fun k=>decide (x=k))
 | []=>rfl
 | k :: l=>by
  rw [List.foldr_cons,chainB x l,Yt,List.any_cons]
  cases decide (x=k) <;> rfl
theorem ZkD (L:Nat)(s:List UInt8):VH L (s,())=some (kwB s):=(FM L s).trans (chainB s kws)
theorem ZkC (L:Nat)(l:List (List UInt8))(s:List UInt8)(hl:Len l)(hL:l.length < L):U2 L (l,s,())=some (GV (fun k=>decide (k=s)) l 0):=by
 rw [Zit]
 refine Zif l (fun l i=>some (GV (fun k=>decide (k=s)) l i)) hL (fun self i x r hx hi _ e=>?_) (fun self=>?_)
 ·rw [Ri]; simp only [Zi,Ze,cond_true,cond_false,Zg,ZR,Zd,Zw,condC,Zj,Zk,Zx,Yr,Yt,ZZ,hi,hx,wrap_succ hi (by omega),e,GV]; simp only [Wj,Ja,if_true,if_false,Bool.false_eq_true,ne_eq,decide_not,gt_iff_lt,ge_iff_le]
 ·rw [Ri]; simp only [Zi,Ze,cond_true,cond_false,Zg,ZR,Zd,Zw,condC,Zj,Zk,Zx,Yr,Yt,ZZ,GV]
theorem ZdW (L:Nat)(s:List UInt8)(hL:100≤L):Ut L (s,())=some (kwB s):=by
 rw [Zc5,show Jv L ()=some kws from Zav L,ZR,ZkC L kws s (by decide) (by have:kws.length=73:=rfl; omega),ZR]
 have:=A8 (fun k=>decide (k=s)) kws 0 (Int.le_refl _)
 rw [show decide (GV (fun k=>decide (k=s)) kws 0 ≥ 0)=_ from this]
 unfold kwB
 congr 2; funext k; exact decide_eq_decide.2 ⟨Eq.symm,Eq.symm⟩
theorem Zhe (s:List UInt8):Vj s=bif (decide (s=[]) || decide ((s.length:Int) > 24)) || (!ZnW ((s.headD 0).toNat)) || kwB s then 3 else bif s.all (fun x=>Zb9 x.toNat) then 0 else 3:=by
 cases s with
 | nil=>simp [Vj]
 | cons c r =>
  simp only [Vj,List.headD_cons,reduceCtorEq,decide_false,Bool.false_or]
  rw [show (decide ((((c :: r).length:Nat):Int) > 24))=decide (24 < (c :: r).length) from decide_eq_decide.2 (by omega)]
  by_cases h1:24 < (c :: r).length <;> cases ZnW (c.toNat:Int) <;> cases kwB (c :: r) <;> cases (c :: r).all (fun x=>Zb9 x.toNat) <;> simp [h1]
theorem Zpw (c:Bool)(x:UInt8):(!c && (decide ((x.toNat:Int) < 48) || decide ((x.toNat:Int) > 57)) && (!decide ((x.toNat:Int)=95)))=!(c || decide ((x.toNat:Int)=95) || (decide (48≤(x.toNat:Int)) && decide ((x.toNat:Int)≤57))):=by
 rw [show decide (48≤(x.toNat:Int))=!decide ((x.toNat:Int) < 48) by rw [← decide_not]; congr 1; exact propext Int.not_lt.symm,show decide ((x.toNat:Int)≤57)=!decide ((x.toNat:Int) > 57) by rw [← decide_not]; congr 1; exact propext Int.not_lt.symm]
 cases c <;> cases decide ((x.toNat:Int)=95) <;> cases decide ((x.toNat:Int) < 48) <;> cases decide ((x.toNat:Int) > 57) <;> rfl
theorem Zpv (L:Nat)(s:List UInt8)(h:Len s)(hL:s.length < L):Z9 (Jt s L) L (0,())=some (bif s.all (fun x=>Zb9 x.toNat) then 0 else 3):=by
 refine Zft s (fun s=>some (bif s.all (fun x=>Zb9 x.toNat) then 0 else 3)) hL (fun self i x r hx hi _ e=>?_) (fun self=>?_)
 ·rw [Jt]
  simp only [Zi,Ze,cond_true,cond_false,Zg,ZR,Zd,Zw,condC,Zj,Zk,Zx,Yr,Yt,ZZ,hi,hx,Zhp,wrap_succ hi (by omega),e,ZZ,Zpw,List.all_cons,Zb9]
  cases (ZnW (x.toNat:Int) || decide ((x.toNat:Int)=95) || (decide (48≤(x.toNat:Int)) && decide ((x.toNat:Int)≤57))) <;> rfl
 ·rw [Jt]; simp only [Zi,Ze,cond_true,cond_false,Zg,ZR,Zd,Zw,condC,Zj,Zk,Zx,Yr,Yt,ZZ,List.all_nil]
theorem Xg (L:Nat)(s:List UInt8)(h:Len s)(hL:s.length < L):ZJ L (s,())=some (Vj s):=by
 rw [Zc3,Zpv L s h hL,Zhe,ZnQ]
 cases s with
 | nil=>rfl
 | cons c r =>
  simp only [Zi,Ze,cond_true,cond_false,Zg,ZR,Zd,Zw,condC,Zj,Zk,Zx,Yr,Yt,ZZ,List.getElem?_cons_zero,Zhp,ZkD,List.headD_cons,reduceCtorEq,decide_false,Bool.false_or,Bool.or_assoc]
theorem Zns (L:Nat)(s:List UInt8)(h:Len s)(hL:s.length < L):Z9 (Kz s L) L (0,())=some (bif s.all (fun x=>Zb9 x.toNat) then 0 else 3):=by
 refine Zft s (fun s=>some (bif s.all (fun x=>Zb9 x.toNat) then 0 else 3)) hL (fun self i x r hx hi _ e=>?_) (fun self=>?_)
 ·rw [Kz]
  simp only [Zi,Ze,cond_true,cond_false,Zg,ZR,Zd,Zw,condC,Zj,Zk,Zx,Yr,Yt,ZZ,hi,hx,F8,wrap_succ hi (by omega),e,ZZ,List.all_cons,Zb9,Zw,condC,Zx]
  rw [show decide (48≤(x.toNat:Int))=!decide ((x.toNat:Int) < 48) by rw [← decide_not]; congr 1; exact propext Int.not_lt.symm,show decide ((x.toNat:Int)≤57)=!decide ((x.toNat:Int) > 57) by rw [← decide_not]; congr 1; exact propext Int.not_lt.symm]
  cases ZnW (x.toNat:Int) <;> cases decide ((x.toNat:Int)=95) <;> cases decide ((x.toNat:Int) < 48) <;> cases decide ((x.toNat:Int) > 57) <;> rfl
 ·rw [Kz]; simp only [Zi,Ze,cond_true,cond_false,Zg,ZR,Zd,Zw,condC,Zj,Zk,Zx,Yr,Yt,ZZ,List.all_nil]
theorem Tt (L:Nat)(s:List UInt8)(h:Len s)(hL:s.length < L)(h1:100≤L):Xz L (s,())=some (Vj s):=by
 rw [ZfM,Zns L s h hL,Zhe,ZnQ]
 cases s with
 | nil=>rfl
 | cons c r =>
  have:decide ((((c :: r).length:Nat):Int) < 1)=false:=by simp only [List.length_cons,decide_eq_false_iff_not]; omega
  simp only [Zi,Ze,cond_true,cond_false,Zg,ZR,Zd,Zw,condC,Zj,Zk,Zx,Yr,Yt,ZZ,List.getElem?_cons_zero,F8,ZdW L _ h1,List.headD_cons,this,reduceCtorEq,decide_false,Bool.false_or,Bool.or_assoc]
theorem ZO {α:Type}[SizeOf α]:∀ l:List α,l.length < SizeOf.sizeOf l
 | []=>by simp
 | x :: l=>by have:=ZO l; simp only [List.length_cons,List.cons.sizeOf_spec]; omega
theorem Zn5 (d:YV):SizeOf.sizeOf d.Values < SizeOf.sizeOf d∧SizeOf.sizeOf d.Weights < SizeOf.sizeOf d:=by cases d; simp; omega
theorem ZdU (L:Nat)(a b c:Int):YP L (a,b,c,())=some (btw a b c):=Zc4 L a b c
theorem Ee (L:Nat)(lo hi:Int)(l:List Int)(h:Len l)(hL:l.length < L):Y6 L (lo,hi,l,())=some (WZ lo hi l):=by
 have:=Zif (f := Jn lo hi l) l (fun l i=>some (GV (Zof lo hi) l i)) hL (fun self i x r hx hi' _ e=>by
  rw [Jn]; simp only [Zi,Ze,cond_true,cond_false,Zg,ZR,Zd,Zw,condC,Zj,Zk,Zx,Yr,Yt,ZZ,hi',hx,wrap_succ hi' (by omega),e,GV]; simp only [Wj,Ja,if_true,if_false,Bool.false_eq_true,ne_eq,decide_not,gt_iff_lt,ge_iff_le]; rfl) (fun self=>by rw [Jn]; simp only [Zi,Ze,cond_true,cond_false,Zg,ZR,Zd,Zw,condC,Zj,Zk,Zx,Yr,Yt,ZZ,GV])
 have h2:decide (GV (Zof lo hi) l 0 ≥ 0)=l.any (Zof lo hi):=A8 (Zof lo hi) l 0 (Int.le_refl _)
 simp only [Zcw,this,ZR,h2,WZ]
theorem ZkL (L:Nat)(h:2 < L)(lo hi a:Int):Y6 L (lo,hi,[a],())=some (WZ lo hi [a]):=Ee L lo hi [a] (by simp [Len]) (by simp; omega)
theorem ZkM (L:Nat)(h:2 < L)(lo hi a b:Int):Y6 L (lo,hi,[a,b],())=some (WZ lo hi [a,b]):=Ee L lo hi [a,b] (by simp [Len]) (by simpa using h)
theorem Zni (L:Nat)(d:YV)(h:Jz d):Uo L (d,())=some (Ry d):=by
 simp only [Zi,Ze,cond_true,cond_false,Zg,ZR,Zd,Zw,condC,Zj,Zk,Zx,Yr,Yt,ZZ,Zcv,h.wr,Ry]; simp only [Wj,Ja,if_true,if_false,Bool.false_eq_true,ne_eq,decide_not,gt_iff_lt,ge_iff_le]
theorem LW (L:Nat)(d:YV)(h:Jz d)(hL:SizeOf.sizeOf d < L)(h1:100≤L):Vw L (d,())=some (Pi d):=by
 have hs:d.Values.length < L∧d.Weights.length < L:=by
  have:=ZO d.Values; have:=ZO d.Weights; have:=Zn5 d; omega
 simp only [Zi,Ze,cond_true,cond_false,Zg,ZR,Zd,Zw,condC,Zj,Zk,Zx,Yr,Yt,ZZ,Zec,Zni L d h,Pi,Ee L _ _ _ h.v hs.1,Ee L _ _ _ h.w hs.2,ZkL L (by omega),ZkM L (by omega)]
 simp only [Wj,Ja,if_true,if_false,Bool.false_eq_true,ne_eq,decide_not,gt_iff_lt,ge_iff_le]
theorem ZfA (L:Nat)(d:YV):KG L (d,())=some (Zaa d):=by
 simp only [Zi,Ze,cond_true,cond_false,Zg,ZR,Zd,Zw,condC,Zj,Zk,Zx,Yr,Yt,ZZ,Zel,Zaa]; simp only [Wj,Ja,if_true,if_false,Bool.false_eq_true,ne_eq,decide_not,gt_iff_lt,ge_iff_le]
theorem ZpU (L:Nat)(d:YV)(h:Jz d)(hL:SizeOf.sizeOf d < L):H9 L (d,())=some (ZhC d):=by
 have hs:d.Values.length < L∧d.Weights.length < L:=by
  have:=ZO d.Values; have:=ZO d.Weights; have:=Zn5 d; omega
 rw [ZfL,ZhC]
 by_cases hl:d.Values.length=d.Weights.length
 ·rw [Zkl d.Values d.Weights hl (fun l m=>some (Zoq l m)) hs.1 (fun self i x y r r' hx hy hi _ e=>by
   have hv:=h.v
   rw [Oy]; simp only [Zi,Ze,cond_true,cond_false,Zg,ZR,Zd,Zw,condC,Zj,Zk,Zx,Yr,Yt,ZZ,hi,hx,hy,ZdU,wrap_succ hi (by omega),e,Zoq]; simp only [Wj,Ja,if_true,if_false,Bool.false_eq_true,ne_eq,decide_not,gt_iff_lt,ge_iff_le]) (fun self=>by rw [Oy]; simp only [Zi,Ze,cond_true,cond_false,Zg,ZR,Zd,Zw,condC,Zj,Zk,Zx,Yr,Yt,ZZ,Zoq])]
  simp only [Zi,Ze,cond_true,cond_false,Zg,ZR,Zd,Zw,condC,Zj,Zk,Zx,Yr,Yt,ZZ]; simp only [Wj,Ja,if_true,if_false,Bool.false_eq_true,ne_eq,decide_not,gt_iff_lt,ge_iff_le]
 ·simp only [Wj,Ja,if_true,if_false,Bool.false_eq_true,ne_eq,decide_not,gt_iff_lt,ge_iff_le,Yr,ZZ,Bool.not_false,show decide ((d.Values.length:Int)=d.Weights.length)=false by simp only [decide_eq_false_iff_not]; omega]
theorem P5 (L:Nat)(d:YV)(h:Jz d)(hL:SizeOf.sizeOf d < L):Jk L (d,())=some (Pi d):=by
 rw [← ZbC]
 simp only [Zi,Ze,cond_true,cond_false,Zg,ZR,Zd,Zw,condC,Zj,Zk,Zx,Yr,Yt,ZZ,ZfK,ZfA,ZlY,ZdU,ZpU L d h hL]; simp only [Wj,Ja,if_true,if_false,Bool.false_eq_true,ne_eq,decide_not,gt_iff_lt,ge_iff_le]
end Go.Proofs.YthkdlifcknpadaaGreat
end
section
namespace Go.Proofs.YthkdlifcknpadaaGreat
open Go Go.Proofs.YthkdlifcknpadaaGreat.Abs Go.Proofs.YthkdlifcknpadaaGreat.Tl
set_option maxRecDepth 100000
theorem Zom (e:ZC):SizeOf.sizeOf e.Kids < SizeOf.sizeOf e∧SizeOf.sizeOf e.Name < SizeOf.sizeOf e:=by cases e; simp; omega
theorem YE.nl {e:ZC}(h:YE e):Len e.Name:=by have:=h.n; unfold Len; omega
theorem ZdZ (L:Nat):∀ (m:Nat) (e:ZC),YE e→SizeOf.sizeOf e≤m→m≤L→Ux L m (e,())=some (Zl3 e)
 | 0,e,h,hs,_=>absurd hs (by have:=CG e; omega)
 | m + 1,e,h,hs,hm=>by
  have hk:=ZO e.Kids; have hz:=Zom e; have hl:=h.k
  rw [Zef,Zjs]
  refine ZbX e.Kids (fun l s=>some (sumW Zl3 l s)) (by omega) 1 (fun self s i x r hx hi mem e'=>?_) (fun self s=>?_)
  ·have ih:=ZdZ L m x (h.Kids.2 x mem) (by have:=AY mem; omega) (by omega)
   rw [GU]; simp only [Zi,Ze,cond_true,cond_false,Zg,ZR,Zd,Zw,condC,Zj,Zk,Zx,Yr,Yt,ZZ,hi,hx,ih,wrap_succ hi (by omega),e',sumW]
  ·rw [GU]; simp only [Zi,Ze,cond_true,cond_false,Zg,ZR,Zd,Zw,condC,Zj,Zk,Zx,Yr,Yt,ZZ,sumW]
theorem Zeb (L:Nat):∀ (m:Nat) (e:ZC),YE e→SizeOf.sizeOf e≤m→m≤L→KO L m (e,())=some (Zl3 e)
 | 0,e,h,hs,_=>absurd hs (by have:=CG e; omega)
 | m + 1,e,h,hs,hm=>by
  have hk:=ZO e.Kids; have hz:=Zom e; have hl:=h.k
  rw [ZfQ,Zjs]
  refine ZbX e.Kids (fun l s=>some (sumW Zl3 l s)) (by omega) 1 (fun self s i x r hx hi mem e'=>?_) (fun self s=>?_)
  ·have ih:=Zeb L m x (h.Kids.2 x mem) (by have:=AY mem; omega) (by omega)
   rw [O0]; simp only [Zi,Ze,cond_true,cond_false,Zg,ZR,Zd,Zw,condC,Zj,Zk,Zx,Yr,Yt,ZZ,hi,hx,ih,wrap_succ hi (by omega),e',sumW]
  ·rw [O0]; simp only [Zi,Ze,cond_true,cond_false,Zg,ZR,Zd,Zw,condC,Zj,Zk,Zx,Yr,Yt,ZZ,sumW]
theorem ZdY (L:Nat):∀ (m:Nat) (e:ZC),YE e→SizeOf.sizeOf e≤m→m≤L→Uw L m (e,())=some (Zj2 e)
 | 0,e,h,hs,_=>absurd hs (by have:=CG e; omega)
 | m + 1,e,h,hs,hm=>by
  have hk:=ZO e.Kids; have hz:=Zom e; have hl:=h.k
  rw [Zee,Zj3]
  refine ZbX e.Kids (fun l s=>some (IntKind.i64.wrap (Zm8 Zj2 l s + 1))) (by omega) 0 (fun self s i x r hx hi mem e'=>?_) (fun self s=>?_)
  ·have ih:=ZdY L m x (h.Kids.2 x mem) (by have:=AY mem; omega) (by omega)
   rw [GN]; simp only [Zi,Ze,cond_true,cond_false,Zg,ZR,Zd,Zw,condC,Zj,Zk,Zx,Yr,Yt,ZZ,hi,hx,ih,wrap_succ hi (by omega),e',Zm8]
  ·rw [GN]; simp only [Zi,Ze,cond_true,cond_false,Zg,ZR,Zd,Zw,condC,Zj,Zk,Zx,Yr,Yt,ZZ,Zm8]
theorem Zea (L:Nat):∀ (m:Nat) (e:ZC),YE e→SizeOf.sizeOf e≤m→m≤L→KN L m (e,())=some (Zj2 e)
 | 0,e,h,hs,_=>absurd hs (by have:=CG e; omega)
 | m + 1,e,h,hs,hm=>by
  have hk:=ZO e.Kids; have hz:=Zom e; have hl:=h.k
  rw [ZfP,Zj3]
  refine ZbX e.Kids (fun l s=>some (IntKind.i64.wrap (Zm8 Zj2 l s + 1))) (by omega) 0 (fun self s i x r hx hi mem e'=>?_) (fun self s=>?_)
  ·have ih:=Zea L m x (h.Kids.2 x mem) (by have:=AY mem; omega) (by omega)
   rw [Oz]; simp only [Zi,Ze,cond_true,cond_false,Zg,ZR,Zd,Zw,condC,Zj,Zk,Zx,Yr,Yt,ZZ,hi,hx,ih,wrap_succ hi (by omega),e',Zm8]
  ·rw [Oz]; simp only [Zi,Ze,cond_true,cond_false,Zg,ZR,Zd,Zw,condC,Zj,Zk,Zx,Yr,Yt,ZZ,Zm8]
theorem Zhq (L:Nat)(n:Int):VF L (n,())=some (Zl5 n):=Zcx L n
theorem Zog (L:Nat)(n:Int):UQ L (n,())=some (Zfs n):=by
 simp only [Zi,Ze,cond_true,cond_false,Zg,ZR,Zd,Zw,condC,Zj,Zk,Zx,Yr,Yt,ZZ,ZfJ,Zfs]; simp only [Wj,Ja,if_true,if_false,Bool.false_eq_true,ne_eq,decide_not,gt_iff_lt,ge_iff_le]
theorem ZpP (L:Nat)(k:Q7)(n:Int):QQ L (k,n,())=some (ZaV k.1 n):=by
 simp only [Zi,Ze,cond_true,cond_false,Zg,ZR,Zd,Zw,condC,Zj,Zk,Zx,Yr,Yt,ZZ,LZ,Zog,ZaV]; simp only [Wj,Ja,if_true,if_false,Bool.false_eq_true,ne_eq,decide_not,gt_iff_lt,ge_iff_le]
theorem ZpR (L:Nat)(k:Q7)(n:Int):Qa L (k,n,())=some (ZdM k.1 n):=by
 simp only [Zi,Ze,cond_true,cond_false,Zg,ZR,Zd,Zw,condC,Zj,Zk,Zx,Yr,Yt,ZZ,Rf,Zhq,ZdM]
theorem ZkH (L:Nat)(k:Q7)(n:Int):Qn L (k,n,())=some ((ZmE k.1 n).1,(ZmE k.1 n).2.1,(ZmE k.1 n).2.2,()):=by
 simp only [Zi,Ze,cond_true,cond_false,Zg,ZR,Zd,Zw,condC,Zj,Zk,Zx,Yr,Yt,ZZ,Ox,Zhq,ZmE]
 cases decide (n=2) <;> cases decide (n=25) <;> cases decide (n=26) <;> cases Zl5 n <;> cases k.1 <;> rfl
theorem Zuf (L:Nat)(n:Int):TC L (n,())=some (inB n):=Zno L n
theorem Zsq (L:Nat)(k:Q7)(e:ZC)(h:YE e)(hL:SizeOf.sizeOf e≤L):Xj L (k,e,())=some (Zce k.1 e):=by
 have hn:=Xg L e.Name h.nl (by have:=ZO e.Name; have:=Zom e; omega)
 simp only [Zi,Ze,cond_true,cond_false,Zg,ZR,Zd,Zw,condC,Zj,Zk,Zx,Yr,Yt,ZZ,Dh,ZpP,Zog,ZpR,ZkH,Zuf,hn,Zce]; simp only [Wj,Ja,if_true,if_false,Bool.false_eq_true,ne_eq,decide_not,gt_iff_lt,ge_iff_le,Bool.or_assoc]
theorem Zhw (L:Nat)(k:Q7):∀ (m:Nat) (e:ZC),YE e→SizeOf.sizeOf e≤m→m≤L→Qx L m (k,e,())=some (UE k.1 e)
 | 0,e,h,hs,_=>absurd hs (by have:=CG e; omega)
 | m + 1,e,h,hs,hm=>by
  have hk:=ZO e.Kids; have hz:=Zom e; have hl:=h.k
  have lp:Z9 (Qu m k e L) L (0,())=some (J7 (UE k.1) e.Kids):=by
   refine Zft e.Kids (fun l=>some (J7 (UE k.1) l)) (by omega) (fun self i x r hx hi mem e'=>?_) (fun self=>?_)
   ·have ih:=Zhw L k m x (h.Kids.2 x mem) (by have:=AY mem; omega) (by omega)
    rw [Qu]; simp only [Zi,Ze,cond_true,cond_false,Zg,ZR,Zd,Zw,condC,Zj,Zk,Zx,Yr,Yt,ZZ,hi,hx,ih,wrap_succ hi (by omega),e',J7]; simp only [Wj,Ja,if_true,if_false,Bool.false_eq_true,ne_eq,decide_not,gt_iff_lt,ge_iff_le]
   ·rw [Qu]; simp only [Zi,Ze,cond_true,cond_false,Zg,ZR,Zd,Zw,condC,Zj,Zk,Zx,Yr,Yt,ZZ,J7]
  rw [Rh,ZdO,lp,Zsq L k e h (by omega)]
  simp only [Zi,Ze,cond_true,cond_false,Zg,ZR,Zd,Zw,condC,Zj,Zk,Zx,Yr,Yt,ZZ]; simp only [Wj,Ja,if_true,if_false,Bool.false_eq_true,ne_eq,decide_not,gt_iff_lt,ge_iff_le]
theorem Zne (L:Nat)(k:Q7)(e:ZC)(h:YE e)(hL:SizeOf.sizeOf e≤L):QP L (k,e,())=some (XI k.1 e):=by
 simp only [Zi,Ze,cond_true,cond_false,Zg,ZR,Zd,Zw,condC,Zj,Zk,Zx,Yr,Yt,ZZ,LY,show OX L (e,())=_ from ZdZ L L e h hL (Nat.le_refl _),show OW L (e,())=_ from ZdY L L e h hL (Nat.le_refl _),show Vl L (k,e,())=_ from Zhw L k L e h hL (Nat.le_refl _),XI]; simp only [Wj,Ja,if_true,if_false,Bool.false_eq_true,ne_eq,decide_not,gt_iff_lt,ge_iff_le]
theorem Zcm (L:Nat)(e:ZC)(h:YE e)(hL:SizeOf.sizeOf e≤L):JG L (e,())=some (XI false e):=by
 simp only [Zi,Ze,cond_true,cond_false,Zg,ZR,Zd,Zw,condC,Zj,Zk,Zx,Yr,Yt,ZZ,Zed,Zne L _ e h hL]
theorem Zsr (L:Nat)(n:Int):DL L (n,())=some (inB n):=Znp L n
theorem ZkI (L:Nat)(n:Int):JJ L (n,())=some (Zl5 n):=Zen L n
theorem ZpM (L:Nat)(n:Int):HY L (n,())=some (EP n):=by
 simp only [Zi,Ze,cond_true,cond_false,Zg,ZR,Zd,Zw,condC,Zj,Zk,Zx,Yr,Yt,ZZ,ZfN,EP]; simp only [Wj,Ja,if_true,if_false,Bool.false_eq_true,ne_eq,decide_not,gt_iff_lt,ge_iff_le]
theorem Zsp (L:Nat)(n:Int):TD L (n,())=some (ZmB n):=by
 simp only [Zi,Ze,cond_true,cond_false,Zg,ZR,Zd,Zw,condC,Zj,Zk,Zx,Yr,Yt,ZZ,Ziu,ZmB]; simp only [Wj,Ja,if_true,if_false,Bool.false_eq_true,ne_eq,decide_not,gt_iff_lt,ge_iff_le]
theorem ZqR (a b d:Bool)(n r:Int):(if a=true then 1 else if b=true then 2 else if (d && !decide (n=0))=true then n else r) =
  if (!decide ((if a=true then 1 else if b=true then 2 else if (d && !decide (n=0))=true then n else 0)=0))=true then (if a=true then 1 else if b=true then 2 else if (d && !decide (n=0))=true then n else 0) else r:=by
 cases a <;> cases b <;> cases d <;> by_cases h:n=0 <;> simp [h]
theorem Zhx (L:Nat)(c:Bool)(h1:100≤L):∀ (m:Nat) (e:ZC),YE e→SizeOf.sizeOf e≤m→m≤L→Ii L m (e,c,())=some (UE c e)
 | 0,e,h,hs,_=>absurd hs (by have:=CG e; omega)
 | m + 1,e,h,hs,hm=>by
  have hk:=ZO e.Kids; have hz:=Zom e; have hl:=h.k
  have lp:Z9 (GZ m e c L) L (0,())=some (J7 (UE c) e.Kids):=by
   refine Zft e.Kids (fun l=>some (J7 (UE c) l)) (by omega) (fun self i x r hx hi mem e'=>?_) (fun self=>?_)
   ·have ih:=Zhx L c h1 m x (h.Kids.2 x mem) (by have:=AY mem; omega) (by omega)
    rw [GZ]; simp only [Zi,Ze,cond_true,cond_false,Zg,ZR,Zd,Zw,condC,Zj,Zk,Zx,Yr,Yt,ZZ,hi,hx,ih,wrap_succ hi (by omega),e',J7]; simp only [Wj,Ja,if_true,if_false,Bool.false_eq_true,ne_eq,decide_not,gt_iff_lt,ge_iff_le]
   ·rw [GZ]; simp only [Zi,Ze,cond_true,cond_false,Zg,ZR,Zd,Zw,condC,Zj,Zk,Zx,Yr,Yt,ZZ,J7]
  have hn:=Tt L e.Name h.nl (by have:=ZO e.Name; omega) h1
  rw [← Zkv]
  simp only [Zi,Ze,cond_true,cond_false,Zg,ZR,Zd,Zw,condC,Zj,Zk,Zx,Yr,Yt,ZZ,Ziv,lp,ZpM,ZkI,Zsr,Zsp,hn,ZhW]; simp only [Wj,Ja,if_true,if_false,Bool.false_eq_true,ne_eq,decide_not,gt_iff_lt,ge_iff_le,Bool.or_assoc]
  exact congrArg some (ZqR _ _ _ _ _)
theorem Zng (L:Nat)(c:Bool)(h1:100≤L)(e:ZC)(h:YE e)(hL:SizeOf.sizeOf e≤L):Ia L (e,c,())=some (XI c e):=by
 simp only [Zi,Ze,cond_true,cond_false,Zg,ZR,Zd,Zw,condC,Zj,Zk,Zx,Yr,Yt,ZZ,ZfR,show RG L (e,())=_ from Zeb L L e h hL (Nat.le_refl _),show RF L (e,())=_ from Zea L L e h hL (Nat.le_refl _),show PL L (e,c,())=_ from Zhx L c h1 L e h hL (Nat.le_refl _),XI]; simp only [Wj,Ja,if_true,if_false,Bool.false_eq_true,ne_eq,decide_not,gt_iff_lt,ge_iff_le]
theorem Zco (L:Nat)(h1:100≤L)(e:ZC)(h:YE e)(hL:SizeOf.sizeOf e≤L):YQ L (e,())=some (XI false e):=by
 simp only [Zi,Ze,cond_true,cond_false,Zg,ZR,Zd,Zw,condC,Zj,Zk,Zx,Yr,Yt,ZZ,ZfO,Zng L _ h1 e h hL]
theorem Zho (L:Nat)(a b:List Int)(h:Len a)(hL:a.length < L):YD L (a,b,())=some (decide (a=b)):=by
 rw [Gx]
 by_cases hl:a.length=b.length
 ·rw [Zkl a b hl (fun l m=>some (decide (l=m))) hL (fun self i x y r r' hx hy hi _ e=>by
   rw [Qp]; simp only [Zi,Ze,cond_true,cond_false,Zg,ZR,Zd,Zw,condC,Zj,Zk,Zx,Yr,Yt,ZZ,hi,hx,hy,wrap_succ hi (by omega),e,List.cons.injEq,Bool.decide_and]; cases decide (x=y) <;> rfl) (fun self=>by rw [Qp]; simp only [Zi,Ze,cond_true,cond_false,Zg,ZR,Zd,Zw,condC,Zj,Zk,Zx,Yr,Yt,ZZ,decide_true])]
  rw [ZZ,show decide ((a.length:Int)=b.length)=true by simp only [decide_eq_true_eq]; omega]; rfl
 ·rw [ZZ,show decide ((a.length:Int)=b.length)=false by simp only [decide_eq_false_iff_not]; omega]
  have:a≠b:=fun e=>hl (by rw [e])
  simp [this]
theorem Zbe (L:Nat)(a b:List Int)(h:Len a)(hL:a.length < L):XX L (a,b,())=some (decide (a=b)):=by
 rw [Zau]
 by_cases hl:a.length=b.length
 ·rw [Zkl a b hl (fun l m=>some (decide (l=m))) hL (fun self i x y r r' hx hy hi _ e=>by
   rw [UH]; simp only [Zi,Ze,cond_true,cond_false,Zg,ZR,Zd,Zw,condC,Zj,Zk,Zx,Yr,Yt,ZZ,hi,hx,hy,wrap_succ hi (by omega),e,List.cons.injEq,Bool.decide_and]; cases decide (x=y) <;> rfl) (fun self=>by rw [UH]; simp only [Zi,Ze,cond_true,cond_false,Zg,ZR,Zd,Zw,condC,Zj,Zk,Zx,Yr,Yt,ZZ,decide_true])]
  rw [ZZ,show decide ((a.length:Int)=b.length)=true by simp only [decide_eq_true_eq]; omega]; rfl
 ·rw [ZZ,show decide ((a.length:Int)=b.length)=false by simp only [decide_eq_false_iff_not]; omega]
  have:a≠b:=fun e=>hl (by rw [e])
  simp [this]
theorem Zf9 (L:Nat)(a b:YV)(h:Jz a)(hL:SizeOf.sizeOf a≤L):Jj L (a,b,())=some (Zj5 a b):=by
 have h1:=ZO a.Values; have h2:=ZO a.Weights; have h3:=Zn5 a
 simp only [Zi,Ze,cond_true,cond_false,Zg,ZR,Zd,Zw,condC,Zj,Zk,Zx,Yr,Yt,ZZ,ZfI,Zho L a.Values _ h.v (by omega),Zho L a.Weights _ h.w (by omega),Zj5]
theorem Zcp (L:Nat)(a b:YV)(h:Jz a)(hL:SizeOf.sizeOf a≤L):U1 L (a,b,())=some (Zj5 a b):=by
 have h1:=ZO a.Values; have h2:=ZO a.Weights; have h3:=Zn5 a
 simp only [Zi,Ze,cond_true,cond_false,Zg,ZR,Zd,Zw,condC,Zj,Zk,Zx,Yr,Yt,ZZ,Zis,Zbe L a.Values _ h.v (by omega),Zbe L a.Weights _ h.w (by omega),Zj5]
theorem Zu6 {α β:Type}(a:List α)(b:List β):(a.length=b.length∧decide ((a.length:Int)=(b.length:Int))=true)∨(a.length≠b.length∧decide ((a.length:Int)=(b.length:Int))=false):=by
 by_cases h:a.length=b.length
 ·exact .inl ⟨h,by simp only [decide_eq_true_eq]; omega⟩
 ·exact .inr ⟨h,by simp only [decide_eq_false_iff_not]; omega⟩
theorem Zhv (L:Nat):∀ (m:Nat) (a b:ZC),YE a→SizeOf.sizeOf a≤m→m≤L→KL L m (a,b,())=some (Zaz a b)
 | 0,e,_,h,hs,_=>absurd hs (by have:=CG e; omega)
 | m + 1,e,b,h,hs,hm=>by
  have hk:=ZO e.Kids; have hz:=Zom e; have hl:=h.k
  rw [ZcL]
  rcases Zu6 e.Kids b.Kids with ⟨hl1,hl2⟩ | ⟨hl1,hl2⟩
  ·have lp:Z9 (Kv m e b L) L (0,())=some (all2 Zaz e.Kids b.Kids):=by
    refine Zkl e.Kids b.Kids hl1 (fun l l'=>some (all2 Zaz l l')) (by omega) (fun self i x y r r' hx hy hi mem e'=>?_) (fun self=>?_)
    ·have ih:=Zhv L m x y (h.Kids.2 x mem) (by have:=AY mem; omega) (by omega)
     rw [Kv]; simp only [Zi,Ze,cond_true,cond_false,Zg,ZR,Zd,Zw,condC,Zj,Zk,Zx,Yr,Yt,ZZ,hi,hx,hy,ih,wrap_succ hi (by omega),e',all2]; simp only [Wj,Ja,if_true,if_false,Bool.false_eq_true,ne_eq,decide_not,gt_iff_lt,ge_iff_le]
    ·rw [Kv]; simp only [Zi,Ze,cond_true,cond_false,Zg,ZR,Zd,Zw,condC,Zj,Zk,Zx,Yr,Yt,ZZ,all2]
   simp only [Zi,Ze,cond_true,cond_false,Zg,ZR,Zd,Zw,condC,Zj,Zk,Zx,Yr,Yt,ZZ,FH,lp,ZhX,hl2]; simp only [Wj,Ja,if_true,if_false,Bool.false_eq_true,ne_eq,decide_not,gt_iff_lt,ge_iff_le,hl2]
  ·simp only [Zi,Ze,cond_true,cond_false,Zg,ZR,Zd,Zw,condC,Zj,Zk,Zx,Yr,Yt,ZZ,FH,ZhX,hl2,Bool.not_false,Bool.or_true]; simp only [Wj,Ja,if_true,if_false,Bool.false_eq_true,ne_eq,decide_not,gt_iff_lt,ge_iff_le,hl2,Bool.not_false,Bool.or_true]
theorem ZpN (L:Nat)(a b:ZC)(h:YE a)(hL:SizeOf.sizeOf a≤L):Rz L (a,b,())=some (Zaz a b):=Zhv L L a b h hL (Nat.le_refl _)
end Go.Proofs.YthkdlifcknpadaaGreat
end
