import Derived.Test.YtleomfgijkapfaaGreatDoorJ16
set_option linter.all false
noncomputable section
namespace Go.Proofs.YtleomfgijkapfaaGreatDoor
open Go Go.Proofs.YtleomfgijkapfaaGreatDoor.Abs Go.Proofs.YtleomfgijkapfaaGreatDoor.Tl
set_option maxRecDepth 100000
set_option maxHeartbeats 0
def YG (L:Nat)(x:Int×Int×Int×PUnit):Option Bool:=fT [] L Ph [] (.one .bool) [.int .i64,.int .i64,.int .i64] x
def Iz (L:Nat):Sum tT:=mU 165 [.int .i64,.int .i64,.int .i64] (.one .bool) (YG L)
theorem Nb:SX Iz:=fun h=>sT h Zr rfl (by kernel_rfl) fun _=>rfl
theorem ZeG (L:Nat)(x0:Int)(x1:Int)(x2:Int):YG L (x0,x1,x2,())=some (decide (x0 ≥ x1) && decide (x0≤x2)):=by kernel_rfl
def I9 (L:Nat)(x:Y9×PUnit):Option Int:=fT [Iz L] L CJ [.rnd [.slot 3 (.int .i64)]] (.one (.int .i64)) [.row 2] x
def ZbI (L:Nat):Sum tT:=mU 166 [.row 2] (.one (.int .i64)) (I9 L)
theorem ZiW:SX ZbI:=fun h=>sT h (Zb (Nb h) Zr) rfl (by kernel_rfl) fun _=>rfl
def Td:Y9→Nat→(Int×PUnit→Option Int)→Int×PUnit→Option Int:=fun x0 L self acc=>bif decide (acc.1 < (↑x0.5.length:Int)) then bT (ZG x0.5 acc.1) fun y=>bT (YG L (y,0,1000000000,())) fun y=>bT (bif (!y) == false then bT (ZG x0.6 acc.1) fun y=>bT (YG L (y,1,1000,())) fun y=>some !y else some true) fun y=>bif y then some 2 else self (Go.IntKind.i64.wrap (acc.1 + 1),()) else some 0
theorem Ziw (L:Nat)(x0:Y9):I9 L (x0,())=bif (↑x0.5.length:Int) != (↑x0.6.length:Int) then some 8 else bif (↑x0.5.length:Int) == 0 then some 7 else bif decide ((↑x0.5.length:Int) > 20) then some 6 else Zq (Td x0 L) L (0,()):=by kernel_rfl
def KX (L:Nat)(x:Y9×PUnit):Option Bool:=fT [] L EC [] (.one .bool) [.row 2] x
def AC (L:Nat):Sum tT:=mU 164 [.row 2] (.one .bool) (KX L)
theorem ZgW:SX AC:=fun h=>sT h Zr rfl (by kernel_rfl) fun _=>rfl
theorem Zg8 (L:Nat)(x0:Y9):KX L (x0,())=bif x0.1 == 1 then some (x0.3 == 0 && x0.4 == 0 && ((↑x0.5.length:Int) == 0 && (↑x0.6.length:Int) == 0)) else bif x0.1 == 2 then some (x0.4 == 0 && ((↑x0.5.length:Int) == 0 && (↑x0.6.length:Int) == 0)) else bif x0.1 == 5 then some (x0.4 == 0 && ((↑x0.5.length:Int) == 0 && (↑x0.6.length:Int) == 0)) else bif x0.1 == 3 then some (x0.2 == 0 && x0.3 == 0 && x0.4 == 0) else bif x0.1 == 4 then some ((↑x0.5.length:Int) == 0 && (↑x0.6.length:Int) == 0) else some false:=by kernel_rfl
def XJ (L:Nat)(x:Y9×PUnit):Option Int:=fT [ZbI L,Iz L,AC L] L CG [] (.one (.int .i64)) [.row 2] x
def Iy (L:Nat):Sum tT:=mU 86 [.row 2] (.one (.int .i64)) (XJ L)
theorem Df:SX Iy:=fun h=>sT h (Zb (ZiW h) (Zb (Nb h) (Zb (ZgW h) Zr))) rfl (by kernel_rfl) fun _=>rfl
theorem Ziv (L:Nat)(x0:Y9):XJ L (x0,())=bT (KX L (x0,())) fun y=>bif !y then some 1 else bif x0.1 == 1 then bT (YG L (x0.2,0,1000000000,())) fun y=>bif !y then some 2 else some 0 else bif x0.1 == 2 then bT (YG L (x0.2,0,x0.3,())) fun y=>bif !(y && decide (x0.3≤1000000000)) then some 2 else some 0 else bif x0.1 == 3 then bT (I9 L (x0,())) fun y=>some y else bif x0.1 == 4 then bT (YG L (x0.4,1,20,())) fun y=>bT (bif y == true then bT (YG L (x0.2,0,x0.3,())) fun y=>some y else some false) fun y=>bif !(y && decide (x0.3≤1000000)) then some 2 else some 0 else bif x0.1 == 5 then bT (YG L (x0.2,1,1000,())) fun y=>bT (bif y == true then bT (YG L (x0.3,1,1000,())) fun y=>some y else some false) fun y=>bif !y then some 2 else some 0 else some 0:=by kernel_rfl
def Dp (L:Nat):Nat→List (Sum tT)
 | 0=>[⟨85,[.row 19,.int .i64,.row 16,.row 8],fun _=>.par _ none ((.one (.bool):RD).tv tT)⟩]
 | m + 1=>[⟨85,[.row 19,.int .i64,.row 16,.row 8],fun x=>.par _ (fnT tF tG (qOf tF (Dp L m ++ [])) 0 L NW [.rnd [.slot 10 (.int .i64)]] (.one (.bool)) (tvL tT [.row 19,.int .i64,.row 16,.row 8] x) []) ((.one (.bool):RD).tv tT)⟩]
theorem RG {C:Cfg}{L:Nat}(h:St C L):∀ m,∀ s ∈ Dp L m,WT C s
 | 0=>(Zb (WQ _ _ _) Zr)
 | m + 1=>have ih:=RG h m
  (Zb (Ym Yi h.L h.G (YP Yi (Xm ih Zr)) [.rnd [.slot 10 (.int .i64)]] (h.T _ _ rfl) (by kernel_rfl) fun _=>rfl) Zr)
def IV (L m:Nat)(x:Zk×Int×Y4×Zt×PUnit):Option (Bool):=fnT tF tG (qOf tF (Dp L m ++ [])) 0 L NW [.rnd [.slot 10 (.int .i64)]] (.one (.bool)) (tvL tT [.row 19,.int .i64,.row 16,.row 8] x) []
def Em (L:Nat)(x:Zk×Int×Y4×Zt×PUnit):Option (Bool):=IV L L x
def ZdL (L:Nat):Sum tT:=⟨85,[.row 19,.int .i64,.row 16,.row 8],fun x=>.par ((.one (.bool):RD).Ty tT) (Em L x) ((.one (.bool):RD).tv tT)⟩
theorem ZlI {C:Cfg}{L:Nat}(h:St C L):WT C (ZdL L):=have ih:=RG h L
 Ym Yi h.L h.G (YP Yi (Xm ih Zr)) [.rnd [.slot 10 (.int .i64)]] (h.T _ _ rfl) (by kernel_rfl) fun _=>rfl
def Ib:Nat→Zk→Int→Y4→Zt→Nat→(Int×PUnit→Option Bool)→Int×PUnit→Option Bool:=fun (m:Nat)=>fun x0 x1 x2 x3 L self acc=>bif decide (acc.1 < (↑x3.4.length:Int)) then bT (ZG x3.4 acc.1) fun y=>bT (bT (IV L m (x0,x1,x2,y,())) fun y=>some y) fun y=>bif !y then some false else self (Go.IntKind.i64.wrap (acc.1 + 1),()) else some true
theorem Zl1 (L m:Nat)(x0:Zk)(x1:Int)(x2:Y4)(x3:Zt):IV L (m + 1) (x0,x1,x2,x3,())=bT (ZG x0.2 x1) fun y=>bif x3.1 == 25 && decide (x3.3 ≥ x2.3) then some false else bif x3.1 == 26 && decide (x3.3 ≥ (↑y.Decl.2.length:Int)) then some false else bif x3.1 == 22 && decide (x3.3 ≥ (↑y.Decl.3.length:Int)) then some false else bif x3.1 == 23 && decide (x3.3 ≥ (↑y.Decl.4.length:Int)) then some false else bif x3.1 == 24 && decide (x3.3 ≥ Go.IntKind.i64.wrap ((↑y.Decl.3.length:Int) + (↑y.Decl.6.length:Int))) then some false else Zq (Ib m x0 x1 x2 x3 L) L (0,()):=by kernel_rfl
def XX (L:Nat)(x:(List (List UInt8))×(List UInt8)×PUnit):Option Int:=fT [] L ZcL [.rnd [.slot 5 (.int .i64)]] (.one (.int .i64)) [.lst 1 .str,.str] x
def U1 (L:Nat):Sum tT:=mU 143 [.lst 1 .str,.str] (.one (.int .i64)) (XX L)
theorem He:SX U1:=fun h=>sT h Zr rfl (by kernel_rfl) fun _=>rfl
def BQ:List (List UInt8)→List UInt8→(Int×PUnit→Option Int)→Int×PUnit→Option Int:=fun x0 x1 self acc=>bif decide (acc.1 < (↑x0.length:Int)) then bT (ZG x0 acc.1) fun y=>bif y == x1 then some acc.1 else self (Go.IntKind.i64.wrap (acc.1 + 1),()) else some (-1)
theorem Zlq (L:Nat)(x0:(List (List UInt8)))(x1:(List UInt8)):XX L (x0,x1,())=Zq (BQ x0 x1) L (0,()):=by kernel_rfl
def Jf (L:Nat)(x:PUnit):Option ((List (List UInt8))):=fT [] L Rk [] (.one (.lst 1 .str)) [] x
def RN (L:Nat):Sum tT:=mU 144 [] (.one (.lst 1 .str)) (Jf L)
theorem Zc9:SX RN:=fun h=>sT h Zr rfl (by kernel_rfl) fun _=>rfl
theorem Zc4 (L:Nat)  : Jf L ()=some [[97,100,100],[97,102,116,101,114],[97,110,100],[97,116],[98,101,108,116],[98,111,111,108],[99,111,110,115,101,114,118,101],[99,111,110,115,116],[99,111,117,110,116],[99,121,99,108,101],[100,111,119,110],[100,114,97,119],[100,117,114],[101,108,115,101],[101,110,100],[101,118,101,114,121],[102,97,108,115,101],[102,97,117,108,116],[102,105,102,111],[102,114,101,101],[102,114,111,109],[103,101,111,109],[103,101,116],[104,111,108,100],[105,102],[105,110,116],[105,110,116,111],[108,101,97,115,116],[108,101,118,101,108],[108,105,102,111],[108,105,110,107],[108,111,99,97,108],[109,97,120],[109,105,110],[109,111,100,101,108],[110,111,116],[110,111,119],[111,98,115,101,114,118,101],[111,114],[112,97,114,97,109],[112,114,101,101,109,112,116],[112,114,105,111],[112,117,116],[113,117,101,117,101],[114,101,108,101,97,115,101],[114,101,115,111,117,114,99,101],[114,105,100,101],[114,111,117,116,105,110,101],[115,101,105,122,101],[115,101,110,100],[115,101,116],[115,104,105,102,116],[115,105,103,110,97,108],[115,105,116,101],[115,105,122,101],[115,112,97,119,110],[115,116,97,114,116],[115,116,111,112],[115,116,111,114,101],[115,116,114,101,97,109],[115,117,109],[116,97,98,108,101],[116,97,108,108,121],[116,105,99,107,115],[116,105,109,101],[116,114,117,101],[117,110,105,102,111,114,109],[117,110,116,105,108],[117,112],[118,97,114],[119,97,105,116],[119,97,105,116,105,110,103],[119,104,105,108,101]]:=by kernel_rfl
def Un (L:Nat)(x:(List UInt8)×PUnit):Option Bool:=fT [U1 L,RN L] L Pi [] (.one .bool) [.str] x
def N9 (L:Nat):Sum tT:=mU 68 [.str] (.one .bool) (Un L)
theorem Zfa:SX N9:=fun h=>sT h (Zb (He h) (Zb (Zc9 h) Zr)) rfl (by kernel_rfl) fun _=>rfl
theorem ZeH (L:Nat)(x0:(List UInt8)):Un L (x0,())=bT (Jf L ()) fun y=>bT (XX L (y,x0,())) fun y=>some (decide (y ≥ 0)):=by kernel_rfl
def J7 (L:Nat)(x:Int×PUnit):Option Bool:=fT [] L ED [] (.one .bool) [.int .u8] x
def AL (L:Nat):Sum tT:=mU 67 [.int .u8] (.one .bool) (J7 L)
theorem ZgX:SX AL:=fun h=>sT h Zr rfl (by kernel_rfl) fun _=>rfl
theorem Zg9 (L:Nat)(x0:Int):J7 L (x0,())=some (decide (x0 ≥ 97) && decide (x0≤122)):=by kernel_rfl
def WC (L:Nat)(x:(List UInt8)×PUnit):Option Int:=fT [N9 L,AL L] L CP [.rnd [.slot 3 (.int .i64)]] (.one (.int .i64)) [.str] x
def QX (L:Nat):Sum tT:=mU 31 [.str] (.one (.int .i64)) (WC L)
theorem XE:SX QX:=fun h=>sT h (Zb (Zfa h) (Zb (ZgX h) Zr)) rfl (by kernel_rfl) fun _=>rfl
def KG:List UInt8→Nat→(Int×PUnit→Option Int)→Int×PUnit→Option Int:=fun x0 L self acc=>bif decide (acc.1 < (↑x0.length:Int)) then bT (ZG x0 acc.1) fun y=>bT (J7 L ((↑y.toNat:Int),())) fun y=>bT (bif (!y) == true then bT (ZG x0 acc.1) fun y=>some ((↑y.toNat:Int) != 95) else some false) fun y=>bT (bif y == true then bT (ZG x0 acc.1) fun y=>bif decide ((↑y.toNat:Int) < 48) == false then bT (ZG x0 acc.1) fun y=>some (decide ((↑y.toNat:Int) > 57)) else some true else some false) fun y=>bif y then some 3 else self (Go.IntKind.i64.wrap (acc.1 + 1),()) else some 0
theorem Zix (L:Nat)(x0:(List UInt8)):WC L (x0,())=bT (bif (decide ((↑x0.length:Int) < 1) || decide ((↑x0.length:Int) > 24)) == false then bT (ZG x0 0) fun y=>bT (J7 L ((↑y.toNat:Int),())) fun y=>some !y else some true) fun y=>bT (bif y == false then bT (Un L (x0,())) fun y=>some y else some true) fun y=>bif y then some 3 else Zq (KG x0 L) L (0,()):=by kernel_rfl
end Go.Proofs.YtleomfgijkapfaaGreatDoor
end
noncomputable section
namespace Go.Proofs.YtleomfgijkapfaaGreatDoor
open Go Go.Proofs.YtleomfgijkapfaaGreatDoor.Abs Go.Proofs.YtleomfgijkapfaaGreatDoor.Tl
set_option maxRecDepth 100000
set_option maxHeartbeats 0
def Lp (L:Nat)(x:Int×PUnit):Option Int:=fT [] L ZcM [] (.one (.int .i64)) [.int .i64] x
def Eg (L:Nat):Sum tT:=mU 238 [.int .i64] (.one (.int .i64)) (Lp L)
theorem Zd8:SX Eg:=fun h=>sT h Zr rfl (by kernel_rfl) fun _=>rfl
theorem Zls (L:Nat)(x0:Int):Lp L (x0,())=bif x0 == 25 then some 15 else bif x0 == 26 then some 31 else some 63:=by kernel_rfl
def Lm (L:Nat)(x:Int×PUnit):Option Bool:=fT [] L Zjv [] (.one .bool) [.int .i64] x
def N8 (L:Nat):Sum tT:=mU 191 [.int .i64] (.one .bool) (Lm L)
theorem FY:SX N8:=fun h=>sT h Zr rfl (by kernel_rfl) fun _=>rfl
theorem Zqa (L:Nat)(x0:Int):Lm L (x0,())=some (decide (x0 ≥ (-1000000000000)) && decide (x0≤1000000000000)):=by kernel_rfl
def J8 (L:Nat)(x:Int×PUnit):Option Bool:=fT [] L EE [] (.one .bool) [.int .i64] x
def MH (L:Nat):Sum tT:=mU 237 [.int .i64] (.one .bool) (J8 L)
theorem Ak:SX MH:=fun h=>sT h Zr rfl (by kernel_rfl) fun _=>rfl
theorem ZgA (L:Nat)(x0:Int):J8 L (x0,())=some (decide (x0 ≥ 22) && decide (x0≤24)):=by kernel_rfl
def IA (L:Nat)(x:Int×PUnit):Option Int:=fT [] L CQ [] (.one (.int .i64)) [.int .i64] x
def Dv (L:Nat):Sum tT:=mU 236 [.int .i64] (.one (.int .i64)) (IA L)
theorem Zb0:SX Dv:=fun h=>sT h Zr rfl (by kernel_rfl) fun _=>rfl
theorem Ziy (L:Nat)(x0:Int):IA L (x0,())=bif decide (x0 < 1) || decide (x0 > 26) then some (-1) else bif decide (x0 ≥ 5) && decide (x0≤8) then some 1 else bif decide (x0 ≥ 9) && decide (x0≤21) then some 2 else some 0:=by kernel_rfl
def Dl (L:Nat):Nat→List (Sum tT)
 | 0=>[⟨207,[.row 8,.bool],fun _=>.par _ none ((.one (.int .i64):RD).tv tT)⟩]
 | m + 1=>[⟨207,[.row 8,.bool],fun x=>.par _ (fnT tF tG (qOf tF (Dl L m ++ [QX L,Eg L,N8 L,MH L,Dv L])) 0 L NU [.rnd [.slot 10 (.int .i64)]] (.one (.int .i64)) (tvL tT [.row 8,.bool] x) []) ((.one (.int .i64):RD).tv tT)⟩]
theorem Rz {C:Cfg}{L:Nat}(h:St C L):∀ m,∀ s ∈ Dl L m,WT C s
 | 0=>(Zb (WQ _ _ _) Zr)
 | m + 1=>have ih:=Rz h m
  (Zb (Ym Yi h.L h.G (YP Yi (Xm ih (Zb (XE h) (Zb (Zd8 h) (Zb (FY h) (Zb (Ak h) (Zb (Zb0 h) Zr))))))) [.rnd [.slot 10 (.int .i64)]] (h.T _ _ rfl) (by kernel_rfl) fun _=>rfl) Zr)
def IU (L m:Nat)(x:Zt×Bool×PUnit):Option (Int):=fnT tF tG (qOf tF (Dl L m ++ [QX L,Eg L,N8 L,MH L,Dv L])) 0 L NU [.rnd [.slot 10 (.int .i64)]] (.one (.int .i64)) (tvL tT [.row 8,.bool] x) []
def Eh (L:Nat)(x:Zt×Bool×PUnit):Option (Int):=IU L L x
def ZdC (L:Nat):Sum tT:=⟨207,[.row 8,.bool],fun x=>.par ((.one (.int .i64):RD).Ty tT) (Eh L x) ((.one (.int .i64):RD).tv tT)⟩
theorem Zl9 {C:Cfg}{L:Nat}(h:St C L):WT C (ZdC L):=have ih:=Rz h L
 Ym Yi h.L h.G (YP Yi (Xm ih (Zb (XE h) (Zb (Zd8 h) (Zb (FY h) (Zb (Ak h) (Zb (Zb0 h) Zr))))))) [.rnd [.slot 10 (.int .i64)]] (h.T _ _ rfl) (by kernel_rfl) fun _=>rfl
def H9:Nat→Zt→Bool→Nat→(Int×PUnit→Option Int)→Int×PUnit→Option Int:=fun (m:Nat)=>fun x0 x1 L self acc=>bif decide (acc.1 < (↑x0.4.length:Int)) then bT (ZG x0.4 acc.1) fun y=>bT (IU L m (y,x1,())) fun y=>bif y != 0 then some y else self (Go.IntKind.i64.wrap (acc.1 + 1),()) else some 0
theorem Zlt (L m:Nat)(x0:Zt)(x1:Bool):IU L (m + 1) (x0,x1,())=bT (IA L (x0.1,())) fun y=>bT (bif (!x1) == true then bif (x0.1 == 3) == false then bT (J8 L (x0.1,())) fun y=>some y else some true else some false) fun y_1=>bT (bif x1 == true then bT (J8 L (x0.1,())) fun y=>some (y || x0.1 == 25 || x0.1 == 26) else some false) fun y_2=>bif !(decide (y ≥ 0) && (x1 && x0.1 != 3 || !x1 && decide (x0.1≤24))) || !y_1 && !x0.2 == [] || !(x0.1 == 1 || x0.1 == 2 || y_2) && x0.3 != 0 || (↑x0.4.length:Int) != y then some 1 else bT (bif (x0.1 == 1) == true then bT (bT (Lm L (x0.3,())) fun y=>some y) fun y=>some !y else some false) fun y=>bT (bif (y || x0.1 == 2 && x0.3 != 0 && x0.3 != 1) == false then bif y_2 == true then bif decide (x0.3 < 0) == false then bT (bT (Lp L (x0.1,())) fun y=>some y) fun y=>some (decide (x0.3 > y)) else some true else some false else some true) fun y=>bif y then some 2 else bT (bif y_1 == true then bT (WC L (x0.2,())) fun y=>some (y != 0) else some false) fun y=>bif y then bT (WC L (x0.2,())) fun y=>some y else Zq (H9 m x0 x1 L) L (0,()):=by kernel_rfl
def TQ (L:Nat):Nat→List (Sum tT)
 | 0=>[⟨206,[.row 8],fun _=>.par _ none ((.one (.int .i64):RD).tv tT)⟩]
 | m + 1=>[⟨206,[.row 8],fun x=>.par _ (fnT tF tG (qOf tF (TQ L m ++ [])) 0 L RY [.rnd [.slot 3 (.int .i64),.slot 4 (.int .i64)]] (.one (.int .i64)) (tvL tT [.row 8] x) []) ((.one (.int .i64):RD).tv tT)⟩]
theorem TR {C:Cfg}{L:Nat}(h:St C L):∀ m,∀ s ∈ TQ L m,WT C s
 | 0=>(Zb (WQ _ _ _) Zr)
 | m + 1=>have ih:=TR h m
  (Zb (Ym Yi h.L h.G (YP Yi (Xm ih Zr)) [.rnd [.slot 3 (.int .i64),.slot 4 (.int .i64)]] (h.T _ _ rfl) (by kernel_rfl) fun _=>rfl) Zr)
def Gh (L m:Nat)(x:Zt×PUnit):Option (Int):=fnT tF tG (qOf tF (TQ L m ++ [])) 0 L RY [.rnd [.slot 3 (.int .i64),.slot 4 (.int .i64)]] (.one (.int .i64)) (tvL tT [.row 8] x) []
def D7 (L:Nat)(x:Zt×PUnit):Option (Int):=Gh L L x
def ZbK (L:Nat):Sum tT:=⟨206,[.row 8],fun x=>.par ((.one (.int .i64):RD).Ty tT) (D7 L x) ((.one (.int .i64):RD).tv tT)⟩
theorem ZiY {C:Cfg}{L:Nat}(h:St C L):WT C (ZbK L):=have ih:=TR h L
 Ym Yi h.L h.G (YP Yi (Xm ih Zr)) [.rnd [.slot 3 (.int .i64),.slot 4 (.int .i64)]] (h.T _ _ rfl) (by kernel_rfl) fun _=>rfl
def Tf:Nat→Zt→Nat→(Int×Int×PUnit→Option Int)→Int×Int×PUnit→Option Int:=fun (m:Nat)=>fun x0 L self acc=>bif decide (acc.2.1 < (↑x0.4.length:Int)) then bT (ZG x0.4 acc.2.1) fun y=>bT (Gh L m (y,())) fun y=>self (if y > acc.1 then y else acc.1,Go.IntKind.i64.wrap (acc.2.1 + 1),()) else some (Go.IntKind.i64.wrap (acc.1 + 1))
theorem Zi0 (L m:Nat)(x0:Zt):Gh L (m + 1) (x0,())=Zq (Tf m x0 L) L (0,0,()):=by kernel_rfl
def TS (L:Nat):Nat→List (Sum tT)
 | 0=>[⟨205,[.row 8],fun _=>.par _ none ((.one (.int .i64):RD).tv tT)⟩]
 | m + 1=>[⟨205,[.row 8],fun x=>.par _ (fnT tF tG (qOf tF (TS L m ++ [])) 0 L RZ [.rnd [.slot 3 (.int .i64),.slot 4 (.int .i64)]] (.one (.int .i64)) (tvL tT [.row 8] x) []) ((.one (.int .i64):RD).tv tT)⟩]
theorem TU {C:Cfg}{L:Nat}(h:St C L):∀ m,∀ s ∈ TS L m,WT C s
 | 0=>(Zb (WQ _ _ _) Zr)
 | m + 1=>have ih:=TU h m
  (Zb (Ym Yi h.L h.G (YP Yi (Xm ih Zr)) [.rnd [.slot 3 (.int .i64),.slot 4 (.int .i64)]] (h.T _ _ rfl) (by kernel_rfl) fun _=>rfl) Zr)
def Gi (L m:Nat)(x:Zt×PUnit):Option (Int):=fnT tF tG (qOf tF (TS L m ++ [])) 0 L RZ [.rnd [.slot 3 (.int .i64),.slot 4 (.int .i64)]] (.one (.int .i64)) (tvL tT [.row 8] x) []
def D8 (L:Nat)(x:Zt×PUnit):Option (Int):=Gi L L x
def ZbL (L:Nat):Sum tT:=⟨205,[.row 8],fun x=>.par ((.one (.int .i64):RD).Ty tT) (D8 L x) ((.one (.int .i64):RD).tv tT)⟩
theorem ZiZ {C:Cfg}{L:Nat}(h:St C L):WT C (ZbL L):=have ih:=TU h L
 Ym Yi h.L h.G (YP Yi (Xm ih Zr)) [.rnd [.slot 3 (.int .i64),.slot 4 (.int .i64)]] (h.T _ _ rfl) (by kernel_rfl) fun _=>rfl
def Ti:Nat→Zt→Nat→(Int×Int×PUnit→Option Int)→Int×Int×PUnit→Option Int:=fun (m:Nat)=>fun x0 L self acc=>bif decide (acc.2.1 < (↑x0.4.length:Int)) then bT (ZG x0.4 acc.2.1) fun y=>bT (Gi L m (y,())) fun y=>self (Go.IntKind.i64.wrap (acc.1 + y),Go.IntKind.i64.wrap (acc.2.1 + 1),()) else some acc.1
theorem Zi1 (L m:Nat)(x0:Zt):Gi L (m + 1) (x0,())=Zq (Ti m x0 L) L (1,0,()):=by kernel_rfl
def Kq (L:Nat)(x:Zt×Bool×PUnit):Option Int:=fT [ZdC L,ZbK L,ZbL L] L CU [] (.one (.int .i64)) [.row 8,.bool] x
def Dw (L:Nat):Sum tT:=mU 163 [.row 8,.bool] (.one (.int .i64)) (Kq L)
theorem Zb2:SX Dw:=fun h=>sT h (Zb (Zl9 h) (Zb (ZiY h) (Zb (ZiZ h) Zr))) rfl (by kernel_rfl) fun _=>rfl
theorem Zi2 (L:Nat)(x0:Zt)(x1:Bool):Kq L (x0,x1,())=bT (D8 L (x0,())) fun y=>bif decide (y > 60) then some 6 else bT (D7 L (x0,())) fun y=>bif decide (y > 12) then some 11 else bT (Eh L (x0,x1,())) fun y=>some y:=by kernel_rfl
def Vw (L:Nat)(x:Zt×PUnit):Option Int:=fT [Dw L] L OQ [] (.one (.int .i64)) [.row 8] x
def MG (L:Nat):Sum tT:=mU 84 [.row 8] (.one (.int .i64)) (Vw L)
theorem Zb1:SX MG:=fun h=>sT h (Zb (Zb2 h) Zr) rfl (by kernel_rfl) fun _=>rfl
theorem Zbk (L:Nat)(x0:Zt):Vw L (x0,())=bT (Kq L (x0,true,())) fun y=>some y:=by kernel_rfl
def QY (L:Nat)(x:PUnit):Option (List X7):=fT [] L Zai [] (.one (.lst 9 (.row 23))) [] x
def I7 (L:Nat):Sum tT:=mU 91 [] (.one (.lst 9 (.row 23))) (QY L)
theorem Dj:SX I7:=fun h=>sT h Zr rfl (by kernel_rfl) fun _=>rfl
theorem ZiG (L:Nat)  : QY L ()=some [X7.mk [] [] [] false false false false false false,X7.mk [115,108,111,116] [115,108,111,116] [] false true false false false false,X7.mk [118,97,114] [118,97,114] [] false true false false false false,X7.mk [100,114,97,119] [115,108,111,116] [115,116,114,101,97,109] false false false false false true,X7.mk [106,117,109,112] [105,110,115,116,114] [] false false false false false false,X7.mk [98,114,97,110,99,104] [105,110,115,116,114] [] false true false false false false,X7.mk [104,111,108,100] [] [] false true false false false false,X7.mk [115,101,105,122,101] [114,101,115,111,117,114,99,101] [] false true true true false false,X7.mk [114,101,108,101,97,115,101] [114,101,115,111,117,114,99,101] [] false true false false false false,X7.mk [112,117,116] [115,116,111,114,101] [] false true false false false false,X7.mk [103,101,116] [115,116,111,114,101] [115,108,111,116] false false false false false false,X7.mk [114,105,100,101] [98,101,108,116] [] false false false false false false,X7.mk [119,97,105,116] [113,117,101,117,101] [] false false false false false false,X7.mk [115,105,103,110,97,108] [113,117,101,117,101] [] false true false false false false,X7.mk [115,101,110,100] [115,105,116,101] [114,111,117,116,105,110,101] true true false false true false,X7.mk [115,112,97,119,110] [] [114,111,117,116,105,110,101] false true false false true false,X7.mk [111,98,115,101,114,118,101] [116,97,108,108,121] [] false true false false false false,X7.mk [108,101,118,101,108] [108,101,118,101,108] [] false true false false false false,X7.mk [99,111,117,110,116] [99,111,117,110,116] [] false true false false false false,X7.mk [101,110,100] [] [] false false false false false false]:=by kernel_rfl
end Go.Proofs.YtleomfgijkapfaaGreatDoor
end
noncomputable section
namespace Go.Proofs.YtleomfgijkapfaaGreatDoor
open Go Go.Proofs.YtleomfgijkapfaaGreatDoor.Abs Go.Proofs.YtleomfgijkapfaaGreatDoor.Tl
set_option maxRecDepth 100000
set_option maxHeartbeats 0
def Kt (L:Nat)(x:Int×PUnit):Option Bool:=fT [] L Zam [] (.one .bool) [.int .i64] x
def Dy (L:Nat):Sum tT:=mU 80 [.int .i64] (.one .bool) (Kt L)
theorem Zb4:SX Dy:=fun h=>sT h Zr rfl (by kernel_rfl) fun _=>rfl
theorem ZiK (L:Nat)(x0:Int):Kt L (x0,())=some (decide (x0 ≥ 1) && decide (x0≤19)):=by kernel_rfl
def IK (L:Nat)(x:Yo×PUnit):Option (List Zt):=fT [I7 L,Dy L] L Zah [] (.one (.lst 4 (.row 8))) [.row 15] x
def ZbV (L:Nat):Sum tT:=mU 83 [.row 15] (.one (.lst 4 (.row 8))) (IK L)
theorem Zji:SX ZbV:=fun h=>sT h (Zb (Dj h) (Zb (Zb4 h) Zr)) rfl (by kernel_rfl) fun _=>rfl
theorem ZiF (L:Nat)(x0:Yo):IK L (x0,())=bT (Kt L (x0.1,())) fun y=>bif !y then some [] else bT (bT (QY L ()) fun y=>some y) fun y=>bT (ZG y x0.1) fun y=>bif y.5 then bT (apT 56 [] [x0.5]) fun y_1=>bif y.6 then bT (apT 56 y_1 [x0.6]) fun y_2=>bif y.8 then bT (apT 56 y_2 x0.7) fun y=>some y else some y_2 else bif y.8 then bT (apT 56 y_1 x0.7) fun y=>some y else some y_1 else bif y.6 then bT (apT 56 [] [x0.6]) fun y_1=>bif y.8 then bT (apT 56 y_1 x0.7) fun y=>some y else some y_1 else bif y.8 then bT (apT 56 [] x0.7) fun y=>some y else some []:=by kernel_rfl
def NM (L:Nat)(x:Zk×Int×Int×PUnit):Option (Int×Bool×PUnit):=fT [] L Zf1 [.rnd [.slot 8 (.int .i64)]] (.tup [.int .i64,.bool]) [.row 19,.int .i64,.int .i64] x
def Zho (L:Nat):Sum tT:=mU 23 [.row 19,.int .i64,.int .i64] (.tup [.int .i64,.bool]) (NM L)
theorem Zoh:SX Zho:=fun h=>sT h Zr rfl (by kernel_rfl) fun _=>rfl
def SH:Zk→Int→Int→(Int×PUnit→Option (Int×Bool×PUnit))→Int×PUnit→Option (Int×Bool×PUnit):=fun x0 x1 x2 self acc=>bif decide (acc.1 < (↑x0.3.length:Int)) then bT (ZG x0.3 acc.1) fun y=>bT (bif (y.1 == x1) == true then bT (ZG x0.3 acc.1) fun y=>some (y.2 == x2) else some false) fun y=>bif y then bT (ZG x0.3 acc.1) fun y=>some (y.3,true,()) else self (Go.IntKind.i64.wrap (acc.1 + 1),()) else some (0,false,())
theorem ZnW (L:Nat)(x0:Zk)(x1:Int)(x2:Int):NM L (x0,x1,x2,())=Zq (SH x0 x1 x2) L (0,()):=by kernel_rfl
def VU (L:Nat)(x:Zk×Int×Yo×PUnit):Option Int:=fT [] L Zaj [] (.one (.int .i64)) [.row 19,.int .i64,.row 15] x
def ZbW (L:Nat):Sum tT:=mU 162 [.row 19,.int .i64,.row 15] (.one (.int .i64)) (VU L)
theorem Zjj:SX ZbW:=fun h=>sT h Zr rfl (by kernel_rfl) fun _=>rfl
theorem ZiH (L:Nat)(x0:Zk)(x1:Int)(x2:Yo):VU L (x0,x1,x2,())=bT (ZG x0.2 x1) fun y=>bif decide (x2.3 < 0) || decide (x2.3 ≥ (↑y.2.length:Int)) then some 2 else bT (ZG y.2 x2.3) fun y=>bif (↑x2.7.length:Int) != y.2 then some 8 else some 0:=by kernel_rfl
def DC (L:Nat)(x:Zk×Int×Y4×(List UInt8)×PUnit):Option Int:=fT [] L Zak [] (.one (.int .i64)) [.row 19,.int .i64,.row 16,.str] x
def ZbX (L:Nat):Sum tT:=mU 204 [.row 19,.int .i64,.row 16,.str] (.one (.int .i64)) (DC L)
theorem Zjk:SX ZbX:=fun h=>sT h Zr rfl (by kernel_rfl) fun _=>rfl
theorem ZiI (L:Nat)(x0:Zk)(x1:Int)(x2:Y4)(x3:(List UInt8)):DC L (x0,x1,x2,x3,())=bT (ZG x0.2 x1) fun y=>bif x3 == [115,108,111,116] then some x2.3 else bif x3 == [105,110,115,116,114] then some (↑x2.4.length:Int) else bif x3 == [115,105,116,101] then some (↑x0.2.length:Int) else bif x3 == [118,97,114] then some (↑y.Decl.2.length:Int) else bif x3 == [114,101,115,111,117,114,99,101] then some (↑y.Decl.3.length:Int) else bif x3 == [115,116,111,114,101] then some (↑y.Decl.4.length:Int) else bif x3 == [98,101,108,116] then some (↑y.Decl.5.length:Int) else bif x3 == [113,117,101,117,101] then some (↑y.Decl.6.length:Int) else bif x3 == [115,116,114,101,97,109] then some (↑y.Decl.7.length:Int) else bif x3 == [116,97,108,108,121] then some (↑y.Decl.8.length:Int) else bif x3 == [108,101,118,101,108] then some (↑y.Decl.9.length:Int) else some (↑y.Decl.10.length:Int):=by kernel_rfl
def J9 (L:Nat)(x:Zk×Int×Y4×(List UInt8)×Int×PUnit):Option Bool:=fT [ZbX L] L EI [] (.one .bool) [.row 19,.int .i64,.row 16,.str,.int .i64] x
def AP (L:Nat):Sum tT:=mU 161 [.row 19,.int .i64,.row 16,.str,.int .i64] (.one .bool) (J9 L)
theorem Zha:SX AP:=fun h=>sT h (Zb (Zjk h) Zr) rfl (by kernel_rfl) fun _=>rfl
theorem ZgE (L:Nat)(x0:Zk)(x1:Int)(x2:Y4)(x3:(List UInt8))(x4:Int):J9 L (x0,x1,x2,x3,x4,())=bT (bif (x3 == []) == false then bif decide (x4 ≥ 0) == true then bT (DC L (x0,x1,x2,x3,())) fun y=>some (decide (x4 < y)) else some false else some true) fun y=>some y:=by kernel_rfl
def IL (L:Nat)(x:Zk×Int×Y4×Yo×PUnit):Option Int:=fT [Zho L,ZbW L,AP L,I7 L] L Po [] (.one (.int .i64)) [.row 19,.int .i64,.row 16,.row 15] x
def NF (L:Nat):Sum tT:=mU 82 [.row 19,.int .i64,.row 16,.row 15] (.one (.int .i64)) (IL L)
theorem Zfe:SX NF:=fun h=>sT h (Zb (Zoh h) (Zb (Zjj h) (Zb (Zha h) (Zb (Dj h) Zr)))) rfl (by kernel_rfl) fun _=>rfl
theorem ZeK (L:Nat)(x0:Zk)(x1:Int)(x2:Y4)(x3:Yo):IL L (x0,x1,x2,x3,())=bT (bT (QY L ()) fun y=>some y) fun y=>bT (ZG y x3.1) fun y=>bT (J9 L (x0,x1,x2,y.2,x3.2,())) fun y_1=>bif !y_1 then some 2 else bif x3.1 == 15 then bT (VU L (x0,x1,x3,())) fun y=>some y else bif x3.1 == 14 then bT (NM L (x0,x1,x3.2,())) fun y=>bif !y.2.1 || y.1 != x3.4 then some 16 else bT (VU L (x0,x3.2,x3,())) fun y=>some y else bT (J9 L (x0,x1,x2,y.3,x3.3,())) fun y=>bif !y then some 2 else some 0:=by kernel_rfl
def X0 (L:Nat)(x:(List Int)×(List Int)×PUnit):Option Bool:=fT [] L Rj [.rnd [.slot 5 (.int .i64)]] (.one .bool) [.lst 1 (.int .i64),.lst 1 (.int .i64)] x
def RJ (L:Nat):Sum tT:=mU 96 [.lst 1 (.int .i64),.lst 1 (.int .i64)] (.one .bool) (X0 L)
theorem Zc8:SX RJ:=fun h=>sT h Zr rfl (by kernel_rfl) fun _=>rfl
def UG:List Int→List Int→(Int×PUnit→Option Bool)→Int×PUnit→Option Bool:=fun x0 x1 self acc=>bif decide (acc.1 < (↑x0.length:Int)) then bT (ZG x0 acc.1) fun y=>bT (ZG x1 acc.1) fun y_1=>bif y != y_1 then some false else self (Go.IntKind.i64.wrap (acc.1 + 1),()) else some true
theorem Zc3 (L:Nat)(x0:(List Int))(x1:(List Int)):X0 L (x0,x1,())=bif (↑x0.length:Int) != (↑x1.length:Int) then some false else Zq (UG x0 x1) L (0,()):=by kernel_rfl
def VQ (L:Nat)(x:Y9×Y9×PUnit):Option Bool:=fT [RJ L] L ZcK [] (.one .bool) [.row 2,.row 2] x
def Lh (L:Nat):Sum tT:=mU 48 [.row 2,.row 2] (.one .bool) (VQ L)
theorem SN:SX Lh:=fun h=>sT h (Zb (Zc8 h) Zr) rfl (by kernel_rfl) fun _=>rfl
theorem Zlp (L:Nat)(x0:Y9)(x1:Y9):VQ L (x0,x1,())=bT (bif (x0.1 == x1.1 && x0.2 == x1.2 && x0.3 == x1.3 && x0.4 == x1.4) == true then bT (X0 L (x0.5,x1.5,())) fun y=>some y else some false) fun y=>bT (bif y == true then bT (X0 L (x0.6,x1.6,())) fun y=>some y else some false) fun y=>some y:=by kernel_rfl
def YC (L:Nat):Nat→List (Sum tT)
 | 0=>[⟨95,[.lst 4 (.row 8),.lst 4 (.row 8)],fun _=>.par _ none ((.one (.bool):RD).tv tT)⟩,⟨47,[.row 8,.row 8],fun _=>.par _ none ((.one (.bool):RD).tv tT)⟩]
 | m + 1=>[⟨95,[.lst 4 (.row 8),.lst 4 (.row 8)],fun x=>.par _ (fnT tF tG (qOf tF (YC L m ++ [])) 0 L Hy [.rnd [.slot 5 (.int .i64)]] (.one (.bool)) (tvL tT [.lst 4 (.row 8),.lst 4 (.row 8)] x) []) ((.one (.bool):RD).tv tT)⟩,⟨47,[.row 8,.row 8],fun x=>.par _ (fnT tF tG (qOf tF (YC L m ++ [])) 0 L NT [] (.one (.bool)) (tvL tT [.row 8,.row 8] x) []) ((.one (.bool):RD).tv tT)⟩]
theorem Xl {C:Cfg}{L:Nat}(h:St C L):∀ m,∀ s ∈ YC L m,WT C s
 | 0=>(Zb (WQ _ _ _) (Zb (WQ _ _ _) Zr))
 | m + 1=>have ih:=Xl h m
  (Zb (Ym Yi h.L h.G (YP Yi (Xm ih Zr)) [.rnd [.slot 5 (.int .i64)]] (h.T _ _ rfl) (by kernel_rfl) fun _=>rfl) (Zb (Ym Yi h.L h.G (YP Yi (Xm ih Zr)) [] (h.T _ _ rfl) (by kernel_rfl) fun _=>rfl) Zr))
def Gw (L m:Nat)(x:(List Zt)×(List Zt)×PUnit):Option (Bool):=fnT tF tG (qOf tF (YC L m ++ [])) 0 L Hy [.rnd [.slot 5 (.int .i64)]] (.one (.bool)) (tvL tT [.lst 4 (.row 8),.lst 4 (.row 8)] x) []
def IR (L m:Nat)(x:Zt×Zt×PUnit):Option (Bool):=fnT tF tG (qOf tF (YC L m ++ [])) 0 L NT [] (.one (.bool)) (tvL tT [.row 8,.row 8] x) []
def Hg (L:Nat)(x:Zt×Zt×PUnit):Option (Bool):=IR L L x
def ZdB (L:Nat):Sum tT:=⟨47,[.row 8,.row 8],fun x=>.par ((.one (.bool):RD).Ty tT) (Hg L x) ((.one (.bool):RD).tv tT)⟩
theorem Zl8 {C:Cfg}{L:Nat}(h:St C L):WT C (ZdB L):=have ih:=Xl h L
 Ym Yi h.L h.G (YP Yi (Xm ih Zr)) [] (h.T _ _ rfl) (by kernel_rfl) fun _=>rfl
def Jc:Nat→List Zt→List Zt→Nat→(Int×PUnit→Option Bool)→Int×PUnit→Option Bool:=fun (m:Nat)=>fun x0 x1 L self acc=>bif decide (acc.1 < (↑x0.length:Int)) then bT (ZG x0 acc.1) fun y=>bT (ZG x1 acc.1) fun y_1=>bT (bT (IR L m (y,y_1,())) fun y=>some y) fun y=>bif !y then some false else self (Go.IntKind.i64.wrap (acc.1 + 1),()) else some true
theorem PU (L m:Nat)(x0:(List Zt))(x1:(List Zt)):Gw L (m + 1) (x0,x1,())=bif (↑x0.length:Int) != (↑x1.length:Int) then some false else Zq (Jc m x0 x1 L) L (0,()):=by kernel_rfl
theorem Zlr (L m:Nat)(x0:Zt)(x1:Zt):IR L (m + 1) (x0,x1,())=bif x0.1 != x1.1 || !x0.2 == x1.2 || x0.3 != x1.3 then some false else bT (Gw L m (x0.4,x1.4,())) fun y=>some y:=by kernel_rfl
end Go.Proofs.YtleomfgijkapfaaGreatDoor
end
noncomputable section
namespace Go.Proofs.YtleomfgijkapfaaGreatDoor
open Go Go.Proofs.YtleomfgijkapfaaGreatDoor.Abs Go.Proofs.YtleomfgijkapfaaGreatDoor.Tl
set_option maxRecDepth 100000
set_option maxHeartbeats 0
def IM (L:Nat)(x:Yo×PUnit):Option Bool:=fT [Lh L,ZdB L,I7 L] L Zan [] (.one .bool) [.row 15] x
def ZbZ (L:Nat):Sum tT:=mU 81 [.row 15] (.one .bool) (IM L)
theorem Zjm:SX ZbZ:=fun h=>sT h (Zb (SN h) (Zb (Zl8 h) (Zb (Dj h) Zr))) rfl (by kernel_rfl) fun _=>rfl
theorem ZiL (L:Nat)(x0:Yo):IM L (x0,())=bT (bT (QY L ()) fun y=>some y) fun y=>bT (ZG y x0.1) fun y=>bif y.2 == [] && x0.2 != 0 then some false else bif y.3 == [] && x0.3 != 0 then some false else bif !y.4 && x0.4 != 0 then some false else bif !y.7 && x0.9 then some false else bT (bif (!y.5) == true then bT (Hg L (x0.5,Zt.mk 0 [] 0 [],())) fun y=>some !y else some false) fun y_1=>bif y_1 then some false else bT (bif (!y.6) == true then bT (Hg L (x0.6,Zt.mk 0 [] 0 [],())) fun y=>some !y else some false) fun y_2=>bif y_2 then some false else bif !y.8 && decide ((↑x0.7.length:Int) > 0) then some false else bT (bif y.9 == false then bT (VQ L (x0.8,Y9.mk 0 0 0 0 [] [],())) fun y=>some y else some true) fun y=>some y:=by kernel_rfl
def QZ (L:Nat)(x:Zk×Int×Y4×Yo×PUnit):Option Int:=fT [Iy L,ZdL L,MG L,ZbV L,NF L,ZbZ L,Dy L] L Zal [.rnd [.slot 11 (.int .i64)]] (.one (.int .i64)) [.row 19,.int .i64,.row 16,.row 15] x
def ZbY (L:Nat):Sum tT:=mU 36 [.row 19,.int .i64,.row 16,.row 15] (.one (.int .i64)) (QZ L)
theorem Zjl:SX ZbY:=fun h=>sT h (Zb (Df h) (Zb (ZlI h) (Zb (Zb1 h) (Zb (Zji h) (Zb (Zfe h) (Zb (Zjm h) (Zb (Zb4 h) Zr))))))) rfl (by kernel_rfl) fun _=>rfl
def KI:Zk→Int→Y4→Yo→Nat→List Zt→(Int×PUnit→Option Int)→Int×PUnit→Option Int:=fun x0 x1 x2 x3 L y self acc=>bif decide (acc.1 < (↑y.length:Int)) then bT (ZG y acc.1) fun y_1=>bT (Vw L (y_1,())) fun y_2=>bT (bif (y_2 == 0) == true then bT (ZG y acc.1) fun y=>bT (bT (Em L (x0,x1,x2,y,())) fun y=>some y) fun y=>some !y else some false) fun y=>bif y then some 2 else bif y_2 != 0 then some y_2 else self (Go.IntKind.i64.wrap (acc.1 + 1),()) else bif x3.1 == 3 then bT (XJ L (x3.8,())) fun y=>some y else some 0
theorem ZiJ (L:Nat)(x0:Zk)(x1:Int)(x2:Y4)(x3:Yo):QZ L (x0,x1,x2,x3,())=bT (Kt L (x3.1,())) fun y=>bT (bif (!y) == false then bT (IM L (x3,())) fun y=>some !y else some true) fun y=>bif y then some 1 else bT (IL L (x0,x1,x2,x3,())) fun y=>bif y != 0 then some y else bT (IK L (x3,())) fun y=>Zq (KI x0 x1 x2 x3 L y) L (0,()):=by kernel_rfl
def YI (L:Nat)(x:Zk×Int×Y4×PUnit):Option Int:=fT [ZbY L,QX L] L Pn [.rnd [.slot 8 (.int .i64)]] (.one (.int .i64)) [.row 19,.int .i64,.row 16] x
def NE (L:Nat):Sum tT:=mU 15 [.row 19,.int .i64,.row 16] (.one (.int .i64)) (YI L)
theorem Zfd:SX NE:=fun h=>sT h (Zb (Zjl h) (Zb (XE h) Zr)) rfl (by kernel_rfl) fun _=>rfl
def Je:Zk→Int→Y4→Nat→(Int×PUnit→Option Int)→Int×PUnit→Option Int:=fun x0 x1 x2 L self acc=>bif decide (acc.1 < (↑x2.4.length:Int)) then bT (ZG x2.4 acc.1) fun y=>bT (bT (QZ L (x0,x1,x2,y,())) fun y=>some y) fun y=>bif y != 0 then some y else self (Go.IntKind.i64.wrap (acc.1 + 1),()) else bT (ZG x2.4 (Go.IntKind.i64.wrap ((↑x2.4.length:Int) - 1))) fun y=>bif y.1 != 19 && y.1 != 4 then some 8 else some 0
theorem PV (L:Nat)(x0:Zk)(x1:Int)(x2:Y4):YI L (x0,x1,x2,())=bif decide (x1 < 0) || decide (x1 ≥ (↑x0.2.length:Int)) then some 2 else bT (WC L (x2.1,())) fun y=>bif y != 0 then some y else bif decide (x2.2 < 0) || decide (x2.2 > x2.3) || decide (x2.2 > 6) || decide (x2.3 > 16) then some 2 else bif (↑x2.4.length:Int) == 0 then some 7 else bif decide ((↑x2.4.length:Int) > 1000) then some 6 else Zq (Je x0 x1 x2 L) L (0,()):=by kernel_rfl
def Ho (L:Nat)(x:Zk×PUnit):Option Int:=fT [] L ZcT [.rnd [.slot 2 (.int .i64),.slot 4 (.int .i64)],.rnd [.slot 2 (.int .i64),.slot 6 (.int .i64)]] (.one (.int .i64)) [.row 19] x
def ZdJ (L:Nat):Sum tT:=mU 34 [.row 19] (.one (.int .i64)) (Ho L)
theorem ZlG:SX ZdJ:=fun h=>sT h Zr rfl (by kernel_rfl) fun _=>rfl
def UJ:Zk→(Int×Int×PUnit→Option Int)→Int×Int×PUnit→Zhs→(Int×Int×PUnit→Option Int)→Int×Int×PUnit→Option Int:=fun x0 self acc y self_1 acc_1=>bif decide (acc_1.2.1 < acc.2.1) then bT (ZG x0.3 acc_1.2.1) fun y_1=>bT (bif (y_1.1 == y.1) == true then bT (ZG x0.3 acc_1.2.1) fun y_2=>some (y_2.2 == y.2) else some false) fun y=>bif y then some 4 else self_1 (acc_1.1,Go.IntKind.i64.wrap (acc_1.2.1 + 1),()) else self (acc_1.1,Go.IntKind.i64.wrap (acc.2.1 + 1),())
def UK:Zk→Nat→(Int×Int×PUnit→Option Int)→Int×Int×PUnit→Option Int:=fun x0 L self acc=>bif decide (acc.2.1 < (↑x0.3.length:Int)) then bT (ZG x0.3 acc.2.1) fun y=>bif decide (y.1 < 0) || decide (y.1 ≥ (↑x0.2.length:Int)) || decide (y.2 < 0) || decide (y.2 ≥ (↑x0.2.length:Int)) || y.1 == y.2 || decide (y.3 < 1) || decide (y.3 > 1000000000) then some 2 else Zq (UJ x0 self acc y) L (acc.1,0,()) else some 0
theorem Zl0 (L:Nat)(x0:Zk):Ho L (x0,())=bif decide ((↑x0.3.length:Int) > 32) then some 6 else Zq (UK x0 L) L (0,0,()):=by kernel_rfl
def Hq (L:Nat)(x:ZC×PUnit):Option Bool:=fT [] L ZcU [.rnd [.slot 3 (.int .i64)]] (.one .bool) [.row 17] x
def ZdK (L:Nat):Sum tT:=mU 33 [.row 17] (.one .bool) (Hq L)
theorem ZlH:SX ZdK:=fun h=>sT h Zr rfl (by kernel_rfl) fun _=>rfl
def Ia:ZC→(Int×PUnit→Option Bool)→Int×PUnit→Option Bool:=fun x0 self acc=>bif decide (acc.1 < (↑x0.2.length:Int)) then bT (ZG x0.Decl.11 acc.1) fun y=>bT (bif decide ((↑y.4.length:Int) > 0) == false then bT (ZG x0.2 acc.1) fun y_1=>some !y.1 == y_1.1 else some true) fun y_1=>bT (bif y_1 == false then bT (ZG x0.2 acc.1) fun y_2=>some ((↑y.2.length:Int) != y_2.2) else some true) fun y=>bif y then some false else self (Go.IntKind.i64.wrap (acc.1 + 1),()) else some true
theorem Zdy (L:Nat)(x0:ZC):Hq L (x0,())=bif (↑x0.2.length:Int) != (↑x0.Decl.11.length:Int) then some false else Zq (Ia x0) L (0,()):=by kernel_rfl
def ZH (L:Nat)(x:Int×Int×Int×PUnit):Option Bool:=fT [] L EH [] (.one .bool) [.int .i64,.int .i64,.int .i64] x
def Qq (L:Nat):Sum tT:=mU 152 [.int .i64,.int .i64,.int .i64] (.one .bool) (ZH L)
theorem QU:SX Qq:=fun h=>sT h Zr rfl (by kernel_rfl) fun _=>rfl
theorem ZgD (L:Nat)(x0:Int)(x1:Int)(x2:Int):ZH L (x0,x1,x2,())=some (decide (x0 ≥ x1) && decide (x0≤x2)):=by kernel_rfl
def Ej (L:Nat)(x:Ql×(List UInt8)×PUnit):Option Int:=fT [] L ZcQ [.rnd [.slot 5 (.int .i64)]] (.one (.int .i64)) [.row 21,.str] x
def ZdG (L:Nat):Sum tT:=mU 151 [.row 21,.str] (.one (.int .i64)) (Ej L)
theorem ZlD:SX ZdG:=fun h=>sT h Zr rfl (by kernel_rfl) fun _=>rfl
def IG (L:Nat)(x:Ql×PUnit):Option Int:=fT [Qq L,ZdG L] L Zac [.rnd [.slot 2 (.int .i64),.slot 3 (.int .i64)],.rnd [.slot 2 (.int .i64),.slot 5 (.int .i64)]] (.one (.int .i64)) [.row 21] x
def ZbR (L:Nat):Sum tT:=mU 74 [.row 21] (.one (.int .i64)) (IG L)
theorem Zje:SX ZbR:=fun h=>sT h (Zb (QU h) (Zb (ZlD h) Zr)) rfl (by kernel_rfl) fun _=>rfl
def ZgK:Ql→(Int×Int×PUnit→Option Int)→Int×Int×PUnit→Zfw→(Int×Int×PUnit→Option Int)→Int×Int×PUnit→Option Int:=fun x0 self acc y self_1 acc_1=>bif decide (acc_1.2.1 < acc.2.1) then bT (ZG x0.4 acc_1.2.1) fun y_1=>bT (bif (y_1.1 == y.1) == true then bT (ZG x0.4 acc_1.2.1) fun y_2=>some (y_2.2 == y.2) else some false) fun y=>bif y then some 4 else self_1 (acc_1.1,Go.IntKind.i64.wrap (acc_1.2.1 + 1),()) else self (acc_1.1,Go.IntKind.i64.wrap (acc.2.1 + 1),())
def Af:Ql→Nat→(Int×Int×PUnit→Option Int)→Int×Int×PUnit→Option Int:=fun x0 L self acc=>bif decide (acc.2.1 < (↑x0.4.length:Int)) then bT (ZG x0.4 acc.2.1) fun y=>bT (Ej L (x0,y.1,())) fun y_1=>bT (bif decide (y_1 < 0) == false then bT (Ej L (x0,y.2,())) fun y=>some (decide (y < 0)) else some true) fun y_2=>bif y_2 then some 5 else bif y.1 == y.2 then some 1 else bT (ZH L (y.3,1,1000000000,())) fun y_3=>bif !y_3 then some 2 else Zq (ZgK x0 self acc y) L (acc.1,0,()) else some 0
theorem ZiB (L:Nat)(x0:Ql):IG L (x0,())=bif decide ((↑x0.4.length:Int) > 32) then some 6 else Zq (Af x0 L) L (0,0,()):=by kernel_rfl
def Zz (L:Nat)(x:Int×Int×PUnit):Option Int:=fT [] L Zab [] (.one (.int .i64)) [.int .i64,.int .i64] x
def WY (L:Nat):Sum tT:=mU 69 [.int .i64,.int .i64] (.one (.int .i64)) (Zz L)
theorem Qw:SX WY:=fun h=>sT h Zr rfl (by kernel_rfl) fun _=>rfl
theorem ZiA (L:Nat)(x0:Int)(x1:Int):Zz L (x0,x1,())=bif x0 != 0 then some x0 else some x1:=by kernel_rfl
def VT (L:Nat)(x:Zd×PUnit):Option ((List (List (List UInt8)))):=fT [] L CZ [.rnd [.slot 4 (.int .i64),.cell 1 0 (.own 1 .str),.cell 1 1 (.own 1 .str),.cell 1 2 (.own 1 .str),.cell 1 3 (.own 1 .str),.cell 1 4 (.lst 1 .str),.cell 1 5 (.lst 1 .str),.cell 1 6 (.lst 1 .str),.cell 1 7 (.lst 1 .str),.cell 1 8 (.lst 1 .str),.cell 1 9 (.own 1 .str)],.rnd [.slot 5 (.int .i64),.cell 1 0 (.own 1 .str),.cell 1 1 (.own 1 .str),.cell 1 2 (.own 1 .str),.cell 1 3 (.own 1 .str),.cell 1 4 (.lst 1 .str),.cell 1 5 (.lst 1 .str),.cell 1 6 (.lst 1 .str),.cell 1 7 (.lst 1 .str),.cell 1 8 (.lst 1 .str),.cell 1 9 (.own 1 .str)],.rnd [.slot 6 (.int .i64),.cell 1 0 (.own 1 .str),.cell 1 1 (.own 1 .str),.cell 1 2 (.own 1 .str),.cell 1 3 (.own 1 .str),.cell 1 4 (.lst 1 .str),.cell 1 5 (.lst 1 .str),.cell 1 6 (.lst 1 .str),.cell 1 7 (.lst 1 .str),.cell 1 8 (.lst 1 .str),.cell 1 9 (.own 1 .str)],.rnd [.slot 7 (.int .i64),.cell 1 0 (.own 1 .str),.cell 1 1 (.own 1 .str),.cell 1 2 (.own 1 .str),.cell 1 3 (.own 1 .str),.cell 1 4 (.lst 1 .str),.cell 1 5 (.lst 1 .str),.cell 1 6 (.lst 1 .str),.cell 1 7 (.lst 1 .str),.cell 1 8 (.lst 1 .str),.cell 1 9 (.own 1 .str)],.rnd [.slot 8 (.int .i64),.cell 1 0 (.own 1 .str),.cell 1 1 (.own 1 .str),.cell 1 2 (.own 1 .str),.cell 1 3 (.own 1 .str),.cell 1 4 (.lst 1 .str),.cell 1 5 (.lst 1 .str),.cell 1 6 (.lst 1 .str),.cell 1 7 (.lst 1 .str),.cell 1 8 (.lst 1 .str),.cell 1 9 (.own 1 .str)]] (.one (.lst 1 (.lst 1 .str))) [.row 14] x
def I4 (L:Nat):Sum tT:=mU 147 [.row 14] (.one (.lst 1 (.lst 1 .str))) (VT L)
theorem Dh:SX I4:=fun h=>sT h Zr rfl (by kernel_rfl) fun _=>rfl
def Tt:Zd→(Int×List (List UInt8)×List (List UInt8)×List (List UInt8)×List (List UInt8)×List (List UInt8)×List (List UInt8)×List (List UInt8)×List (List UInt8)×List (List UInt8)×List (List UInt8)×PUnit→Option (List (List (List UInt8))))→Int×List (List UInt8)×List (List UInt8)×List (List UInt8)×List (List UInt8)×List (List UInt8)×List (List UInt8)×List (List UInt8)×List (List UInt8)×List (List UInt8)×List (List UInt8)×PUnit→Option (List (List (List UInt8))):=fun (x0:Zd) (self:Int×List (List UInt8)×List (List UInt8)×List (List UInt8)×List (List UInt8)×List (List UInt8)×List (List UInt8)×List (List UInt8)×List (List UInt8)×List (List UInt8)×List (List UInt8)×PUnit→Option (List (List (List UInt8)))) (acc:Int×List (List UInt8)×List (List UInt8)×List (List UInt8)×List (List UInt8)×List (List UInt8)×List (List UInt8)×List (List UInt8)×List (List UInt8)×List (List UInt8)×List (List UInt8)×PUnit)=>bif decide (acc.1 < (↑x0.11.length:Int)) then bT (ZG x0.11 acc.1) fun y=>bT (apT 16 acc.2.2.2.2.2.2.2.2.2.2.1 [y.1]) fun y=>self (Go.IntKind.i64.wrap (acc.1 + 1),acc.2.1,acc.2.2.1,acc.2.2.2.1,acc.2.2.2.2.1,acc.2.2.2.2.2.1,acc.2.2.2.2.2.2.1,acc.2.2.2.2.2.2.2.1,acc.2.2.2.2.2.2.2.2.1,acc.2.2.2.2.2.2.2.2.2.1,y,()) else some [acc.2.1,acc.2.2.1,acc.2.2.2.1,acc.2.2.2.2.1,acc.2.2.2.2.2.1,acc.2.2.2.2.2.2.1,acc.2.2.2.2.2.2.2.1,acc.2.2.2.2.2.2.2.2.1,acc.2.2.2.2.2.2.2.2.2.1,acc.2.2.2.2.2.2.2.2.2.2.1]
def Tu:Zd→Nat→(Int×List (List UInt8)×List (List UInt8)×List (List UInt8)×List (List UInt8)×List (List UInt8)×List (List UInt8)×List (List UInt8)×List (List UInt8)×List (List UInt8)×List (List UInt8)×PUnit→Option (List (List (List UInt8))))→Int×List (List UInt8)×List (List UInt8)×List (List UInt8)×List (List UInt8)×List (List UInt8)×List (List UInt8)×List (List UInt8)×List (List UInt8)×List (List UInt8)×List (List UInt8)×PUnit→Option (List (List (List UInt8))):=fun (x0:Zd) (L:Nat) (self:Int×List (List UInt8)×List (List UInt8)×List (List UInt8)×List (List UInt8)×List (List UInt8)×List (List UInt8)×List (List UInt8)×List (List UInt8)×List (List UInt8)×List (List UInt8)×PUnit→Option (List (List (List UInt8)))) (acc:Int×List (List UInt8)×List (List UInt8)×List (List UInt8)×List (List UInt8)×List (List UInt8)×List (List UInt8)×List (List UInt8)×List (List UInt8)×List (List UInt8)×List (List UInt8)×PUnit)=>bif decide (acc.1 < (↑x0.5.length:Int)) then bT (ZG x0.5 acc.1) fun y=>bT (apT 16 acc.2.2.2.2.1 [y.1]) fun y=>self (Go.IntKind.i64.wrap (acc.1 + 1),acc.2.1,acc.2.2.1,acc.2.2.2.1,y,acc.2.2.2.2.2.1,acc.2.2.2.2.2.2.1,acc.2.2.2.2.2.2.2.1,acc.2.2.2.2.2.2.2.2.1,acc.2.2.2.2.2.2.2.2.2.1,acc.2.2.2.2.2.2.2.2.2.2.1,()) else Zq (Tt x0) L (0,acc.2.1,acc.2.2.1,acc.2.2.2.1,acc.2.2.2.2.1,x0.6,x0.7,x0.8,x0.9,x0.10,acc.2.2.2.2.2.2.2.2.2.2.1,())
def Tv:Zd→Nat→(Int×List (List UInt8)×List (List UInt8)×List (List UInt8)×List (List UInt8)×List (List UInt8)×List (List UInt8)×List (List UInt8)×List (List UInt8)×List (List UInt8)×List (List UInt8)×PUnit→Option (List (List (List UInt8))))→Int×List (List UInt8)×List (List UInt8)×List (List UInt8)×List (List UInt8)×List (List UInt8)×List (List UInt8)×List (List UInt8)×List (List UInt8)×List (List UInt8)×List (List UInt8)×PUnit→Option (List (List (List UInt8))):=fun (x0:Zd) (L:Nat) (self:Int×List (List UInt8)×List (List UInt8)×List (List UInt8)×List (List UInt8)×List (List UInt8)×List (List UInt8)×List (List UInt8)×List (List UInt8)×List (List UInt8)×List (List UInt8)×PUnit→Option (List (List (List UInt8)))) (acc:Int×List (List UInt8)×List (List UInt8)×List (List UInt8)×List (List UInt8)×List (List UInt8)×List (List UInt8)×List (List UInt8)×List (List UInt8)×List (List UInt8)×List (List UInt8)×PUnit)=>bif decide (acc.1 < (↑x0.4.length:Int)) then bT (ZG x0.4 acc.1) fun y=>bT (apT 16 acc.2.2.2.1 [y.1]) fun y=>self (Go.IntKind.i64.wrap (acc.1 + 1),acc.2.1,acc.2.2.1,y,acc.2.2.2.2.1,acc.2.2.2.2.2.1,acc.2.2.2.2.2.2.1,acc.2.2.2.2.2.2.2.1,acc.2.2.2.2.2.2.2.2.1,acc.2.2.2.2.2.2.2.2.2.1,acc.2.2.2.2.2.2.2.2.2.2.1,()) else Zq (Tu x0 L) L (0,acc.2.1,acc.2.2.1,acc.2.2.2.1,acc.2.2.2.2.1,acc.2.2.2.2.2.1,acc.2.2.2.2.2.2.1,acc.2.2.2.2.2.2.2.1,acc.2.2.2.2.2.2.2.2.1,acc.2.2.2.2.2.2.2.2.2.1,acc.2.2.2.2.2.2.2.2.2.2.1,())
def Tz:Zd→Nat→(Int×List (List UInt8)×List (List UInt8)×List (List UInt8)×List (List UInt8)×List (List UInt8)×List (List UInt8)×List (List UInt8)×List (List UInt8)×List (List UInt8)×List (List UInt8)×PUnit→Option (List (List (List UInt8))))→Int×List (List UInt8)×List (List UInt8)×List (List UInt8)×List (List UInt8)×List (List UInt8)×List (List UInt8)×List (List UInt8)×List (List UInt8)×List (List UInt8)×List (List UInt8)×PUnit→Option (List (List (List UInt8))):=fun (x0:Zd) (L:Nat) (self:Int×List (List UInt8)×List (List UInt8)×List (List UInt8)×List (List UInt8)×List (List UInt8)×List (List UInt8)×List (List UInt8)×List (List UInt8)×List (List UInt8)×List (List UInt8)×PUnit→Option (List (List (List UInt8)))) (acc:Int×List (List UInt8)×List (List UInt8)×List (List UInt8)×List (List UInt8)×List (List UInt8)×List (List UInt8)×List (List UInt8)×List (List UInt8)×List (List UInt8)×List (List UInt8)×PUnit)=>bif decide (acc.1 < (↑x0.3.length:Int)) then bT (ZG x0.3 acc.1) fun y=>bT (apT 16 acc.2.2.1 [y.1]) fun y=>self (Go.IntKind.i64.wrap (acc.1 + 1),acc.2.1,y,acc.2.2.2.1,acc.2.2.2.2.1,acc.2.2.2.2.2.1,acc.2.2.2.2.2.2.1,acc.2.2.2.2.2.2.2.1,acc.2.2.2.2.2.2.2.2.1,acc.2.2.2.2.2.2.2.2.2.1,acc.2.2.2.2.2.2.2.2.2.2.1,()) else Zq (Tv x0 L) L (0,acc.2.1,acc.2.2.1,acc.2.2.2.1,acc.2.2.2.2.1,acc.2.2.2.2.2.1,acc.2.2.2.2.2.2.1,acc.2.2.2.2.2.2.2.1,acc.2.2.2.2.2.2.2.2.1,acc.2.2.2.2.2.2.2.2.2.1,acc.2.2.2.2.2.2.2.2.2.2.1,())
def TA:Zd→Nat→(Int×List (List UInt8)×List (List UInt8)×List (List UInt8)×List (List UInt8)×List (List UInt8)×List (List UInt8)×List (List UInt8)×List (List UInt8)×List (List UInt8)×List (List UInt8)×PUnit→Option (List (List (List UInt8))))→Int×List (List UInt8)×List (List UInt8)×List (List UInt8)×List (List UInt8)×List (List UInt8)×List (List UInt8)×List (List UInt8)×List (List UInt8)×List (List UInt8)×List (List UInt8)×PUnit→Option (List (List (List UInt8))):=fun (x0:Zd) (L:Nat) (self:Int×List (List UInt8)×List (List UInt8)×List (List UInt8)×List (List UInt8)×List (List UInt8)×List (List UInt8)×List (List UInt8)×List (List UInt8)×List (List UInt8)×List (List UInt8)×PUnit→Option (List (List (List UInt8)))) (acc:Int×List (List UInt8)×List (List UInt8)×List (List UInt8)×List (List UInt8)×List (List UInt8)×List (List UInt8)×List (List UInt8)×List (List UInt8)×List (List UInt8)×List (List UInt8)×PUnit)=>bif decide (acc.1 < (↑x0.2.length:Int)) then bT (ZG x0.2 acc.1) fun y=>bT (apT 16 acc.2.1 [y.1]) fun y=>self (Go.IntKind.i64.wrap (acc.1 + 1),y,acc.2.2.1,acc.2.2.2.1,acc.2.2.2.2.1,acc.2.2.2.2.2.1,acc.2.2.2.2.2.2.1,acc.2.2.2.2.2.2.2.1,acc.2.2.2.2.2.2.2.2.1,acc.2.2.2.2.2.2.2.2.2.1,acc.2.2.2.2.2.2.2.2.2.2.1,()) else Zq (Tz x0 L) L (0,acc.2.1,acc.2.2.1,acc.2.2.2.1,acc.2.2.2.2.1,acc.2.2.2.2.2.1,acc.2.2.2.2.2.2.1,acc.2.2.2.2.2.2.2.1,acc.2.2.2.2.2.2.2.2.1,acc.2.2.2.2.2.2.2.2.2.1,acc.2.2.2.2.2.2.2.2.2.2.1,())
theorem Zi8 (L:Nat)(x0:Zd):VT L (x0,())=Zq (TA x0 L) L (0,[],[],[],[],[],[],[],[],[],[],()):=by kernel_rfl
end Go.Proofs.YtleomfgijkapfaaGreatDoor
end
noncomputable section
namespace Go.Proofs.YtleomfgijkapfaaGreatDoor
open Go Go.Proofs.YtleomfgijkapfaaGreatDoor.Abs Go.Proofs.YtleomfgijkapfaaGreatDoor.Tl
set_option maxRecDepth 100000
set_option maxHeartbeats 0
def Qj (L:Nat)(x:Zd×(List UInt8)×PUnit):Option (List UInt8):=fT [U1 L,I4 L] L ZcP [.rnd [.slot 7 (.int .i64)]] (.one .str) [.row 14,.str] x
def ZdF (L:Nat):Sum tT:=mU 233 [.row 14,.str] (.one .str) (Qj L)
theorem ZlC:SX ZdF:=fun h=>sT h (Zb (He h) (Zb (Dh h) Zr)) rfl (by kernel_rfl) fun _=>rfl
def HY:List UInt8→Nat→List (List (List UInt8))→(Int×PUnit→Option (List UInt8))→Int×PUnit→Option (List UInt8):=fun x1 L y self acc=>bif decide (acc.1 < (↑y.length:Int)) then bT (ZG y acc.1) fun y=>bT (XX L (y,x1,())) fun y=>bif decide (y ≥ 0) then bT (ZG [[118,97,114],[114,101,115,111,117,114,99,101],[115,116,111,114,101],[98,101,108,116],[113,117,101,117,101],[115,116,114,101,97,109],[116,97,108,108,121],[108,101,118,101,108],[99,111,117,110,116],[114,111,117,116,105,110,101]] acc.1) fun y=>some y else self (Go.IntKind.i64.wrap (acc.1 + 1),()) else some []
theorem Zlx (L:Nat)(x0:Zd)(x1:(List UInt8)):Qj L (x0,x1,())=bT (VT L (x0,())) fun (y:List (List (List UInt8)))=>Zq (HY x1 L y) L (0,()):=by kernel_rfl
def Zo (L:Nat)(x:Bool×Int×PUnit):Option Int:=fT [] L EG [] (.one (.int .i64)) [.bool,.int .i64] x
def YV (L:Nat):Sum tT:=mU 70 [.bool,.int .i64] (.one (.int .i64)) (Zo L)
theorem Wu:SX YV:=fun h=>sT h Zr rfl (by kernel_rfl) fun _=>rfl
theorem ZgC (L:Nat)(x0:Bool)(x1:Int):Zo L (x0,x1,())=bif x0 then some 0 else some x1:=by kernel_rfl
def Ls (L:Nat)(x:Zd×Gy×PUnit):Option Int:=fT [Qq L,WY L,ZdF L,YV L] L ZcS [] (.one (.int .i64)) [.row 14,.row 12] x
def ZdI (L:Nat):Sum tT:=mU 195 [.row 14,.row 12] (.one (.int .i64)) (Ls L)
theorem ZlF:SX ZdI:=fun h=>sT h (Zb (QU h) (Zb (Qw h) (Zb (ZlC h) (Zb (Wu h) Zr)))) rfl (by kernel_rfl) fun _=>rfl
theorem Zlz (L:Nat)(x0:Zd)(x1:Gy):Ls L (x0,x1,())=bif x1.2 == [99,114,101,97,116,101,100] then bT (bT (Zo L (!([114,111,117,116,105,110,101]:List UInt8) == [],1,())) fun y=>some y) fun y=>bT (bT (Qj L (x0,x1.3,())) fun y=>some y) fun y_1=>bT (bT (Zo L (y_1 == [114,111,117,116,105,110,101],5,())) fun y=>some y) fun y_2=>bT (bT (Zz L (y,y_2,())) fun y=>some y) fun y=>bT (ZH L (x1.1,(-1000),1000,())) fun y_3=>bT (Zo L (y_3 && x1.1 != 0,2,())) fun y_4=>bT (Zz L (y,y_4,())) fun y=>some y else bif x1.2 == [101,110,100,101,100] then bT (bT (Zo L (!([114,111,117,116,105,110,101]:List UInt8) == [],1,())) fun y=>some y) fun y=>bT (bT (Qj L (x0,x1.3,())) fun y=>some y) fun y_1=>bT (bT (Zo L (y_1 == [114,111,117,116,105,110,101],5,())) fun y=>some y) fun y_2=>bT (bT (Zz L (y,y_2,())) fun y=>some y) fun y=>bT (ZH L (x1.1,(-1000),1000,())) fun y_3=>bT (Zo L (y_3 && x1.1 != 0,2,())) fun y_4=>bT (Zz L (y,y_4,())) fun y=>some y else bif x1.2 == [105,110,115,105,100,101] then bT (bT (Zo L (!([114,111,117,116,105,110,101]:List UInt8) == [],1,())) fun y=>some y) fun y=>bT (bT (Qj L (x0,x1.3,())) fun y=>some y) fun y_1=>bT (bT (Zo L (y_1 == [114,111,117,116,105,110,101],5,())) fun y=>some y) fun y_2=>bT (bT (Zz L (y,y_2,())) fun y=>some y) fun y=>bT (ZH L (x1.1,(-1000),1000,())) fun y_3=>bT (Zo L (y_3 && x1.1 != 0,2,())) fun y_4=>bT (Zz L (y,y_4,())) fun y=>some y else bif x1.2 == [115,116,111,114,101,100] then bT (bT (Zo L (!([115,116,111,114,101]:List UInt8) == [],1,())) fun y=>some y) fun y=>bT (bT (Qj L (x0,x1.3,())) fun y=>some y) fun y_1=>bT (bT (Zo L (y_1 == [115,116,111,114,101],5,())) fun y=>some y) fun y_2=>bT (bT (Zz L (y,y_2,())) fun y=>some y) fun y=>bT (ZH L (x1.1,(-1000),1000,())) fun y_3=>bT (Zo L (y_3 && x1.1 != 0,2,())) fun y_4=>bT (Zz L (y,y_4,())) fun y=>some y else bif x1.2 == [101,110,116,101,114,101,100] then bT (bT (Zo L (!([115,116,111,114,101]:List UInt8) == [],1,())) fun y=>some y) fun y=>bT (bT (Qj L (x0,x1.3,())) fun y=>some y) fun y_1=>bT (bT (Zo L (y_1 == [115,116,111,114,101],5,())) fun y=>some y) fun y_2=>bT (bT (Zz L (y,y_2,())) fun y=>some y) fun y=>bT (ZH L (x1.1,(-1000),1000,())) fun y_3=>bT (Zo L (y_3 && x1.1 != 0,2,())) fun y_4=>bT (Zz L (y,y_4,())) fun y=>some y else bif x1.2 == [108,101,102,116] then bT (bT (Zo L (!([115,116,111,114,101]:List UInt8) == [],1,())) fun y=>some y) fun y=>bT (bT (Qj L (x0,x1.3,())) fun y=>some y) fun y_1=>bT (bT (Zo L (y_1 == [115,116,111,114,101],5,())) fun y=>some y) fun y_2=>bT (bT (Zz L (y,y_2,())) fun y=>some y) fun y=>bT (ZH L (x1.1,(-1000),1000,())) fun y_3=>bT (Zo L (y_3 && x1.1 != 0,2,())) fun y_4=>bT (Zz L (y,y_4,())) fun y=>some y else bif x1.2 == [99,111,117,110,116,101,100] then bT (bT (Zo L (!([99,111,117,110,116]:List UInt8) == [],1,())) fun y=>some y) fun y=>bT (bT (Qj L (x0,x1.3,())) fun y=>some y) fun y_1=>bT (bT (Zo L (y_1 == [99,111,117,110,116],5,())) fun y=>some y) fun y_2=>bT (bT (Zz L (y,y_2,())) fun y=>some y) fun y=>bT (ZH L (x1.1,(-1000),1000,())) fun y_3=>bT (Zo L (y_3 && x1.1 != 0,2,())) fun y_4=>bT (Zz L (y,y_4,())) fun y=>some y else bT (bT (Zo L (!([]:List UInt8) == [],1,())) fun y=>some y) fun y=>bT (bT (Qj L (x0,x1.3,())) fun y=>some y) fun y_1=>bT (bT (Zo L (y_1 == [],5,())) fun y=>some y) fun y_2=>bT (bT (Zz L (y,y_2,())) fun y=>some y) fun y=>bT (ZH L (x1.1,(-1000),1000,())) fun y_3=>bT (Zo L (y_3 && x1.1 != 0,2,())) fun y_4=>bT (Zz L (y,y_4,())) fun y=>some y:=by kernel_rfl
def XK (L:Nat)(x:(List UInt8)×(List (List UInt8))×PUnit):Option Int:=fT [WY L,YV L,U1 L,QX L] L Zad [] (.one (.int .i64)) [.str,.lst 1 .str] x
def VN (L:Nat):Sum tT:=mU 72 [.str,.lst 1 .str] (.one (.int .i64)) (XK L)
theorem UN:SX VN:=fun h=>sT h (Zb (Qw h) (Zb (Wu h) (Zb (He h) (Zb (XE h) Zr)))) rfl (by kernel_rfl) fun _=>rfl
theorem ZiC (L:Nat)(x0:(List UInt8))(x1:(List (List UInt8))):XK L (x0,x1,())=bT (WC L (x0,())) fun y=>bT (XX L (x1,x0,())) fun y_1=>bT (Zo L (decide (y_1 < 0),4,())) fun y_2=>bT (Zz L (y,y_2,())) fun y=>some y:=by kernel_rfl
def NL (L:Nat)(x:Zd×Zcj×(List (List UInt8))×PUnit):Option Int:=fT [N8 L,ZdI L,WY L,YV L,VN L] L Zf0 [.rnd [.slot 7 (.int .i64),.slot 8 (.int .i64)]] (.one (.int .i64)) [.row 14,.row 13,.lst 1 .str] x
def Zhn (L:Nat):Sum tT:=mU 150 [.row 14,.row 13,.lst 1 .str] (.one (.int .i64)) (NL L)
theorem Zog:SX Zhn:=fun h=>sT h (Zb (FY h) (Zb (ZlF h) (Zb (Qw h) (Zb (Wu h) (Zb (UN h) Zr))))) rfl (by kernel_rfl) fun _=>rfl
def MX:Zd→Zcj→Nat→(Int×Int×PUnit→Option Int)→Int×Int×PUnit→Option Int:=fun x0 x1 L self acc=>bif decide (acc.2.1 < (↑x1.2.length:Int)) then bT (ZG x1.2 acc.2.1) fun y=>bT (bT (Ls L (x0,y,())) fun y=>some y) fun y=>bT (bT (Zz L (acc.1,y,())) fun y=>some y) fun y=>self (y,Go.IntKind.i64.wrap (acc.2.1 + 1),()) else bT (Lm L (x1.3,())) fun y=>bT (Zo L (y,2,())) fun y=>bT (Zz L (acc.1,y,())) fun y=>some y
theorem ZnV (L:Nat)(x0:Zd)(x1:Zcj)(x2:(List (List UInt8))):NL L (x0,x1,x2,())=bT (XK L (x1.1,x2,())) fun y=>bT (Zo L (decide ((↑x1.2.length:Int) > 0),7,())) fun y_1=>bT (Zz L (y,y_1,())) fun y=>bT (Zo L (decide ((↑x1.2.length:Int)≤8),6,())) fun y_2=>bT (Zz L (y,y_2,())) fun y=>Zq (MX x0 x1 L) L (y,0,()):=by kernel_rfl
def Hm (L:Nat)(x:Int×Int×PUnit):Option Bool:=fT [Qq L,N8 L] L ZcO [] (.one .bool) [.int .i64,.int .i64] x
def Lj (L:Nat):Sum tT:=mU 146 [.int .i64,.int .i64] (.one .bool) (Hm L)
theorem SQ:SX Lj:=fun h=>sT h (Zb (QU h) (Zb (FY h) Zr)) rfl (by kernel_rfl) fun _=>rfl
theorem Zlw (L:Nat)(x0:Int)(x1:Int):Hm L (x0,x1,())=bif x0 == 1 then bT (Lm L (x1,())) fun y=>some y else bif x0 == 2 then some (x1 == 0 || x1 == 1) else bif x0 == 3 then bT (ZH L (x1,0,1000000000,())) fun y=>some y else some false:=by kernel_rfl
def Uo (L:Nat)(x:Zd×(List UInt8)×PUnit):Option Int:=fT [U1 L,I4 L] L Pj [] (.one (.int .i64)) [.row 14,.str] x
def NC (L:Nat):Sum tT:=mU 194 [.row 14,.str] (.one (.int .i64)) (Uo L)
theorem Zfb:SX NC:=fun h=>sT h (Zb (He h) (Zb (Dh h) Zr)) rfl (by kernel_rfl) fun _=>rfl
theorem ZeI (L:Nat)(x0:Zd)(x1:(List UInt8)):Uo L (x0,x1,())=bT (VT L (x0,())) fun (y:List (List (List UInt8)))=>bT (ZG y 9) fun y=>bT (XX L (y,x1,())) fun y=>some y:=by kernel_rfl
def II (L:Nat)(x:Zd×QC×PUnit):Option Int:=fT [YV L,Qq L,Lj L,NC L] L Zae [.rnd [.slot 7 (.int .i64)]] (.one (.int .i64)) [.row 14,.row 11] x
def ZbS (L:Nat):Sum tT:=mU 149 [.row 14,.row 11] (.one (.int .i64)) (II L)
theorem Zjf:SX ZbS:=fun h=>sT h (Zb (Wu h) (Zb (QU h) (Zb (SQ h) (Zb (Zfb h) Zr)))) rfl (by kernel_rfl) fun _=>rfl
def KH:QC→Nat→ZJ→(Int×PUnit→Option Int)→Int×PUnit→Option Int:=fun x1 L y self acc=>bif decide (acc.1 < (↑y.2.length:Int)) then bT (ZG y.2 acc.1) fun y=>bT (ZG x1.2 acc.1) fun y_1=>bT (bT (Hm L (y.2,y_1,())) fun y=>some y) fun y=>bif !y then some 2 else self (Go.IntKind.i64.wrap (acc.1 + 1),()) else bT (ZH L (x1.3,0,1000000000,())) fun y=>bT (bif y == true then bT (ZH L (x1.4,0,1000000000,())) fun y=>some y else some false) fun y=>bT (bif y == true then bT (ZH L (x1.5,0,1000000000,())) fun y=>some y else some false) fun y=>bT (Zo L (y && (x1.4 != 0 || x1.5 == 0),2,())) fun y=>some y
theorem ZiD (L:Nat)(x0:Zd)(x1:QC):II L (x0,x1,())=bT (Uo L (x0,x1.1,())) fun y=>bif decide (y < 0) then some 5 else bT (ZG x0.11 y) fun y=>bif (↑x1.2.length:Int) != (↑y.2.length:Int) then some 8 else Zq (KH x1 L y) L (0,()):=by kernel_rfl
def YH (L:Nat)(x:Zt×PUnit):Option Int:=fT [Dw L] L CS [] (.one (.int .i64)) [.row 8] x
def ZbJ (L:Nat):Sum tT:=mU 275 [.row 8] (.one (.int .i64)) (YH L)
theorem ZiX:SX ZbJ:=fun h=>sT h (Zb (Zb2 h) Zr) rfl (by kernel_rfl) fun _=>rfl
theorem Ziz (L:Nat)(x0:Zt):YH L (x0,())=bT (Kq L (x0,false,())) fun y=>some y:=by kernel_rfl
def IC (L:Nat)(x:Zy×YA×PUnit):Option Int:=fT [ZbJ L] L CX [.rnd [.slot 5 (.int .i64),.slot 6 (.int .i64)]] (.one (.int .i64)) [.row 9,.row 27] x
def ZbO (L:Nat):Sum tT:=mU 273 [.row 9,.row 27] (.one (.int .i64)) (IC L)
theorem Zjc:SX ZbO:=fun h=>sT h (Zb (ZiX h) Zr) rfl (by kernel_rfl) fun _=>rfl
def YT:Zy→Nat→(Int×Int×PUnit→Option Int)→Int×Int×PUnit→Option Int:=fun x0 L self acc=>bif acc.1 == 0 && decide (acc.2.1 < (↑x0.6.length:Int)) then bT (ZG x0.6 acc.2.1) fun y=>bT (YH L (y,())) fun y=>self (y,Go.IntKind.i64.wrap (acc.2.1 + 1),()) else some acc.1
def EX:Zy→Nat→(Int×Int×PUnit→Option Int)→Int×Int×PUnit→Option Int:=fun x0 L self acc=>bif acc.1 == 0 && decide (acc.2.1 < (↑x0.6.length:Int)) then bT (ZG x0.6 acc.2.1) fun y=>bT (YH L (y,())) fun y=>self (y,Go.IntKind.i64.wrap (acc.2.1 + 1),()) else some acc.1
def EY:Zy→Nat→(Int×Int×PUnit→Option Int)→Int×Int×PUnit→Option Int:=fun x0 L self acc=>bif acc.1 == 0 && decide (acc.2.1 < (↑x0.6.length:Int)) then bT (ZG x0.6 acc.2.1) fun y=>bT (YH L (y,())) fun y=>self (y,Go.IntKind.i64.wrap (acc.2.1 + 1),()) else some acc.1
def EZ:Zy→Nat→(Int×Int×PUnit→Option Int)→Int×Int×PUnit→Option Int:=fun x0 L self acc=>bif acc.1 == 0 && decide (acc.2.1 < (↑x0.6.length:Int)) then bT (ZG x0.6 acc.2.1) fun y=>bT (YH L (y,())) fun y=>self (y,Go.IntKind.i64.wrap (acc.2.1 + 1),()) else some acc.1
def Aa:Zy→Nat→(Int×Int×PUnit→Option Int)→Int×Int×PUnit→Option Int:=fun x0 L self acc=>bif acc.1 == 0 && decide (acc.2.1 < (↑x0.6.length:Int)) then bT (ZG x0.6 acc.2.1) fun y=>bT (YH L (y,())) fun y=>self (y,Go.IntKind.i64.wrap (acc.2.1 + 1),()) else some acc.1
def Ac:Zy→Nat→(Int×Int×PUnit→Option Int)→Int×Int×PUnit→Option Int:=fun x0 L self acc=>bif acc.1 == 0 && decide (acc.2.1 < (↑x0.6.length:Int)) then bT (ZG x0.6 acc.2.1) fun y=>bT (YH L (y,())) fun y=>self (y,Go.IntKind.i64.wrap (acc.2.1 + 1),()) else some acc.1
def Ad:Zy→Nat→(Int×Int×PUnit→Option Int)→Int×Int×PUnit→Option Int:=fun x0 L self acc=>bif acc.1 == 0 && decide (acc.2.1 < (↑x0.6.length:Int)) then bT (ZG x0.6 acc.2.1) fun y=>bT (YH L (y,())) fun y=>self (y,Go.IntKind.i64.wrap (acc.2.1 + 1),()) else some acc.1
def Ae:Zy→Nat→(Int×Int×PUnit→Option Int)→Int×Int×PUnit→Option Int:=fun x0 L self acc=>bif acc.1 == 0 && decide (acc.2.1 < (↑x0.6.length:Int)) then bT (ZG x0.6 acc.2.1) fun y=>bT (YH L (y,())) fun y=>self (y,Go.IntKind.i64.wrap (acc.2.1 + 1),()) else some acc.1
theorem Zi6 (L:Nat)(x0:Zy)(x1:YA):IC L (x0,x1,())=bif x1.3 then bT (YH L (x0.4,())) fun y=>bif y == 0 && x1.4 then bT (YH L (x0.5,())) fun y=>bif y == 0 && decide ((↑x0.6.length:Int) > 6) then Zq (YT x0 L) L (6,0,()) else Zq (EX x0 L) L (y,0,()) else bif y == 0 && decide ((↑x0.6.length:Int) > 6) then Zq (EY x0 L) L (6,0,()) else Zq (EZ x0 L) L (y,0,()) else bif 0 == 0 && x1.4 then bT (YH L (x0.5,())) fun y=>bif y == 0 && decide ((↑x0.6.length:Int) > 6) then Zq (Aa x0 L) L (6,0,()) else Zq (Ac x0 L) L (y,0,()) else bif 0 == 0 && decide ((↑x0.6.length:Int) > 6) then Zq (Ad x0 L) L (6,0,()) else Zq (Ae x0 L) L (0,0,()):=by kernel_rfl
end Go.Proofs.YtleomfgijkapfaaGreatDoor
end
noncomputable section
namespace Go.Proofs.YtleomfgijkapfaaGreatDoor
open Go Go.Proofs.YtleomfgijkapfaaGreatDoor.Abs Go.Proofs.YtleomfgijkapfaaGreatDoor.Tl
set_option maxRecDepth 100000
set_option maxHeartbeats 0
def Hl (L:Nat)(x:Zt×PUnit):Option Bool:=fT [] L ZcN [] (.one .bool) [.row 8] x
def ZdE (L:Nat):Sum tT:=mU 274 [.row 8] (.one .bool) (Hl L)
theorem ZlB:SX ZdE:=fun h=>sT h Zr rfl (by kernel_rfl) fun _=>rfl
theorem Zlv (L:Nat)(x0:Zt):Hl L (x0,())=some (x0.1 == 0 && x0.2 == [] && x0.3 == 0 && (↑x0.4.length:Int) == 0):=by kernel_rfl
def NJ (L:Nat)(x:Int×PUnit):Option (YA×Bool×PUnit):=fT [] L Zjw [] (.tup [.row 27,.bool]) [.int .i64] x
def Zfn (L:Nat):Sum tT:=mU 271 [.int .i64] (.tup [.row 27,.bool]) (NJ L)
theorem Zkw:SX Zfn:=fun h=>sT h Zr rfl (by kernel_rfl) fun _=>rfl
theorem Zqb (L:Nat)(x0:Int):NJ L (x0,())=bif x0 == 1 then some (YA.mk true false true false false false false false false,true,()) else bif x0 == 7 then some (YA.mk true false true false false false false false false,true,()) else bif x0 == 8 then some (YA.mk true false true false false false false false false,true,()) else bif x0 == 12 then some (YA.mk true false true false false false false false false,true,()) else bif x0 == 15 then some (YA.mk true false true false false false false false false,true,()) else bif x0 == 16 then some (YA.mk true false true false false false false false false,true,()) else bif x0 == 17 then some (YA.mk true false true false false false false false false,true,()) else bif x0 == 2 then some (YA.mk true true false false false true false false false,true,()) else bif x0 == 3 then some (YA.mk false false true false false false false true true,true,()) else bif x0 == 4 then some (YA.mk false false true false false false false true false,true,()) else bif x0 == 5 then some (YA.mk false false true false false false false false false,true,()) else bif x0 == 6 then some (YA.mk true false true true false false true false false,true,()) else bif x0 == 9 then some (YA.mk true true false false false false false false false,true,()) else bif x0 == 10 then some (YA.mk true false false false false false false false false,true,()) else bif x0 == 11 then some (YA.mk true false false false false false false false false,true,()) else bif x0 == 13 then some (YA.mk true true true false true false false false false,true,()) else bif x0 == 14 then some (YA.mk true false true false true false false false false,true,()) else bif x0 == 18 then some (YA.mk false false false false false false false false false,true,()) else some (YA.mk false false false false false false false false false,false,()):=by kernel_rfl
def KY (L:Nat)(x:Zy×PUnit):Option Bool:=fT [Lh L,ZdE L,Zfn L] L EF [] (.one .bool) [.row 9] x
def AO (L:Nat):Sum tT:=mU 272 [.row 9] (.one .bool) (KY L)
theorem ZgY:SX AO:=fun h=>sT h (Zb (SN h) (Zb (ZlB h) (Zb (Zkw h) Zr))) rfl (by kernel_rfl) fun _=>rfl
theorem ZgB (L:Nat)(x0:Zy):KY L (x0,())=bT (NJ L (x0.1,())) fun y=>bT (bif y.1.3 == false then bT (Hl L (x0.4,())) fun y=>some y else some true) fun y_1=>bT (bif y_1 == true then bif y.1.4 == false then bT (Hl L (x0.5,())) fun y=>some y else some true else some false) fun y_2=>bT (bif (y.2.1 && ((y.1.1 || x0.2 == []) && (y.1.2 || x0.3 == [])) && (y_2 && (y.1.5 || (↑x0.6.length:Int) == 0)) && ((y.1.8 || (↑x0.9.length:Int) == 0) && (y.1.9 || (↑x0.10.length:Int) == 0))) == true then bif y.1.6 == false then bT (VQ L (x0.7,Y9.mk 0 0 0 0 [] [],())) fun y=>some y else some true else some false) fun y_3=>some (y_3 && (y.1.7 || !x0.8)):=by kernel_rfl
def NK (L:Nat)(x:Zy×PUnit):Option Int:=fT [Iy L,ZbO L,QX L,AO L,Zfn L] L Zfz [] (.one (.int .i64)) [.row 9] x
def ZbP (L:Nat):Sum tT:=mU 267 [.row 9] (.one (.int .i64)) (NK L)
theorem ZgZ:SX ZbP:=fun h=>sT h (Zb (Df h) (Zb (Zjc h) (Zb (XE h) (Zb (ZgY h) (Zb (Zkw h) Zr))))) rfl (by kernel_rfl) fun _=>rfl
theorem ZnU (L:Nat)(x0:Zy):NK L (x0,())=bT (NJ L (x0.1,())) fun y=>bT (KY L (x0,())) fun y_1=>bif !y_1 then some 1 else bT (bif y.1.1 == true then bT (WC L (x0.2,())) fun y=>some (y != 0) else some false) fun y_2=>bT (bif y_2 == false then bif y.1.2 == true then bT (WC L (x0.3,())) fun y=>some (y != 0) else some false else some true) fun y_3=>bif y_3 then some 3 else bT (IC L (x0,y.1,())) fun y_4=>bif y_4 == 0 && y.1.6 then bT (XJ L (x0.7,())) fun y=>some y else some y_4:=by kernel_rfl
def Dn (L:Nat):Nat→List (Sum tT)
 | 0=>[⟨253,[.lst 21 (.row 9)],fun _=>.par _ none ((.one (.int .i64):RD).tv tT)⟩]
 | m + 1=>[⟨253,[.lst 21 (.row 9)],fun x=>.par _ (fnT tF tG (qOf tF (Dn L m ++ [ZbP L])) 0 L NV [.rnd [.slot 3 (.int .i64)]] (.one (.int .i64)) (tvL tT [.lst 21 (.row 9)] x) []) ((.one (.int .i64):RD).tv tT)⟩]
theorem RF {C:Cfg}{L:Nat}(h:St C L):∀ m,∀ s ∈ Dn L m,WT C s
 | 0=>(Zb (WQ _ _ _) Zr)
 | m + 1=>have ih:=RF h m
  (Zb (Ym Yi h.L h.G (YP Yi (Xm ih (Zb (ZgZ h) Zr))) [.rnd [.slot 3 (.int .i64)]] (h.T _ _ rfl) (by kernel_rfl) fun _=>rfl) Zr)
def VV (L m:Nat)(x:(List Zy)×PUnit):Option (Int):=fnT tF tG (qOf tF (Dn L m ++ [ZbP L])) 0 L NV [.rnd [.slot 3 (.int .i64)]] (.one (.int .i64)) (tvL tT [.lst 21 (.row 9)] x) []
def Ei (L:Nat)(x:(List Zy)×PUnit):Option (Int):=VV L L x
def ZdD (L:Nat):Sum tT:=⟨253,[.lst 21 (.row 9)],fun x=>.par ((.one (.int .i64):RD).Ty tT) (Ei L x) ((.one (.int .i64):RD).tv tT)⟩
theorem ZlA {C:Cfg}{L:Nat}(h:St C L):WT C (ZdD L):=have ih:=RF h L
 Ym Yi h.L h.G (YP Yi (Xm ih (Zb (ZgZ h) Zr))) [.rnd [.slot 3 (.int .i64)]] (h.T _ _ rfl) (by kernel_rfl) fun _=>rfl
def BR:Nat→List Zy→Nat→(Int×PUnit→Option Int)→Int×PUnit→Option Int:=fun (m:Nat)=>fun x0 L self acc=>bif decide (acc.1 < (↑x0.length:Int)) then bT (ZG x0 acc.1) fun y=>bT (NK L (y,())) fun y=>bif y == 0 then bT (ZG x0 acc.1) fun y=>bT (VV L m (y.9,())) fun y=>bif y == 0 then bT (ZG x0 acc.1) fun y=>bT (VV L m (y.10,())) fun y=>bif y != 0 then some y else self (Go.IntKind.i64.wrap (acc.1 + 1),()) else bif y != 0 then some y else self (Go.IntKind.i64.wrap (acc.1 + 1),()) else bif y == 0 then bT (ZG x0 acc.1) fun y=>bT (VV L m (y.10,())) fun y=>bif y != 0 then some y else self (Go.IntKind.i64.wrap (acc.1 + 1),()) else bif y != 0 then some y else self (Go.IntKind.i64.wrap (acc.1 + 1),()) else some 0
theorem Zlu (L m:Nat)(x0:(List Zy)):VV L (m + 1) (x0,())=Zq (BR m x0 L) L (0,()):=by kernel_rfl
def TZ (L:Nat):Nat→List (Sum tT)
 | 0=>[⟨252,[.lst 21 (.row 9)],fun _=>.par _ none ((.one (.int .i64):RD).tv tT)⟩]
 | m + 1=>[⟨252,[.lst 21 (.row 9)],fun x=>.par _ (fnT tF tG (qOf tF (TZ L m ++ [])) 0 L Bc [.rnd [.slot 3 (.int .i64),.slot 4 (.int .i64)]] (.one (.int .i64)) (tvL tT [.lst 21 (.row 9)] x) []) ((.one (.int .i64):RD).tv tT)⟩]
theorem Mc {C:Cfg}{L:Nat}(h:St C L):∀ m,∀ s ∈ TZ L m,WT C s
 | 0=>(Zb (WQ _ _ _) Zr)
 | m + 1=>have ih:=Mc h m
  (Zb (Ym Yi h.L h.G (YP Yi (Xm ih Zr)) [.rnd [.slot 3 (.int .i64),.slot 4 (.int .i64)]] (h.T _ _ rfl) (by kernel_rfl) fun _=>rfl) Zr)
def JB (L m:Nat)(x:(List Zy)×PUnit):Option (Int):=fnT tF tG (qOf tF (TZ L m ++ [])) 0 L Bc [.rnd [.slot 3 (.int .i64),.slot 4 (.int .i64)]] (.one (.int .i64)) (tvL tT [.lst 21 (.row 9)] x) []
def D9 (L:Nat)(x:(List Zy)×PUnit):Option (Int):=JB L L x
def ZbN (L:Nat):Sum tT:=⟨252,[.lst 21 (.row 9)],fun x=>.par ((.one (.int .i64):RD).Ty tT) (D9 L x) ((.one (.int .i64):RD).tv tT)⟩
theorem Zjb {C:Cfg}{L:Nat}(h:St C L):WT C (ZbN L):=have ih:=Mc h L
 Ym Yi h.L h.G (YP Yi (Xm ih Zr)) [.rnd [.slot 3 (.int .i64),.slot 4 (.int .i64)]] (h.T _ _ rfl) (by kernel_rfl) fun _=>rfl
def Tm:Nat→List Zy→Nat→(Int×Int×PUnit→Option Int)→Int×Int×PUnit→Option Int:=fun (m:Nat)=>fun x0 L self acc=>bif decide (acc.2.1 < (↑x0.length:Int)) then bT (ZG x0 acc.2.1) fun y=>bT (bT (JB L m (y.9,())) fun y=>some y) fun y=>bT (ZG x0 acc.2.1) fun y_1=>bT (bT (JB L m (y_1.10,())) fun y=>some y) fun y_2=>self (if Go.IntKind.i64.wrap (1 + y_2) > if Go.IntKind.i64.wrap (1 + y) > acc.1 then Go.IntKind.i64.wrap (1 + y) else acc.1 then Go.IntKind.i64.wrap (1 + y_2) else if Go.IntKind.i64.wrap (1 + y) > acc.1 then Go.IntKind.i64.wrap (1 + y) else acc.1,Go.IntKind.i64.wrap (acc.2.1 + 1),()) else some acc.1
theorem Zi5 (L m:Nat)(x0:(List Zy)):JB L (m + 1) (x0,())=Zq (Tm m x0 L) L (0,0,()):=by kernel_rfl
def TW (L:Nat):Nat→List (Sum tT)
 | 0=>[⟨25,[.lst 21 (.row 9)],fun _=>.par _ none ((.one (.int .i64):RD).tv tT)⟩]
 | m + 1=>[⟨25,[.lst 21 (.row 9)],fun x=>.par _ (fnT tF tG (qOf tF (TW L m ++ [])) 0 L Ba [.rnd [.slot 3 (.int .i64),.slot 4 (.int .i64)]] (.one (.int .i64)) (tvL tT [.lst 21 (.row 9)] x) []) ((.one (.int .i64):RD).tv tT)⟩]
theorem TY {C:Cfg}{L:Nat}(h:St C L):∀ m,∀ s ∈ TW L m,WT C s
 | 0=>(Zb (WQ _ _ _) Zr)
 | m + 1=>have ih:=TY h m
  (Zb (Ym Yi h.L h.G (YP Yi (Xm ih Zr)) [.rnd [.slot 3 (.int .i64),.slot 4 (.int .i64)]] (h.T _ _ rfl) (by kernel_rfl) fun _=>rfl) Zr)
def JA (L m:Nat)(x:(List Zy)×PUnit):Option (Int):=fnT tF tG (qOf tF (TW L m ++ [])) 0 L Ba [.rnd [.slot 3 (.int .i64),.slot 4 (.int .i64)]] (.one (.int .i64)) (tvL tT [.lst 21 (.row 9)] x) []
def VS (L:Nat)(x:(List Zy)×PUnit):Option (Int):=JA L L x
def Dx (L:Nat):Sum tT:=⟨25,[.lst 21 (.row 9)],fun x=>.par ((.one (.int .i64):RD).Ty tT) (VS L x) ((.one (.int .i64):RD).tv tT)⟩
theorem Zb3 {C:Cfg}{L:Nat}(h:St C L):WT C (Dx L):=have ih:=TY h L
 Ym Yi h.L h.G (YP Yi (Xm ih Zr)) [.rnd [.slot 3 (.int .i64),.slot 4 (.int .i64)]] (h.T _ _ rfl) (by kernel_rfl) fun _=>rfl
def Tj:Nat→List Zy→Nat→(Int×Int×PUnit→Option Int)→Int×Int×PUnit→Option Int:=fun (m:Nat)=>fun x0 L self acc=>bif decide (acc.2.1 < (↑x0.length:Int)) then bT (ZG x0 acc.2.1) fun y=>bT (bT (JA L m (y.9,())) fun y=>some y) fun y=>bT (ZG x0 acc.2.1) fun y_1=>bT (bT (JA L m (y_1.10,())) fun y=>some y) fun y_2=>self (Go.IntKind.i64.wrap (Go.IntKind.i64.wrap (Go.IntKind.i64.wrap (acc.1 + 1) + y) + y_2),Go.IntKind.i64.wrap (acc.2.1 + 1),()) else some acc.1
theorem Zi4 (L m:Nat)(x0:(List Zy)):JA L (m + 1) (x0,())=Zq (Tj m x0 L) L (0,0,()):=by kernel_rfl
def IB (L:Nat)(x:(List Zy)×PUnit):Option Int:=fT [ZdD L,ZbN L,Dx L] L CV [] (.one (.int .i64)) [.lst 21 (.row 9)] x
def ZbM (L:Nat):Sum tT:=mU 232 [.lst 21 (.row 9)] (.one (.int .i64)) (IB L)
theorem Zja:SX ZbM:=fun h=>sT h (Zb (ZlA h) (Zb (Zjb h) (Zb (Zb3 h) Zr))) rfl (by kernel_rfl) fun _=>rfl
theorem Zi3 (L:Nat)(x0:(List Zy)):IB L (x0,())=bT (VS L (x0,())) fun y=>bif decide (y > 200) then some 6 else bT (D9 L (x0,())) fun y=>bif decide (y > 12) then some 11 else bT (Ei L (x0,())) fun y=>some y:=by kernel_rfl
def Kr (L:Nat)(x:Int×PUnit):Option Bool:=fT [] L Zaa [] (.one .bool) [.int .i64] x
def I5 (L:Nat):Sum tT:=mU 145 [.int .i64] (.one .bool) (Kr L)
theorem Di:SX I5:=fun h=>sT h Zr rfl (by kernel_rfl) fun _=>rfl
theorem Zi9 (L:Nat)(x0:Int):Kr L (x0,())=some (x0 == 1 || x0 == 2 || x0 == 3):=by kernel_rfl
def Ur (L:Nat)(x:ZJ×PUnit):Option Int:=fT [ZbM L,WY L,YV L,I5 L,VN L] L Pm [.rnd [.slot 3 (.own 1 .str),.slot 5 (.int .i64)]] (.one (.int .i64)) [.row 10] x
def ND (L:Nat):Sum tT:=mU 193 [.row 10] (.one (.int .i64)) (Ur L)
theorem Zfc:SX ND:=fun h=>sT h (Zb (Zja h) (Zb (Qw h) (Zb (Wu h) (Zb (Di h) (Zb (UN h) Zr))))) rfl (by kernel_rfl) fun _=>rfl
def Jd:ZJ→Nat→List YX→(List (List UInt8)×Int×PUnit→Option Int)→List (List UInt8)×Int×PUnit→Option Int:=fun x0 L y self acc=>bif decide (acc.2.1 < (↑y.length:Int)) then bT (ZG y acc.2.1) fun y_1=>bT (bT (XK L (y_1.1,acc.1,())) fun y=>some y) fun y_2=>bT (ZG y acc.2.1) fun y_3=>bT (bT (Kr L (y_3.2,())) fun y=>some y) fun y_4=>bT (bT (Zo L (y_4,1,())) fun y=>some y) fun y_5=>bT (bT (Zz L (y_2,y_5,())) fun y=>some y) fun y_6=>bif y_6 != 0 then some y_6 else bT (ZG y acc.2.1) fun y=>bT (apT 16 acc.1 [y.1]) fun y=>self (y,Go.IntKind.i64.wrap (acc.2.1 + 1),()) else bT (IB L (x0.4,())) fun y=>some y
theorem ZeJ (L:Nat)(x0:ZJ):Ur L (x0,())=bif decide ((↑x0.2.length:Int) > 6) || decide (Go.IntKind.i64.wrap ((↑x0.2.length:Int) + (↑x0.3.length:Int)) > 16) then some 6 else bT (apT 24 [] x0.2) fun y=>bT (apT 24 y x0.3) fun y=>Zq (Jd x0 L y) L ([],0,()):=by kernel_rfl
end Go.Proofs.YtleomfgijkapfaaGreatDoor
end
noncomputable section
namespace Go.Proofs.YtleomfgijkapfaaGreatDoor
open Go Go.Proofs.YtleomfgijkapfaaGreatDoor.Abs Go.Proofs.YtleomfgijkapfaaGreatDoor.Tl
set_option maxRecDepth 100000
set_option maxHeartbeats 0
def Jg (L:Nat)(x:Zu×PUnit):Option Int:=fT [Qq L,YV L] L Rl [.rnd [.slot 3 (.int .i64)]] (.one (.int .i64)) [.row 4] x
def RP (L:Nat):Sum tT:=mU 231 [.row 4] (.one (.int .i64)) (Jg L)
theorem ZcA:SX RP:=fun h=>sT h (Zb (QU h) (Zb (Wu h) Zr)) rfl (by kernel_rfl) fun _=>rfl
def QR:Zu→Nat→(Int×PUnit→Option Int)→Int×PUnit→Option Int:=fun x0 L self acc=>bif decide (acc.1 < (↑x0.3.length:Int)) then bT (ZG x0.3 acc.1) fun y=>bT (ZH L (y.1,0,Go.IntKind.i64.wrap (x0.4 - 1),())) fun y_1=>bT (bif (!y_1) == false then bT (ZH L (y.2,0,1000,())) fun y=>some !y else some true) fun y_2=>bif y_2 then some 2 else bT (bif decide (acc.1 > 0) == true then bT (ZG x0.3 (Go.IntKind.i64.wrap (acc.1 - 1))) fun y_3=>some (decide (y.1≤y_3.1)) else some false) fun y=>bif y then some 12 else self (Go.IntKind.i64.wrap (acc.1 + 1),()) else some 0
theorem Zc5 (L:Nat)(x0:Zu):Jg L (x0,())=bif (↑x0.3.length:Int) == 0 then bT (Zo L (x0.4 == 0,1,())) fun y=>some y else bif decide ((↑x0.3.length:Int) > 20) then some 6 else bT (ZH L (x0.4,1,1000000000,())) fun y=>bif !y then some 2 else Zq (QR x0 L) L (0,()):=by kernel_rfl
def Jh (L:Nat)(x:Zd×Zu×PUnit):Option Int:=fT [Iy L,U1 L,Lh L,WY L,RP L,YV L,Qq L] L Ro [] (.one (.int .i64)) [.row 14,.row 4] x
def RS (L:Nat):Sum tT:=mU 192 [.row 14,.row 4] (.one (.int .i64)) (Jh L)
theorem ZcC:SX RS:=fun h=>sT h (Zb (Df h) (Zb (He h) (Zb (SN h) (Zb (Qw h) (Zb (ZcA h) (Zb (Wu h) (Zb (QU h) Zr))))))) rfl (by kernel_rfl) fun _=>rfl
theorem Zc6 (L:Nat)(x0:Zd)(x1:Zu):Jh L (x0,x1,())=bT (bT (ZH L (x1.2,0,1000,())) fun y=>some y) fun y=>bT (bT (Zo L (y,2,())) fun y=>some y) fun y=>bT (bT (Jg L (x1,())) fun y=>some y) fun y_1=>bT (bT (Zz L (y,y_1,())) fun y=>some y) fun y=>bif y != 0 then some y else bif x1.Fault.1 == [] then bT (VQ L (x1.Fault.2,Y9.mk 0 0 0 0 [] [],())) fun y=>bT (bif y == true then bT (VQ L (x1.Fault.3,Y9.mk 0 0 0 0 [] [],())) fun y=>some y else some false) fun y=>bT (Zo L (y,1,())) fun y=>some y else bT (XX L (x0.7,x1.Fault.1,())) fun y=>bif decide (y < 0) then some 5 else bT (bT (XJ L (x1.Fault.2,())) fun y=>some y) fun y=>bT (bT (XJ L (x1.Fault.3,())) fun y=>some y) fun y_2=>bT (bT (Zz L (y,y_2,())) fun y=>some y) fun y=>some y:=by kernel_rfl
def Y8 (L:Nat)(x:Zd×Int×Int×PUnit):Option Int:=fT [ND L,Qq L,RS L,WY L,Lj L,YV L,I5 L] L Rn [] (.one (.int .i64)) [.row 14,.int .i64,.int .i64] x
def RQ (L:Nat):Sum tT:=mU 148 [.row 14,.int .i64,.int .i64] (.one (.int .i64)) (Y8 L)
theorem ZcB:SX RQ:=fun h=>sT h (Zb (Zfc h) (Zb (QU h) (Zb (ZcC h) (Zb (Qw h) (Zb (SQ h) (Zb (Wu h) (Zb (Di h) Zr))))))) rfl (by kernel_rfl) fun _=>rfl
theorem Q7 (L:Nat)(x0:Zd)(x1:Int)(x2:Int):Y8 L (x0,x1,x2,())=bif x1 == 0 then bT (ZG x0.2 x2) fun y=>bT (bT (Kr L (y.2,())) fun y=>some y) fun y=>bT (bT (Zo L (y,1,())) fun y=>some y) fun y=>bT (ZG x0.2 x2) fun y_1=>bT (ZG x0.2 x2) fun y_2=>bT (bT (Hm L (y_1.2,y_2.3,())) fun y=>some y) fun y_3=>bT (bT (Zo L (y_3,2,())) fun y=>some y) fun y_4=>bT (bT (Zz L (y,y_4,())) fun y=>some y) fun y=>some y else bif x1 == 1 then bT (ZG x0.3 x2) fun y=>bT (bT (Jh L (x0,y,())) fun y=>some y) fun y=>some y else bif x1 == 2 then bT (ZG x0.4 x2) fun y=>bT (ZG x0.4 x2) fun y_1=>bT (ZH L (y_1.2,1,1000,())) fun y_2=>bT (Zo L (y_2,2,())) fun y_3=>bT (Zo L (decide (y.3 ≥ 1) && decide (y.3≤3),1,())) fun y=>bT (Zz L (y_3,y,())) fun y=>some y else bif x1 == 3 then bT (ZG x0.5 x2) fun y=>bT (ZH L (y.2,1,1000,())) fun y=>bT (bif y == true then bT (ZG x0.5 x2) fun y=>bT (ZH L (y.3,1,1000,())) fun y=>some y else some false) fun y=>bT (Zo L (y,2,())) fun y=>some y else bif x1 == 9 then bT (ZG x0.11 x2) fun y=>bT (Ur L (y,())) fun y=>some y else some 0:=by kernel_rfl
def Lr (L:Nat)(x:Zd×PUnit):Option Int:=fT [Zhn L,ZbS L,WY L,RQ L,VN L,I4 L] L ZcR [.rnd [.slot 2 (.int .i64),.slot 3 (.own 1 .str),.slot 5 (.int .i64)],.rnd [.slot 2 (.int .i64),.slot 3 (.own 1 .str),.slot 6 (.int .i64)],.rnd [.slot 2 (.int .i64),.slot 8 (.int .i64)],.rnd [.slot 10 (.own 1 .str),.slot 11 (.int .i64)]] (.one (.int .i64)) [.row 14] x
def ZdH (L:Nat):Sum tT:=mU 73 [.row 14] (.one (.int .i64)) (Lr L)
theorem ZlE:SX ZdH:=fun h=>sT h (Zb (Zog h) (Zb (Zjf h) (Zb (Qw h) (Zb (ZcB h) (Zb (UN h) (Zb (Dh h) Zr)))))) rfl (by kernel_rfl) fun _=>rfl
def UH:Zd→Nat→List (List (List UInt8))→(Int×List (List UInt8)×Int×PUnit→Option Int)→Int×List (List UInt8)×Int×PUnit→(Int×List (List UInt8)×Int×PUnit→Option Int)→Int×List (List UInt8)×Int×PUnit→Option Int:=fun x0 L y self acc self_1 acc_1=>bT (ZG y acc.2.2.1) fun y_1=>bif decide (acc_1.2.2.1 < (↑y_1.length:Int)) then bT (ZG y acc.2.2.1) fun y_2=>bT (ZG y_2 acc_1.2.2.1) fun y_3=>bT (bT (XK L (y_3,acc_1.2.1,())) fun y=>some y) fun y_4=>bT (bT (Y8 L (x0,acc.2.2.1,acc_1.2.2.1,())) fun y=>some y) fun y_5=>bT (bT (Zz L (y_4,y_5,())) fun y=>some y) fun y_6=>bif y_6 != 0 then some y_6 else bT (ZG y acc.2.2.1) fun y=>bT (ZG y acc_1.2.2.1) fun y=>bT (apT 16 acc_1.2.1 [y]) fun y=>self_1 (acc_1.1,y,Go.IntKind.i64.wrap (acc_1.2.2.1 + 1),()) else self (acc_1.1,acc_1.2.1,Go.IntKind.i64.wrap (acc.2.2.1 + 1),())
def VK:Zd→Nat→(List (List UInt8)×Int×PUnit→Option Int)→List (List UInt8)×Int×PUnit→Option Int:=fun x0 L self acc=>bif decide (acc.2.1 < (↑x0.13.length:Int)) then bT (ZG x0.13 acc.2.1) fun y=>bT (bT (NL L (x0,y,acc.1,())) fun y=>some y) fun y=>bif y != 0 then some y else bT (ZG x0.13 acc.2.1) fun y=>bT (apT 16 acc.1 [y.1]) fun y=>self (y,Go.IntKind.i64.wrap (acc.2.1 + 1),()) else some 0
def UI:Zd→Nat→(Int×Int×PUnit→Option Int)→Int×Int×PUnit→Option Int:=fun x0 L self acc=>bif decide (acc.2.1 < (↑x0.12.length:Int)) then bT (ZG x0.12 acc.2.1) fun y=>bT (bT (II L (x0,y,())) fun y=>some y) fun y=>bif y != 0 then some y else self (acc.1,Go.IntKind.i64.wrap (acc.2.1 + 1),()) else bif decide ((↑x0.13.length:Int) > 32) then some 6 else Zq (VK x0 L) L ([],0,())
def VL:Zd→Nat→List (List (List UInt8))→(Int×List (List UInt8)×Int×PUnit→Option Int)→Int×List (List UInt8)×Int×PUnit→Option Int:=fun x0 L y self acc=>bif decide (acc.2.2.1 < (↑y.length:Int)) then bT (ZG y acc.2.2.1) fun y_1=>bT (bif decide ((↑y_1.length:Int) > 32) == false then bif (acc.2.2.1 == 9) == true then bT (ZG y acc.2.2.1) fun y=>some (decide ((↑y.length:Int) > 16)) else some false else some true) fun y_2=>bif y_2 then some 6 else Zq (UH x0 L y self acc) L (acc.1,acc.2.1,0,()) else bif decide ((↑x0.12.length:Int) > 32) then some 6 else Zq (UI x0 L) L (acc.1,0,())
theorem Zly (L:Nat)(x0:Zd):Lr L (x0,())=bT (VT L (x0,())) fun (y:List (List (List UInt8)))=>Zq (VL x0 L y) L (0,[],0,()):=by kernel_rfl
def Zch (L:Nat)(x:XM×(List (List UInt8))×PUnit):Option Int:=fT [Lj L,WY L,YV L,I5 L,VN L] L Zaf [] (.one (.int .i64)) [.row 0,.lst 1 .str] x
def ZbT (L:Nat):Sum tT:=mU 71 [.row 0,.lst 1 .str] (.one (.int .i64)) (Zch L)
theorem Zjg:SX ZbT:=fun h=>sT h (Zb (SQ h) (Zb (Qw h) (Zb (Wu h) (Zb (Di h) (Zb (UN h) Zr))))) rfl (by kernel_rfl) fun _=>rfl
def IE (L:Nat)(x:Ql×PUnit):Option Int:=fT [ZbR L,ZdH L,VN L,ZbT L,WY L,YV L,QX L] L CY [.rnd [.slot 2 (.int .i64),.slot 4 (.own 1 .str),.slot 5 (.int .i64)],.rnd [.slot 6 (.own 1 .str),.slot 7 (.int .i64)]] (.one (.int .i64)) [.row 21] x
def ZbQ (L:Nat):Sum tT:=mU 32 [.row 21] (.one (.int .i64)) (IE L)
theorem Zjd:SX ZbQ:=fun h=>sT h (Zb (Zje h) (Zb (ZlE h) (Zb (UN h) (Zb (Zjg h) (Zb (Qw h) (Zb (Wu h) (Zb (XE h) Zr))))))) rfl (by kernel_rfl) fun _=>rfl
def Tn:Ql→Nat→(List (List UInt8)×Int×PUnit→Option Int)→List (List UInt8)×Int×PUnit→Option Int:=fun x0 L self acc=>bif decide (acc.2.1 < (↑x0.3.length:Int)) then bT (ZG x0.3 acc.2.1) fun y=>bT (bT (XK L (y.1,acc.1,())) fun y=>some y) fun y=>bT (ZG x0.3 acc.2.1) fun y_1=>bT (bT (Lr L (y_1,())) fun y=>some y) fun y_2=>bT (bT (Zz L (y,y_2,())) fun y=>some y) fun y=>bif y != 0 then some y else bT (ZG x0.3 acc.2.1) fun y=>bT (apT 16 acc.1 [y.1]) fun y=>self (y,Go.IntKind.i64.wrap (acc.2.1 + 1),()) else bT (IG L (x0,())) fun y=>some y
def Tq:Ql→Nat→(Int×List (List UInt8)×Int×PUnit→Option Int)→Int×List (List UInt8)×Int×PUnit→Option Int:=fun x0 L self acc=>bif decide (acc.2.2.1 < (↑x0.2.length:Int)) then bT (ZG x0.2 acc.2.2.1) fun y=>bT (Zch L (y,acc.2.1,())) fun y=>bif y != 0 then some y else bT (ZG x0.2 acc.2.2.1) fun y=>bT (apT 16 acc.2.1 [y.1]) fun y=>self (acc.1,y,Go.IntKind.i64.wrap (acc.2.2.1 + 1),()) else bT (bT (Zo L (decide ((↑x0.3.length:Int) > 0),7,())) fun y=>some y) fun y=>bT (bT (Zo L (decide ((↑x0.3.length:Int)≤16),6,())) fun y=>some y) fun y_1=>bT (bT (Zz L (y,y_1,())) fun y=>some y) fun y=>bif y != 0 then some y else Zq (Tn x0 L) L ([],0,())
theorem Zi7 (L:Nat)(x0:Ql):IE L (x0,())=bT (bT (WC L (x0.1,())) fun y=>some y) fun y=>bT (bT (Zo L (decide ((↑x0.2.length:Int)≤32),6,())) fun y=>some y) fun y_1=>bT (bT (Zz L (y,y_1,())) fun y=>some y) fun y=>bif y != 0 then some y else Zq (Tq x0 L) L (0,[],0,()):=by kernel_rfl
def IJ (L:Nat)(x:Zk×PUnit):Option Int:=fT [NE L,ZdJ L,ZdK L,ZbQ L,QX L] L Zag [.rnd [.slot 2 (.int .i64),.slot 4 (.int .i64)],.rnd [.slot 2 (.int .i64),.slot 5 (.int .i64)],.rnd [.slot 3 (.int .i64),.slot 6 (.int .i64)],.rnd [.slot 3 (.int .i64),.slot 7 (.int .i64)]] (.one (.int .i64)) [.row 19] x
def ZbU (L:Nat):Sum tT:=mU 12 [.row 19] (.one (.int .i64)) (IJ L)
theorem Zjh:SX ZbU:=fun h=>sT h (Zb (Zfd h) (Zb (ZlG h) (Zb (ZlH h) (Zb (Zjd h) (Zb (XE h) Zr))))) rfl (by kernel_rfl) fun _=>rfl
def Ju:Zk→Nat→(Int×Int×PUnit→Option Int)→Int×Int×PUnit→(Int×Int×PUnit→Option Int)→Int×Int×PUnit→Option Int:=fun x0 L self acc self_1 acc_1=>bif decide (acc_1.2.1 < acc.2.1) then bT (ZG x0.2 acc_1.2.1) fun y=>bT (ZG x0.2 acc.2.1) fun y_1=>bif y.Decl.1 == y_1.Decl.1 then some 4 else self_1 (acc_1.1,Go.IntKind.i64.wrap (acc_1.2.1 + 1),()) else bT (ZG x0.2 acc.2.1) fun y=>bT (Hq L (y,())) fun y=>bif !y then some 8 else self (acc_1.1,Go.IntKind.i64.wrap (acc.2.1 + 1),())
def Jv:Zk→Nat→(Int×Int×PUnit→Option Int)→Int×Int×PUnit→(Int×Int×PUnit→Option Int)→Int×Int×PUnit→Option Int:=fun x0 L self acc self_1 acc_1=>bT (ZG x0.2 acc.2.1) fun y=>bif decide (acc_1.2.1 < (↑y.2.length:Int)) then bif acc_1.1 == 0 then bT (ZG x0.2 acc.2.1) fun y=>bT (ZG y.2 acc_1.2.1) fun y=>bT (bT (YI L (x0,acc.2.1,y,())) fun y=>some y) fun y=>self_1 (y,Go.IntKind.i64.wrap (acc_1.2.1 + 1),()) else self_1 (acc_1.1,Go.IntKind.i64.wrap (acc_1.2.1 + 1),()) else self (acc_1.1,Go.IntKind.i64.wrap (acc.2.1 + 1),())
def Qo:Zk→Nat→(Int×Int×PUnit→Option Int)→Int×Int×PUnit→Option Int:=fun x0 L self acc=>bif decide (acc.2.1 < (↑x0.2.length:Int)) then Zq (Jv x0 L self acc) L (acc.1,0,()) else some acc.1
def Jw:Zk→Nat→(Int×Int×PUnit→Option Int)→Int×Int×PUnit→Option Int:=fun x0 L self acc=>bif decide (acc.2.1 < (↑x0.2.length:Int)) then bT (ZG x0.2 acc.2.1) fun y=>bT (bT (IE L (Ql.mk x0.1 [] [y.1] [],())) fun y=>some y) fun y=>bif y != 0 then some y else Zq (Ju x0 L self acc) L (acc.1,0,()) else bT (Ho L (x0,())) fun y=>Zq (Qo x0 L) L (y,0,())
theorem ZiE (L:Nat)(x0:Zk):IJ L (x0,())=bT (WC L (x0.1,())) fun y=>bif y != 0 then some y else bif (↑x0.2.length:Int) == 0 then some 7 else bif decide ((↑x0.2.length:Int) > 16) then some 6 else Zq (Jw x0 L) L (0,0,()):=by kernel_rfl
def Zcu:List (Inl tT):=[⟨202,Qe,[],.one (.bool),[]⟩,⟨235,QD,[.rnd [.slot 8 (.int .i64)]],.one (.int .i64),[]⟩,⟨203,O9,[],.one (.bool),[]⟩]
def Yw (L:Nat)(x:Int×Int×(List Int)×PUnit):Option Bool:=fI [] L Zcu DR [] (.one .bool) [.int .i64,.int .i64,.lst 1 (.int .i64)] x
def Nu (L:Nat):Sum tT:=mU 160 [.int .i64,.int .i64,.lst 1 (.int .i64)] (.one .bool) (Yw L)
theorem ZeU:SX Nu:=fun h=>sI h Zr (Zb ⟨h.T _ _ rfl,by kernel_rfl⟩ (Zb ⟨h.T _ _ rfl,by kernel_rfl⟩ (Zb ⟨h.T _ _ rfl,by kernel_rfl⟩ Zr))) rfl (by kernel_rfl) fun _=>rfl
def VY:Int→Int→List Int→(Int×PUnit→Option Int)→Int×PUnit→Option Int:=fun x0 x1 x2 self acc=>bif decide (acc.1 < (↑x2.length:Int)) then bT (ZG x2 acc.1) fun y=>bif decide (y < x0) || decide (y > x1) then some acc.1 else self (Go.IntKind.i64.wrap (acc.1 + 1),()) else some (-1)
theorem Ze8 (L:Nat)(x0:Int)(x1:Int)(x2:(List Int)):Yw L (x0,x1,x2,())=bT (bT (Zq (VY x0 x1 x2) L (0,())) fun y=>some (decide (y ≥ 0))) fun y=>some !y:=by kernel_rfl
def Uj (L:Nat)(x:Y9×PUnit):Option Bool:=fT [] L DN [] (.one .bool) [.row 2] x
def Ns (L:Nat):Sum tT:=mU 159 [.row 2] (.one .bool) (Uj L)
theorem ZeT:SX Ns:=fun h=>sT h Zr rfl (by kernel_rfl) fun _=>rfl
theorem Ze7 (L:Nat)(x0:Y9):Uj L (x0,())=bif x0.1 == 1 then some (Go.IntKind.i64.wrap ((↑x0.5.length:Int) + (↑x0.6.length:Int)) == 0 && x0.3 == 0 && x0.4 == 0) else bif x0.1 == 2 then some (Go.IntKind.i64.wrap ((↑x0.5.length:Int) + (↑x0.6.length:Int)) == 0 && x0.4 == 0) else bif x0.1 == 5 then some (Go.IntKind.i64.wrap ((↑x0.5.length:Int) + (↑x0.6.length:Int)) == 0 && x0.4 == 0) else bif x0.1 == 4 then some (Go.IntKind.i64.wrap ((↑x0.5.length:Int) + (↑x0.6.length:Int)) == 0) else bif x0.1 == 3 then some (x0.2 == 0 && x0.3 == 0 && x0.4 == 0) else some false:=by kernel_rfl
def WS (L:Nat)(x:Y9×PUnit):Option Int:=fT [Nu L,Ns L] L Et [] (.one (.int .i64)) [.row 2] x
def KO (L:Nat):Sum tT:=mU 79 [.row 2] (.one (.int .i64)) (WS L)
theorem TJ:SX KO:=fun h=>sT h (Zb (ZeU h) (Zb (ZeT h) Zr)) rfl (by kernel_rfl) fun _=>rfl
theorem Zg0 (L:Nat)(x0:Y9):WS L (x0,())=bT (Uj L (x0,())) fun y=>bif !y then some 1 else bif x0.1 == 1 then bT (Yw L (0,1000000000,[x0.2],())) fun y=>bif !y then some 2 else some 0 else bif x0.1 == 2 then bT (Yw L (0,1000000000,[x0.2,x0.3],())) fun y=>bif !(y && decide (x0.2≤x0.3)) then some 2 else some 0 else bif x0.1 == 4 then bT (Yw L (1,20,[x0.4],())) fun y=>bT (bif y == true then bT (Yw L (0,1000000,[x0.2,x0.3],())) fun y=>some y else some false) fun y=>bif !(y && decide (x0.2≤x0.3)) then some 2 else some 0 else bif x0.1 == 5 then bT (Yw L (1,1000,[x0.2,x0.3],())) fun y=>bif !y then some 2 else some 0 else bif x0.1 == 3 then bif (↑x0.5.length:Int) != (↑x0.6.length:Int) then some 8 else bif (↑x0.5.length:Int) == 0 then some 7 else bif decide ((↑x0.5.length:Int) > 20) then some 6 else bT (Yw L (0,1000000000,x0.5,())) fun y=>bT (bif y == true then bT (Yw L (1,1000,x0.6,())) fun y=>some y else some false) fun y=>bif !y then some 2 else some 0 else some 2:=by kernel_rfl
end Go.Proofs.YtleomfgijkapfaaGreatDoor
end
noncomputable section
namespace Go.Proofs.YtleomfgijkapfaaGreatDoor
open Go Go.Proofs.YtleomfgijkapfaaGreatDoor.Abs Go.Proofs.YtleomfgijkapfaaGreatDoor.Tl
set_option maxRecDepth 100000
set_option maxHeartbeats 0
def Yn (L:Nat)(x:QG×Int×Int×PUnit):Option Int:=fT [] L U5 [] (.one (.int .i64)) [.row 24,.int .i64,.int .i64] x
def Qx (L:Nat):Sum tT:=mU 155 [.row 24,.int .i64,.int .i64] (.one (.int .i64)) (Yn L)
theorem XD:SX Qx:=fun h=>sT h Zr rfl (by kernel_rfl) fun _=>rfl
theorem XC (L:Nat)(x0:QG)(x1:Int)(x2:Int):Yn L (x0,x1,x2,())=bT (ZG x0.p.2 x0.2) fun y=>bif x1 == 1 then some x0.c.3 else bif x1 == 2 then some (↑y.Decl.2.length:Int) else bif x1 == 3 then some (↑y.Decl.7.length:Int) else bif x1 == 4 then some (↑x0.c.4.length:Int) else bif x1 == 5 then some (↑y.Decl.3.length:Int) else bif x1 == 6 then some (↑y.Decl.4.length:Int) else bif x1 == 7 then some (↑y.Decl.5.length:Int) else bif x1 == 8 then some (↑y.Decl.6.length:Int) else bif x1 == 9 then some (↑x0.p.2.length:Int) else bif x1 == 10 then bT (ZG x0.p.2 x2) fun y=>some (↑y.2.length:Int) else bif x1 == 11 then some (↑y.Decl.8.length:Int) else bif x1 == 12 then some (↑y.Decl.9.length:Int) else bif x1 == 13 then some (↑y.Decl.10.length:Int) else some 1:=by kernel_rfl
def ZN (L:Nat)(x:QG×Int×Int×Int×PUnit):Option Bool:=fT [Qx L] L Kw [] (.one .bool) [.row 24,.int .i64,.int .i64,.int .i64] x
def QI (L:Nat):Sum tT:=mU 76 [.row 24,.int .i64,.int .i64,.int .i64] (.one .bool) (ZN L)
theorem Vm:SX QI:=fun h=>sT h (Zb (XD h) Zr) rfl (by kernel_rfl) fun _=>rfl
theorem Vk (L:Nat)(x0:QG)(x1:Int)(x2:Int)(x3:Int):ZN L (x0,x1,x2,x3,())=bT (bif decide (x2 ≥ 0) == true then bT (Yn L (x0,x1,x3,())) fun y=>some (decide (x2 < y)) else some false) fun y=>some y:=by kernel_rfl
def JR:List (Inl tT):=[⟨157,YM,[],.one (.bool),[]⟩,⟨201,YY,[.rnd [.slot 8 (.int .i64)]],.one (.int .i64),[]⟩,⟨158,Jk,[],.one (.bool),[]⟩]
def Xq (L:Nat):Nat→List (Sum tT)
 | 0=>[⟨78,[.row 24,.row 8],fun _=>.par _ none ((.one (.bool):RD).tv tT)⟩]
 | m + 1=>[⟨78,[.row 24,.row 8],fun x=>.par _ (fnT tF tG (Zhj tF tG (qOf tF (Xq L m ++ [Qx L,QI L])) L JR 8) 0 L X8 [] (.one (.bool)) (tvL tT [.row 24,.row 8] x) []) ((.one (.bool):RD).tv tT)⟩]
theorem Vo {C:Cfg}{L:Nat}(h:St C L):∀ m,∀ s ∈ Xq L m,WT C s
 | 0=>(Zb (WQ _ _ _) Zr)
 | m + 1=>have ih:=Vo h m
  (Zb (Ym Yi h.L h.G (Nk Yi h.L h.G (YP Yi (Xm ih (Zb (XD h) (Zb (Vm h) Zr)))) (Zb ⟨h.T _ _ rfl,by kernel_rfl⟩ (Zb ⟨h.T _ _ rfl,by kernel_rfl⟩ (Zb ⟨h.T _ _ rfl,by kernel_rfl⟩ Zr))) 8) [] (h.T _ _ rfl) (by kernel_rfl) fun _=>rfl) Zr)
def ZW (L m:Nat)(x:QG×Zt×PUnit):Option (Bool):=fnT tF tG (Zhj tF tG (qOf tF (Xq L m ++ [Qx L,QI L])) L JR 8) 0 L X8 [] (.one (.bool)) (tvL tT [.row 24,.row 8] x) []
def Wy (L:Nat)(x:QG×Zt×PUnit):Option (Bool):=ZW L L x
def UR (L:Nat):Sum tT:=⟨78,[.row 24,.row 8],fun x=>.par ((.one (.bool):RD).Ty tT) (Wy L x) ((.one (.bool):RD).tv tT)⟩
theorem BU {C:Cfg}{L:Nat}(h:St C L):WT C (UR L):=have ih:=Vo h L
 Ym Yi h.L h.G (Nk Yi h.L h.G (YP Yi (Xm ih (Zb (XD h) (Zb (Vm h) Zr)))) (Zb ⟨h.T _ _ rfl,by kernel_rfl⟩ (Zb ⟨h.T _ _ rfl,by kernel_rfl⟩ (Zb ⟨h.T _ _ rfl,by kernel_rfl⟩ Zr))) 8) [] (h.T _ _ rfl) (by kernel_rfl) fun _=>rfl
def ZU:Nat→QG→Zt→Nat→(Int×PUnit→Option Int)→Int×PUnit→Option Int:=fun (m:Nat)=>fun x0 x1 L self acc=>bif decide (acc.1 < (↑x1.4.length:Int)) then bT (ZG x1.4 acc.1) fun y=>bT (bT (ZW L m (x0,y,())) fun y=>some !y) fun y=>bif y then some acc.1 else self (Go.IntKind.i64.wrap (acc.1 + 1),()) else some (-1)
def JH:Nat→QG→Zt→Nat→(Int×PUnit→Option Int)→Int×PUnit→Option Int:=fun (m:Nat)=>fun x0 x1 L self acc=>bif decide (acc.1 < (↑x1.4.length:Int)) then bT (ZG x1.4 acc.1) fun y=>bT (bT (ZW L m (x0,y,())) fun y=>some !y) fun y=>bif y then some acc.1 else self (Go.IntKind.i64.wrap (acc.1 + 1),()) else some (-1)
def JI:Nat→QG→Zt→Nat→(Int×PUnit→Option Int)→Int×PUnit→Option Int:=fun (m:Nat)=>fun x0 x1 L self acc=>bif decide (acc.1 < (↑x1.4.length:Int)) then bT (ZG x1.4 acc.1) fun y=>bT (bT (ZW L m (x0,y,())) fun y=>some !y) fun y=>bif y then some acc.1 else self (Go.IntKind.i64.wrap (acc.1 + 1),()) else some (-1)
def JJ:Nat→QG→Zt→Nat→(Int×PUnit→Option Int)→Int×PUnit→Option Int:=fun (m:Nat)=>fun x0 x1 L self acc=>bif decide (acc.1 < (↑x1.4.length:Int)) then bT (ZG x1.4 acc.1) fun y=>bT (bT (ZW L m (x0,y,())) fun y=>some !y) fun y=>bif y then some acc.1 else self (Go.IntKind.i64.wrap (acc.1 + 1),()) else some (-1)
def JK:Nat→QG→Zt→Nat→(Int×PUnit→Option Int)→Int×PUnit→Option Int:=fun (m:Nat)=>fun x0 x1 L self acc=>bif decide (acc.1 < (↑x1.4.length:Int)) then bT (ZG x1.4 acc.1) fun y=>bT (bT (ZW L m (x0,y,())) fun y=>some !y) fun y=>bif y then some acc.1 else self (Go.IntKind.i64.wrap (acc.1 + 1),()) else some (-1)
def JL:Nat→QG→Zt→Nat→(Int×PUnit→Option Int)→Int×PUnit→Option Int:=fun (m:Nat)=>fun x0 x1 L self acc=>bif decide (acc.1 < (↑x1.4.length:Int)) then bT (ZG x1.4 acc.1) fun y=>bT (bT (ZW L m (x0,y,())) fun y=>some !y) fun y=>bif y then some acc.1 else self (Go.IntKind.i64.wrap (acc.1 + 1),()) else some (-1)
theorem BK (L m:Nat)(x0:QG)(x1:Zt):ZW L (m + 1) (x0,x1,())=bif x1.1 == 25 then bT (ZN L (x0,1,x1.3,0,())) fun y=>bT (bif y == true then bT (bT (Zq (ZU m x0 x1 L) L (0,())) fun y=>some (decide (y ≥ 0))) fun y=>some !y else some false) fun y=>some y else bif x1.1 == 26 then bT (ZN L (x0,2,x1.3,0,())) fun y=>bT (bif y == true then bT (bT (Zq (JH m x0 x1 L) L (0,())) fun y=>some (decide (y ≥ 0))) fun y=>some !y else some false) fun y=>some y else bif x1.1 == 22 then bT (ZN L (x0,5,x1.3,0,())) fun y=>bT (bif y == true then bT (bT (Zq (JI m x0 x1 L) L (0,())) fun y=>some (decide (y ≥ 0))) fun y=>some !y else some false) fun y=>some y else bif x1.1 == 23 then bT (ZN L (x0,6,x1.3,0,())) fun y=>bT (bif y == true then bT (bT (Zq (JJ m x0 x1 L) L (0,())) fun y=>some (decide (y ≥ 0))) fun y=>some !y else some false) fun y=>some y else bif x1.1 == 24 then bT (bT (Yn L (x0,5,0,())) fun y=>some y) fun y=>bT (bT (Yn L (x0,8,0,())) fun y=>some y) fun y_1=>bT (bif decide (x1.3 < Go.IntKind.i64.wrap (y + y_1)) == true then bT (bT (Zq (JK m x0 x1 L) L (0,())) fun y=>some (decide (y ≥ 0))) fun y=>some !y else some false) fun y=>some y else bT (bT (bT (Zq (JL m x0 x1 L) L (0,())) fun y=>some (decide (y ≥ 0))) fun y=>some !y) fun y=>some y:=by kernel_rfl
def Vu (L:Nat)(x:(List UInt8)×PUnit):Option Bool:=fT [] L OO [] (.one .bool) [.str] x
def MF (L:Nat):Sum tT:=mU 58 [.str] (.one .bool) (Vu L)
theorem Zbz:SX MF:=fun h=>sT h Zr rfl (by kernel_rfl) fun _=>rfl
theorem Zbj (L:Nat)(x0:(List UInt8)):Vu L (x0,())=bif x0 == [97,100,100] then some true else bif x0 == [97,102,116,101,114] then some true else bif x0 == [97,110,100] then some true else bif x0 == [97,116] then some true else bif x0 == [98,101,108,116] then some true else bif x0 == [98,111,111,108] then some true else bif x0 == [99,111,110,115,101,114,118,101] then some true else bif x0 == [99,111,110,115,116] then some true else bif x0 == [99,111,117,110,116] then some true else bif x0 == [99,121,99,108,101] then some true else bif x0 == [100,111,119,110] then some true else bif x0 == [100,114,97,119] then some true else bif x0 == [100,117,114] then some true else bif x0 == [101,108,115,101] then some true else bif x0 == [101,110,100] then some true else bif x0 == [101,118,101,114,121] then some true else bif x0 == [102,97,108,115,101] then some true else bif x0 == [102,97,117,108,116] then some true else bif x0 == [102,105,102,111] then some true else bif x0 == [102,114,101,101] then some true else bif x0 == [102,114,111,109] then some true else bif x0 == [103,101,111,109] then some true else bif x0 == [103,101,116] then some true else bif x0 == [104,111,108,100] then some true else bif x0 == [105,102] then some true else bif x0 == [105,110,116] then some true else bif x0 == [105,110,116,111] then some true else bif x0 == [108,101,97,115,116] then some true else bif x0 == [108,101,118,101,108] then some true else bif x0 == [108,105,102,111] then some true else bif x0 == [108,105,110,107] then some true else bif x0 == [108,111,99,97,108] then some true else bif x0 == [109,97,120] then some true else bif x0 == [109,105,110] then some true else bif x0 == [109,111,100,101,108] then some true else bif x0 == [110,111,116] then some true else bif x0 == [110,111,119] then some true else bif x0 == [111,98,115,101,114,118,101] then some true else bif x0 == [111,114] then some true else bif x0 == [112,97,114,97,109] then some true else bif x0 == [112,114,101,101,109,112,116] then some true else bif x0 == [112,114,105,111] then some true else bif x0 == [112,117,116] then some true else bif x0 == [113,117,101,117,101] then some true else bif x0 == [114,101,108,101,97,115,101] then some true else bif x0 == [114,101,115,111,117,114,99,101] then some true else bif x0 == [114,105,100,101] then some true else bif x0 == [114,111,117,116,105,110,101] then some true else bif x0 == [115,101,105,122,101] then some true else bif x0 == [115,101,110,100] then some true else bif x0 == [115,101,116] then some true else bif x0 == [115,104,105,102,116] then some true else bif x0 == [115,105,103,110,97,108] then some true else bif x0 == [115,105,116,101] then some true else bif x0 == [115,105,122,101] then some true else bif x0 == [115,112,97,119,110] then some true else bif x0 == [115,116,97,114,116] then some true else bif x0 == [115,116,111,112] then some true else bif x0 == [115,116,111,114,101] then some true else bif x0 == [115,116,114,101,97,109] then some true else bif x0 == [115,117,109] then some true else bif x0 == [116,97,98,108,101] then some true else bif x0 == [116,97,108,108,121] then some true else bif x0 == [116,105,99,107,115] then some true else bif x0 == [116,105,109,101] then some true else bif x0 == [116,114,117,101] then some true else bif x0 == [117,110,105,102,111,114,109] then some true else bif x0 == [117,110,116,105,108] then some true else bif x0 == [117,112] then some true else bif x0 == [118,97,114] then some true else bif x0 == [119,97,105,116] then some true else bif x0 == [119,97,105,116,105,110,103] then some true else bif x0 == [119,104,105,108,101] then some true else some false:=by kernel_rfl
def Xz (L:Nat)(x:Int×PUnit):Option Bool:=fT [] L Ri [] (.one .bool) [.int .u8] x
def RI (L:Nat):Sum tT:=mU 57 [.int .u8] (.one .bool) (Xz L)
theorem Zc7:SX RI:=fun h=>sT h Zr rfl (by kernel_rfl) fun _=>rfl
theorem Zc2 (L:Nat)(x0:Int):Xz L (x0,())=some (decide (x0 ≥ 97) && decide (x0≤122)):=by kernel_rfl
def ZF (L:Nat)(x:(List UInt8)×PUnit):Option Int:=fT [MF L,RI L] L Pg [.rnd [.slot 24 (.int .i64)]] (.one (.int .i64)) [.str] x
def Wq (L:Nat):Sum tT:=mU 27 [.str] (.one (.int .i64)) (ZF L)
theorem WN:SX Wq:=fun h=>sT h (Zb (Zbz h) (Zb (Zc7 h) Zr)) rfl (by kernel_rfl) fun _=>rfl
def Jb:List UInt8→Nat→(Int×PUnit→Option Int)→Int×PUnit→Option Int:=fun x0 L self acc=>bif decide (acc.1 < (↑x0.length:Int)) then bT (ZG x0 acc.1) fun y=>bT (Xz L ((↑y.toNat:Int),())) fun y_1=>bif !y_1 && (decide ((↑y.toNat:Int) < 48) || decide ((↑y.toNat:Int) > 57)) && (↑y.toNat:Int) != 95 then some 3 else self (Go.IntKind.i64.wrap (acc.1 + 1),()) else some 0
theorem ZeF (L:Nat)(x0:(List UInt8)):ZF L (x0,())=bT (bif (x0 == [] || decide ((↑x0.length:Int) > 24)) == false then bT (ZG x0 0) fun y=>bT (Xz L ((↑y.toNat:Int),())) fun y=>some !y else some true) fun y=>bT (bif y == false then bT (Vu L (x0,())) fun y=>some y else some true) fun y=>bif y then some 3 else Zq (Jb x0 L) L (0,()):=by kernel_rfl
def Vr (L:Nat)(x:Int×PUnit):Option Bool:=fT [] L DT [] (.one .bool) [.int .i64] x
def Iw (L:Nat):Sum tT:=mU 268 [.int .i64] (.one .bool) (Vr L)
theorem PZ:SX Iw:=fun h=>sT h Zr rfl (by kernel_rfl) fun _=>rfl
theorem Ze9 (L:Nat)(x0:Int):Vr L (x0,())=some (decide (x0 ≥ 22) && decide (x0≤24)):=by kernel_rfl
def WR (L:Nat)(x:Qd×Int×PUnit):Option (Int×Int×Bool×PUnit):=fT [Iw L] L Jl [] (.tup [.int .i64,.int .i64,.bool]) [.row 25,.int .i64] x
def J4 (L:Nat):Sum tT:=mU 257 [.row 25,.int .i64] (.tup [.int .i64,.int .i64,.bool]) (WR L)
theorem TD:SX J4:=fun h=>sT h (Zb (PZ h) Zr) rfl (by kernel_rfl) fun _=>rfl
theorem Tc (L:Nat)(x0:Qd)(x1:Int):WR L (x0,x1,())=bif x1 == 2 then some (0,1,true,()) else bif x1 == 25 then some (0,15,true,()) else bif x1 == 26 then some (0,31,true,()) else bT (Vr L (x1,())) fun y=>bif y && x0.1 then some (0,63,true,()) else some (0,0,false,()):=by kernel_rfl
def Ll (L:Nat)(x:Int×PUnit):Option Bool:=fT [] L Zju [] (.one .bool) [.int .i64] x
def Cc (L:Nat):Sum tT:=mU 188 [.int .i64] (.one .bool) (Ll L)
theorem ZeZ:SX Cc:=fun h=>sT h Zr rfl (by kernel_rfl) fun _=>rfl
theorem ZpZ (L:Nat)(x0:Int):Ll L (x0,())=some (decide (x0 ≥ (-1000000000000)) && decide (x0≤1000000000000)):=by kernel_rfl
def WA (L:Nat)(x:Qd×Int×PUnit):Option Bool:=fT [Iw L] L U8 [] (.one .bool) [.row 25,.int .i64] x
def UU (L:Nat):Sum tT:=mU 256 [.row 25,.int .i64] (.one .bool) (WA L)
theorem BX:SX UU:=fun h=>sT h (Zb (PZ h) Zr) rfl (by kernel_rfl) fun _=>rfl
theorem BO (L:Nat)(x0:Qd)(x1:Int):WA L (x0,x1,())=bT (bif (x1 == 3) == false then bT (Vr L (x1,())) fun y=>some (y && !x0.1) else some true) fun y=>some y:=by kernel_rfl
end Go.Proofs.YtleomfgijkapfaaGreatDoor
end
noncomputable section
namespace Go.Proofs.YtleomfgijkapfaaGreatDoor
open Go Go.Proofs.YtleomfgijkapfaaGreatDoor.Abs Go.Proofs.YtleomfgijkapfaaGreatDoor.Tl
set_option maxRecDepth 100000
set_option maxHeartbeats 0
def Ko (L:Nat)(x:Int×PUnit):Option Int:=fT [] L C9 [] (.one (.int .i64)) [.int .i64] x
def Dt (L:Nat):Sum tT:=mU 255 [.int .i64] (.one (.int .i64)) (Ko L)
theorem Zbw:SX Dt:=fun h=>sT h Zr rfl (by kernel_rfl) fun _=>rfl
theorem Zit (L:Nat)(x0:Int):Ko L (x0,())=bif x0 == 1 || x0 == 2 || x0 == 3 || x0 == 4 then some 0 else bif decide (x0 ≥ 5) && decide (x0≤8) then some 1 else bif decide (x0 ≥ 9) && decide (x0≤21) then some 2 else bif decide (x0 ≥ 22) && decide (x0≤26) then some 0 else some (-1):=by kernel_rfl
def Qy (L:Nat)(x:Qd×Int×PUnit):Option Bool:=fT [Dt L] L U7 [] (.one .bool) [.row 25,.int .i64] x
def UT (L:Nat):Sum tT:=mU 254 [.row 25,.int .i64] (.one .bool) (Qy L)
theorem BV:SX UT:=fun h=>sT h (Zb (Zbw h) Zr) rfl (by kernel_rfl) fun _=>rfl
theorem BN (L:Nat)(x0:Qd)(x1:Int):Qy L (x0,x1,())=bif x1 == 3 then some !x0.1 else bif x1 == 25 then some x0.1 else bif x1 == 26 then some x0.1 else bT (Ko L (x1,())) fun y=>some (decide (y ≥ 0)):=by kernel_rfl
def QJ (L:Nat)(x:Qd×Zt×PUnit):Option Int:=fT [Wq L,J4 L,Cc L,UU L,Dt L,UT L] L Ky [] (.one (.int .i64)) [.row 25,.row 8] x
def Vq (L:Nat):Sum tT:=mU 234 [.row 25,.row 8] (.one (.int .i64)) (QJ L)
theorem KL:SX Vq:=fun h=>sT h (Zb (WN h) (Zb (TD h) (Zb (ZeZ h) (Zb (BX h) (Zb (Zbw h) (Zb (BV h) Zr)))))) rfl (by kernel_rfl) fun _=>rfl
theorem PP (L:Nat)(x0:Qd)(x1:Zt):QJ L (x0,x1,())=bT (bT (Qy L (x0,x1.1,())) fun y=>some y) fun y=>bT (bif (!y) == false then bT (bT (Ko L (x1.1,())) fun y=>some y) fun y=>some ((↑x1.4.length:Int) != y) else some true) fun y=>bT (bif y == false then bif (!x1.2 == []) == true then bT (bT (WA L (x0,x1.1,())) fun y=>some y) fun y=>some !y else some false else some true) fun y=>bif y then some 1 else bif x1.1 == 1 then bT (Ll L (x1.3,())) fun y=>bif !y then some 2 else some 0 else bT (WR L (x0,x1.1,())) fun y=>bif !y.2.2.1 && x1.3 != 0 then some 1 else bif y.2.2.1 && (decide (x1.3 < y.1) || decide (x1.3 > y.2.1)) then some 2 else bT (WA L (x0,x1.1,())) fun y=>bif y then bT (ZF L (x1.2,())) fun y=>some y else some 0:=by kernel_rfl
def Xr (L:Nat):Nat→List (Sum tT)
 | 0=>[⟨200,[.row 25,.row 8],fun _=>.par _ none ((.one (.int .i64):RD).tv tT)⟩]
 | m + 1=>[⟨200,[.row 25,.row 8],fun x=>.par _ (fnT tF tG (qOf tF (Xr L m ++ [Vq L])) 0 L X9 [.rnd [.slot 18 (.int .i64)]] (.one (.int .i64)) (tvL tT [.row 25,.row 8] x) []) ((.one (.int .i64):RD).tv tT)⟩]
theorem Vp {C:Cfg}{L:Nat}(h:St C L):∀ m,∀ s ∈ Xr L m,WT C s
 | 0=>(Zb (WQ _ _ _) Zr)
 | m + 1=>have ih:=Vp h m
  (Zb (Ym Yi h.L h.G (YP Yi (Xm ih (Zb (KL h) Zr))) [.rnd [.slot 18 (.int .i64)]] (h.T _ _ rfl) (by kernel_rfl) fun _=>rfl) Zr)
def Qc (L m:Nat)(x:Qd×Zt×PUnit):Option (Int):=fnT tF tG (qOf tF (Xr L m ++ [Vq L])) 0 L X9 [.rnd [.slot 18 (.int .i64)]] (.one (.int .i64)) (tvL tT [.row 25,.row 8] x) []
def XH (L:Nat)(x:Qd×Zt×PUnit):Option (Int):=Qc L L x
def UV (L:Nat):Sum tT:=⟨200,[.row 25,.row 8],fun x=>.par ((.one (.int .i64):RD).Ty tT) (XH L x) ((.one (.int .i64):RD).tv tT)⟩
theorem BZ {C:Cfg}{L:Nat}(h:St C L):WT C (UV L):=have ih:=Vp h L
 Ym Yi h.L h.G (YP Yi (Xm ih (Zb (KL h) Zr))) [.rnd [.slot 18 (.int .i64)]] (h.T _ _ rfl) (by kernel_rfl) fun _=>rfl
def WZ:Nat→Qd→Zt→Nat→(Int×PUnit→Option Int)→Int×PUnit→Option Int:=fun (m:Nat)=>fun x0 x1 L self acc=>bif decide (acc.1 < (↑x1.4.length:Int)) then bT (ZG x1.4 acc.1) fun y=>bT (Qc L m (x0,y,())) fun y=>bif y != 0 then some y else self (Go.IntKind.i64.wrap (acc.1 + 1),()) else some 0
theorem BP (L m:Nat)(x0:Qd)(x1:Zt):Qc L (m + 1) (x0,x1,())=bT (QJ L (x0,x1,())) fun y=>bif y != 0 then some y else Zq (WZ m x0 x1 L) L (0,()):=by kernel_rfl
def Ih (L:Nat):Nat→List (Sum tT)
 | 0=>[⟨199,[.row 8],fun _=>.par _ none ((.one (.int .i64):RD).tv tT)⟩]
 | m + 1=>[⟨199,[.row 8],fun x=>.par _ (fnT tF tG (qOf tF (Ih L m ++ [])) 0 L OA [.rnd [.slot 3 (.int .i64),.slot 9 (.int .i64)]] (.one (.int .i64)) (tvL tT [.row 8] x) []) ((.one (.int .i64):RD).tv tT)⟩]
theorem Oj {C:Cfg}{L:Nat}(h:St C L):∀ m,∀ s ∈ Ih L m,WT C s
 | 0=>(Zb (WQ _ _ _) Zr)
 | m + 1=>have ih:=Oj h m
  (Zb (Ym Yi h.L h.G (YP Yi (Xm ih Zr)) [.rnd [.slot 3 (.int .i64),.slot 9 (.int .i64)]] (h.T _ _ rfl) (by kernel_rfl) fun _=>rfl) Zr)
def Us (L m:Nat)(x:Zt×PUnit):Option (Int):=fnT tF tG (qOf tF (Ih L m ++ [])) 0 L OA [.rnd [.slot 3 (.int .i64),.slot 9 (.int .i64)]] (.one (.int .i64)) (tvL tT [.row 8] x) []
def MJ (L:Nat)(x:Zt×PUnit):Option (Int):=Us L L x
def Aw (L:Nat):Sum tT:=⟨199,[.row 8],fun x=>.par ((.one (.int .i64):RD).Ty tT) (MJ L x) ((.one (.int .i64):RD).tv tT)⟩
theorem ZgQ {C:Cfg}{L:Nat}(h:St C L):WT C (Aw L):=have ih:=Oj h L
 Ym Yi h.L h.G (YP Yi (Xm ih Zr)) [.rnd [.slot 3 (.int .i64),.slot 9 (.int .i64)]] (h.T _ _ rfl) (by kernel_rfl) fun _=>rfl
def H6:Nat→Zt→Nat→(Int×Int×PUnit→Option Int)→Int×Int×PUnit→Option Int:=fun (m:Nat)=>fun x0 L self acc=>bif decide (acc.2.1 < (↑x0.4.length:Int)) then bT (ZG x0.4 acc.2.1) fun y=>bT (Us L m (y,())) fun y=>self (if y > acc.1 then y else acc.1,Go.IntKind.i64.wrap (acc.2.1 + 1),()) else some (Go.IntKind.i64.wrap (acc.1 + 1))
theorem Zg2 (L m:Nat)(x0:Zt):Us L (m + 1) (x0,())=Zq (H6 m x0 L) L (0,0,()):=by kernel_rfl
def Ii (L:Nat):Nat→List (Sum tT)
 | 0=>[⟨198,[.row 8],fun _=>.par _ none ((.one (.int .i64):RD).tv tT)⟩]
 | m + 1=>[⟨198,[.row 8],fun x=>.par _ (fnT tF tG (qOf tF (Ii L m ++ [])) 0 L OB [.rnd [.slot 3 (.int .i64),.slot 9 (.int .i64)]] (.one (.int .i64)) (tvL tT [.row 8] x) []) ((.one (.int .i64):RD).tv tT)⟩]
theorem Ol {C:Cfg}{L:Nat}(h:St C L):∀ m,∀ s ∈ Ii L m,WT C s
 | 0=>(Zb (WQ _ _ _) Zr)
 | m + 1=>have ih:=Ol h m
  (Zb (Ym Yi h.L h.G (YP Yi (Xm ih Zr)) [.rnd [.slot 3 (.int .i64),.slot 9 (.int .i64)]] (h.T _ _ rfl) (by kernel_rfl) fun _=>rfl) Zr)
def Ut (L m:Nat)(x:Zt×PUnit):Option (Int):=fnT tF tG (qOf tF (Ii L m ++ [])) 0 L OB [.rnd [.slot 3 (.int .i64),.slot 9 (.int .i64)]] (.one (.int .i64)) (tvL tT [.row 8] x) []
def ML (L:Nat)(x:Zt×PUnit):Option (Int):=Ut L L x
def Az (L:Nat):Sum tT:=⟨198,[.row 8],fun x=>.par ((.one (.int .i64):RD).Ty tT) (ML L x) ((.one (.int .i64):RD).tv tT)⟩
theorem ZgR {C:Cfg}{L:Nat}(h:St C L):WT C (Az L):=have ih:=Ol h L
 Ym Yi h.L h.G (YP Yi (Xm ih Zr)) [.rnd [.slot 3 (.int .i64),.slot 9 (.int .i64)]] (h.T _ _ rfl) (by kernel_rfl) fun _=>rfl
def H7:Nat→Zt→Nat→(Int×Int×PUnit→Option Int)→Int×Int×PUnit→Option Int:=fun (m:Nat)=>fun x0 L self acc=>bif decide (acc.2.1 < (↑x0.4.length:Int)) then bT (ZG x0.4 acc.2.1) fun y=>bT (Ut L m (y,())) fun y=>self (Go.IntKind.i64.wrap (acc.1 + y),Go.IntKind.i64.wrap (acc.2.1 + 1),()) else some acc.1
theorem Zg3 (L m:Nat)(x0:Zt):Ut L (m + 1) (x0,())=Zq (H7 m x0 L) L (1,0,()):=by kernel_rfl
def W9 (L:Nat)(x:Qd×Zt×PUnit):Option Int:=fT [UV L,Aw L,Az L] L U6 [] (.one (.int .i64)) [.row 25,.row 8] x
def XG (L:Nat):Sum tT:=mU 156 [.row 25,.row 8] (.one (.int .i64)) (W9 L)
theorem UM:SX XG:=fun h=>sT h (Zb (BZ h) (Zb (ZgQ h) (Zb (ZgR h) Zr))) rfl (by kernel_rfl) fun _=>rfl
theorem BM (L:Nat)(x0:Qd)(x1:Zt):W9 L (x0,x1,())=bT (ML L (x1,())) fun y=>bif decide (y > 60) then some 6 else bT (MJ L (x1,())) fun y=>bif decide (y > 12) then some 11 else bT (XH L (x0,x1,())) fun y=>some y:=by kernel_rfl
def WG (L:Nat)(x:Zt×PUnit):Option Int:=fT [XG L] L IX [] (.one (.int .i64)) [.row 8] x
def Ou (L:Nat):Sum tT:=mU 77 [.row 8] (.one (.int .i64)) (WG L)
theorem FB:SX Ou:=fun h=>sT h (Zb (UM h) Zr) rfl (by kernel_rfl) fun _=>rfl
theorem F6 (L:Nat)(x0:Zt):WG L (x0,())=bT (W9 L (Qd.mk true,x0,())) fun y=>some y:=by kernel_rfl
def J5 (L:Nat)(x:Int×PUnit):Option Bool:=fT [] L Es [] (.one .bool) [.int .i64] x
def MB (L:Nat):Sum tT:=mU 37 [.int .i64] (.one .bool) (J5 L)
theorem Aj:SX MB:=fun h=>sT h Zr rfl (by kernel_rfl) fun _=>rfl
theorem Zgz (L:Nat)(x0:Int):J5 L (x0,())=some (decide (x0 ≥ 1) && decide (x0≤19)):=by kernel_rfl
def Wi (L:Nat)(x:Yo×PUnit):Option (List Zt):=fT [MB L] L Kz [] (.one (.lst 4 (.row 8))) [.row 15] x
def KN (L:Nat):Sum tT:=mU 41 [.row 15] (.one (.lst 4 (.row 8))) (Wi L)
theorem PY:SX KN:=fun h=>sT h (Zb (Aj h) Zr) rfl (by kernel_rfl) fun _=>rfl
theorem PS (L:Nat)(x0:Yo):Wi L (x0,())=bT (J5 L (x0.1,())) fun y=>bif !y then some [] else bT (ZG UE x0.1) fun y=>bif y.5 then bT (apT 56 [] [x0.5]) fun y_1=>bif y.6 then bT (apT 56 y_1 [x0.6]) fun y_2=>bif y.7 then bT (apT 56 y_2 x0.7) fun y=>some y else some y_2 else bif y.7 then bT (apT 56 y_1 x0.7) fun y=>some y else some y_1 else bif y.6 then bT (apT 56 [] [x0.6]) fun y_1=>bif y.7 then bT (apT 56 y_1 x0.7) fun y=>some y else some y_1 else bif y.7 then bT (apT 56 [] x0.7) fun y=>some y else some []:=by kernel_rfl
def ZhI:List (Inl tT):=[⟨52,Ws,[.rnd [.slot 8 (.int .i64)]],.one (.int .i64),[]⟩,⟨53,En,[],.one (.bool),[]⟩]
end Go.Proofs.YtleomfgijkapfaaGreatDoor
end
noncomputable section
namespace Go.Proofs.YtleomfgijkapfaaGreatDoor
open Go Go.Proofs.YtleomfgijkapfaaGreatDoor.Abs Go.Proofs.YtleomfgijkapfaaGreatDoor.Tl
set_option maxRecDepth 100000
set_option maxHeartbeats 0
def U2 (L:Nat)(x:Zk×Int×Int×PUnit):Option (Int×Bool×PUnit):=fI [] L ZhI ZcJ [] (.tup [.int .i64,.bool]) [.row 19,.int .i64,.int .i64] x
def Ee (L:Nat):Sum tT:=mU 22 [.row 19,.int .i64,.int .i64] (.tup [.int .i64,.bool]) (U2 L)
theorem Zd7:SX Ee:=fun h=>sI h Zr (Zb ⟨h.T _ _ rfl,by kernel_rfl⟩ (Zb ⟨h.T _ _ rfl,by kernel_rfl⟩ Zr)) rfl (by kernel_rfl) fun _=>rfl
def Bg:Zk→Int→Int→(Int×PUnit→Option Int)→Int×PUnit→Option Int:=fun x0 x1 x2 self acc=>bif decide (acc.1 < (↑x0.3.length:Int)) then bT (ZG x0.3 acc.1) fun y=>bif y.1 == x1 && y.2 == x2 then some acc.1 else self (Go.IntKind.i64.wrap (acc.1 + 1),()) else some (-1)
theorem Zlo (L:Nat)(x0:Zk)(x1:Int)(x2:Int):U2 L (x0,x1,x2,())=bT (Zq (Bg x0 x1 x2) L (0,())) fun y=>bif decide (y < 0) then some (0,false,()) else bT (ZG x0.3 y) fun y=>some (y.3,true,()):=by kernel_rfl
def Y3 (L:Nat)(x:(List Int)×(List Int)×PUnit):Option Bool:=fT [] L XN [.rnd [.slot 13 (.int .i64)]] (.one .bool) [.lst 1 (.int .i64),.lst 1 (.int .i64)] x
def XU (L:Nat):Sum tT:=mU 197 [.lst 1 (.int .i64),.lst 1 (.int .i64)] (.one .bool) (Y3 L)
theorem Hf:SX XU:=fun h=>sT h Zr rfl (by kernel_rfl) fun _=>rfl
def WW:List Int→List Int→(Int×PUnit→Option Bool)→Int×PUnit→Option Bool:=fun x0 x1 self acc=>bif decide (acc.1 < (↑x0.length:Int)) then bT (ZG x0 acc.1) fun y=>bT (ZG x1 acc.1) fun y_1=>bif y != y_1 then some false else self (Go.IntKind.i64.wrap (acc.1 + 1),()) else some true
theorem GV (L:Nat)(x0:(List Int))(x1:(List Int)):Y3 L (x0,x1,())=bif (↑x0.length:Int) != (↑x1.length:Int) then some false else Zq (WW x0 x1) L (0,()):=by kernel_rfl
def XI (L:Nat)(x:Y9×Y9×PUnit):Option Bool:=fT [XU L] L Cm [] (.one .bool) [.row 2,.row 2] x
def Iu (L:Nat):Sum tT:=mU 154 [.row 2,.row 2] (.one .bool) (XI L)
theorem Dc:SX Iu:=fun h=>sT h (Zb (Hf h) Zr) rfl (by kernel_rfl) fun _=>rfl
theorem Zis (L:Nat)(x0:Y9)(x1:Y9):XI L (x0,x1,())=bT (bif (x0.1 == x1.1 && x0.2 == x1.2 && x0.3 == x1.3 && x0.4 == x1.4) == true then bT (Y3 L (x0.5,x1.5,())) fun y=>some y else some false) fun y=>bT (bif y == true then bT (Y3 L (x0.6,x1.6,())) fun y=>some y else some false) fun y=>some y:=by kernel_rfl
def TN (L:Nat):Nat→List (Sum tT)
 | 0=>[⟨196,[.row 8,.row 8],fun _=>.par _ none ((.one (.bool):RD).tv tT)⟩]
 | m + 1=>[⟨196,[.row 8,.row 8],fun x=>.par _ (fnT tF tG (qOf tF (TN L m ++ [])) 0 L RX [.rnd [.slot 38 (.int .i64)]] (.one (.bool)) (tvL tT [.row 8,.row 8] x) []) ((.one (.bool):RD).tv tT)⟩]
theorem TP {C:Cfg}{L:Nat}(h:St C L):∀ m,∀ s ∈ TN L m,WT C s
 | 0=>(Zb (WQ _ _ _) Zr)
 | m + 1=>have ih:=TP h m
  (Zb (Ym Yi h.L h.G (YP Yi (Xm ih Zr)) [.rnd [.slot 38 (.int .i64)]] (h.T _ _ rfl) (by kernel_rfl) fun _=>rfl) Zr)
def Gg (L m:Nat)(x:Zt×Zt×PUnit):Option (Bool):=fnT tF tG (qOf tF (TN L m ++ [])) 0 L RX [.rnd [.slot 38 (.int .i64)]] (.one (.bool)) (tvL tT [.row 8,.row 8] x) []
def I8 (L:Nat)(x:Zt×Zt×PUnit):Option (Bool):=Gg L L x
def Dq (L:Nat):Sum tT:=⟨196,[.row 8,.row 8],fun x=>.par ((.one (.bool):RD).Ty tT) (I8 L x) ((.one (.bool):RD).tv tT)⟩
theorem Zbv {C:Cfg}{L:Nat}(h:St C L):WT C (Dq L):=have ih:=TP h L
 Ym Yi h.L h.G (YP Yi (Xm ih Zr)) [.rnd [.slot 38 (.int .i64)]] (h.T _ _ rfl) (by kernel_rfl) fun _=>rfl
def KE:Nat→Zt→Zt→Nat→(Int×PUnit→Option Bool)→Int×PUnit→Option Bool:=fun (m:Nat)=>fun x0 x1 L self acc=>bif decide (acc.1 < (↑x0.4.length:Int)) then bT (ZG x0.4 acc.1) fun y=>bT (ZG x1.4 acc.1) fun y_1=>bT (bT (Gg L m (y,y_1,())) fun y=>some y) fun y=>bif !y then some false else self (Go.IntKind.i64.wrap (acc.1 + 1),()) else some true
theorem Zbg (L m:Nat)(x0:Zt)(x1:Zt):Gg L (m + 1) (x0,x1,())=bif x0.1 != x1.1 || !x0.2 == x1.2 || x0.3 != x1.3 || (↑x0.4.length:Int) != (↑x1.4.length:Int) then some false else Zq (KE m x0 x1 L) L (0,()):=by kernel_rfl
def UZ (L:Nat)(x:Zt×PUnit):Option Bool:=fT [Dq L] L Cj [] (.one .bool) [.row 8] x
def ZbH (L:Nat):Sum tT:=mU 153 [.row 8] (.one .bool) (UZ L)
theorem ZiV:SX ZbH:=fun h=>sT h (Zb (Zbv h) Zr) rfl (by kernel_rfl) fun _=>rfl
theorem Zir (L:Nat)(x0:Zt):UZ L (x0,())=bT (I8 L (x0,Zt.mk 0 [] 0 [],())) fun y=>some y:=by kernel_rfl
def KQ (L:Nat)(x:Yo×PUnit):Option Bool:=fT [Iu L,ZbH L] L Ep [] (.one .bool) [.row 15] x
def Ar (L:Nat):Sum tT:=mU 75 [.row 15] (.one .bool) (KQ L)
theorem ZgO:SX Ar:=fun h=>sT h (Zb (Dc h) (Zb (ZiV h) Zr)) rfl (by kernel_rfl) fun _=>rfl
theorem Zgy (L:Nat)(x0:Yo):KQ L (x0,())=bT (ZG UE x0.1) fun y=>bT (bif ((y.2 != 0 || x0.2 == 0) && (y.3 != 0 || x0.3 == 0) && (y.4 || x0.4 == 0)) == true then bif y.5 == false then bT (UZ L (x0.5,())) fun y=>some y else some true else some false) fun y_1=>bT (bif y_1 == true then bif y.6 == false then bT (UZ L (x0.6,())) fun y=>some y else some true else some false) fun y_2=>bT (bif (y_2 && (y.7 || (↑x0.7.length:Int) == 0)) == true then bif y.8 == false then bT (XI L (x0.8,Y9.mk 0 0 0 0 [] [],())) fun y=>some y else some true else some false) fun y_3=>some (y_3 && (y.9 || !x0.9)):=by kernel_rfl
def YJ (L:Nat)(x:QG×Yo×PUnit):Option Int:=fT [KO L,UR L,Ou L,KN L,Ee L,QI L,Ar L,MB L] L JM [.rnd [.slot 103 (.int .i64)]] (.one (.int .i64)) [.row 24,.row 15] x
def JS (L:Nat):Sum tT:=mU 35 [.row 24,.row 15] (.one (.int .i64)) (YJ L)
theorem LC:SX JS:=fun h=>sT h (Zb (TJ h) (Zb (BU h) (Zb (FB h) (Zb (PY h) (Zb (Zd7 h) (Zb (Vm h) (Zb (ZgO h) (Zb (Aj h) Zr)))))))) rfl (by kernel_rfl) fun _=>rfl
def Y0:QG→Yo→Nat→Gn→List Zt→(Int×PUnit→Option Int)→Int×PUnit→Option Int:=fun x0 x1 L y y_1 self acc=>bif decide (acc.1 < (↑y_1.length:Int)) then bT (ZG y_1 acc.1) fun y=>bT (WG L (y,())) fun y_2=>bif y_2 != 0 then some y_2 else bT (Wy L (x0,y,())) fun y=>bif !y then some 2 else self (Go.IntKind.i64.wrap (acc.1 + 1),()) else bif y.8 then bT (WS L (x1.8,())) fun y=>some y else some 0
def Ji:QG→Yo→Nat→Gn→List Zt→(Int×PUnit→Option Int)→Int×PUnit→Option Int:=fun x0 x1 L y y_1 self acc=>bif decide (acc.1 < (↑y_1.length:Int)) then bT (ZG y_1 acc.1) fun y=>bT (WG L (y,())) fun y_2=>bif y_2 != 0 then some y_2 else bT (Wy L (x0,y,())) fun y=>bif !y then some 2 else self (Go.IntKind.i64.wrap (acc.1 + 1),()) else bif y.8 then bT (WS L (x1.8,())) fun y=>some y else some 0
def Jj:QG→Yo→Nat→Gn→List Zt→(Int×PUnit→Option Int)→Int×PUnit→Option Int:=fun x0 x1 L y y_1 self acc=>bif decide (acc.1 < (↑y_1.length:Int)) then bT (ZG y_1 acc.1) fun y=>bT (WG L (y,())) fun y_2=>bif y_2 != 0 then some y_2 else bT (Wy L (x0,y,())) fun y=>bif !y then some 2 else self (Go.IntKind.i64.wrap (acc.1 + 1),()) else bif y.8 then bT (WS L (x1.8,())) fun y=>some y else some 0
theorem L9 (L:Nat)(x0:QG)(x1:Yo):YJ L (x0,x1,())=bT (J5 L (x1.1,())) fun y=>bT (bif (!y) == false then bT (KQ L (x1,())) fun y=>some !y else some true) fun y=>bif y then some 1 else bT (ZG UE x1.1) fun y=>bT (ZN L (x0,y.2,x1.2,0,())) fun y_1=>bif !y_1 && y.2 != 0 then some 2 else bif x1.1 == 14 then bT (U2 L (x0.1,x0.2,x1.2,())) fun y_2=>bif !y_2.2.1 || y_2.1 != x1.4 then some 16 else bT (ZN L (x0,10,x1.3,x1.2,())) fun y_3=>bif !y_3 then some 2 else bT (ZG x0.p.2 x1.2) fun y_4=>bT (ZG y_4.2 x1.3) fun y_5=>bif (↑x1.7.length:Int) != y_5.2 then some 8 else bT (Wi L (x1,())) fun y_6=>Zq (Y0 x0 x1 L y y_6) L (0,()) else bif x1.1 == 15 then bT (ZN L (x0,10,x1.3,x0.2,())) fun y_2=>bif !y_2 then some 2 else bT (ZG x0.p.2 x0.2) fun y_3=>bT (ZG y_3.2 x1.3) fun y_4=>bif (↑x1.7.length:Int) != y_4.2 then some 8 else bT (Wi L (x1,())) fun y_5=>Zq (Ji x0 x1 L y y_5) L (0,()) else bT (bif (y.3 != 0) == true then bT (ZN L (x0,y.3,x1.3,0,())) fun y=>some !y else some false) fun y_2=>bif y_2 then some 2 else bT (Wi L (x1,())) fun y_3=>Zq (Jj x0 x1 L y y_3) L (0,()):=by kernel_rfl
def ZY (L:Nat)(x:Zk×Int×Y4×PUnit):Option Int:=fT [JS L,Wq L] L LG [.rnd [.slot 66 (.int .i64)]] (.one (.int .i64)) [.row 19,.int .i64,.row 16] x
def Gv (L:Nat):Sum tT:=mU 14 [.row 19,.int .i64,.row 16] (.one (.int .i64)) (ZY L)
theorem Ry:SX Gv:=fun h=>sT h (Zb (LC h) (Zb (WN h) Zr)) rfl (by kernel_rfl) fun _=>rfl
def Ve:Zk→Int→Y4→Nat→(Int×PUnit→Option Int)→Int×PUnit→Option Int:=fun x0 x1 x2 L self acc=>bif decide (acc.1 < (↑x2.4.length:Int)) then bT (ZG x2.4 acc.1) fun y=>bT (YJ L (QG.mk x0 x1 x2,y,())) fun y=>bif y != 0 then some y else self (Go.IntKind.i64.wrap (acc.1 + 1),()) else bT (ZG x2.4 (Go.IntKind.i64.wrap ((↑x2.4.length:Int) - 1))) fun y=>bif y.1 != 19 && y.1 != 4 then some 8 else some 0
theorem Rw (L:Nat)(x0:Zk)(x1:Int)(x2:Y4):ZY L (x0,x1,x2,())=bif decide (x1 < 0) || decide (x1 ≥ (↑x0.2.length:Int)) then some 2 else bT (ZF L (x2.1,())) fun y=>bif y != 0 then some y else bif decide (x2.2 < 0) || decide (x2.2 > x2.3) || decide (x2.2 > 6) || decide (x2.3 > 16) then some 2 else bif (↑x2.4.length:Int) == 0 then some 7 else bif decide ((↑x2.4.length:Int) > 1000) then some 6 else Zq (Ve x0 x1 x2 L) L (0,()):=by kernel_rfl
def UY (L:Nat)(x:Zk×PUnit):Option Int:=fT [] L Ci [.rnd [.slot 15 (.int .i64),.cont 1 (.map (.pint .i64))]] (.one (.int .i64)) [.row 19] x
def ZbG (L:Nat):Sum tT:=mU 30 [.row 19] (.one (.int .i64)) (UY L)
theorem ZiU:SX ZbG:=fun h=>sT h Zr rfl (by kernel_rfl) fun _=>rfl
def Jn:Zk→(Int×List (Int×Int)×PUnit→Option Int)→Int×List (Int×Int)×PUnit→Option Int:=fun x0 self acc=>bif decide (acc.1 < (↑x0.3.length:Int)) then bT (ZG x0.3 acc.1) fun y=>bif decide ((if y.2 < y.1 then y.2 else y.1) < 0) || decide ((if y.2 > y.1 then y.2 else y.1) ≥ (↑x0.2.length:Int)) || y.1 == y.2 then some 2 else bif decide (y.3 < 1) || decide (y.3 > 1000000000) then some 2 else bif hasK (MK.pint Go.IntKind.i64) acc.2.1 (y.1,y.2) then some 4 else self (Go.IntKind.i64.wrap (acc.1 + 1),EL (MK.pint Go.IntKind.i64) acc.2.1 (y.1,y.2),()) else some 0
theorem Ziq (L:Nat)(x0:Zk):UY L (x0,())=bif decide ((↑x0.3.length:Int) > 32) then some 6 else Zq (Jn x0) L (0,[],()):=by kernel_rfl
def UX (L:Nat)(x:Y4×ZJ×PUnit):Option Bool:=fT [] L O8 [] (.one .bool) [.row 16,.row 10] x
def Me (L:Nat):Sum tT:=mU 66 [.row 16,.row 10] (.one .bool) (UX L)
theorem Zbu:SX Me:=fun h=>sT h Zr rfl (by kernel_rfl) fun _=>rfl
theorem Zbf (L:Nat)(x0:Y4)(x1:ZJ):UX L (x0,x1,())=some (x0.1 == x1.1 && x0.2 == (↑x1.2.length:Int) && (↑x1.4.length:Int) == 0):=by kernel_rfl
def Zct:List (Inl tT):=[⟨65,ZP,[.rnd [.slot 17 (.int .i64)]],.one (.bool),[]⟩]
end Go.Proofs.YtleomfgijkapfaaGreatDoor
end
noncomputable section
namespace Go.Proofs.YtleomfgijkapfaaGreatDoor
open Go Go.Proofs.YtleomfgijkapfaaGreatDoor.Abs Go.Proofs.YtleomfgijkapfaaGreatDoor.Tl
set_option maxRecDepth 100000
set_option maxHeartbeats 0
def Ui (L:Nat)(x:ZC×PUnit):Option Bool:=fI [Me L] L Zct DL [] (.one .bool) [.row 17] x
def Nr (L:Nat):Sum tT:=mU 29 [.row 17] (.one .bool) (Ui L)
theorem ZeS:SX Nr:=fun h=>sI h (Zb (Zbu h) Zr) (Zb ⟨h.T _ _ rfl,by kernel_rfl⟩ Zr) rfl (by kernel_rfl) fun _=>rfl
def VX:ZC→Nat→(Int×PUnit→Option Bool)→Int×PUnit→Option Bool:=fun x0 L self acc=>bif decide (acc.1 < (↑x0.2.length:Int)) then bT (ZG x0.2 acc.1) fun y=>bT (ZG x0.Decl.11 acc.1) fun y_1=>bT (UX L (y,y_1,())) fun y=>bif !y then some false else self (Go.IntKind.i64.wrap (acc.1 + 1),()) else some true
theorem PQ (L:Nat)(x0:ZC):Ui L (x0,())=bT (bif (↑x0.2.length:Int) != (↑x0.Decl.11.length:Int) then some false else Zq (VX x0 L) L (0,())) fun y=>some y:=by kernel_rfl
def ZA (L:Nat)(x:Int×Int×Int×PUnit):Option Bool:=fT [] L Rh [] (.one .bool) [.int .i64,.int .i64,.int .i64] x
def WX (L:Nat):Sum tT:=mU 116 [.int .i64,.int .i64,.int .i64] (.one .bool) (ZA L)
theorem Q8:SX WX:=fun h=>sT h Zr rfl (by kernel_rfl) fun _=>rfl
theorem Zc1 (L:Nat)(x0:Int)(x1:Int)(x2:Int):ZA L (x0,x1,x2,())=some (decide (x0 ≥ x1) && decide (x0≤x2)):=by kernel_rfl
def Zej:List (Inl tT):=[⟨189,Yy,[.rnd [.slot 8 (.int .i64)]],.one (.int .i64),[]⟩,⟨190,LJ,[],.one (.bool),[]⟩]
def MM (L:Nat)(x:Ql×(List UInt8)×PUnit):Option Int:=fI [] L Zej Ew [] (.one (.int .i64)) [.row 21,.str] x
def A7 (L:Nat):Sum tT:=mU 142 [.row 21,.str] (.one (.int .i64)) (MM L)
theorem ZgS:SX A7:=fun h=>sI h Zr (Zb ⟨h.T _ _ rfl,by kernel_rfl⟩ (Zb ⟨h.T _ _ rfl,by kernel_rfl⟩ Zr)) rfl (by kernel_rfl) fun _=>rfl
def Zcw:List (Inl tT):=[⟨140,V7,[.rnd [.slot 16 (.int .i64),.cont 1 (.map .pstr)]],.one (.int .i64),[(3,[.cont 1 (.map .pstr)])]⟩,⟨141,OE,[],.one (.int .i64),[(4,[.cont 1 (.map .pstr)])]⟩]
def Ul (L:Nat)(x:Ql×PUnit):Option Int:=fI [WX L,A7 L] L Zcw DZ [] (.one (.int .i64)) [.row 21] x
def Nz (L:Nat):Sum tT:=mU 64 [.row 21] (.one (.int .i64)) (Ul L)
theorem ZeX:SX Nz:=fun h=>sI h (Zb (Q8 h) (Zb (ZgS h) Zr)) (Zb ⟨h.T _ _ rfl,by kernel_rfl⟩ (Zb ⟨h.T _ _ rfl,by kernel_rfl⟩ Zr)) rfl (by kernel_rfl) fun _=>rfl
def Ru:Ql→Nat→(Int×List (List UInt8×List UInt8)×PUnit→Option (Int×List (List UInt8×List UInt8)×PUnit))→Int×List (List UInt8×List UInt8)×PUnit→Option (Int×List (List UInt8×List UInt8)×PUnit):=fun x0 L self acc=>bif decide (acc.1 < (↑x0.4.length:Int)) then bT (ZG x0.4 acc.1) fun y=>bT (bT (MM L (x0,y.1,())) fun y_1=>bT (bif decide (y_1 < 0) == false then bT (MM L (x0,y.2,())) fun y=>some (decide (y < 0)) else some true) fun y_2=>bif y_2 then some (5,acc.2.1,()) else bif y.1 == y.2 then some (1,acc.2.1,()) else bT (ZA L (y.3,1,1000000000,())) fun y_3=>bif !y_3 then some (2,acc.2.1,()) else bif hasK MK.pstr acc.2.1 (y.1,y.2) then some (4,acc.2.1,()) else some (0,EL MK.pstr acc.2.1 (y.1,y.2),())) fun y=>bif y.1 != 0 then some (y.1,y.2.1,()) else self (Go.IntKind.i64.wrap (acc.1 + 1),y.2.1,()) else some (0,acc.2.1,())
theorem ZeD (L:Nat)(x0:Ql):Ul L (x0,())=bT (bif decide ((↑x0.4.length:Int) > 32) then some (6,[],()) else Zq (Ru x0 L) L (0,[],())) fun y=>some y.1:=by kernel_rfl
def YW (L:Nat)(x:(List (List UInt8))×(List UInt8)×PUnit):Option Int:=fT [] L Qn [.rnd [.slot 8 (.int .i64)]] (.one (.int .i64)) [.lst 1 .str,.str] x
def Qr (L:Nat):Sum tT:=mU 222 [.lst 1 .str,.str] (.one (.int .i64)) (YW L)
theorem Jz:SX Qr:=fun h=>sT h Zr rfl (by kernel_rfl) fun _=>rfl
def YO:List (List UInt8)→List UInt8→(Int×PUnit→Option Int)→Int×PUnit→Option Int:=fun x0 x1 self acc=>bif decide (acc.1 < (↑x0.length:Int)) then bT (ZG x0 acc.1) fun y=>bif x1 == y then some acc.1 else self (Go.IntKind.i64.wrap (acc.1 + 1),()) else some (-1)
theorem Jt (L:Nat)(x0:(List (List UInt8)))(x1:(List UInt8)):YW L (x0,x1,())=Zq (YO x0 x1) L (0,()):=by kernel_rfl
def ZR (L:Nat)(x:(List (List UInt8))×(List UInt8)×PUnit):Option Bool:=fT [Qr L] L WH [] (.one .bool) [.lst 1 .str,.str] x
def YE (L:Nat):Sum tT:=mU 179 [.lst 1 .str,.str] (.one .bool) (ZR L)
theorem WO:SX YE:=fun h=>sT h (Zb (Jz h) Zr) rfl (by kernel_rfl) fun _=>rfl
theorem Vl (L:Nat)(x0:(List (List UInt8)))(x1:(List UInt8)):ZR L (x0,x1,())=bT (YW L (x0,x1,())) fun y=>some (decide (y ≥ 0)):=by kernel_rfl
def Fg:List (Inl tT):=[⟨227,Y7,[.rnd [.slot 8 (.int .i64)]],.one (.int .i64),[]⟩,⟨228,G5,[],.one (.bool),[]⟩]
def WB (L:Nat)(x:Zd×(List UInt8)×PUnit):Option Int:=fI [] L Fg OD [] (.one (.int .i64)) [.row 14,.str] x
def UW (L:Nat):Sum tT:=mU 182 [.row 14,.str] (.one (.int .i64)) (WB L)
theorem TK:SX UW:=fun h=>sI h Zr (Zb ⟨h.T _ _ rfl,by kernel_rfl⟩ (Zb ⟨h.T _ _ rfl,by kernel_rfl⟩ Zr)) rfl (by kernel_rfl) fun _=>rfl
def JF:Zd→List UInt8→(Int×PUnit→Option Int)→Int×PUnit→Option Int:=fun x0 x1 self acc=>bif decide (acc.1 < (↑x0.11.length:Int)) then bT (ZG x0.11 acc.1) fun y=>bif y.1 == x1 then some acc.1 else self (Go.IntKind.i64.wrap (acc.1 + 1),()) else some (-1)
theorem Zbh (L:Nat)(x0:Zd)(x1:(List UInt8)):WB L (x0,x1,())=bT (Zq (JF x0 x1) L (0,())) fun y=>some y:=by kernel_rfl
def Zem:List (Inl tT):=[⟨229,Yl,[],.one (.bool),[]⟩,⟨251,Yt,[.rnd [.slot 8 (.int .i64)]],.one (.int .i64),[]⟩,⟨230,Rf,[],.one (.bool),[]⟩]
def KW (L:Nat)(x:Zd×Gy×PUnit):Option Int:=fI [WX L,YE L,UW L] L Zem E8 [] (.one (.int .i64)) [.row 14,.row 12] x
def AB (L:Nat):Sum tT:=mU 187 [.row 14,.row 12] (.one (.int .i64)) (KW L)
theorem ZgV:SX AB:=fun h=>sI h (Zb (Q8 h) (Zb (WO h) (Zb (TK h) Zr))) (Zb ⟨h.T _ _ rfl,by kernel_rfl⟩ (Zb ⟨h.T _ _ rfl,by kernel_rfl⟩ (Zb ⟨h.T _ _ rfl,by kernel_rfl⟩ Zr))) rfl (by kernel_rfl) fun _=>rfl
def Xe:Zd→Gy→(Int×PUnit→Option Int)→Int×PUnit→Option Int:=fun x0 x1 self acc=>bif decide (acc.1 < (↑x0.4.length:Int)) then bT (ZG x0.4 acc.1) fun y=>bif y.1 == x1.3 then some acc.1 else self (Go.IntKind.i64.wrap (acc.1 + 1),()) else some (-1)
def PI:Zd→Gy→(Int×PUnit→Option Int)→Int×PUnit→Option Int:=fun x0 x1 self acc=>bif decide (acc.1 < (↑x0.4.length:Int)) then bT (ZG x0.4 acc.1) fun y=>bif y.1 == x1.3 then some acc.1 else self (Go.IntKind.i64.wrap (acc.1 + 1),()) else some (-1)
def PK:Zd→Gy→(Int×PUnit→Option Int)→Int×PUnit→Option Int:=fun x0 x1 self acc=>bif decide (acc.1 < (↑x0.4.length:Int)) then bT (ZG x0.4 acc.1) fun y=>bif y.1 == x1.3 then some acc.1 else self (Go.IntKind.i64.wrap (acc.1 + 1),()) else some (-1)
theorem Zg7 (L:Nat)(x0:Zd)(x1:Gy):KW L (x0,x1,())=bif x1.2 == [99,114,101,97,116,101,100] then bT (WB L (x0,x1.3,())) fun y=>bif !decide (y ≥ 0) then some 5 else bT (ZA L (x1.1,(-1000),1000,())) fun y=>bif !y || x1.1 == 0 then some 2 else some 0 else bif x1.2 == [101,110,100,101,100] then bT (WB L (x0,x1.3,())) fun y=>bif !decide (y ≥ 0) then some 5 else bT (ZA L (x1.1,(-1000),1000,())) fun y=>bif !y || x1.1 == 0 then some 2 else some 0 else bif x1.2 == [105,110,115,105,100,101] then bT (WB L (x0,x1.3,())) fun y=>bif !decide (y ≥ 0) then some 5 else bT (ZA L (x1.1,(-1000),1000,())) fun y=>bif !y || x1.1 == 0 then some 2 else some 0 else bif x1.2 == [115,116,111,114,101,100] then bT (bT (Zq (Xe x0 x1) L (0,())) fun y=>some (decide (y ≥ 0))) fun y=>bif !y then some 5 else bT (ZA L (x1.1,(-1000),1000,())) fun y=>bif !y || x1.1 == 0 then some 2 else some 0 else bif x1.2 == [101,110,116,101,114,101,100] then bT (bT (Zq (PI x0 x1) L (0,())) fun y=>some (decide (y ≥ 0))) fun y=>bif !y then some 5 else bT (ZA L (x1.1,(-1000),1000,())) fun y=>bif !y || x1.1 == 0 then some 2 else some 0 else bif x1.2 == [108,101,102,116] then bT (bT (Zq (PK x0 x1) L (0,())) fun y=>some (decide (y ≥ 0))) fun y=>bif !y then some 5 else bT (ZA L (x1.1,(-1000),1000,())) fun y=>bif !y || x1.1 == 0 then some 2 else some 0 else bif x1.2 == [99,111,117,110,116,101,100] then bT (ZR L (x0.10,x1.3,())) fun y=>bif !y then some 5 else bT (ZA L (x1.1,(-1000),1000,())) fun y=>bif !y || x1.1 == 0 then some 2 else some 0 else some 1:=by kernel_rfl
def Zek:List (Inl tT):=[⟨183,Jm,[.rnd [.slot 16 (.int .i64),.cont 1 (.map .str)]],.one (.int .i64),[(3,[.cont 1 (.map .str)])]⟩,⟨184,LK,[],.one (.int .i64),[(4,[.cont 1 (.map .str)])]⟩,⟨185,V8,[.rnd [.slot 16 (.int .i64),.cont 1 (.map .str)]],.one (.int .i64),[(5,[.cont 1 (.map .str)])]⟩,⟨186,IZ,[],.one (.int .i64),[]⟩,⟨62,YR,[],.one (.int .i64),[(5,[.cont 1 (.map .str)])]⟩]
def KT (L:Nat)(x:Zd×PUnit):Option Int:=fI [Cc L,AB L,Wq L] L Zek Ez [] (.one (.int .i64)) [.row 14] x
def A8 (L:Nat):Sum tT:=mU 139 [.row 14] (.one (.int .i64)) (KT L)
theorem ZgT:SX A8:=fun h=>sI h (Zb (ZeZ h) (Zb (ZgV h) (Zb (WN h) Zr))) (Zb ⟨h.T _ _ rfl,by kernel_rfl⟩ (Zb ⟨h.T _ _ rfl,by kernel_rfl⟩ (Zb ⟨h.T _ _ rfl,by kernel_rfl⟩ (Zb ⟨h.T _ _ rfl,by kernel_rfl⟩ (Zb ⟨h.T _ _ rfl,by kernel_rfl⟩ Zr))))) rfl (by kernel_rfl) fun _=>rfl
def JX:Zd→Nat→Zcj→(Int×List (List UInt8)×PUnit→Option (Int×List (List UInt8)×PUnit))→Int×List (List UInt8)×PUnit→Option (Int×List (List UInt8)×PUnit):=fun x0 L y self acc=>bif decide (acc.1 < (↑y.2.length:Int)) then bT (ZG y.2 acc.1) fun y=>bT (bT (KW L (x0,y,())) fun y=>some y) fun y=>bif y != 0 then some (y,acc.2.1,()) else self (Go.IntKind.i64.wrap (acc.1 + 1),acc.2.1,()) else some (0,acc.2.1,())
def JY:Zd→Nat→(Int×List (List UInt8)×PUnit→Option (Int×List (List UInt8)×PUnit))→Int×List (List UInt8)×PUnit→Option (Int×List (List UInt8)×PUnit):=fun x0 L self acc=>bif decide (acc.1 < (↑x0.13.length:Int)) then bT (ZG x0.13 acc.1) fun y=>bT (bT (bT (ZF L (y.1,())) fun y_1=>bif y_1 != 0 then some (y_1,acc.2.1,()) else bif hasK MK.str acc.2.1 y.1 then some (4,acc.2.1,()) else some (0,EL MK.str acc.2.1 y.1,())) fun y_1=>bif y_1.1 != 0 then some (y_1.1,y_1.2.1,()) else bif (↑y.2.length:Int) == 0 then some (7,y_1.2.1,()) else bT (bif decide ((↑y.2.length:Int) > 8) then some (6,y_1.2.1,()) else Zq (JX x0 L y) L (0,y_1.2.1,())) fun y_2=>bif y_2.1 != 0 then some (y_2.1,y_2.2.1,()) else bT (Ll L (y.3,())) fun y=>bif !y then some (2,y_2.2.1,()) else some (0,y_2.2.1,())) fun y=>bif y.1 != 0 then some (y.1,y.2.1,()) else self (Go.IntKind.i64.wrap (acc.1 + 1),y.2.1,()) else some (0,acc.2.1,())
theorem Zg5 (L:Nat)(x0:Zd):KT L (x0,())=bT (bif decide ((↑x0.13.length:Int) > 32) then some (6,[],()) else Zq (JY x0 L) L (0,[],())) fun y=>some y.1:=by kernel_rfl
def XW (L:Nat)(x:Int×Int×PUnit):Option Bool:=fT [WX L,Cc L] L Ey [] (.one .bool) [.int .i64,.int .i64] x
def KP (L:Nat):Sum tT:=mU 178 [.int .i64,.int .i64] (.one .bool) (XW L)
theorem TL:SX KP:=fun h=>sT h (Zb (Q8 h) (Zb (ZeZ h) Zr)) rfl (by kernel_rfl) fun _=>rfl
theorem Zg4 (L:Nat)(x0:Int)(x1:Int):XW L (x0,x1,())=bif x0 == 1 then bT (Ll L (x1,())) fun y=>some y else bif x0 == 2 then some (x1 == 0 || x1 == 1) else bif x0 == 3 then bT (ZA L (x1,0,1000000000,())) fun y=>some y else some false:=by kernel_rfl
end Go.Proofs.YtleomfgijkapfaaGreatDoor
end
noncomputable section
namespace Go.Proofs.YtleomfgijkapfaaGreatDoor
open Go Go.Proofs.YtleomfgijkapfaaGreatDoor.Abs Go.Proofs.YtleomfgijkapfaaGreatDoor.Tl
set_option maxRecDepth 100000
set_option maxHeartbeats 0
def Um (L:Nat)(x:Zd×QC×PUnit):Option Int:=fT [WX L,KP L,UW L] L Pe [.rnd [.slot 30 (.int .i64)]] (.one (.int .i64)) [.row 14,.row 11] x
def N7 (L:Nat):Sum tT:=mU 137 [.row 14,.row 11] (.one (.int .i64)) (Um L)
theorem ZeY:SX N7:=fun h=>sT h (Zb (Q8 h) (Zb (TL h) (Zb (TK h) Zr))) rfl (by kernel_rfl) fun _=>rfl
def Ja:QC→Nat→ZJ→(Int×PUnit→Option Int)→Int×PUnit→Option Int:=fun x1 L y self acc=>bif decide (acc.1 < (↑x1.2.length:Int)) then bT (ZG x1.2 acc.1) fun y_1=>bT (ZG y.2 acc.1) fun y=>bT (XW L (y.2,y_1,())) fun y=>bif !y then some 2 else self (Go.IntKind.i64.wrap (acc.1 + 1),()) else bT (ZA L (x1.3,0,1000000000,())) fun y=>bT (bif (!y) == false then bT (ZA L (x1.4,0,1000000000,())) fun y=>some !y else some true) fun y=>bT (bif y == false then bT (ZA L (x1.5,0,1000000000,())) fun y=>some !y else some true) fun y=>bif y || x1.4 == 0 && x1.5 != 0 then some 2 else some 0
theorem ZeE (L:Nat)(x0:Zd)(x1:QC):Um L (x0,x1,())=bT (WB L (x0,x1.1,())) fun y=>bif decide (y < 0) then some 5 else bT (ZG x0.11 y) fun y=>bif (↑x1.2.length:Int) != (↑y.2.length:Int) then some 8 else Zq (Ja x1 L y) L (0,()):=by kernel_rfl
def J6 (L:Nat)(x:Zt×PUnit):Option Int:=fT [XG L] L Eu [] (.one (.int .i64)) [.row 8] x
def Au (L:Nat):Sum tT:=mU 266 [.row 8] (.one (.int .i64)) (J6 L)
theorem ZgP:SX Au:=fun h=>sT h (Zb (UM h) Zr) rfl (by kernel_rfl) fun _=>rfl
theorem Zg1 (L:Nat)(x0:Zt):J6 L (x0,())=bT (W9 L (Qd.mk false,x0,())) fun y=>some y:=by kernel_rfl
def Gf (L:Nat)(x:Zy×U4×PUnit):Option Int:=fT [KO L,Au L,Wq L] L EK [.rnd [.slot 4 (.int .i64),.slot 26 (.int .i64)],.rnd [.slot 4 (.int .i64),.slot 53 (.int .i64)],.rnd [.slot 74 (.int .i64)]] (.one (.int .i64)) [.row 9,.row 26] x
def MI (L:Nat):Sum tT:=mU 250 [.row 9,.row 26] (.one (.int .i64)) (Gf L)
theorem Am:SX MI:=fun h=>sT h (Zb (TJ h) (Zb (ZgP h) (Zb (WN h) Zr))) rfl (by kernel_rfl) fun _=>rfl
def Uf:Zy→U4→Nat→(Int×PUnit→Option Int)→Int×PUnit→Option Int:=fun x0 x1 L self acc=>bif decide (acc.1 < (↑x0.6.length:Int)) then bT (ZG x0.6 acc.1) fun y=>bT (J6 L (y,())) fun y=>bif y != 0 then some y else self (Go.IntKind.i64.wrap (acc.1 + 1),()) else bif x1.6 then bT (WS L (x0.7,())) fun y=>some y else some 0
def Ir:Zy→U4→Nat→Int×Int×PUnit→(Int×Int×PUnit→Option Int)→Int×Int×PUnit→Option Int:=fun x0 x1 L acc self acc_1=>bif decide (acc_1.2.1 < (↑[Hu.mk x1.3 x0.4,Hu.mk x1.4 x0.5].length:Int)) then bT (ZG [Hu.mk x1.3 x0.4,Hu.mk x1.4 x0.5] acc_1.2.1) fun y=>bif !y.1 then self (acc_1.1,Go.IntKind.i64.wrap (acc_1.2.1 + 1),()) else bT (J6 L (y.2,())) fun y=>bif y != 0 then some y else self (acc_1.1,Go.IntKind.i64.wrap (acc_1.2.1 + 1),()) else bif decide ((↑x0.6.length:Int) > 6) then some 6 else Zq (Uf x0 x1 L) L (0,())
def Nl:Zy→U4→Nat→(Int×Int×PUnit→Option Int)→Int×Int×PUnit→Option Int:=fun x0 x1 L self acc=>bif decide (acc.2.1 < (↑[Hw.mk x1.1 x0.2,Hw.mk x1.2 x0.3].length:Int)) then bT (ZG [Hw.mk x1.1 x0.2,Hw.mk x1.2 x0.3] acc.2.1) fun y=>bT (ZF L (y.2,())) fun y_1=>bif y.1 && y_1 != 0 then some y_1 else self (acc.1,Go.IntKind.i64.wrap (acc.2.1 + 1),()) else Zq (Ir x0 x1 L acc) L (acc.1,0,())
theorem ZgJ (L:Nat)(x0:Zy)(x1:U4):Gf L (x0,x1,())=Zq (Nl x0 x1 L) L (0,0,()):=by kernel_rfl
def Vx (L:Nat)(x:Zt×PUnit):Option Bool:=fT [Dq L] L Pq [] (.one .bool) [.row 8] x
def NG (L:Nat):Sum tT:=mU 265 [.row 8] (.one .bool) (Vx L)
theorem Zff:SX NG:=fun h=>sT h (Zb (Zbv h) Zr) rfl (by kernel_rfl) fun _=>rfl
theorem ZeL (L:Nat)(x0:Zt):Vx L (x0,())=bT (I8 L (x0,Zt.mk 0 [] 0 [],())) fun y=>some y:=by kernel_rfl
def IP (L:Nat)(x:Zy×U4×PUnit):Option Bool:=fT [Iu L,NG L] L Zao [] (.one .bool) [.row 9,.row 26] x
def Dz (L:Nat):Sum tT:=mU 249 [.row 9,.row 26] (.one .bool) (IP L)
theorem Zb5:SX Dz:=fun h=>sT h (Zb (Dc h) (Zb (Zff h) Zr)) rfl (by kernel_rfl) fun _=>rfl
theorem ZiM (L:Nat)(x0:Zy)(x1:U4):IP L (x0,x1,())=bT (bif ((x1.1 || x0.2 == []) && (x1.2 || x0.3 == [])) == true then bif x1.3 == false then bT (Vx L (x0.4,())) fun y=>some y else some true else some false) fun y=>bT (bif y == true then bif x1.4 == false then bT (Vx L (x0.5,())) fun y=>some y else some true else some false) fun y=>bT (bif (y && (x1.5 || (↑x0.6.length:Int) == 0)) == true then bif x1.6 == false then bT (XI L (x0.7,Y9.mk 0 0 0 0 [] [],())) fun y=>some y else some true else some false) fun y=>some (y && (x1.7 || !x0.8) && (x1.8 || (↑x0.9.length:Int) == 0) && (x1.9 || (↑x0.10.length:Int) == 0)):=by kernel_rfl
def IQ (L:Nat)(x:Int×PUnit):Option (U4×Bool×PUnit):=fT [] L Zap [] (.tup [.row 26,.bool]) [.int .i64] x
def D5 (L:Nat):Sum tT:=mU 248 [.int .i64] (.tup [.row 26,.bool]) (IQ L)
theorem Zb6:SX D5:=fun h=>sT h Zr rfl (by kernel_rfl) fun _=>rfl
theorem ZiN (L:Nat)(x0:Int):IQ L (x0,())=bif x0 == 1 then some (U4.mk true false true false false false false false false,true,()) else bif x0 == 7 then some (U4.mk true false true false false false false false false,true,()) else bif x0 == 8 then some (U4.mk true false true false false false false false false,true,()) else bif x0 == 12 then some (U4.mk true false true false false false false false false,true,()) else bif x0 == 15 then some (U4.mk true false true false false false false false false,true,()) else bif x0 == 16 then some (U4.mk true false true false false false false false false,true,()) else bif x0 == 17 then some (U4.mk true false true false false false false false false,true,()) else bif x0 == 2 then some (U4.mk true true false false false true false false false,true,()) else bif x0 == 3 then some (U4.mk false false true false false false false true true,true,()) else bif x0 == 4 then some (U4.mk false false true false false false false true false,true,()) else bif x0 == 5 then some (U4.mk false false true false false false false false false,true,()) else bif x0 == 6 then some (U4.mk true false true true false false true false false,true,()) else bif x0 == 9 then some (U4.mk true true false false false false false false false,true,()) else bif x0 == 10 then some (U4.mk true false false false false false false false false,true,()) else bif x0 == 11 then some (U4.mk true false false false false false false false false,true,()) else bif x0 == 13 then some (U4.mk true true true false true false false false false,true,()) else bif x0 == 14 then some (U4.mk true false true false true false false false false,true,()) else bif x0 == 18 then some (U4.mk false false false false false false false false false,true,()) else some (U4.mk false false false false false false false false false,false,()):=by kernel_rfl
def Il (L:Nat):Nat→List (Sum tT)
 | 0=>[⟨226,[.lst 21 (.row 9)],fun _=>.par _ none ((.one (.int .i64):RD).tv tT)⟩]
 | m + 1=>[⟨226,[.lst 21 (.row 9)],fun x=>.par _ (fnT tF tG (qOf tF (Il L m ++ [MI L,Dz L,D5 L])) 0 L OV [.rnd [.slot 12 (.int .i64)]] (.one (.int .i64)) (tvL tT [.lst 21 (.row 9)] x) []) ((.one (.int .i64):RD).tv tT)⟩]
theorem Oq {C:Cfg}{L:Nat}(h:St C L):∀ m,∀ s ∈ Il L m,WT C s
 | 0=>(Zb (WQ _ _ _) Zr)
 | m + 1=>have ih:=Oq h m
  (Zb (Ym Yi h.L h.G (YP Yi (Xm ih (Zb (Am h) (Zb (Zb5 h) (Zb (Zb6 h) Zr))))) [.rnd [.slot 12 (.int .i64)]] (h.T _ _ rfl) (by kernel_rfl) fun _=>rfl) Zr)
def V3 (L m:Nat)(x:(List Zy)×PUnit):Option (Int):=fnT tF tG (qOf tF (Il L m ++ [MI L,Dz L,D5 L])) 0 L OV [.rnd [.slot 12 (.int .i64)]] (.one (.int .i64)) (tvL tT [.lst 21 (.row 9)] x) []
def MP (L:Nat)(x:(List Zy)×PUnit):Option (Int):=V3 L L x
def AY (L:Nat):Sum tT:=⟨226,[.lst 21 (.row 9)],fun x=>.par ((.one (.int .i64):RD).Ty tT) (MP L x) ((.one (.int .i64):RD).tv tT)⟩
theorem Zhe {C:Cfg}{L:Nat}(h:St C L):WT C (AY L):=have ih:=Oq h L
 Ym Yi h.L h.G (YP Yi (Xm ih (Zb (Am h) (Zb (Zb5 h) (Zb (Zb6 h) Zr))))) [.rnd [.slot 12 (.int .i64)]] (h.T _ _ rfl) (by kernel_rfl) fun _=>rfl
def Iq:Nat→List Zy→Nat→(Int×PUnit→Option Int)→Int×PUnit→Option Int:=fun (m:Nat)=>fun x0 L self acc=>bif decide (acc.1 < (↑x0.length:Int)) then bT (ZG x0 acc.1) fun y=>bT (IQ L (y.1,())) fun y_1=>bT (bif (!y_1.2.1) == false then bT (IP L (y,y_1.1,())) fun y=>some !y else some true) fun y_2=>bif y_2 then some 1 else bT (Gf L (y,y_1.1,())) fun y_3=>bif y_3 != 0 then some y_3 else bT (V3 L m (y.9,())) fun y_4=>bif y_4 != 0 then some y_4 else bT (V3 L m (y.10,())) fun y=>bif y != 0 then some y else self (Go.IntKind.i64.wrap (acc.1 + 1),()) else some 0
theorem ZgI (L m:Nat)(x0:(List Zy)):V3 L (m + 1) (x0,())=Zq (Iq m x0 L) L (0,()):=by kernel_rfl
def Ik (L:Nat):Nat→List (Sum tT)
 | 0=>[⟨225,[.lst 21 (.row 9)],fun _=>.par _ none ((.one (.int .i64):RD).tv tT)⟩]
 | m + 1=>[⟨225,[.lst 21 (.row 9)],fun x=>.par _ (fnT tF tG (qOf tF (Ik L m ++ [])) 0 L OU [.rnd [.slot 3 (.int .i64),.slot 8 (.int .i64)]] (.one (.int .i64)) (tvL tT [.lst 21 (.row 9)] x) []) ((.one (.int .i64):RD).tv tT)⟩]
theorem Oo {C:Cfg}{L:Nat}(h:St C L):∀ m,∀ s ∈ Ik L m,WT C s
 | 0=>(Zb (WQ _ _ _) Zr)
 | m + 1=>have ih:=Oo h m
  (Zb (Ym Yi h.L h.G (YP Yi (Xm ih Zr)) [.rnd [.slot 3 (.int .i64),.slot 8 (.int .i64)]] (h.T _ _ rfl) (by kernel_rfl) fun _=>rfl) Zr)
def Vz (L m:Nat)(x:(List Zy)×PUnit):Option (Int):=fnT tF tG (qOf tF (Ik L m ++ [])) 0 L OU [.rnd [.slot 3 (.int .i64),.slot 8 (.int .i64)]] (.one (.int .i64)) (tvL tT [.lst 21 (.row 9)] x) []
def MO (L:Nat)(x:(List Zy)×PUnit):Option (Int):=Vz L L x
def AX (L:Nat):Sum tT:=⟨225,[.lst 21 (.row 9)],fun x=>.par ((.one (.int .i64):RD).Ty tT) (MO L x) ((.one (.int .i64):RD).tv tT)⟩
theorem Zhd {C:Cfg}{L:Nat}(h:St C L):WT C (AX L):=have ih:=Oo h L
 Ym Yi h.L h.G (YP Yi (Xm ih Zr)) [.rnd [.slot 3 (.int .i64),.slot 8 (.int .i64)]] (h.T _ _ rfl) (by kernel_rfl) fun _=>rfl
def Ip:Nat→List Zy→Nat→(Int×Int×PUnit→Option Int)→Int×Int×PUnit→Option Int:=fun (m:Nat)=>fun x0 L self acc=>bif decide (acc.2.1 < (↑x0.length:Int)) then bT (ZG x0 acc.2.1) fun y=>bT (bT (Vz L m (y.9,())) fun y=>some y) fun y_1=>bT (bT (Vz L m (y.10,())) fun y=>some y) fun y=>self (if Go.IntKind.i64.wrap (1 + y) > if Go.IntKind.i64.wrap (1 + y_1) > acc.1 then Go.IntKind.i64.wrap (1 + y_1) else acc.1 then Go.IntKind.i64.wrap (1 + y) else if Go.IntKind.i64.wrap (1 + y_1) > acc.1 then Go.IntKind.i64.wrap (1 + y_1) else acc.1,Go.IntKind.i64.wrap (acc.2.1 + 1),()) else some acc.1
theorem ZgH (L m:Nat)(x0:(List Zy)):Vz L (m + 1) (x0,())=Zq (Ip m x0 L) L (0,0,()):=by kernel_rfl
def Ij (L:Nat):Nat→List (Sum tT)
 | 0=>[⟨224,[.lst 21 (.row 9)],fun _=>.par _ none ((.one (.int .i64):RD).tv tT)⟩]
 | m + 1=>[⟨224,[.lst 21 (.row 9)],fun x=>.par _ (fnT tF tG (qOf tF (Ij L m ++ [])) 0 L OT [.rnd [.slot 3 (.int .i64),.slot 10 (.int .i64)]] (.one (.int .i64)) (tvL tT [.lst 21 (.row 9)] x) []) ((.one (.int .i64):RD).tv tT)⟩]
theorem Om {C:Cfg}{L:Nat}(h:St C L):∀ m,∀ s ∈ Ij L m,WT C s
 | 0=>(Zb (WQ _ _ _) Zr)
 | m + 1=>have ih:=Om h m
  (Zb (Ym Yi h.L h.G (YP Yi (Xm ih Zr)) [.rnd [.slot 3 (.int .i64),.slot 10 (.int .i64)]] (h.T _ _ rfl) (by kernel_rfl) fun _=>rfl) Zr)
def Vy (L m:Nat)(x:(List Zy)×PUnit):Option (Int):=fnT tF tG (qOf tF (Ij L m ++ [])) 0 L OT [.rnd [.slot 3 (.int .i64),.slot 10 (.int .i64)]] (.one (.int .i64)) (tvL tT [.lst 21 (.row 9)] x) []
def MN (L:Nat)(x:(List Zy)×PUnit):Option (Int):=Vy L L x
def AU (L:Nat):Sum tT:=⟨224,[.lst 21 (.row 9)],fun x=>.par ((.one (.int .i64):RD).Ty tT) (MN L x) ((.one (.int .i64):RD).tv tT)⟩
theorem Zhc {C:Cfg}{L:Nat}(h:St C L):WT C (AU L):=have ih:=Om h L
 Ym Yi h.L h.G (YP Yi (Xm ih Zr)) [.rnd [.slot 3 (.int .i64),.slot 10 (.int .i64)]] (h.T _ _ rfl) (by kernel_rfl) fun _=>rfl
def Io:Nat→List Zy→Nat→(Int×Int×PUnit→Option Int)→Int×Int×PUnit→Option Int:=fun (m:Nat)=>fun x0 L self acc=>bif decide (acc.2.1 < (↑x0.length:Int)) then bT (ZG x0 acc.2.1) fun y=>bT (bT (Vy L m (y.9,())) fun y=>some y) fun y_1=>bT (bT (Vy L m (y.10,())) fun y=>some y) fun y=>self (Go.IntKind.i64.wrap (acc.1 + Go.IntKind.i64.wrap (y_1 + y)),Go.IntKind.i64.wrap (acc.2.1 + 1),()) else some acc.1
theorem ZgG (L m:Nat)(x0:(List Zy)):Vy L (m + 1) (x0,())=Zq (Io m x0 L) L ((↑x0.length:Int),0,()):=by kernel_rfl
def KZ (L:Nat)(x:(List Zy)×PUnit):Option Int:=fT [AY L,AX L,AU L] L EJ [] (.one (.int .i64)) [.lst 21 (.row 9)] x
def AQ (L:Nat):Sum tT:=mU 181 [.lst 21 (.row 9)] (.one (.int .i64)) (KZ L)
theorem Zhb:SX AQ:=fun h=>sT h (Zb (Zhe h) (Zb (Zhd h) (Zb (Zhc h) Zr))) rfl (by kernel_rfl) fun _=>rfl
theorem ZgF (L:Nat)(x0:(List Zy)):KZ L (x0,())=bT (MN L (x0,())) fun y=>bif decide (y > 200) then some 6 else bT (MO L (x0,())) fun y=>bif decide (y > 12) then some 11 else bT (MP L (x0,())) fun y=>some y:=by kernel_rfl
end Go.Proofs.YtleomfgijkapfaaGreatDoor
end
noncomputable section
namespace Go.Proofs.YtleomfgijkapfaaGreatDoor
open Go Go.Proofs.YtleomfgijkapfaaGreatDoor.Abs Go.Proofs.YtleomfgijkapfaaGreatDoor.Tl
set_option maxRecDepth 100000
set_option maxHeartbeats 0
def Xh (L:Nat)(x:Int×PUnit):Option Bool:=fT [] L DY [] (.one .bool) [.int .i64] x
def Ug (L:Nat):Sum tT:=mU 177 [.int .i64] (.one .bool) (Xh L)
theorem Ie:SX Ug:=fun h=>sT h Zr rfl (by kernel_rfl) fun _=>rfl
theorem ZeC (L:Nat)(x0:Int):Xh L (x0,())=some (decide (x0 ≥ 1) && decide (x0≤3)):=by kernel_rfl
def ZV (L:Nat)(x:(List (List YX))×PUnit):Option (List YX):=fT [Zrf] L Wj [.rnd [.slot 3 (.int .i64),.slot 11 (.int .i64)],.rnd [.slot 6 (.own 2 (.row 7)),.slot 27 (.int .i64)]] (.one (.lst 2 (.row 7))) [.lst 1 (.lst 2 (.row 7))] x
def Wn (L:Nat):Sum tT:=mU 180 [.lst 1 (.lst 2 (.row 7))] (.one (.lst 2 (.row 7))) (ZV L)
theorem Xp:SX Wn:=fun h=>sT h (Zb (Zu7 h) Zr) rfl (by kernel_rfl) fun _=>rfl
def Yp:List (List YX)→(List YX×Int×PUnit→Option (List YX))→List YX×Int×PUnit→Option (List YX):=fun x0 self acc=>bif decide (acc.2.1 < (↑x0.length:Int)) then bT (ZG x0 acc.2.1) fun y=>bT (apT 24 acc.1 y) fun y=>self (y,Go.IntKind.i64.wrap (acc.2.1 + 1),()) else some acc.1
def Wh:List (List YX)→Nat→(Int×Int×PUnit→Option (List YX))→Int×Int×PUnit→Option (List YX):=fun x0 L self acc=>bif decide (acc.2.1 < (↑x0.length:Int)) then bT (ZG x0 acc.2.1) fun y=>bif decide (Go.IntKind.i64.wrap (acc.1 + (↑y.length:Int)) < 0) then none else self (Go.IntKind.i64.wrap (acc.1 + (↑y.length:Int)),Go.IntKind.i64.wrap (acc.2.1 + 1),()) else bT (Zpi [] acc.1) fun y=>Zq (Yp x0) L (y,0,())
theorem Xo (L:Nat)(x0:(List (List YX))):ZV L (x0,())=Zq (Wh x0 L) L (0,0,()):=by kernel_rfl
def Fh:List (Inl tT):=[⟨62,YR,[],.one (.int .i64),[(3,[.cont 1 (.map .str)])]⟩]
def Vt (L:Nat)(x:ZJ×PUnit):Option Int:=fI [AQ L,Ug L,Wq L,Wn L] L Fh OG [.rnd [.slot 29 (.int .i64),.cont 1 (.map .str)]] (.one (.int .i64)) [.row 10] x
def MC (L:Nat):Sum tT:=mU 133 [.row 10] (.one (.int .i64)) (Vt L)
theorem Zby:SX MC:=fun h=>sI h (Zb (Zhb h) (Zb (Ie h) (Zb (WN h) (Zb (Xp h) Zr)))) (Zb ⟨h.T _ _ rfl,by kernel_rfl⟩ Zr) rfl (by kernel_rfl) fun _=>rfl
def X3:ZJ→Nat→List YX→(Int×List (List UInt8)×PUnit→Option Int)→Int×List (List UInt8)×PUnit→Option Int:=fun x0 L y self acc=>bif decide (acc.1 < (↑y.length:Int)) then bT (ZG y acc.1) fun y=>bT (bT (ZF L (y.1,())) fun y_1=>bif y_1 != 0 then some (y_1,acc.2.1,()) else bif hasK MK.str acc.2.1 y.1 then some (4,acc.2.1,()) else some (0,EL MK.str acc.2.1 y.1,())) fun y_1=>bif y_1.1 != 0 then some y_1.1 else bT (Xh L (y.2,())) fun y=>bif !y then some 1 else self (Go.IntKind.i64.wrap (acc.1 + 1),y_1.2.1,()) else bT (KZ L (x0.4,())) fun y=>some y
theorem Zbi (L:Nat)(x0:ZJ):Vt L (x0,())=bif decide ((↑x0.2.length:Int) > 6) || decide (Go.IntKind.i64.wrap ((↑x0.2.length:Int) + (↑x0.3.length:Int)) > 16) then some 6 else bT (ZV L ([x0.2,x0.3],())) fun y=>Zq (X3 x0 L y) L (0,[],()):=by kernel_rfl
def X5 (L:Nat)(x:Zd×O6×PUnit):Option Int:=fT [KO L,YE L,Iu L] L IY [] (.one (.int .i64)) [.row 14,.row 3] x
def Ov (L:Nat):Sum tT:=mU 118 [.row 14,.row 3] (.one (.int .i64)) (X5 L)
theorem FC:SX Ov:=fun h=>sT h (Zb (TJ h) (Zb (WO h) (Zb (Dc h) Zr))) rfl (by kernel_rfl) fun _=>rfl
theorem F7 (L:Nat)(x0:Zd)(x1:O6):X5 L (x0,x1,())=bT (bif (x1.1 == []) == true then bT (XI L (x1.2,Y9.mk 0 0 0 0 [] [],())) fun y=>bif (!y) == false then bT (XI L (x1.3,Y9.mk 0 0 0 0 [] [],())) fun y=>some !y else some true else some false) fun y=>bif y then some 1 else bif x1.1 == [] then some 0 else bT (ZR L (x0.7,x1.1,())) fun y=>bif !y then some 5 else bT (WS L (x1.2,())) fun y=>bif y != 0 then some y else bT (WS L (x1.3,())) fun y=>some y:=by kernel_rfl
def X6 (L:Nat)(x:Zu×PUnit):Option Int:=fT [WX L] L Oa [.rnd [.slot 25 (.int .i64)]] (.one (.int .i64)) [.row 4] x
def Ox (L:Nat):Sum tT:=mU 117 [.row 4] (.one (.int .i64)) (X6 L)
theorem FD:SX Ox:=fun h=>sT h (Zb (Q8 h) Zr) rfl (by kernel_rfl) fun _=>rfl
def Qg:Zu→Nat→(Int×PUnit→Option Int)→Int×PUnit→Option Int:=fun x0 L self acc=>bif decide (acc.1 < (↑x0.3.length:Int)) then bT (ZG x0.3 acc.1) fun y=>bT (ZA L (y.1,0,Go.IntKind.i64.wrap (x0.4 - 1),())) fun y_1=>bif !y_1 then some 2 else bT (ZA L (y.2,0,1000,())) fun y_2=>bif !y_2 then some 2 else bT (bif decide (acc.1 > 0) == true then bT (ZG x0.3 (Go.IntKind.i64.wrap (acc.1 - 1))) fun y_3=>some (decide (y.1≤y_3.1)) else some false) fun y=>bif y then some 12 else self (Go.IntKind.i64.wrap (acc.1 + 1),()) else some 0
theorem F8 (L:Nat)(x0:Zu):X6 L (x0,())=bif (↑x0.3.length:Int) == 0 then bif x0.4 != 0 then some 1 else some 0 else bif decide ((↑x0.3.length:Int) > 20) then some 6 else bT (ZA L (x0.4,1,1000000000,())) fun y=>bif !y then some 2 else Zq (Qg x0 L) L (0,()):=by kernel_rfl
def Zel:List (Inl tT):=[⟨111,DX,[.unr 60],.one (.int .i64),[(5,[.cont 1 (.map .str)])]⟩,⟨138,OL,[],.one (.int .i64),[]⟩,⟨134,OJ,[],.one (.int .i64),[(5,[.cont 1 (.map .str)])]⟩,⟨135,XZ,[.rnd [.slot 16 (.int .i64),.cont 1 (.map .str)]],.one (.int .i64),[(5,[.cont 1 (.map .str)])]⟩,⟨136,G7,[],.one (.int .i64),[]⟩,⟨130,OI,[],.one (.int .i64),[(5,[.cont 1 (.map .str)])]⟩,⟨131,Xu,[.rnd [.slot 16 (.int .i64),.cont 1 (.map .str)]],.one (.int .i64),[(5,[.cont 1 (.map .str)])]⟩,⟨132,G6,[],.one (.int .i64),[(6,[.cont 1 (.map .str)])]⟩,⟨62,YR,[],.one (.int .i64),[(7,[.cont 1 (.map .str)]),(5,[.cont 1 (.map .str)])]⟩,⟨129,OH,[],.one (.int .i64),[(5,[.cont 1 (.map .str)])]⟩,⟨128,LZ,[],.one (.int .i64),[(5,[.cont 1 (.map .str)])]⟩,⟨127,LY,[],.one (.int .i64),[(5,[.cont 1 (.map .str)])]⟩,⟨126,LX,[],.one (.int .i64),[(5,[.cont 1 (.map .str)])]⟩,⟨125,LW,[],.one (.int .i64),[(5,[.cont 1 (.map .str)])]⟩,⟨122,LV,[],.one (.int .i64),[(5,[.cont 1 (.map .str)])]⟩,⟨123,Xj,[.rnd [.slot 16 (.int .i64),.cont 1 (.map .str)]],.one (.int .i64),[(5,[.cont 1 (.map .str)])]⟩,⟨124,Oe,[],.one (.int .i64),[(6,[.cont 1 (.map .str)])]⟩,⟨119,LU,[],.one (.int .i64),[(5,[.cont 1 (.map .str)])]⟩,⟨120,QO,[.rnd [.slot 16 (.int .i64),.cont 1 (.map .str)]],.one (.int .i64),[(5,[.cont 1 (.map .str)])]⟩,⟨121,Oc,[],.one (.int .i64),[(6,[.cont 1 (.map .str)])]⟩,⟨113,LQ,[],.one (.int .i64),[(5,[.cont 1 (.map .str)])]⟩,⟨114,Qm,[.rnd [.slot 16 (.int .i64),.cont 1 (.map .str)]],.one (.int .i64),[(5,[.cont 1 (.map .str)])]⟩,⟨115,Ob,[],.one (.int .i64),[(6,[.cont 1 (.map .str)])]⟩,⟨112,LP,[],.one (.int .i64),[(5,[.cont 1 (.map .str)])]⟩,⟨59,Q9,[],.one (.int .i64),[(5,[.cont 1 (.map .str)])]⟩,⟨107,Qs,[.rnd [.slot 16 (.int .i64),.cont 1 (.map .str)]],.one (.int .i64),[(5,[.cont 1 (.map .str)])]⟩,⟨108,QN,[],.one (.int .i64),[(6,[.cont 1 (.map .str)])]⟩,⟨109,LM,[],.one (.int .i64),[(5,[.cont 1 (.map .str)])]⟩,⟨110,JO,[.rnd [.slot 16 (.int .i64),.cont 1 (.map .str)]],.one (.int .i64),[(5,[.cont 1 (.map .str)])]⟩]
def KU (L:Nat)(x:Zd×PUnit):Option Int:=fI [A8 L,N7 L,MC L,Wq L,WX L,Ov L,Ox L,KP L,Ug L] L Zel E5 [] (.one (.int .i64)) [.row 14] x
def AA (L:Nat):Sum tT:=mU 63 [.row 14] (.one (.int .i64)) (KU L)
theorem ZgU:SX AA:=fun h=>sI h (Zb (ZgT h) (Zb (ZeY h) (Zb (Zby h) (Zb (WN h) (Zb (Q8 h) (Zb (FC h) (Zb (FD h) (Zb (TL h) (Zb (Ie h) Zr))))))))) (Zb ⟨h.T _ _ rfl,by kernel_rfl⟩ (Zb ⟨h.T _ _ rfl,by kernel_rfl⟩ (Zb ⟨h.T _ _ rfl,by kernel_rfl⟩ (Zb ⟨h.T _ _ rfl,by kernel_rfl⟩ (Zb ⟨h.T _ _ rfl,by kernel_rfl⟩ (Zb ⟨h.T _ _ rfl,by kernel_rfl⟩ (Zb ⟨h.T _ _ rfl,by kernel_rfl⟩ (Zb ⟨h.T _ _ rfl,by kernel_rfl⟩ (Zb ⟨h.T _ _ rfl,by kernel_rfl⟩ (Zb ⟨h.T _ _ rfl,by kernel_rfl⟩ (Zb ⟨h.T _ _ rfl,by kernel_rfl⟩ (Zb ⟨h.T _ _ rfl,by kernel_rfl⟩ (Zb ⟨h.T _ _ rfl,by kernel_rfl⟩ (Zb ⟨h.T _ _ rfl,by kernel_rfl⟩ (Zb ⟨h.T _ _ rfl,by kernel_rfl⟩ (Zb ⟨h.T _ _ rfl,by kernel_rfl⟩ (Zb ⟨h.T _ _ rfl,by kernel_rfl⟩ (Zb ⟨h.T _ _ rfl,by kernel_rfl⟩ (Zb ⟨h.T _ _ rfl,by kernel_rfl⟩ (Zb ⟨h.T _ _ rfl,by kernel_rfl⟩ (Zb ⟨h.T _ _ rfl,by kernel_rfl⟩ (Zb ⟨h.T _ _ rfl,by kernel_rfl⟩ (Zb ⟨h.T _ _ rfl,by kernel_rfl⟩ (Zb ⟨h.T _ _ rfl,by kernel_rfl⟩ (Zb ⟨h.T _ _ rfl,by kernel_rfl⟩ (Zb ⟨h.T _ _ rfl,by kernel_rfl⟩ (Zb ⟨h.T _ _ rfl,by kernel_rfl⟩ (Zb ⟨h.T _ _ rfl,by kernel_rfl⟩ (Zb ⟨h.T _ _ rfl,by kernel_rfl⟩ Zr))))))))))))))))))))))))))))) rfl (by kernel_rfl) fun _=>rfl
def JZ:Zd→Nat→(Int×List (List UInt8)×PUnit→Option (Int×List (List UInt8)×PUnit))→Int×List (List UInt8)×PUnit→Option (Int×List (List UInt8)×PUnit):=fun x0 L self acc=>bif decide (acc.1 < (↑x0.2.length:Int)) then bT (ZG x0.2 acc.1) fun y=>bT (bT (bT (ZF L (y.1,())) fun y_1=>bif y_1 != 0 then some (y_1,acc.2.1,()) else bif hasK MK.str acc.2.1 y.1 then some (4,acc.2.1,()) else some (0,EL MK.str acc.2.1 y.1,())) fun y_1=>bif y_1.1 != 0 then some (y_1.1,y_1.2.1,()) else bT (Xh L (y.2,())) fun y_2=>bif !y_2 then some (1,y_1.2.1,()) else bT (XW L (y.2,y.3,())) fun y=>bif !y then some (2,y_1.2.1,()) else some (0,y_1.2.1,())) fun y=>bif y.1 != 0 then some (y.1,y.2.1,()) else self (Go.IntKind.i64.wrap (acc.1 + 1),y.2.1,()) else some (0,acc.2.1,())
def Ua:Zd→Nat→(Int×List (List UInt8)×PUnit→Option (Int×List (List UInt8)×PUnit))→Int×List (List UInt8)×PUnit→Option (Int×List (List UInt8)×PUnit):=fun x0 L self acc=>bif decide (acc.1 < (↑x0.3.length:Int)) then bT (ZG x0.3 acc.1) fun y=>bT (bT (bT (ZF L (y.1,())) fun y_1=>bif y_1 != 0 then some (y_1,acc.2.1,()) else bif hasK MK.str acc.2.1 y.1 then some (4,acc.2.1,()) else some (0,EL MK.str acc.2.1 y.1,())) fun y_1=>bif y_1.1 != 0 then some (y_1.1,y_1.2.1,()) else bT (ZA L (y.2,0,1000,())) fun y_2=>bif !y_2 then some (2,y_1.2.1,()) else bT (X6 L (y,())) fun y_3=>bif y_3 != 0 then some (y_3,y_1.2.1,()) else bT (X5 L (x0,y.5,())) fun y=>some (y,y_1.2.1,())) fun y=>bif y.1 != 0 then some (y.1,y.2.1,()) else self (Go.IntKind.i64.wrap (acc.1 + 1),y.2.1,()) else some (0,acc.2.1,())
def Ub:Zd→Nat→(Int×List (List UInt8)×PUnit→Option (Int×List (List UInt8)×PUnit))→Int×List (List UInt8)×PUnit→Option (Int×List (List UInt8)×PUnit):=fun x0 L self acc=>bif decide (acc.1 < (↑x0.4.length:Int)) then bT (ZG x0.4 acc.1) fun y=>bT (bT (bT (ZF L (y.1,())) fun y_1=>bif y_1 != 0 then some (y_1,acc.2.1,()) else bif hasK MK.str acc.2.1 y.1 then some (4,acc.2.1,()) else some (0,EL MK.str acc.2.1 y.1,())) fun y_1=>bif y_1.1 != 0 then some (y_1.1,y_1.2.1,()) else bT (ZA L (y.2,1,1000,())) fun y_2=>bif !y_2 then some (2,y_1.2.1,()) else bif decide (y.3 < 1) || decide (y.3 > 3) then some (1,y_1.2.1,()) else some (0,y_1.2.1,())) fun y=>bif y.1 != 0 then some (y.1,y.2.1,()) else self (Go.IntKind.i64.wrap (acc.1 + 1),y.2.1,()) else some (0,acc.2.1,())
def Uc:Zd→Nat→(Int×List (List UInt8)×PUnit→Option (Int×List (List UInt8)×PUnit))→Int×List (List UInt8)×PUnit→Option (Int×List (List UInt8)×PUnit):=fun x0 L self acc=>bif decide (acc.1 < (↑x0.5.length:Int)) then bT (ZG x0.5 acc.1) fun y=>bT (bT (bT (ZF L (y.1,())) fun y_1=>bif y_1 != 0 then some (y_1,acc.2.1,()) else bif hasK MK.str acc.2.1 y.1 then some (4,acc.2.1,()) else some (0,EL MK.str acc.2.1 y.1,())) fun y_1=>bif y_1.1 != 0 then some (y_1.1,y_1.2.1,()) else bT (ZA L (y.2,1,1000,())) fun y_2=>bT (bif (!y_2) == false then bT (ZA L (y.3,1,1000,())) fun y=>some !y else some true) fun y=>bif y then some (2,y_1.2.1,()) else some (0,y_1.2.1,())) fun y=>bif y.1 != 0 then some (y.1,y.2.1,()) else self (Go.IntKind.i64.wrap (acc.1 + 1),y.2.1,()) else some (0,acc.2.1,())
def Ud:Zd→Nat→(Int×List (List UInt8)×PUnit→Option (Int×List (List UInt8)×PUnit))→Int×List (List UInt8)×PUnit→Option (Int×List (List UInt8)×PUnit):=fun x0 L self acc=>bif decide (acc.1 < (↑x0.6.length:Int)) then bT (ZG x0.6 acc.1) fun y=>bT (bT (ZF L (y,())) fun y_1=>bif y_1 != 0 then some (y_1,acc.2.1,()) else bif hasK MK.str acc.2.1 y then some (4,acc.2.1,()) else some (0,EL MK.str acc.2.1 y,())) fun y=>bif y.1 != 0 then some (y.1,y.2.1,()) else self (Go.IntKind.i64.wrap (acc.1 + 1),y.2.1,()) else some (0,acc.2.1,())
def PD:Zd→Nat→(Int×List (List UInt8)×PUnit→Option (Int×List (List UInt8)×PUnit))→Int×List (List UInt8)×PUnit→Option (Int×List (List UInt8)×PUnit):=fun x0 L self acc=>bif decide (acc.1 < (↑x0.7.length:Int)) then bT (ZG x0.7 acc.1) fun y=>bT (bT (ZF L (y,())) fun y_1=>bif y_1 != 0 then some (y_1,acc.2.1,()) else bif hasK MK.str acc.2.1 y then some (4,acc.2.1,()) else some (0,EL MK.str acc.2.1 y,())) fun y=>bif y.1 != 0 then some (y.1,y.2.1,()) else self (Go.IntKind.i64.wrap (acc.1 + 1),y.2.1,()) else some (0,acc.2.1,())
def PE:Zd→Nat→(Int×List (List UInt8)×PUnit→Option (Int×List (List UInt8)×PUnit))→Int×List (List UInt8)×PUnit→Option (Int×List (List UInt8)×PUnit):=fun x0 L self acc=>bif decide (acc.1 < (↑x0.8.length:Int)) then bT (ZG x0.8 acc.1) fun y=>bT (bT (ZF L (y,())) fun y_1=>bif y_1 != 0 then some (y_1,acc.2.1,()) else bif hasK MK.str acc.2.1 y then some (4,acc.2.1,()) else some (0,EL MK.str acc.2.1 y,())) fun y=>bif y.1 != 0 then some (y.1,y.2.1,()) else self (Go.IntKind.i64.wrap (acc.1 + 1),y.2.1,()) else some (0,acc.2.1,())
def PG:Zd→Nat→(Int×List (List UInt8)×PUnit→Option (Int×List (List UInt8)×PUnit))→Int×List (List UInt8)×PUnit→Option (Int×List (List UInt8)×PUnit):=fun x0 L self acc=>bif decide (acc.1 < (↑x0.9.length:Int)) then bT (ZG x0.9 acc.1) fun y=>bT (bT (ZF L (y,())) fun y_1=>bif y_1 != 0 then some (y_1,acc.2.1,()) else bif hasK MK.str acc.2.1 y then some (4,acc.2.1,()) else some (0,EL MK.str acc.2.1 y,())) fun y=>bif y.1 != 0 then some (y.1,y.2.1,()) else self (Go.IntKind.i64.wrap (acc.1 + 1),y.2.1,()) else some (0,acc.2.1,())
def PH:Zd→Nat→(Int×List (List UInt8)×PUnit→Option (Int×List (List UInt8)×PUnit))→Int×List (List UInt8)×PUnit→Option (Int×List (List UInt8)×PUnit):=fun x0 L self acc=>bif decide (acc.1 < (↑x0.10.length:Int)) then bT (ZG x0.10 acc.1) fun y=>bT (bT (ZF L (y,())) fun y_1=>bif y_1 != 0 then some (y_1,acc.2.1,()) else bif hasK MK.str acc.2.1 y then some (4,acc.2.1,()) else some (0,EL MK.str acc.2.1 y,())) fun y=>bif y.1 != 0 then some (y.1,y.2.1,()) else self (Go.IntKind.i64.wrap (acc.1 + 1),y.2.1,()) else some (0,acc.2.1,())
def Ue:Zd→Nat→(Int×List (List UInt8)×PUnit→Option (Int×List (List UInt8)×PUnit))→Int×List (List UInt8)×PUnit→Option (Int×List (List UInt8)×PUnit):=fun x0 L self acc=>bif decide (acc.1 < (↑x0.11.length:Int)) then bT (ZG x0.11 acc.1) fun y=>bT (bT (bT (ZF L (y.1,())) fun y_1=>bif y_1 != 0 then some (y_1,acc.2.1,()) else bif hasK MK.str acc.2.1 y.1 then some (4,acc.2.1,()) else some (0,EL MK.str acc.2.1 y.1,())) fun y_1=>bif y_1.1 != 0 then some (y_1.1,y_1.2.1,()) else bT (Vt L (y,())) fun y=>some (y,y_1.2.1,())) fun y=>bif y.1 != 0 then some (y.1,y.2.1,()) else self (Go.IntKind.i64.wrap (acc.1 + 1),y.2.1,()) else some (0,acc.2.1,())
def Q5:Zd→Nat→(Int×List (List UInt8)×PUnit→Option (Int×List (List UInt8)×PUnit))→Int×List (List UInt8)×PUnit→Option (Int×List (List UInt8)×PUnit):=fun x0 L self acc=>bif decide (acc.1 < (↑x0.12.length:Int)) then bT (ZG x0.12 acc.1) fun y=>bT (bT (Um L (x0,y,())) fun y=>some y) fun y=>bif y != 0 then some (y,acc.2.1,()) else self (Go.IntKind.i64.wrap (acc.1 + 1),acc.2.1,()) else some (0,acc.2.1,())
theorem Zg6 (L:Nat)(x0:Zd):KU L (x0,())=bT (bT (bT (bT (bif decide ((↑x0.2.length:Int) > 32) then some (6,[],()) else Zq (JZ x0 L) L (0,[],())) fun y=>some (y.1,y.2.1,())) fun y=>some (y.1,y.2.1,())) fun y=>bif y.1 != 0 then some (y.1,y.2.1,()) else bT (bT (bif decide ((↑x0.3.length:Int) > 32) then some (6,y.2.1,()) else Zq (Ua x0 L) L (0,y.2.1,())) fun y=>some (y.1,y.2.1,())) fun y=>bif y.1 != 0 then some (y.1,y.2.1,()) else bT (bT (bif decide ((↑x0.4.length:Int) > 32) then some (6,y.2.1,()) else Zq (Ub x0 L) L (0,y.2.1,())) fun y=>some (y.1,y.2.1,())) fun y=>bif y.1 != 0 then some (y.1,y.2.1,()) else bT (bT (bif decide ((↑x0.5.length:Int) > 32) then some (6,y.2.1,()) else Zq (Uc x0 L) L (0,y.2.1,())) fun y=>some (y.1,y.2.1,())) fun y=>bif y.1 != 0 then some (y.1,y.2.1,()) else bT (bT (bT (bif decide ((↑x0.6.length:Int) > 32) then some (6,y.2.1,()) else Zq (Ud x0 L) L (0,y.2.1,())) fun y=>some (y.1,y.2.1,())) fun y=>some (y.1,y.2.1,())) fun y=>bif y.1 != 0 then some (y.1,y.2.1,()) else bT (bT (bT (bif decide ((↑x0.7.length:Int) > 32) then some (6,y.2.1,()) else Zq (PD x0 L) L (0,y.2.1,())) fun y=>some (y.1,y.2.1,())) fun y=>some (y.1,y.2.1,())) fun y=>bif y.1 != 0 then some (y.1,y.2.1,()) else bT (bT (bT (bif decide ((↑x0.8.length:Int) > 32) then some (6,y.2.1,()) else Zq (PE x0 L) L (0,y.2.1,())) fun y=>some (y.1,y.2.1,())) fun y=>some (y.1,y.2.1,())) fun y=>bif y.1 != 0 then some (y.1,y.2.1,()) else bT (bT (bT (bif decide ((↑x0.9.length:Int) > 32) then some (6,y.2.1,()) else Zq (PG x0 L) L (0,y.2.1,())) fun y=>some (y.1,y.2.1,())) fun y=>some (y.1,y.2.1,())) fun y=>bif y.1 != 0 then some (y.1,y.2.1,()) else bT (bT (bT (bif decide ((↑x0.10.length:Int) > 32) then some (6,y.2.1,()) else Zq (PH x0 L) L (0,y.2.1,())) fun y=>some (y.1,y.2.1,())) fun y=>some (y.1,y.2.1,())) fun y=>bif y.1 != 0 then some (y.1,y.2.1,()) else bT (bT (bif decide ((↑x0.11.length:Int) > 16) then some (6,y.2.1,()) else Zq (Ue x0 L) L (0,y.2.1,())) fun y=>some (y.1,y.2.1,())) fun y=>bif y.1 != 0 then some (y.1,y.2.1,()) else bT (bT (bif decide ((↑x0.12.length:Int) > 32) then some (6,y.2.1,()) else Zq (Q5 x0 L) L (0,y.2.1,())) fun y=>some (y.1,y.2.1,())) fun y=>bif y.1 != 0 then some (y.1,y.2.1,()) else bT (bT (KT L (x0,())) fun y=>some y) fun y_1=>bif y_1 != 0 then some (y_1,y.2.1,()) else some (0,y.2.1,())) fun y=>some y.1:=by kernel_rfl
def Zcv:List (Inl tT):=[⟨60,Xk,[.rnd [.slot 16 (.int .i64),.cont 1 (.map .str),.cont 2 (.map .str)]],.one (.int .i64),[(4,[.cont 1 (.map .str),.cont 2 (.map .str)])]⟩,⟨61,OC,[],.one (.int .i64),[(5,[.cont 2 (.map .str)])]⟩,⟨62,YR,[],.one (.int .i64),[(4,[.cont 1 (.map .str)]),(6,[.cont 2 (.map .str)])]⟩,⟨59,Q9,[],.one (.int .i64),[(2,[.cont 1 (.map .str)])]⟩,⟨107,Qs,[.rnd [.slot 16 (.int .i64),.cont 1 (.map .str)]],.one (.int .i64),[(2,[.cont 1 (.map .str)])]⟩,⟨108,QN,[],.one (.int .i64),[(3,[.cont 1 (.map .str)])]⟩]
def Uk (L:Nat)(x:Ql×PUnit):Option Int:=fI [Nz L,AA L,Wq L,KP L,Ug L] L Zcv DW [] (.one (.int .i64)) [.row 21] x
def Ny (L:Nat):Sum tT:=mU 28 [.row 21] (.one (.int .i64)) (Uk L)
theorem ZeW:SX Ny:=fun h=>sI h (Zb (ZeX h) (Zb (ZgU h) (Zb (WN h) (Zb (TL h) (Zb (Ie h) Zr))))) (Zb ⟨h.T _ _ rfl,by kernel_rfl⟩ (Zb ⟨h.T _ _ rfl,by kernel_rfl⟩ (Zb ⟨h.T _ _ rfl,by kernel_rfl⟩ (Zb ⟨h.T _ _ rfl,by kernel_rfl⟩ (Zb ⟨h.T _ _ rfl,by kernel_rfl⟩ (Zb ⟨h.T _ _ rfl,by kernel_rfl⟩ Zr)))))) rfl (by kernel_rfl) fun _=>rfl
def Gq:Ql→Nat→(Int×List (List UInt8)×PUnit→Option (Int×List (List UInt8)×PUnit))→Int×List (List UInt8)×PUnit→Option (Int×List (List UInt8)×PUnit):=fun x0 L self acc=>bif decide (acc.1 < (↑x0.2.length:Int)) then bT (ZG x0.2 acc.1) fun y=>bT (bT (bT (ZF L (y.1,())) fun y_1=>bif y_1 != 0 then some (y_1,acc.2.1,()) else bif hasK MK.str acc.2.1 y.1 then some (4,acc.2.1,()) else some (0,EL MK.str acc.2.1 y.1,())) fun y_1=>bif y_1.1 != 0 then some (y_1.1,y_1.2.1,()) else bT (Xh L (y.2,())) fun y_2=>bif !y_2 then some (1,y_1.2.1,()) else bT (XW L (y.2,y.3,())) fun y=>bif !y then some (2,y_1.2.1,()) else some (0,y_1.2.1,())) fun y=>bif y.1 != 0 then some (y.1,y.2.1,()) else self (Go.IntKind.i64.wrap (acc.1 + 1),y.2.1,()) else some (0,acc.2.1,())
def Gs:Ql→Nat→(Int×List (List UInt8)×List (List UInt8)×PUnit→Option (Int×List (List UInt8)×List (List UInt8)×PUnit))→Int×List (List UInt8)×List (List UInt8)×PUnit→Option (Int×List (List UInt8)×List (List UInt8)×PUnit):=fun x0 L self acc=>bif decide (acc.1 < (↑x0.3.length:Int)) then bT (ZG x0.3 acc.1) fun y=>bT (bT (bT (ZF L (y.1,())) fun y_1=>bif y_1 != 0 then some (y_1,acc.2.2.1,()) else bif hasK MK.str acc.2.2.1 y.1 then some (4,acc.2.2.1,()) else some (0,EL MK.str acc.2.2.1 y.1,())) fun y_1=>bif y_1.1 != 0 then some (y_1.1,y_1.2.1,()) else bT (KU L (y,())) fun y=>some (y,y_1.2.1,())) fun y=>bif y.1 != 0 then some (y.1,acc.2.1,y.2.1,()) else self (Go.IntKind.i64.wrap (acc.1 + 1),acc.2.1,y.2.1,()) else some (0,acc.2.1,acc.2.2.1,())
theorem ZeB (L:Nat)(x0:Ql):Uk L (x0,())=bT (ZF L (x0.1,())) fun y=>bif y != 0 then some y else bT (bT (bif decide ((↑x0.2.length:Int) > 32) then some (6,[],()) else Zq (Gq x0 L) L (0,[],())) fun y=>some (y.1,y.2.1,())) fun y=>bif y.1 != 0 then some y.1 else bif (↑x0.3.length:Int) == 0 then some 7 else bT (bif decide ((↑x0.3.length:Int) > 16) then some (6,y.2.1,[],()) else Zq (Gs x0 L) L (0,y.2.1,[],())) fun y=>bif y.1 != 0 then some y.1 else bT (Ul L (x0,())) fun y=>some y:=by kernel_rfl
def XV (L:Nat)(x:Zk×PUnit):Option Int:=fT [Gv L,ZbG L,Nr L,Ny L,Wq L] L Eo [.rnd [.slot 2 (.int .i64),.slot 34 (.int .i64),.cont 1 (.map .str)],.rnd [.slot 2 (.int .i64),.slot 71 (.int .i64),.cont 1 (.map .str)],.rnd [.slot 2 (.int .i64),.slot 79 (.int .i64),.cont 1 (.map .str)]] (.one (.int .i64)) [.row 19] x
def Md (L:Nat):Sum tT:=mU 11 [.row 19] (.one (.int .i64)) (XV L)
theorem Ai:SX Md:=fun h=>sT h (Zb (Ry h) (Zb (ZiU h) (Zb (ZeS h) (Zb (ZeW h) (Zb (WN h) Zr))))) rfl (by kernel_rfl) fun _=>rfl
def Vb:Zk→Nat→(Int×Int×List (List UInt8)×PUnit→Option Int)→Int×Int×List (List UInt8)×PUnit→ZC→(Int×Int×List (List UInt8)×PUnit→Option Int)→Int×Int×List (List UInt8)×PUnit→Option Int:=fun x0 L self acc y self_1 acc_1=>bif decide (acc_1.2.1 < (↑y.2.length:Int)) then bT (ZG y.2 acc_1.2.1) fun y=>bT (ZY L (x0,acc.2.1,y,())) fun y=>bif y != 0 then some y else self_1 (acc_1.1,Go.IntKind.i64.wrap (acc_1.2.1 + 1),acc_1.2.2.1,()) else self (acc_1.1,Go.IntKind.i64.wrap (acc.2.1 + 1),acc_1.2.2.1,())
def Xb:Zk→Nat→(Int×Int×List (List UInt8)×PUnit→Option Int)→Int×Int×List (List UInt8)×PUnit→Option Int:=fun x0 L self acc=>bif decide (acc.2.1 < (↑x0.2.length:Int)) then bT (ZG x0.2 acc.2.1) fun y=>Zq (Vb x0 L self acc y) L (acc.1,0,acc.2.2.1,()) else some 0
def Vd:Zk→Nat→(Int×Int×List (List UInt8)×PUnit→Option Int)→Int×Int×List (List UInt8)×PUnit→Option Int:=fun x0 L self acc=>bif decide (acc.2.1 < (↑x0.2.length:Int)) then bT (ZG x0.2 acc.2.1) fun y=>bT (Uk L (Ql.mk x0.1 [] [y.1] [],())) fun y_1=>bif y_1 != 0 then some y_1 else bif hasK MK.str acc.2.2.1 y.Decl.1 then some 4 else bT (Ui L (y,())) fun y_2=>bif !y_2 then some 8 else self (acc.1,Go.IntKind.i64.wrap (acc.2.1 + 1),EL MK.str acc.2.2.1 y.Decl.1,()) else bT (UY L (x0,())) fun y=>bif y != 0 then some y else Zq (Xb x0 L) L (acc.1,0,acc.2.2.1,())
theorem EW (L:Nat)(x0:Zk):XV L (x0,())=bT (ZF L (x0.1,())) fun y=>bif y != 0 then some y else bif (↑x0.2.length:Int) == 0 then some 7 else bif decide ((↑x0.2.length:Int) > 16) then some 6 else Zq (Vd x0 L) L (0,0,[],()):=by kernel_rfl
def Vs (L:Nat)(x:Y4×PUnit):Option Bool:=fT [] L DV [.rnd [.slot 3 (.int .i64)]] (.one .bool) [.row 16] x
def Nw (L:Nat):Sum tT:=mU 13 [.row 16] (.one .bool) (Vs L)
theorem ZeV:SX Nw:=fun h=>sT h Zr rfl (by kernel_rfl) fun _=>rfl
def VZ:Y4→(Int×PUnit→Option Bool)→Int×PUnit→Option Bool:=fun x0 self acc=>bif decide (acc.1 < (↑x0.4.length:Int)) then bT (ZG x0.4 acc.1) fun y=>bif decide ((↑y.7.length:Int) > 10) then some false else self (Go.IntKind.i64.wrap (acc.1 + 1),()) else some (decide ((↑x0.4.length:Int)≤60))
theorem ZeA (L:Nat)(x0:Y4):Vs L (x0,())=Zq (VZ x0) L (0,()):=by kernel_rfl
def VP (L:Nat)(x:Zk×PUnit):Option Bool:=fT [Dx L,Nw L] L CB [.rnd [.slot 2 .bool,.slot 3 (.int .i64)],.rnd [.slot 2 .bool,.slot 5 (.int .i64)],.rnd [.slot 2 .bool,.slot 6 (.int .i64)]] (.one .bool) [.row 19] x
def Du (L:Nat):Sum tT:=mU 9 [.row 19] (.one .bool) (VP L)
theorem Zbx:SX Du:=fun h=>sT h (Zb (Zb3 h) (Zb (ZeV h) Zr)) rfl (by kernel_rfl) fun _=>rfl
def Jp:Nat→(Bool×Int×PUnit→Option Bool)→Bool×Int×PUnit→ZC→(Bool×Int×PUnit→Option Bool)→Bool×Int×PUnit→Option Bool:=fun L self acc y self_1 acc_1=>bif decide (acc_1.2.1 < (↑y.Decl.11.length:Int)) then bT (ZG y.Decl.11 acc_1.2.1) fun y=>bT (VS L (y.4,())) fun y=>bif decide (y > 40) then some false else self_1 (acc_1.1,Go.IntKind.i64.wrap (acc_1.2.1 + 1),()) else self (acc_1.1,Go.IntKind.i64.wrap (acc.2.1 + 1),())
def Jq:Zk→Nat→(Bool×Int×PUnit→Option Bool)→Bool×Int×PUnit→ZC→(Bool×Int×PUnit→Option Bool)→Bool×Int×PUnit→Option Bool:=fun x0 L self acc y self_1 acc_1=>bT (ZG x0.2 acc.2.1) fun y_1=>bif decide (acc_1.2.1 < (↑y_1.2.length:Int)) then bT (ZG x0.2 acc.2.1) fun y=>bT (ZG y.2 acc_1.2.1) fun y=>bT (Vs L (y,())) fun y=>bif !y then some false else self_1 (acc_1.1,Go.IntKind.i64.wrap (acc_1.2.1 + 1),()) else Zq (Jp L self acc y) L (acc_1.1,0,())
def KF:Zk→Nat→(Bool×Int×PUnit→Option Bool)→Bool×Int×PUnit→Option Bool:=fun x0 L self acc=>bif decide (acc.2.1 < (↑x0.2.length:Int)) then bT (ZG x0.2 acc.2.1) fun y=>bT (ZG x0.2 acc.2.1) fun y_1=>bif decide ((↑y_1.2.length:Int) > 6) || decide ((↑y.Decl.11.length:Int) > 6) || decide (Go.IntKind.i64.wrap (Go.IntKind.i64.wrap (Go.IntKind.i64.wrap (Go.IntKind.i64.wrap (Go.IntKind.i64.wrap (Go.IntKind.i64.wrap ((↑y.Decl.2.length:Int) + (↑y.Decl.3.length:Int)) + (↑y.Decl.4.length:Int)) + (↑y.Decl.6.length:Int)) + (↑y.Decl.7.length:Int)) + (↑y.Decl.12.length:Int)) + (↑y.Decl.13.length:Int)) > 60) then some false else Zq (Jq x0 L self acc y) L (acc.1,0,()) else some (decide ((↑x0.2.length:Int)≤20) && decide ((↑x0.3.length:Int)≤40))
theorem Ziu (L:Nat)(x0:Zk):VP L (x0,())=Zq (KF x0 L) L (false,0,()):=by kernel_rfl
end Go.Proofs.YtleomfgijkapfaaGreatDoor
end
noncomputable section
namespace Go.Proofs.YtleomfgijkapfaaGreatDoor
open Go Go.Proofs.YtleomfgijkapfaaGreatDoor.Abs Go.Proofs.YtleomfgijkapfaaGreatDoor.Tl
set_option maxRecDepth 100000
set_option maxHeartbeats 0
def QK (L:Nat)(x:Zk×PUnit):Option Bool:=fT [Zjr,ZbU L,Md L,Du L] L KA [] (.one .bool) [.row 19] x
def Nv (L:Nat):Sum tT:=mU 3 [.row 19] (.one .bool) (QK L)
theorem Na:SX Nv:=fun h=>sT h (Zb (Zof h) (Zb (Zjh h) (Zb (Ai h) (Zb (Zbx h) Zr)))) rfl (by kernel_rfl) fun _=>rfl
theorem PT (L:Nat)(x0:Zk):QK L (x0,())=bT (VP L (x0,())) fun y=>bif !y then some true else bT (bT (XV L (x0,())) fun y=>some y) fun y=>bT (bT (IJ L (x0,())) fun y=>some y) fun y_1=>some (y == y_1 && true):=by kernel_rfl
end Go.Proofs.YtleomfgijkapfaaGreatDoor
end
section
namespace Go.Proofs.YtleomfgijkapfaaGreatDoor
open Go Go.Proofs.YtleomfgijkapfaaGreatDoor.Abs Go.Proofs.YtleomfgijkapfaaGreatDoor.Tl
set_option maxRecDepth 100000
theorem Zl {α:Type}(c:Bool)(a b:α):(bif c then some a else some b)=some (bif c then a else b):=by cases c <;> rfl
theorem Zn (c:Bool)(x:Option Bool):(bif c == true then x else some false)=bif c then x else some false:=by cases c <;> rfl
theorem condC (c:Bool)(x:Option Bool):(bif c == false then x else some true)=bif c then some true else x:=by cases c <;> rfl
theorem Zi (c x:Bool):(bif c == true then x else false)=(c && x):=by cases c <;> rfl
theorem Zh (c x:Bool):(bif c == false then x else true)=(c || x):=by cases c <;> rfl
theorem Q4 {α:Type}(c:Prop)[Decidable c](a b:α):(if c then some a else some b)=some (if c then a else b):=by split <;> rfl
theorem Ye {α:Type}(c:Bool)(a b:α):(bif c then a else b)=if c=true then a else b:=by cases c <;> rfl
theorem Za {α:Type}(o:Option α):bT o (fun y=>some y)=o:=by cases o <;> rfl
theorem Z7 {α:Type}[DecidableEq α](a b:α):(a != b)=!decide (a=b):=by
 by_cases h:a=b <;> simp [bne,h]
theorem ZE (a b:Int):(a == b)=decide (a=b):=by
 by_cases h:a=b <;> simp [h]
theorem ZK (a b:List UInt8):(a == b)=decide (a=b):=by
 by_cases h:a=b <;> simp [h]
abbrev Len {α:Type}(l:List α):Prop:=l.length≤4611686018427387
theorem Fp {τ ρ:Type}{f:(τ→Option ρ)→τ→Option ρ}(n:Nat)(pk:Int→τ)(R:Nat→Option ρ)
  (h1:∀ self (i:Nat),i < n→self (pk ((i:Int) + 1))=R (i + 1)→f self (pk i)=R i)
  (h2:∀ self,f self (pk n)=R n):∀ (m i:Nat),i≤n→n - i < m→Zq f m (pk i)=R i
 | 0,_,_,h=>absurd h (Nat.not_lt_zero _)
 | m + 1,i,hi,hm=>by
  show f (Zq f m) (pk i)=_
  rcases Nat.lt_or_ge i n with hlt | hge
  ·exact h1 _ i hlt (Fp n pk R h1 h2 m (i + 1) hlt (by omega))
  ·have:i=n:=by omega
   subst this
   exact h2 _
theorem Zge {τ α σ ρ:Type}{f:(τ→Option ρ)→τ→Option ρ}(l:List α)(pk:σ→Int→τ)(R:List α→σ→Option ρ)
  (h1:∀ self s (i:Nat) x r,l[i]? = some x→i < l.length→x ∈ l→(∀ s',self (pk s' ((i:Int) + 1))=R r s')→f self (pk s i)=R (x :: r) s)
  (h2:∀ self s,f self (pk s (l.length:Nat))=R [] s):∀ (m i:Nat) (s:σ),i≤l.length→l.length - i < m→Zq f m (pk s i)=R (l.drop i) s
 | 0,_,_,_,h=>absurd h (Nat.not_lt_zero _)
 | m + 1,i,s,hi,hm=>by
  show f (Zq f m) (pk s i)=_
  rcases Nat.lt_or_ge i l.length with hlt | hge
  ·have hx:=List.getElem?_eq_getElem hlt
   rw [List.drop_eq_getElem_cons hlt]
   exact h1 _ s i _ _ hx hlt (List.getElem_mem hlt) fun s'=>Zge l pk R h1 h2 m (i + 1) s' hlt (by omega)
  ·have:i=l.length:=by omega
   subst this
   rw [h2,List.drop_length]
theorem SB {α ρ:Type}{f:(Int×PUnit→Option ρ)→Int×PUnit→Option ρ}(l:List α)(R:List α→Option ρ){m:Nat}(hm:l.length < m)
  (h1:∀ self (i:Nat) x r,l[i]? = some x→i < l.length→x ∈ l→self ((i:Int) + 1,())=R r→f self ((i:Int),())=R (x :: r))
  (h2:∀ self,f self ((l.length:Int),())=R []):Zq f m (0,())=R l :=
 Zge (σ := Unit) l (fun _ i=>(i,())) (fun l _=>R l) (fun self _ i x r a b c d=>h1 self i x r a b c (d ())) (fun self _=>h2 self) m 0 () (Nat.zero_le _) (by omega)
theorem ZhO {α ρ:Type}{f:(Int×PUnit→Option ρ)→Int×PUnit→Option ρ}(l:List α)(R:List α→Int→Option ρ){m:Nat}(hm:l.length < m)
  (h1:∀ self (i:Nat) x r,l[i]? = some x→i < l.length→x ∈ l→self ((i:Int) + 1,())=R r ((i:Int) + 1)→f self ((i:Int),())=R (x :: r) i)
  (h2:∀ self,f self ((l.length:Int),())=R [] l.length):Zq f m (0,())=R l 0:=by
 have:=Fp (f := f) l.length (fun i=>(i,())) (fun i=>R (l.drop i) i) (fun self i hi e=>by
  have hx:=List.getElem?_eq_getElem hi
  rw [List.drop_eq_getElem_cons hi]
  exact h1 self i _ _ hx hi (List.getElem_mem hi) e) (fun self=>by rw [List.drop_length]; exact h2 self) m 0 (Nat.zero_le _) (by omega)
 exact this
theorem SC {α σ ρ:Type}{f:(σ×Int×PUnit→Option ρ)→σ×Int×PUnit→Option ρ}(l:List α)(R:List α→σ→Option ρ){m:Nat}(hm:l.length < m)(s:σ)
  (h1:∀ self s (i:Nat) x r,l[i]? = some x→i < l.length→x ∈ l→(∀ s',self (s',(i:Int) + 1,())=R r s')→f self (s,(i:Int),())=R (x :: r) s)
  (h2:∀ self s,f self (s,(l.length:Int),())=R [] s):Zq f m (s,0,())=R l s :=
 Zge l (fun s i=>(s,i,())) R h1 h2 m 0 s (Nat.zero_le _) (by omega)
theorem Zcy {α β ρ:Type}{f:(Int×PUnit→Option ρ)→Int×PUnit→Option ρ}(l:List α)(l':List β)(hl:l.length=l'.length)(R:List α→List β→Option ρ){m:Nat}(hm:l.length < m)
  (h1:∀ self (i:Nat) x y r r',l[i]? = some x→l'[i]? = some y→i < l.length→x ∈ l→self ((i:Int) + 1,())=R r r'→f self ((i:Int),())=R (x :: r) (y :: r'))
  (h2:∀ self,f self ((l.length:Int),())=R [] []):Zq f m (0,())=R l l':=by
 have:=Fp (f := f) l.length (fun i=>(i,())) (fun i=>R (l.drop i) (l'.drop i)) (fun self i hi e=>by
  have hx:=List.getElem?_eq_getElem hi
  have hy:=List.getElem?_eq_getElem (show i < l'.length by omega)
  rw [List.drop_eq_getElem_cons hi,List.drop_eq_getElem_cons (show i < l'.length by omega)]
  exact h1 self i _ _ _ _ hx hy hi (List.getElem_mem hi) e) (fun self=>by rw [List.drop_length,hl,List.drop_length]; rw [← hl]; exact h2 self) m 0 (Nat.zero_le _) (by omega)
 exact this
end Go.Proofs.YtleomfgijkapfaaGreatDoor
end
section
namespace Go.Proofs.YtleomfgijkapfaaGreatDoor
open Go Go.Proofs.YtleomfgijkapfaaGreatDoor.Abs Go.Proofs.YtleomfgijkapfaaGreatDoor.Tl
set_option maxRecDepth 100000
theorem Zkf (L:Nat)(n:Int):Xz L (n,())=some (ZqF n):=Zc2 L n
theorem Zba (L:Nat)(n:Int):J7 L (n,())=some (ZqF n):=Zg9 L n
theorem chainB (x:List UInt8):∀ l:List (List UInt8),(l.foldr (fun k r=>bif x == k then some true else r) (some false):Option Bool)=some (l.any fun k=>decide (x=k))
 | []=>rfl
 | k :: l=>by
  rw [List.foldr_cons,chainB x l,ZK,List.any_cons]
  cases decide (x=k) <;> rfl
theorem Zn9 (L:Nat)(s:List UInt8):Vu L (s,())=some (kwB s):=(Zbj L s).trans (chainB s kws)
theorem Zgn (L:Nat)(l:List (List UInt8))(s:List UInt8)(hl:Len l)(hL:l.length < L):XX L (l,s,())=some (UF (fun k=>decide (k=s)) l 0):=by
 rw [Zlq]
 refine ZhO l (fun l i=>some (UF (fun k=>decide (k=s)) l i)) hL (fun self i x r hx hi _ e=>?_) (fun self=>?_)
 ·rw [BQ]; simp only [Zg,Zc,cond_true,cond_false,Zf,Zv,Za,Zn,condC,Zi,Zh,Zl,ZE,ZK,Z7,hi,hx,wrap_succ hi (by omega),e,UF]; simp only [Ye,Q4,if_true,if_false,Bool.false_eq_true,ne_eq,decide_not,gt_iff_lt,ge_iff_le]
 ·rw [BQ]; simp only [Zg,Zc,cond_true,cond_false,Zf,Zv,Za,Zn,condC,Zi,Zh,Zl,ZE,ZK,Z7,UF]
theorem Zgr (L:Nat)(s:List UInt8)(hL:100≤L):Un L (s,())=some (kwB s):=by
 rw [ZeH,show Jf L ()=some kws from Zc4 L,Zv,Zgn L kws s (by decide) (by have:kws.length=73:=rfl; omega),Zv]
 have:=Sv (fun k=>decide (k=s)) kws 0 (Int.le_refl _)
 rw [show decide (UF (fun k=>decide (k=s)) kws 0 ≥ 0)=_ from this]
 unfold kwB
 congr 2; funext k; exact decide_eq_decide.2 ⟨Eq.symm,Eq.symm⟩
theorem ZjU (s:List UInt8):XB s=bif (decide (s=[]) || decide ((s.length:Int) > 24)) || (!ZqF ((s.headD 0).toNat)) || kwB s then 3 else bif s.all (fun x=>ZdW x.toNat) then 0 else 3:=by
 cases s with
 | nil=>simp [XB]
 | cons c r =>
  simp only [XB,List.headD_cons,reduceCtorEq,decide_false,Bool.false_or]
  rw [show (decide ((((c :: r).length:Nat):Int) > 24))=decide (24 < (c :: r).length) from decide_eq_decide.2 (by omega)]
  by_cases h1:24 < (c :: r).length <;> cases ZqF (c.toNat:Int) <;> cases kwB (c :: r) <;> cases (c :: r).all (fun x=>ZdW x.toNat) <;> simp [h1]
theorem ZrU (c:Bool)(x:UInt8):(!c && (decide ((x.toNat:Int) < 48) || decide ((x.toNat:Int) > 57)) && (!decide ((x.toNat:Int)=95)))=!(c || decide ((x.toNat:Int)=95) || (decide (48≤(x.toNat:Int)) && decide ((x.toNat:Int)≤57))):=by
 rw [show decide (48≤(x.toNat:Int))=!decide ((x.toNat:Int) < 48) by rw [← decide_not]; congr 1; exact propext Int.not_lt.symm,show decide ((x.toNat:Int)≤57)=!decide ((x.toNat:Int) > 57) by rw [← decide_not]; congr 1; exact propext Int.not_lt.symm]
 cases c <;> cases decide ((x.toNat:Int)=95) <;> cases decide ((x.toNat:Int) < 48) <;> cases decide ((x.toNat:Int) > 57) <;> rfl
theorem ZrT (L:Nat)(s:List UInt8)(h:Len s)(hL:s.length < L):Zq (Jb s L) L (0,())=some (bif s.all (fun x=>ZdW x.toNat) then 0 else 3):=by
 refine SB s (fun s=>some (bif s.all (fun x=>ZdW x.toNat) then 0 else 3)) hL (fun self i x r hx hi _ e=>?_) (fun self=>?_)
 ·rw [Jb]
  simp only [Zg,Zc,cond_true,cond_false,Zf,Zv,Za,Zn,condC,Zi,Zh,Zl,ZE,ZK,Z7,hi,hx,Zkf,wrap_succ hi (by omega),e,Z7,ZrU,List.all_cons,ZdW]
  cases (ZqF (x.toNat:Int) || decide ((x.toNat:Int)=95) || (decide (48≤(x.toNat:Int)) && decide ((x.toNat:Int)≤57))) <;> rfl
 ·rw [Jb]; simp only [Zg,Zc,cond_true,cond_false,Zf,Zv,Za,Zn,condC,Zi,Zh,Zl,ZE,ZK,Z7,List.all_nil]
theorem Qb (L:Nat)(s:List UInt8)(h:Len s)(hL:s.length < L):ZF L (s,())=some (XB s):=by
 rw [ZeF,ZrT L s h hL,ZjU,ZqB]
 cases s with
 | nil=>rfl
 | cons c r =>
  simp only [Zg,Zc,cond_true,cond_false,Zf,Zv,Za,Zn,condC,Zi,Zh,Zl,ZE,ZK,Z7,List.getElem?_cons_zero,Zkf,Zn9,List.headD_cons,reduceCtorEq,decide_false,Bool.false_or,Bool.or_assoc]
theorem Zqd (L:Nat)(s:List UInt8)(h:Len s)(hL:s.length < L):Zq (KG s L) L (0,())=some (bif s.all (fun x=>ZdW x.toNat) then 0 else 3):=by
 refine SB s (fun s=>some (bif s.all (fun x=>ZdW x.toNat) then 0 else 3)) hL (fun self i x r hx hi _ e=>?_) (fun self=>?_)
 ·rw [KG]
  simp only [Zg,Zc,cond_true,cond_false,Zf,Zv,Za,Zn,condC,Zi,Zh,Zl,ZE,ZK,Z7,hi,hx,Zba,wrap_succ hi (by omega),e,Z7,List.all_cons,ZdW,Zn,condC,Zl]
  rw [show decide (48≤(x.toNat:Int))=!decide ((x.toNat:Int) < 48) by rw [← decide_not]; congr 1; exact propext Int.not_lt.symm,show decide ((x.toNat:Int)≤57)=!decide ((x.toNat:Int) > 57) by rw [← decide_not]; congr 1; exact propext Int.not_lt.symm]
  cases ZqF (x.toNat:Int) <;> cases decide ((x.toNat:Int)=95) <;> cases decide ((x.toNat:Int) < 48) <;> cases decide ((x.toNat:Int) > 57) <;> rfl
 ·rw [KG]; simp only [Zg,Zc,cond_true,cond_false,Zf,Zv,Za,Zn,condC,Zi,Zh,Zl,ZE,ZK,Z7,List.all_nil]
theorem VJ (L:Nat)(s:List UInt8)(h:Len s)(hL:s.length < L)(h1:100≤L):WC L (s,())=some (XB s):=by
 rw [Zix,Zqd L s h hL,ZjU,ZqB]
 cases s with
 | nil=>rfl
 | cons c r =>
  have:decide ((((c :: r).length:Nat):Int) < 1)=false:=by simp only [List.length_cons,decide_eq_false_iff_not]; omega
  simp only [Zg,Zc,cond_true,cond_false,Zf,Zv,Za,Zn,condC,Zi,Zh,Zl,ZE,ZK,Z7,List.getElem?_cons_zero,Zba,Zgr L _ h1,List.headD_cons,this,reduceCtorEq,decide_false,Bool.false_or,Bool.or_assoc]
theorem Z4 {α:Type}[SizeOf α]:∀ l:List α,l.length < SizeOf.sizeOf l
 | []=>by simp
 | x :: l=>by have:=Z4 l; simp only [List.length_cons,List.cons.sizeOf_spec]; omega
theorem Zql (d:Y9):SizeOf.sizeOf d.Values < SizeOf.sizeOf d∧SizeOf.sizeOf d.Weights < SizeOf.sizeOf d:=by cases d; simp; omega
theorem Zgo (L:Nat)(a b c:Int):YG L (a,b,c,())=some (btw a b c):=ZeG L a b c
theorem FQ (L:Nat)(lo hi:Int)(l:List Int)(h:Len l)(hL:l.length < L):Yw L (lo,hi,l,())=some (Wx lo hi l):=by
 have:=ZhO (f := VY lo hi l) l (fun l i=>some (UF (ZqQ lo hi) l i)) hL (fun self i x r hx hi' _ e=>by
  rw [VY]; simp only [Zg,Zc,cond_true,cond_false,Zf,Zv,Za,Zn,condC,Zi,Zh,Zl,ZE,ZK,Z7,hi',hx,wrap_succ hi' (by omega),e,UF]; simp only [Ye,Q4,if_true,if_false,Bool.false_eq_true,ne_eq,decide_not,gt_iff_lt,ge_iff_le]; rfl) (fun self=>by rw [VY]; simp only [Zg,Zc,cond_true,cond_false,Zf,Zv,Za,Zn,condC,Zi,Zh,Zl,ZE,ZK,Z7,UF])
 have h2:decide (UF (ZqQ lo hi) l 0 ≥ 0)=l.any (ZqQ lo hi):=Sv (ZqQ lo hi) l 0 (Int.le_refl _)
 simp only [Ze8,this,Zv,h2,Wx]
theorem ZnL (L:Nat)(h:2 < L)(lo hi a:Int):Yw L (lo,hi,[a],())=some (Wx lo hi [a]):=FQ L lo hi [a] (by simp [Len]) (by simp; omega)
theorem ZnM (L:Nat)(h:2 < L)(lo hi a b:Int):Yw L (lo,hi,[a,b],())=some (Wx lo hi [a,b]):=FQ L lo hi [a,b] (by simp [Len]) (by simpa using h)
theorem ZpV (L:Nat)(d:Y9)(h:V6 d):Uj L (d,())=some (D6 d):=by
 simp only [Zg,Zc,cond_true,cond_false,Zf,Zv,Za,Zn,condC,Zi,Zh,Zl,ZE,ZK,Z7,Ze7,h.wr,D6]; simp only [Ye,Q4,if_true,if_false,Bool.false_eq_true,ne_eq,decide_not,gt_iff_lt,ge_iff_le]
theorem H8 (L:Nat)(d:Y9)(h:V6 d)(hL:SizeOf.sizeOf d < L)(h1:100≤L):WS L (d,())=some (O4 d):=by
 have hs:d.Values.length < L∧d.Weights.length < L:=by
  have:=Z4 d.Values; have:=Z4 d.Weights; have:=Zql d; omega
 simp only [Zg,Zc,cond_true,cond_false,Zf,Zv,Za,Zn,condC,Zi,Zh,Zl,ZE,ZK,Z7,Zg0,ZpV L d h,O4,FQ L _ _ _ h.v hs.1,FQ L _ _ _ h.w hs.2,ZnL L (by omega),ZnM L (by omega)]
 simp only [Ye,Q4,if_true,if_false,Bool.false_eq_true,ne_eq,decide_not,gt_iff_lt,ge_iff_le]
theorem Zig (L:Nat)(d:Y9):KX L (d,())=some (Zcb d):=by
 simp only [Zg,Zc,cond_true,cond_false,Zf,Zv,Za,Zn,condC,Zi,Zh,Zl,ZE,ZK,Z7,Zg8,Zcb]; simp only [Ye,Q4,if_true,if_false,Bool.false_eq_true,ne_eq,decide_not,gt_iff_lt,ge_iff_le]
theorem Zs5 (L:Nat)(d:Y9)(h:V6 d)(hL:SizeOf.sizeOf d < L):I9 L (d,())=some (Zk1 d):=by
 have hs:d.Values.length < L∧d.Weights.length < L:=by
  have:=Z4 d.Values; have:=Z4 d.Weights; have:=Zql d; omega
 rw [Ziw,Zk1]
 by_cases hl:d.Values.length=d.Weights.length
 ·rw [Zcy d.Values d.Weights hl (fun l m=>some (Zrd l m)) hs.1 (fun self i x y r r' hx hy hi _ e=>by
   have hv:=h.v
   rw [Td]; simp only [Zg,Zc,cond_true,cond_false,Zf,Zv,Za,Zn,condC,Zi,Zh,Zl,ZE,ZK,Z7,hi,hx,hy,Zgo,wrap_succ hi (by omega),e,Zrd]; simp only [Ye,Q4,if_true,if_false,Bool.false_eq_true,ne_eq,decide_not,gt_iff_lt,ge_iff_le]) (fun self=>by rw [Td]; simp only [Zg,Zc,cond_true,cond_false,Zf,Zv,Za,Zn,condC,Zi,Zh,Zl,ZE,ZK,Z7,Zrd])]
  simp only [Zg,Zc,cond_true,cond_false,Zf,Zv,Za,Zn,condC,Zi,Zh,Zl,ZE,ZK,Z7]; simp only [Ye,Q4,if_true,if_false,Bool.false_eq_true,ne_eq,decide_not,gt_iff_lt,ge_iff_le]
 ·simp only [Ye,Q4,if_true,if_false,Bool.false_eq_true,ne_eq,decide_not,gt_iff_lt,ge_iff_le,ZE,Z7,Bool.not_false,show decide ((d.Values.length:Int)=d.Weights.length)=false by simp only [decide_eq_false_iff_not]; omega]
theorem MV (L:Nat)(d:Y9)(h:V6 d)(hL:SizeOf.sizeOf d < L):XJ L (d,())=some (O4 d):=by
 rw [← ZdZ]
 simp only [Zg,Zc,cond_true,cond_false,Zf,Zv,Za,Zn,condC,Zi,Zh,Zl,ZE,ZK,Z7,Ziv,Zig,ZoX,Zgo,Zs5 L d h hL]; simp only [Ye,Q4,if_true,if_false,Bool.false_eq_true,ne_eq,decide_not,gt_iff_lt,ge_iff_le]
end Go.Proofs.YtleomfgijkapfaaGreatDoor
end
section
namespace Go.Proofs.YtleomfgijkapfaaGreatDoor
open Go Go.Proofs.YtleomfgijkapfaaGreatDoor.Abs Go.Proofs.YtleomfgijkapfaaGreatDoor.Tl
set_option maxRecDepth 100000
theorem Zop (e:Zt):SizeOf.sizeOf e.Kids < SizeOf.sizeOf e∧SizeOf.sizeOf e.Name < SizeOf.sizeOf e:=by cases e; simp; omega
theorem ZZ.nl {e:Zt}(h:ZZ e):Len e.Name:=by have:=h.n; unfold Len; omega
theorem Zgv (L:Nat):∀ (m:Nat) (e:Zt),ZZ e→SizeOf.sizeOf e≤m→m≤L→Ut L m (e,())=some (Zm4 e)
 | 0,e,h,hs,_=>absurd hs (by have:=RH e; omega)
 | m + 1,e,h,hs,hm=>by
  have hk:=Z4 e.Kids; have hz:=Zop e; have hl:=h.k
  rw [Zg3,Zm5]
  refine SC e.Kids (fun l s=>some (sumW Zm4 l s)) (by omega) 1 (fun self s i x r hx hi mem e'=>?_) (fun self s=>?_)
  ·have ih:=Zgv L m x (h.Kids.2 x mem) (by have:=P7 mem; omega) (by omega)
   rw [H7]; simp only [Zg,Zc,cond_true,cond_false,Zf,Zv,Za,Zn,condC,Zi,Zh,Zl,ZE,ZK,Z7,hi,hx,ih,wrap_succ hi (by omega),e',sumW]
  ·rw [H7]; simp only [Zg,Zc,cond_true,cond_false,Zf,Zv,Za,Zn,condC,Zi,Zh,Zl,ZE,ZK,Z7,sumW]
theorem Zgx (L:Nat):∀ (m:Nat) (e:Zt),ZZ e→SizeOf.sizeOf e≤m→m≤L→Gi L m (e,())=some (Zm4 e)
 | 0,e,h,hs,_=>absurd hs (by have:=RH e; omega)
 | m + 1,e,h,hs,hm=>by
  have hk:=Z4 e.Kids; have hz:=Zop e; have hl:=h.k
  rw [Zi1,Zm5]
  refine SC e.Kids (fun l s=>some (sumW Zm4 l s)) (by omega) 1 (fun self s i x r hx hi mem e'=>?_) (fun self s=>?_)
  ·have ih:=Zgx L m x (h.Kids.2 x mem) (by have:=P7 mem; omega) (by omega)
   rw [Ti]; simp only [Zg,Zc,cond_true,cond_false,Zf,Zv,Za,Zn,condC,Zi,Zh,Zl,ZE,ZK,Z7,hi,hx,ih,wrap_succ hi (by omega),e',sumW]
  ·rw [Ti]; simp only [Zg,Zc,cond_true,cond_false,Zf,Zv,Za,Zn,condC,Zi,Zh,Zl,ZE,ZK,Z7,sumW]
theorem Zgu (L:Nat):∀ (m:Nat) (e:Zt),ZZ e→SizeOf.sizeOf e≤m→m≤L→Us L m (e,())=some (ZlN e)
 | 0,e,h,hs,_=>absurd hs (by have:=RH e; omega)
 | m + 1,e,h,hs,hm=>by
  have hk:=Z4 e.Kids; have hz:=Zop e; have hl:=h.k
  rw [Zg2,Zm9]
  refine SC e.Kids (fun l s=>some (IntKind.i64.wrap (Zpy ZlN l s + 1))) (by omega) 0 (fun self s i x r hx hi mem e'=>?_) (fun self s=>?_)
  ·have ih:=Zgu L m x (h.Kids.2 x mem) (by have:=P7 mem; omega) (by omega)
   rw [H6]; simp only [Zg,Zc,cond_true,cond_false,Zf,Zv,Za,Zn,condC,Zi,Zh,Zl,ZE,ZK,Z7,hi,hx,ih,wrap_succ hi (by omega),e',Zpy]
  ·rw [H6]; simp only [Zg,Zc,cond_true,cond_false,Zf,Zv,Za,Zn,condC,Zi,Zh,Zl,ZE,ZK,Z7,Zpy]
theorem Zgw (L:Nat):∀ (m:Nat) (e:Zt),ZZ e→SizeOf.sizeOf e≤m→m≤L→Gh L m (e,())=some (ZlN e)
 | 0,e,h,hs,_=>absurd hs (by have:=RH e; omega)
 | m + 1,e,h,hs,hm=>by
  have hk:=Z4 e.Kids; have hz:=Zop e; have hl:=h.k
  rw [Zi0,Zm9]
  refine SC e.Kids (fun l s=>some (IntKind.i64.wrap (Zpy ZlN l s + 1))) (by omega) 0 (fun self s i x r hx hi mem e'=>?_) (fun self s=>?_)
  ·have ih:=Zgw L m x (h.Kids.2 x mem) (by have:=P7 mem; omega) (by omega)
   rw [Tf]; simp only [Zg,Zc,cond_true,cond_false,Zf,Zv,Za,Zn,condC,Zi,Zh,Zl,ZE,ZK,Z7,hi,hx,ih,wrap_succ hi (by omega),e',Zpy]
  ·rw [Tf]; simp only [Zg,Zc,cond_true,cond_false,Zf,Zv,Za,Zn,condC,Zi,Zh,Zl,ZE,ZK,Z7,Zpy]
theorem Zkh (L:Nat)(n:Int):Vr L (n,())=some (Znv n):=Ze9 L n
theorem ZqT (L:Nat)(n:Int):Ko L (n,())=some (Zgb n):=by
 simp only [Zg,Zc,cond_true,cond_false,Zf,Zv,Za,Zn,condC,Zi,Zh,Zl,ZE,ZK,Z7,Zit,Zgb]; simp only [Ye,Q4,if_true,if_false,Bool.false_eq_true,ne_eq,decide_not,gt_iff_lt,ge_iff_le]
theorem Zsv (L:Nat)(k:Qd)(n:Int):Qy L (k,n,())=some (ZaM k.1 n):=by
 simp only [Zg,Zc,cond_true,cond_false,Zf,Zv,Za,Zn,condC,Zi,Zh,Zl,ZE,ZK,Z7,BN,ZqT,ZaM]; simp only [Ye,Q4,if_true,if_false,Bool.false_eq_true,ne_eq,decide_not,gt_iff_lt,ge_iff_le]
theorem Zsx (L:Nat)(k:Qd)(n:Int):WA L (k,n,())=some (Zdp k.1 n):=by
 simp only [Zg,Zc,cond_true,cond_false,Zf,Zv,Za,Zn,condC,Zi,Zh,Zl,ZE,ZK,Z7,BO,Zkh,Zdp]
theorem ZnF (L:Nat)(k:Qd)(n:Int):WR L (k,n,())=some ((Zo2 k.1 n).1,(Zo2 k.1 n).2.1,(Zo2 k.1 n).2.2,()):=by
 simp only [Zg,Zc,cond_true,cond_false,Zf,Zv,Za,Zn,condC,Zi,Zh,Zl,ZE,ZK,Z7,Tc,Zkh,Zo2]
 cases decide (n=2) <;> cases decide (n=25) <;> cases decide (n=26) <;> cases Znv n <;> cases k.1 <;> rfl
theorem ZvJ (L:Nat)(n:Int):Ll L (n,())=some (inB n):=ZpZ L n
theorem Zus (L:Nat)(k:Qd)(e:Zt)(h:ZZ e)(hL:SizeOf.sizeOf e≤L):QJ L (k,e,())=some (Fv k.1 e):=by
 have hn:=Qb L e.Name h.nl (by have:=Z4 e.Name; have:=Zop e; omega)
 simp only [Zg,Zc,cond_true,cond_false,Zf,Zv,Za,Zn,condC,Zi,Zh,Zl,ZE,ZK,Z7,PP,Zsv,ZqT,Zsx,ZnF,ZvJ,hn,Fv]; simp only [Ye,Q4,if_true,if_false,Bool.false_eq_true,ne_eq,decide_not,gt_iff_lt,ge_iff_le,Bool.or_assoc]
theorem Zkn (L:Nat)(k:Qd):∀ (m:Nat) (e:Zt),ZZ e→SizeOf.sizeOf e≤m→m≤L→Qc L m (k,e,())=some (V9 k.1 e)
 | 0,e,h,hs,_=>absurd hs (by have:=RH e; omega)
 | m + 1,e,h,hs,hm=>by
  have hk:=Z4 e.Kids; have hz:=Zop e; have hl:=h.k
  have lp:Zq (WZ m k e L) L (0,())=some (Yb (V9 k.1) e.Kids):=by
   refine SB e.Kids (fun l=>some (Yb (V9 k.1) l)) (by omega) (fun self i x r hx hi mem e'=>?_) (fun self=>?_)
   ·have ih:=Zkn L k m x (h.Kids.2 x mem) (by have:=P7 mem; omega) (by omega)
    rw [WZ]; simp only [Zg,Zc,cond_true,cond_false,Zf,Zv,Za,Zn,condC,Zi,Zh,Zl,ZE,ZK,Z7,hi,hx,ih,wrap_succ hi (by omega),e',Yb]; simp only [Ye,Q4,if_true,if_false,Bool.false_eq_true,ne_eq,decide_not,gt_iff_lt,ge_iff_le]
   ·rw [WZ]; simp only [Zg,Zc,cond_true,cond_false,Zf,Zv,Za,Zn,condC,Zi,Zh,Zl,ZE,ZK,Z7,Yb]
  rw [BP,ZaQ,lp,Zus L k e h (by omega)]
  simp only [Zg,Zc,cond_true,cond_false,Zf,Zv,Za,Zn,condC,Zi,Zh,Zl,ZE,ZK,Z7]; simp only [Ye,Q4,if_true,if_false,Bool.false_eq_true,ne_eq,decide_not,gt_iff_lt,ge_iff_le]
theorem Zke (L:Nat)(k:Qd)(e:Zt)(h:ZZ e)(hL:SizeOf.sizeOf e≤L):W9 L (k,e,())=some (WI k.1 e):=by
 simp only [Zg,Zc,cond_true,cond_false,Zf,Zv,Za,Zn,condC,Zi,Zh,Zl,ZE,ZK,Z7,BM,show ML L (e,())=_ from Zgv L L e h hL (Nat.le_refl _),show MJ L (e,())=_ from Zgu L L e h hL (Nat.le_refl _),show XH L (k,e,())=_ from Zkn L k L e h hL (Nat.le_refl _),WI]; simp only [Ye,Q4,if_true,if_false,Bool.false_eq_true,ne_eq,decide_not,gt_iff_lt,ge_iff_le]
theorem Zie (L:Nat)(e:Zt)(h:ZZ e)(hL:SizeOf.sizeOf e≤L):WG L (e,())=some (WI true e):=by
 simp only [Zg,Zc,cond_true,cond_false,Zf,Zv,Za,Zn,condC,Zi,Zh,Zl,ZE,ZK,Z7,F6,Zke L _ e h hL]
theorem Ze0 (L:Nat)(e:Zt)(h:ZZ e)(hL:SizeOf.sizeOf e≤L):J6 L (e,())=some (WI false e):=by
 simp only [Zg,Zc,cond_true,cond_false,Zf,Zv,Za,Zn,condC,Zi,Zh,Zl,ZE,ZK,Z7,Zg1,Zke L _ e h hL]
theorem Zs0 (L:Nat)(n:Int):Lm L (n,())=some (inB n):=Zqa L n
theorem ZnH (L:Nat)(n:Int):J8 L (n,())=some (Znv n):=ZgA L n
theorem Zss (L:Nat)(n:Int):IA L (n,())=some (Zas n):=by
 simp only [Zg,Zc,cond_true,cond_false,Zf,Zv,Za,Zn,condC,Zi,Zh,Zl,ZE,ZK,Z7,Ziy,Zas]; simp only [Ye,Q4,if_true,if_false,Bool.false_eq_true,ne_eq,decide_not,gt_iff_lt,ge_iff_le]
theorem Zur (L:Nat)(n:Int):Lp L (n,())=some (Zp2 n):=by
 simp only [Zg,Zc,cond_true,cond_false,Zf,Zv,Za,Zn,condC,Zi,Zh,Zl,ZE,ZK,Z7,Zls,Zp2]; simp only [Ye,Q4,if_true,if_false,Bool.false_eq_true,ne_eq,decide_not,gt_iff_lt,ge_iff_le]
theorem Zts (a b d:Bool)(n r:Int):(if a=true then 1 else if b=true then 2 else if (d && !decide (n=0))=true then n else r) =
  if (!decide ((if a=true then 1 else if b=true then 2 else if (d && !decide (n=0))=true then n else 0)=0))=true then (if a=true then 1 else if b=true then 2 else if (d && !decide (n=0))=true then n else 0) else r:=by
 cases a <;> cases b <;> cases d <;> by_cases h:n=0 <;> simp [h]
theorem Zkp (L:Nat)(c:Bool)(h1:100≤L):∀ (m:Nat) (e:Zt),ZZ e→SizeOf.sizeOf e≤m→m≤L→IU L m (e,c,())=some (V9 c e)
 | 0,e,h,hs,_=>absurd hs (by have:=RH e; omega)
 | m + 1,e,h,hs,hm=>by
  have hk:=Z4 e.Kids; have hz:=Zop e; have hl:=h.k
  have lp:Zq (H9 m e c L) L (0,())=some (Yb (V9 c) e.Kids):=by
   refine SB e.Kids (fun l=>some (Yb (V9 c) l)) (by omega) (fun self i x r hx hi mem e'=>?_) (fun self=>?_)
   ·have ih:=Zkp L c h1 m x (h.Kids.2 x mem) (by have:=P7 mem; omega) (by omega)
    rw [H9]; simp only [Zg,Zc,cond_true,cond_false,Zf,Zv,Za,Zn,condC,Zi,Zh,Zl,ZE,ZK,Z7,hi,hx,ih,wrap_succ hi (by omega),e',Yb]; simp only [Ye,Q4,if_true,if_false,Bool.false_eq_true,ne_eq,decide_not,gt_iff_lt,ge_iff_le]
   ·rw [H9]; simp only [Zg,Zc,cond_true,cond_false,Zf,Zv,Za,Zn,condC,Zi,Zh,Zl,ZE,ZK,Z7,Yb]
  have hn:=VJ L e.Name h.nl (by have:=Z4 e.Name; omega) h1
  rw [← Znu]
  simp only [Zg,Zc,cond_true,cond_false,Zf,Zv,Za,Zn,condC,Zi,Zh,Zl,ZE,ZK,Z7,Zlt,lp,Zss,ZnH,Zs0,Zur,hn,ZkV]; simp only [Ye,Q4,if_true,if_false,Bool.false_eq_true,ne_eq,decide_not,gt_iff_lt,ge_iff_le,Bool.or_assoc]
  exact congrArg some (Zts _ _ _ _ _)
theorem Zki (L:Nat)(c:Bool)(h1:100≤L)(e:Zt)(h:ZZ e)(hL:SizeOf.sizeOf e≤L):Kq L (e,c,())=some (WI c e):=by
 simp only [Zg,Zc,cond_true,cond_false,Zf,Zv,Za,Zn,condC,Zi,Zh,Zl,ZE,ZK,Z7,Zi2,show D8 L (e,())=_ from Zgx L L e h hL (Nat.le_refl _),show D7 L (e,())=_ from Zgw L L e h hL (Nat.le_refl _),show Eh L (e,c,())=_ from Zkp L c h1 L e h hL (Nat.le_refl _),WI]; simp only [Ye,Q4,if_true,if_false,Bool.false_eq_true,ne_eq,decide_not,gt_iff_lt,ge_iff_le]
theorem Zgs (L:Nat)(h1:100≤L)(e:Zt)(h:ZZ e)(hL:SizeOf.sizeOf e≤L):Vw L (e,())=some (WI true e):=by
 simp only [Zg,Zc,cond_true,cond_false,Zf,Zv,Za,Zn,condC,Zi,Zh,Zl,ZE,ZK,Z7,Zbk,Zki L _ h1 e h hL]
theorem Ze1 (L:Nat)(h1:100≤L)(e:Zt)(h:ZZ e)(hL:SizeOf.sizeOf e≤L):YH L (e,())=some (WI false e):=by
 simp only [Zg,Zc,cond_true,cond_false,Zf,Zv,Za,Zn,condC,Zi,Zh,Zl,ZE,ZK,Z7,Ziz,Zki L _ h1 e h hL]
theorem Zkc (L:Nat)(a b:List Int)(h:Len a)(hL:a.length < L):Y3 L (a,b,())=some (decide (a=b)):=by
 rw [GV]
 by_cases hl:a.length=b.length
 ·rw [Zcy a b hl (fun l m=>some (decide (l=m))) hL (fun self i x y r r' hx hy hi _ e=>by
   rw [WW]; simp only [Zg,Zc,cond_true,cond_false,Zf,Zv,Za,Zn,condC,Zi,Zh,Zl,ZE,ZK,Z7,hi,hx,hy,wrap_succ hi (by omega),e,List.cons.injEq,Bool.decide_and]; cases decide (x=y) <;> rfl) (fun self=>by rw [WW]; simp only [Zg,Zc,cond_true,cond_false,Zf,Zv,Za,Zn,condC,Zi,Zh,Zl,ZE,ZK,Z7,decide_true])]
  rw [Z7,show decide ((a.length:Int)=b.length)=true by simp only [decide_eq_true_eq]; omega]; rfl
 ·rw [Z7,show decide ((a.length:Int)=b.length)=false by simp only [decide_eq_false_iff_not]; omega]
  have:a≠b:=fun e=>hl (by rw [e])
  simp [this]
theorem Zdx (L:Nat)(a b:List Int)(h:Len a)(hL:a.length < L):X0 L (a,b,())=some (decide (a=b)):=by
 rw [Zc3]
 by_cases hl:a.length=b.length
 ·rw [Zcy a b hl (fun l m=>some (decide (l=m))) hL (fun self i x y r r' hx hy hi _ e=>by
   rw [UG]; simp only [Zg,Zc,cond_true,cond_false,Zf,Zv,Za,Zn,condC,Zi,Zh,Zl,ZE,ZK,Z7,hi,hx,hy,wrap_succ hi (by omega),e,List.cons.injEq,Bool.decide_and]; cases decide (x=y) <;> rfl) (fun self=>by rw [UG]; simp only [Zg,Zc,cond_true,cond_false,Zf,Zv,Za,Zn,condC,Zi,Zh,Zl,ZE,ZK,Z7,decide_true])]
  rw [Z7,show decide ((a.length:Int)=b.length)=true by simp only [decide_eq_true_eq]; omega]; rfl
 ·rw [Z7,show decide ((a.length:Int)=b.length)=false by simp only [decide_eq_false_iff_not]; omega]
  have:a≠b:=fun e=>hl (by rw [e])
  simp [this]
theorem Zez (L:Nat)(a b:Y9)(h:V6 a)(hL:SizeOf.sizeOf a≤L):XI L (a,b,())=some (ZmB a b):=by
 have h1:=Z4 a.Values; have h2:=Z4 a.Weights; have h3:=Zql a
 simp only [Zg,Zc,cond_true,cond_false,Zf,Zv,Za,Zn,condC,Zi,Zh,Zl,ZE,ZK,Z7,Zis,Zkc L a.Values _ h.v (by omega),Zkc L a.Weights _ h.w (by omega),ZmB]
theorem FO (L:Nat)(a b:Y9)(h:V6 a)(hL:SizeOf.sizeOf a≤L):VQ L (a,b,())=some (ZmB a b):=by
 have h1:=Z4 a.Values; have h2:=Z4 a.Weights; have h3:=Zql a
 simp only [Zg,Zc,cond_true,cond_false,Zf,Zv,Za,Zn,condC,Zi,Zh,Zl,ZE,ZK,Z7,Zlp,Zdx L a.Values _ h.v (by omega),Zdx L a.Weights _ h.w (by omega),ZmB]
theorem ZsZ {α β:Type}(a:List α)(b:List β):(a.length=b.length∧decide ((a.length:Int)=(b.length:Int))=true)∨(a.length≠b.length∧decide ((a.length:Int)=(b.length:Int))=false):=by
 by_cases h:a.length=b.length
 ·exact .inl ⟨h,by simp only [decide_eq_true_eq]; omega⟩
 ·exact .inr ⟨h,by simp only [decide_eq_false_iff_not]; omega⟩
theorem Zkm (L:Nat):∀ (m:Nat) (a b:Zt),ZZ a→SizeOf.sizeOf a≤m→m≤L→Gg L m (a,b,())=some (Nc a b)
 | 0,e,_,h,hs,_=>absurd hs (by have:=RH e; omega)
 | m + 1,e,b,h,hs,hm=>by
  have hk:=Z4 e.Kids; have hz:=Zop e; have hl:=h.k
  rw [FZ]
  rcases ZsZ e.Kids b.Kids with ⟨hl1,hl2⟩ | ⟨hl1,hl2⟩
  ·have lp:Zq (KE m e b L) L (0,())=some (all2 Nc e.Kids b.Kids):=by
    refine Zcy e.Kids b.Kids hl1 (fun l l'=>some (all2 Nc l l')) (by omega) (fun self i x y r r' hx hy hi mem e'=>?_) (fun self=>?_)
    ·have ih:=Zkm L m x y (h.Kids.2 x mem) (by have:=P7 mem; omega) (by omega)
     rw [KE]; simp only [Zg,Zc,cond_true,cond_false,Zf,Zv,Za,Zn,condC,Zi,Zh,Zl,ZE,ZK,Z7,hi,hx,hy,ih,wrap_succ hi (by omega),e',all2]; simp only [Ye,Q4,if_true,if_false,Bool.false_eq_true,ne_eq,decide_not,gt_iff_lt,ge_iff_le]
    ·rw [KE]; simp only [Zg,Zc,cond_true,cond_false,Zf,Zv,Za,Zn,condC,Zi,Zh,Zl,ZE,ZK,Z7,all2]
   simp only [Zg,Zc,cond_true,cond_false,Zf,Zv,Za,Zn,condC,Zi,Zh,Zl,ZE,ZK,Z7,Zbg,lp,ZhG,hl2]; simp only [Ye,Q4,if_true,if_false,Bool.false_eq_true,ne_eq,decide_not,gt_iff_lt,ge_iff_le,hl2]
  ·simp only [Zg,Zc,cond_true,cond_false,Zf,Zv,Za,Zn,condC,Zi,Zh,Zl,ZE,ZK,Z7,Zbg,ZhG,hl2,Bool.not_false,Bool.or_true]; simp only [Ye,Q4,if_true,if_false,Bool.false_eq_true,ne_eq,decide_not,gt_iff_lt,ge_iff_le,hl2,Bool.not_false,Bool.or_true]
theorem ZnD (L:Nat)(a b:Zt)(h:ZZ a)(hL:SizeOf.sizeOf a≤L):I8 L (a,b,())=some (Nc a b):=Zkm L L a b h hL (Nat.le_refl _)
end Go.Proofs.YtleomfgijkapfaaGreatDoor
end
