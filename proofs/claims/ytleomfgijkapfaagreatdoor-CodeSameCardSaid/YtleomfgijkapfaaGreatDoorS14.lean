import Derived.Test.YtleomfgijkapfaaGreatDoorS13
set_option linter.all false
noncomputable section
namespace Go.Proofs.YtleomfgijkapfaaGreatDoor
open Go Go.Proofs.YtleomfgijkapfaaGreatDoor.Abs Go.Proofs.YtleomfgijkapfaaGreatDoor.Tl
set_option maxRecDepth 100000
set_option maxHeartbeats 0
def Wy (L:Nat)(x:Int×Int×Int×PUnit):Option Bool:=fT [] L EY [] (.one .bool) [.int .i64,.int .i64,.int .i64] x
def FI (L:Nat):Sum tT:=mU 165 [.int .i64,.int .i64,.int .i64] (.one .bool) (Wy L)
theorem Zhn (L:Nat)(x0:Int)(x1:Int)(x2:Int):Wy L (x0,x1,x2,())=some (decide (x0 ≥ x1) && decide (x0≤x2)):=by kernel_rfl
def Lp (L:Nat)(x:YP×PUnit):Option Int:=fT [FI L] L Zcw [.rnd [.slot 3 (.int .i64)]] (.one (.int .i64)) [.row 2] x
def ZlL (L:Nat):Sum tT:=mU 166 [.row 2] (.one (.int .i64)) (Lp L)
def BX:YP→Nat→(Int×PUnit→Option Int)→Int×PUnit→Option Int:=fun x0 L self acc=>bif decide (acc.1 < (↑x0.5.length:Int)) then bT (Z8 x0.5 acc.1) fun y=>bT (Wy L (y,0,1000000000,())) fun y=>bT (bif (!y) == false then bT (Z8 x0.6 acc.1) fun y=>bT (Wy L (y,1,1000,())) fun y=>some !y else some true) fun y=>bif y then some 2 else self (Go.IntKind.i64.wrap (acc.1 + 1),()) else some 0
theorem Zlb (L:Nat)(x0:YP):Lp L (x0,())=bif (↑x0.5.length:Int) != (↑x0.6.length:Int) then some 8 else bif (↑x0.5.length:Int) == 0 then some 7 else bif decide ((↑x0.5.length:Int) > 20) then some 6 else Zo (BX x0 L) L (0,()):=by kernel_rfl
def OG (L:Nat)(x:YP×PUnit):Option Bool:=fT [] L Za4 [] (.one .bool) [.row 2] x
def ZjQ (L:Nat):Sum tT:=mU 164 [.row 2] (.one .bool) (OG L)
theorem Zjm (L:Nat)(x0:YP):OG L (x0,())=bif x0.1 == 1 then some (x0.3 == 0 && x0.4 == 0 && ((↑x0.5.length:Int) == 0 && (↑x0.6.length:Int) == 0)) else bif x0.1 == 2 then some (x0.4 == 0 && ((↑x0.5.length:Int) == 0 && (↑x0.6.length:Int) == 0)) else bif x0.1 == 5 then some (x0.4 == 0 && ((↑x0.5.length:Int) == 0 && (↑x0.6.length:Int) == 0)) else bif x0.1 == 3 then some (x0.2 == 0 && x0.3 == 0 && x0.4 == 0) else bif x0.1 == 4 then some ((↑x0.5.length:Int) == 0 && (↑x0.6.length:Int) == 0) else some false:=by kernel_rfl
def Jn (L:Nat)(x:YP×PUnit):Option Int:=fT [ZlL L,FI L,ZjQ L] L Zcv [] (.one (.int .i64)) [.row 2] x
def Es (L:Nat):Sum tT:=mU 86 [.row 2] (.one (.int .i64)) (Jn L)
theorem Zla (L:Nat)(x0:YP):Jn L (x0,())=bT (OG L (x0,())) fun y=>bif !y then some 1 else bif x0.1 == 1 then bT (Wy L (x0.2,0,1000000000,())) fun y=>bif !y then some 2 else some 0 else bif x0.1 == 2 then bT (Wy L (x0.2,0,x0.3,())) fun y=>bif !(y && decide (x0.3≤1000000000)) then some 2 else some 0 else bif x0.1 == 3 then bT (Lp L (x0,())) fun y=>some y else bif x0.1 == 4 then bT (Wy L (x0.4,1,20,())) fun y=>bT (bif y == true then bT (Wy L (x0.2,0,x0.3,())) fun y=>some y else some false) fun y=>bif !(y && decide (x0.3≤1000000)) then some 2 else some 0 else bif x0.1 == 5 then bT (Wy L (x0.2,1,1000,())) fun y=>bT (bif y == true then bT (Wy L (x0.3,1,1000,())) fun y=>some y else some false) fun y=>bif !y then some 2 else some 0 else some 0:=by kernel_rfl
def Zen (L:Nat):Nat→List (Sum tT)
 | 0=>[⟨85,[.row 19,.int .i64,.row 16,.row 8],fun _=>.par _ none ((.one (.bool):RD).tv tT)⟩]
 | m + 1=>[⟨85,[.row 19,.int .i64,.row 16,.row 8],fun x=>.par _ (fnT tF tG (qOf tF (Zen L m ++ [])) 0 L Ce [.rnd [.slot 10 (.int .i64)]] (.one (.bool)) (tvL tT [.row 19,.int .i64,.row 16,.row 8] x) []) ((.one (.bool):RD).tv tT)⟩]
def LM (L m:Nat)(x:Zm×Int×Y8×Zt×PUnit):Option (Bool):=fnT tF tG (qOf tF (Zen L m ++ [])) 0 L Ce [.rnd [.slot 10 (.int .i64)]] (.one (.bool)) (tvL tT [.row 19,.int .i64,.row 16,.row 8] x) []
def Zar (L:Nat)(x:Zm×Int×Y8×Zt×PUnit):Option (Bool):=LM L L x
def ZoE (L:Nat):Sum tT:=⟨85,[.row 19,.int .i64,.row 16,.row 8],fun x=>.par ((.one (.bool):RD).Ty tT) (Zar L x) ((.one (.bool):RD).tv tT)⟩
def MR:Nat→Zm→Int→Y8→Zt→Nat→(Int×PUnit→Option Bool)→Int×PUnit→Option Bool:=fun (m:Nat)=>fun x0 x1 x2 x3 L self acc=>bif decide (acc.1 < (↑x3.4.length:Int)) then bT (Z8 x3.4 acc.1) fun y=>bT (bT (LM L m (x0,x1,x2,y,())) fun y=>some y) fun y=>bif !y then some false else self (Go.IntKind.i64.wrap (acc.1 + 1),()) else some true
theorem Zot (L m:Nat)(x0:Zm)(x1:Int)(x2:Y8)(x3:Zt):LM L (m + 1) (x0,x1,x2,x3,())=bT (Z8 x0.2 x1) fun y=>bif x3.1 == 25 && decide (x3.3 ≥ x2.3) then some false else bif x3.1 == 26 && decide (x3.3 ≥ (↑y.Decl.2.length:Int)) then some false else bif x3.1 == 22 && decide (x3.3 ≥ (↑y.Decl.3.length:Int)) then some false else bif x3.1 == 23 && decide (x3.3 ≥ (↑y.Decl.4.length:Int)) then some false else bif x3.1 == 24 && decide (x3.3 ≥ Go.IntKind.i64.wrap ((↑y.Decl.3.length:Int) + (↑y.Decl.6.length:Int))) then some false else Zo (MR m x0 x1 x2 x3 L) L (0,()):=by kernel_rfl
def J4 (L:Nat)(x:(List (List UInt8))×(List UInt8)×PUnit):Option Int:=fT [] L Zfv [.rnd [.slot 5 (.int .i64)]] (.one (.int .i64)) [.lst 1 .str,.str] x
def TS (L:Nat):Sum tT:=mU 143 [.lst 1 .str,.str] (.one (.int .i64)) (J4 L)
def Ec:List (List UInt8)→List UInt8→(Int×PUnit→Option Int)→Int×PUnit→Option Int:=fun x0 x1 self acc=>bif decide (acc.1 < (↑x0.length:Int)) then bT (Z8 x0 acc.1) fun y=>bif y == x1 then some acc.1 else self (Go.IntKind.i64.wrap (acc.1 + 1),()) else some (-1)
theorem Zog (L:Nat)(x0:(List (List UInt8)))(x1:(List UInt8)):J4 L (x0,x1,())=Zo (Ec x0 x1) L (0,()):=by kernel_rfl
def UR (L:Nat)(x:PUnit):Option ((List (List UInt8))):=fT [] L Ns [] (.one (.lst 1 .str)) [] x
def Zfn (L:Nat):Sum tT:=mU 144 [] (.one (.lst 1 .str)) (UR L)
theorem ZeY (L:Nat)  : UR L ()=some [[97,100,100],[97,102,116,101,114],[97,110,100],[97,116],[98,101,108,116],[98,111,111,108],[99,111,110,115,101,114,118,101],[99,111,110,115,116],[99,111,117,110,116],[99,121,99,108,101],[100,111,119,110],[100,114,97,119],[100,117,114],[101,108,115,101],[101,110,100],[101,118,101,114,121],[102,97,108,115,101],[102,97,117,108,116],[102,105,102,111],[102,114,101,101],[102,114,111,109],[103,101,111,109],[103,101,116],[104,111,108,100],[105,102],[105,110,116],[105,110,116,111],[108,101,97,115,116],[108,101,118,101,108],[108,105,102,111],[108,105,110,107],[108,111,99,97,108],[109,97,120],[109,105,110],[109,111,100,101,108],[110,111,116],[110,111,119],[111,98,115,101,114,118,101],[111,114],[112,97,114,97,109],[112,114,101,101,109,112,116],[112,114,105,111],[112,117,116],[113,117,101,117,101],[114,101,108,101,97,115,101],[114,101,115,111,117,114,99,101],[114,105,100,101],[114,111,117,116,105,110,101],[115,101,105,122,101],[115,101,110,100],[115,101,116],[115,104,105,102,116],[115,105,103,110,97,108],[115,105,116,101],[115,105,122,101],[115,112,97,119,110],[115,116,97,114,116],[115,116,111,112],[115,116,111,114,101],[115,116,114,101,97,109],[115,117,109],[116,97,98,108,101],[116,97,108,108,121],[116,105,99,107,115],[116,105,109,101],[116,114,117,101],[117,110,105,102,111,114,109],[117,110,116,105,108],[117,112],[118,97,114],[119,97,105,116],[119,97,105,116,105,110,103],[119,104,105,108,101]]:=by kernel_rfl
def Hr (L:Nat)(x:(List UInt8)×PUnit):Option Bool:=fT [TS L,Zfn L] L EZ [] (.one .bool) [.str] x
def ZhJ (L:Nat):Sum tT:=mU 68 [.str] (.one .bool) (Hr L)
theorem Zho (L:Nat)(x0:(List UInt8)):Hr L (x0,())=bT (UR L ()) fun y=>bT (J4 L (y,x0,())) fun y=>some (decide (y ≥ 0)):=by kernel_rfl
def KU (L:Nat)(x:Int×PUnit):Option Bool:=fT [] L Za5 [] (.one .bool) [.int .u8] x
def ZjR (L:Nat):Sum tT:=mU 67 [.int .u8] (.one .bool) (KU L)
theorem Zjn (L:Nat)(x0:Int):KU L (x0,())=some (decide (x0 ≥ 97) && decide (x0≤122)):=by kernel_rfl
def Q7 (L:Nat)(x:(List UInt8)×PUnit):Option Int:=fT [ZhJ L,ZjR L] L Zcx [.rnd [.slot 3 (.int .i64)]] (.one (.int .i64)) [.str] x
def Jl (L:Nat):Sum tT:=mU 31 [.str] (.one (.int .i64)) (Q7 L)
def Ox:List UInt8→Nat→(Int×PUnit→Option Int)→Int×PUnit→Option Int:=fun x0 L self acc=>bif decide (acc.1 < (↑x0.length:Int)) then bT (Z8 x0 acc.1) fun y=>bT (KU L ((↑y.toNat:Int),())) fun y=>bT (bif (!y) == true then bT (Z8 x0 acc.1) fun y=>some ((↑y.toNat:Int) != 95) else some false) fun y=>bT (bif y == true then bT (Z8 x0 acc.1) fun y=>bif decide ((↑y.toNat:Int) < 48) == false then bT (Z8 x0 acc.1) fun y=>some (decide ((↑y.toNat:Int) > 57)) else some true else some false) fun y=>bif y then some 3 else self (Go.IntKind.i64.wrap (acc.1 + 1),()) else some 0
theorem Zlc (L:Nat)(x0:(List UInt8)):Q7 L (x0,())=bT (bif (decide ((↑x0.length:Int) < 1) || decide ((↑x0.length:Int) > 24)) == false then bT (Z8 x0 0) fun y=>bT (KU L ((↑y.toNat:Int),())) fun y=>some !y else some true) fun y=>bT (bif y == false then bT (Hr L (x0,())) fun y=>some y else some true) fun y=>bif y then some 3 else Zo (Ox x0 L) L (0,()):=by kernel_rfl
end Go.Proofs.YtleomfgijkapfaaGreatDoor
end
noncomputable section
namespace Go.Proofs.YtleomfgijkapfaaGreatDoor
open Go Go.Proofs.YtleomfgijkapfaaGreatDoor.Abs Go.Proofs.YtleomfgijkapfaaGreatDoor.Tl
set_option maxRecDepth 100000
set_option maxHeartbeats 0
def PE (L:Nat)(x:Int×PUnit):Option Int:=fT [] L Zfw [] (.one (.int .i64)) [.int .i64] x
def Zgn (L:Nat):Sum tT:=mU 238 [.int .i64] (.one (.int .i64)) (PE L)
theorem Zoi (L:Nat)(x0:Int):PE L (x0,())=bif x0 == 25 then some 15 else bif x0 == 26 then some 31 else some 63:=by kernel_rfl
def PD (L:Nat)(x:Int×PUnit):Option Bool:=fT [] L Zme [] (.one .bool) [.int .i64] x
def Zck (L:Nat):Sum tT:=mU 191 [.int .i64] (.one .bool) (PD L)
theorem ZsV (L:Nat)(x0:Int):PD L (x0,())=some (decide (x0 ≥ (-1000000000000)) && decide (x0≤1000000000000)):=by kernel_rfl
def KW (L:Nat)(x:Int×PUnit):Option Bool:=fT [] L Za6 [] (.one .bool) [.int .i64] x
def Zbp (L:Nat):Sum tT:=mU 237 [.int .i64] (.one .bool) (KW L)
theorem Zjo (L:Nat)(x0:Int):KW L (x0,())=some (decide (x0 ≥ 22) && decide (x0≤24)):=by kernel_rfl
def Lr (L:Nat)(x:Int×PUnit):Option Int:=fT [] L Zcy [] (.one (.int .i64)) [.int .i64] x
def Zey (L:Nat):Sum tT:=mU 236 [.int .i64] (.one (.int .i64)) (Lr L)
theorem Zld (L:Nat)(x0:Int):Lr L (x0,())=bif decide (x0 < 1) || decide (x0 > 26) then some (-1) else bif decide (x0 ≥ 5) && decide (x0≤8) then some 1 else bif decide (x0 ≥ 9) && decide (x0≤21) then some 2 else some 0:=by kernel_rfl
def Zel (L:Nat):Nat→List (Sum tT)
 | 0=>[⟨207,[.row 8,.bool],fun _=>.par _ none ((.one (.int .i64):RD).tv tT)⟩]
 | m + 1=>[⟨207,[.row 8,.bool],fun x=>.par _ (fnT tF tG (qOf tF (Zel L m ++ [Jl L,Zgn L,Zck L,Zbp L,Zey L])) 0 L FZ [.rnd [.slot 10 (.int .i64)]] (.one (.int .i64)) (tvL tT [.row 8,.bool] x) []) ((.one (.int .i64):RD).tv tT)⟩]
def LK (L m:Nat)(x:Zt×Bool×PUnit):Option (Int):=fnT tF tG (qOf tF (Zel L m ++ [Jl L,Zgn L,Zck L,Zbp L,Zey L])) 0 L FZ [.rnd [.slot 10 (.int .i64)]] (.one (.int .i64)) (tvL tT [.row 8,.bool] x) []
def Zan (L:Nat)(x:Zt×Bool×PUnit):Option (Int):=LK L L x
def Zo5 (L:Nat):Sum tT:=⟨207,[.row 8,.bool],fun x=>.par ((.one (.int .i64):RD).Ty tT) (Zan L x) ((.one (.int .i64):RD).tv tT)⟩
def MM:Nat→Zt→Bool→Nat→(Int×PUnit→Option Int)→Int×PUnit→Option Int:=fun (m:Nat)=>fun x0 x1 L self acc=>bif decide (acc.1 < (↑x0.4.length:Int)) then bT (Z8 x0.4 acc.1) fun y=>bT (LK L m (y,x1,())) fun y=>bif y != 0 then some y else self (Go.IntKind.i64.wrap (acc.1 + 1),()) else some 0
theorem Zoj (L m:Nat)(x0:Zt)(x1:Bool):LK L (m + 1) (x0,x1,())=bT (Lr L (x0.1,())) fun y=>bT (bif (!x1) == true then bif (x0.1 == 3) == false then bT (KW L (x0.1,())) fun y=>some y else some true else some false) fun y_1=>bT (bif x1 == true then bT (KW L (x0.1,())) fun y=>some (y || x0.1 == 25 || x0.1 == 26) else some false) fun y_2=>bif !(decide (y ≥ 0) && (x1 && x0.1 != 3 || !x1 && decide (x0.1≤24))) || !y_1 && !x0.2 == [] || !(x0.1 == 1 || x0.1 == 2 || y_2) && x0.3 != 0 || (↑x0.4.length:Int) != y then some 1 else bT (bif (x0.1 == 1) == true then bT (bT (PD L (x0.3,())) fun y=>some y) fun y=>some !y else some false) fun y=>bT (bif (y || x0.1 == 2 && x0.3 != 0 && x0.3 != 1) == false then bif y_2 == true then bif decide (x0.3 < 0) == false then bT (bT (PE L (x0.1,())) fun y=>some y) fun y=>some (decide (x0.3 > y)) else some true else some false else some true) fun y=>bif y then some 2 else bT (bif y_1 == true then bT (Q7 L (x0.2,())) fun y=>some (y != 0) else some false) fun y=>bif y then bT (Q7 L (x0.2,())) fun y=>some y else Zo (MM m x0 x1 L) L (0,()):=by kernel_rfl
def Zba (L:Nat):Nat→List (Sum tT)
 | 0=>[⟨206,[.row 8],fun _=>.par _ none ((.one (.int .i64):RD).tv tT)⟩]
 | m + 1=>[⟨206,[.row 8],fun x=>.par _ (fnT tF tG (qOf tF (Zba L m ++ [])) 0 L NS [.rnd [.slot 3 (.int .i64),.slot 4 (.int .i64)]] (.one (.int .i64)) (tvL tT [.row 8] x) []) ((.one (.int .i64):RD).tv tT)⟩]
def OO (L m:Nat)(x:Zt×PUnit):Option (Int):=fnT tF tG (qOf tF (Zba L m ++ [])) 0 L NS [.rnd [.slot 3 (.int .i64),.slot 4 (.int .i64)]] (.one (.int .i64)) (tvL tT [.row 8] x) []
def EC (L:Nat)(x:Zt×PUnit):Option (Int):=OO L L x
def ZlN (L:Nat):Sum tT:=⟨206,[.row 8],fun x=>.par ((.one (.int .i64):RD).Ty tT) (EC L x) ((.one (.int .i64):RD).tv tT)⟩
def BZ:Nat→Zt→Nat→(Int×Int×PUnit→Option Int)→Int×Int×PUnit→Option Int:=fun (m:Nat)=>fun x0 L self acc=>bif decide (acc.2.1 < (↑x0.4.length:Int)) then bT (Z8 x0.4 acc.2.1) fun y=>bT (OO L m (y,())) fun y=>self (if y > acc.1 then y else acc.1,Go.IntKind.i64.wrap (acc.2.1 + 1),()) else some (Go.IntKind.i64.wrap (acc.1 + 1))
theorem Zlf (L m:Nat)(x0:Zt):OO L (m + 1) (x0,())=Zo (BZ m x0 L) L (0,0,()):=by kernel_rfl
def Zbb (L:Nat):Nat→List (Sum tT)
 | 0=>[⟨205,[.row 8],fun _=>.par _ none ((.one (.int .i64):RD).tv tT)⟩]
 | m + 1=>[⟨205,[.row 8],fun x=>.par _ (fnT tF tG (qOf tF (Zbb L m ++ [])) 0 L NT [.rnd [.slot 3 (.int .i64),.slot 4 (.int .i64)]] (.one (.int .i64)) (tvL tT [.row 8] x) []) ((.one (.int .i64):RD).tv tT)⟩]
def OQ (L m:Nat)(x:Zt×PUnit):Option (Int):=fnT tF tG (qOf tF (Zbb L m ++ [])) 0 L NT [.rnd [.slot 3 (.int .i64),.slot 4 (.int .i64)]] (.one (.int .i64)) (tvL tT [.row 8] x) []
def ED (L:Nat)(x:Zt×PUnit):Option (Int):=OQ L L x
def ZlO (L:Nat):Sum tT:=⟨205,[.row 8],fun x=>.par ((.one (.int .i64):RD).Ty tT) (ED L x) ((.one (.int .i64):RD).tv tT)⟩
def Dc:Nat→Zt→Nat→(Int×Int×PUnit→Option Int)→Int×Int×PUnit→Option Int:=fun (m:Nat)=>fun x0 L self acc=>bif decide (acc.2.1 < (↑x0.4.length:Int)) then bT (Z8 x0.4 acc.2.1) fun y=>bT (OQ L m (y,())) fun y=>self (Go.IntKind.i64.wrap (acc.1 + y),Go.IntKind.i64.wrap (acc.2.1 + 1),()) else some acc.1
theorem Zlg (L m:Nat)(x0:Zt):OQ L (m + 1) (x0,())=Zo (Dc m x0 L) L (1,0,()):=by kernel_rfl
def Oa (L:Nat)(x:Zt×Bool×PUnit):Option Int:=fT [Zo5 L,ZlN L,ZlO L] L Zc0 [] (.one (.int .i64)) [.row 8,.bool] x
def Ze0 (L:Nat):Sum tT:=mU 163 [.row 8,.bool] (.one (.int .i64)) (Oa L)
theorem Zlh (L:Nat)(x0:Zt)(x1:Bool):Oa L (x0,x1,())=bT (ED L (x0,())) fun y=>bif decide (y > 60) then some 6 else bT (EC L (x0,())) fun y=>bif decide (y > 12) then some 11 else bT (Zan L (x0,x1,())) fun y=>some y:=by kernel_rfl
def Ug (L:Nat)(x:Zt×PUnit):Option Int:=fT [Ze0 L] L BI [] (.one (.int .i64)) [.row 8] x
def Zez (L:Nat):Sum tT:=mU 84 [.row 8] (.one (.int .i64)) (Ug L)
theorem ZdL (L:Nat)(x0:Zt):Ug L (x0,())=bT (Oa L (x0,true,())) fun y=>some y:=by kernel_rfl
def Vl (L:Nat)(x:PUnit):Option (List Je):=fT [] L ZcD [] (.one (.lst 9 (.row 23))) [] x
def Ey (L:Nat):Sum tT:=mU 91 [] (.one (.lst 9 (.row 23))) (Vl L)
theorem Zlv (L:Nat)  : Vl L ()=some [Je.mk [] [] [] false false false false false false,Je.mk [115,108,111,116] [115,108,111,116] [] false true false false false false,Je.mk [118,97,114] [118,97,114] [] false true false false false false,Je.mk [100,114,97,119] [115,108,111,116] [115,116,114,101,97,109] false false false false false true,Je.mk [106,117,109,112] [105,110,115,116,114] [] false false false false false false,Je.mk [98,114,97,110,99,104] [105,110,115,116,114] [] false true false false false false,Je.mk [104,111,108,100] [] [] false true false false false false,Je.mk [115,101,105,122,101] [114,101,115,111,117,114,99,101] [] false true true true false false,Je.mk [114,101,108,101,97,115,101] [114,101,115,111,117,114,99,101] [] false true false false false false,Je.mk [112,117,116] [115,116,111,114,101] [] false true false false false false,Je.mk [103,101,116] [115,116,111,114,101] [115,108,111,116] false false false false false false,Je.mk [114,105,100,101] [98,101,108,116] [] false false false false false false,Je.mk [119,97,105,116] [113,117,101,117,101] [] false false false false false false,Je.mk [115,105,103,110,97,108] [113,117,101,117,101] [] false true false false false false,Je.mk [115,101,110,100] [115,105,116,101] [114,111,117,116,105,110,101] true true false false true false,Je.mk [115,112,97,119,110] [] [114,111,117,116,105,110,101] false true false false true false,Je.mk [111,98,115,101,114,118,101] [116,97,108,108,121] [] false true false false false false,Je.mk [108,101,118,101,108] [108,101,118,101,108] [] false true false false false false,Je.mk [99,111,117,110,116] [99,111,117,110,116] [] false true false false false false,Je.mk [101,110,100] [] [] false false false false false false]:=by kernel_rfl
end Go.Proofs.YtleomfgijkapfaaGreatDoor
end
noncomputable section
namespace Go.Proofs.YtleomfgijkapfaaGreatDoor
open Go Go.Proofs.YtleomfgijkapfaaGreatDoor.Abs Go.Proofs.YtleomfgijkapfaaGreatDoor.Tl
set_option maxRecDepth 100000
set_option maxHeartbeats 0
def Oc (L:Nat)(x:Int×PUnit):Option Bool:=fT [] L ZcH [] (.one .bool) [.int .i64] x
def Ze2 (L:Nat):Sum tT:=mU 80 [.int .i64] (.one .bool) (Oc L)
theorem Zlz (L:Nat)(x0:Int):Oc L (x0,())=some (decide (x0 ≥ 1) && decide (x0≤19)):=by kernel_rfl
def L9 (L:Nat)(x:ZZ×PUnit):Option (List Zt):=fT [Ey L,Ze2 L] L ZcC [] (.one (.lst 4 (.row 8))) [.row 15] x
def ZlW (L:Nat):Sum tT:=mU 83 [.row 15] (.one (.lst 4 (.row 8))) (L9 L)
theorem Zlu (L:Nat)(x0:ZZ):L9 L (x0,())=bT (Oc L (x0.1,())) fun y=>bif !y then some [] else bT (bT (Vl L ()) fun y=>some y) fun y=>bT (Z8 y x0.1) fun y=>bif y.5 then bT (apT 56 [] [x0.5]) fun y_1=>bif y.6 then bT (apT 56 y_1 [x0.6]) fun y_2=>bif y.8 then bT (apT 56 y_2 x0.7) fun y=>some y else some y_2 else bif y.8 then bT (apT 56 y_1 x0.7) fun y=>some y else some y_1 else bif y.6 then bT (apT 56 [] [x0.6]) fun y_1=>bif y.8 then bT (apT 56 y_1 x0.7) fun y=>some y else some y_1 else bif y.8 then bT (apT 56 [] x0.7) fun y=>some y else some []:=by kernel_rfl
def DX (L:Nat)(x:Zm×Int×Int×PUnit):Option (Int×Bool×PUnit):=fT [] L Zib [.rnd [.slot 8 (.int .i64)]] (.tup [.int .i64,.bool]) [.row 19,.int .i64,.int .i64] x
def Ze1 (L:Nat):Sum tT:=mU 23 [.row 19,.int .i64,.int .i64] (.tup [.int .i64,.bool]) (DX L)
theorem ZqU:SX Ze1:=fun h=>sT h Zz rfl (by kernel_rfl) fun _=>rfl
def CZ:Zm→Int→Int→(Int×PUnit→Option (Int×Bool×PUnit))→Int×PUnit→Option (Int×Bool×PUnit):=fun x0 x1 x2 self acc=>bif decide (acc.1 < (↑x0.3.length:Int)) then bT (Z8 x0.3 acc.1) fun y=>bT (bif (y.1 == x1) == true then bT (Z8 x0.3 acc.1) fun y=>some (y.2 == x2) else some false) fun y=>bif y then bT (Z8 x0.3 acc.1) fun y=>some (y.3,true,()) else self (Go.IntKind.i64.wrap (acc.1 + 1),()) else some (0,false,())
theorem ZqL (L:Nat)(x0:Zm)(x1:Int)(x2:Int):DX L (x0,x1,x2,())=Zo (CZ x0 x1 x2) L (0,()):=by kernel_rfl
def UE (L:Nat)(x:Zm×Int×ZZ×PUnit):Option Int:=fT [] L ZcE [] (.one (.int .i64)) [.row 19,.int .i64,.row 15] x
def ZlX (L:Nat):Sum tT:=mU 162 [.row 19,.int .i64,.row 15] (.one (.int .i64)) (UE L)
theorem Zlw (L:Nat)(x0:Zm)(x1:Int)(x2:ZZ):UE L (x0,x1,x2,())=bT (Z8 x0.2 x1) fun y=>bif decide (x2.3 < 0) || decide (x2.3 ≥ (↑y.2.length:Int)) then some 2 else bT (Z8 y.2 x2.3) fun y=>bif (↑x2.7.length:Int) != y.2 then some 8 else some 0:=by kernel_rfl
def EF (L:Nat)(x:Zm×Int×Y8×(List UInt8)×PUnit):Option Int:=fT [] L ZcF [] (.one (.int .i64)) [.row 19,.int .i64,.row 16,.str] x
def ZlY (L:Nat):Sum tT:=mU 204 [.row 19,.int .i64,.row 16,.str] (.one (.int .i64)) (EF L)
theorem Zlx (L:Nat)(x0:Zm)(x1:Int)(x2:Y8)(x3:(List UInt8)):EF L (x0,x1,x2,x3,())=bT (Z8 x0.2 x1) fun y=>bif x3 == [115,108,111,116] then some x2.3 else bif x3 == [105,110,115,116,114] then some (↑x2.4.length:Int) else bif x3 == [115,105,116,101] then some (↑x0.2.length:Int) else bif x3 == [118,97,114] then some (↑y.Decl.2.length:Int) else bif x3 == [114,101,115,111,117,114,99,101] then some (↑y.Decl.3.length:Int) else bif x3 == [115,116,111,114,101] then some (↑y.Decl.4.length:Int) else bif x3 == [98,101,108,116] then some (↑y.Decl.5.length:Int) else bif x3 == [113,117,101,117,101] then some (↑y.Decl.6.length:Int) else bif x3 == [115,116,114,101,97,109] then some (↑y.Decl.7.length:Int) else bif x3 == [116,97,108,108,121] then some (↑y.Decl.8.length:Int) else bif x3 == [108,101,118,101,108] then some (↑y.Decl.9.length:Int) else some (↑y.Decl.10.length:Int):=by kernel_rfl
def KX (L:Nat)(x:Zm×Int×Y8×(List UInt8)×Int×PUnit):Option Bool:=fT [ZlY L] L ZaA [] (.one .bool) [.row 19,.int .i64,.row 16,.str,.int .i64] x
def ZjU (L:Nat):Sum tT:=mU 161 [.row 19,.int .i64,.row 16,.str,.int .i64] (.one .bool) (KX L)
theorem Zjs (L:Nat)(x0:Zm)(x1:Int)(x2:Y8)(x3:(List UInt8))(x4:Int):KX L (x0,x1,x2,x3,x4,())=bT (bif (x3 == []) == false then bif decide (x4 ≥ 0) == true then bT (EF L (x0,x1,x2,x3,())) fun y=>some (decide (x4 < y)) else some false else some true) fun y=>some y:=by kernel_rfl
def LC (L:Nat)(x:Zm×Int×Y8×ZZ×PUnit):Option Int:=fT [Ze1 L,ZlX L,ZjU L,Ey L] L Af [] (.one (.int .i64)) [.row 19,.int .i64,.row 16,.row 15] x
def ZhN (L:Nat):Sum tT:=mU 82 [.row 19,.int .i64,.row 16,.row 15] (.one (.int .i64)) (LC L)
theorem Zhs (L:Nat)(x0:Zm)(x1:Int)(x2:Y8)(x3:ZZ):LC L (x0,x1,x2,x3,())=bT (bT (Vl L ()) fun y=>some y) fun y=>bT (Z8 y x3.1) fun y=>bT (KX L (x0,x1,x2,y.2,x3.2,())) fun y_1=>bif !y_1 then some 2 else bif x3.1 == 15 then bT (UE L (x0,x1,x3,())) fun y=>some y else bif x3.1 == 14 then bT (DX L (x0,x1,x3.2,())) fun y=>bif !y.2.1 || y.1 != x3.4 then some 16 else bT (UE L (x0,x3.2,x3,())) fun y=>some y else bT (KX L (x0,x1,x2,y.3,x3.3,())) fun y=>bif !y then some 2 else some 0:=by kernel_rfl
def VT (L:Nat)(x:(List Int)×(List Int)×PUnit):Option Bool:=fT [] L Nr [.rnd [.slot 5 (.int .i64)]] (.one .bool) [.lst 1 (.int .i64),.lst 1 (.int .i64)] x
def NK (L:Nat):Sum tT:=mU 96 [.lst 1 (.int .i64),.lst 1 (.int .i64)] (.one .bool) (VT L)
theorem Zfg:SX NK:=fun h=>sT h Zz rfl (by kernel_rfl) fun _=>rfl
def Iy:List Int→List Int→(Int×PUnit→Option Bool)→Int×PUnit→Option Bool:=fun x0 x1 self acc=>bif decide (acc.1 < (↑x0.length:Int)) then bT (Z8 x0 acc.1) fun y=>bT (Z8 x1 acc.1) fun y_1=>bif y != y_1 then some false else self (Go.IntKind.i64.wrap (acc.1 + 1),()) else some true
theorem ZeX (L:Nat)(x0:(List Int))(x1:(List Int)):VT L (x0,x1,())=bif (↑x0.length:Int) != (↑x1.length:Int) then some false else Zo (Iy x0 x1) L (0,()):=by kernel_rfl
def QG (L:Nat)(x:YP×YP×PUnit):Option Bool:=fT [NK L] L Zfu [] (.one .bool) [.row 2,.row 2] x
def Jz (L:Nat):Sum tT:=mU 48 [.row 2,.row 2] (.one .bool) (QG L)
theorem Pz:SX Jz:=fun h=>sT h (Zg (Zfg h) Zz) rfl (by kernel_rfl) fun _=>rfl
theorem Zof (L:Nat)(x0:YP)(x1:YP):QG L (x0,x1,())=bT (bif (x0.1 == x1.1 && x0.2 == x1.2 && x0.3 == x1.3 && x0.4 == x1.4) == true then bT (VT L (x0.5,x1.5,())) fun y=>some y else some false) fun y=>bT (bif y == true then bT (VT L (x0.6,x1.6,())) fun y=>some y else some false) fun y=>some y:=by kernel_rfl
def Ws (L:Nat):Nat→List (Sum tT)
 | 0=>[⟨95,[.lst 4 (.row 8),.lst 4 (.row 8)],fun _=>.par _ none ((.one (.bool):RD).tv tT)⟩,⟨47,[.row 8,.row 8],fun _=>.par _ none ((.one (.bool):RD).tv tT)⟩]
 | m + 1=>[⟨95,[.lst 4 (.row 8),.lst 4 (.row 8)],fun x=>.par _ (fnT tF tG (qOf tF (Ws L m ++ [])) 0 L MF [.rnd [.slot 5 (.int .i64)]] (.one (.bool)) (tvL tT [.lst 4 (.row 8),.lst 4 (.row 8)] x) []) ((.one (.bool):RD).tv tT)⟩,⟨47,[.row 8,.row 8],fun x=>.par _ (fnT tF tG (qOf tF (Ws L m ++ [])) 0 L FY [] (.one (.bool)) (tvL tT [.row 8,.row 8] x) []) ((.one (.bool):RD).tv tT)⟩]
theorem VC {C:Cfg}{L:Nat}(h:St C L):∀ m,∀ s ∈ Ws L m,XV C s
 | 0=>(Zg (XO _ _ _) (Zg (XO _ _ _) Zz))
 | m + 1=>have ih:=VC h m
  (Zg (WG YV h.L h.G (QL YV (Kt ih Zz)) [.rnd [.slot 5 (.int .i64)]] (h.T _ _ rfl) (by kernel_rfl) fun _=>rfl) (Zg (WG YV h.L h.G (QL YV (Kt ih Zz)) [] (h.T _ _ rfl) (by kernel_rfl) fun _=>rfl) Zz))
def Td (L m:Nat)(x:(List Zt)×(List Zt)×PUnit):Option (Bool):=fnT tF tG (qOf tF (Ws L m ++ [])) 0 L MF [.rnd [.slot 5 (.int .i64)]] (.one (.bool)) (tvL tT [.lst 4 (.row 8),.lst 4 (.row 8)] x) []
def LJ (L m:Nat)(x:Zt×Zt×PUnit):Option (Bool):=fnT tF tG (qOf tF (Ws L m ++ [])) 0 L FY [] (.one (.bool)) (tvL tT [.row 8,.row 8] x) []
def Qv (L:Nat)(x:Zt×Zt×PUnit):Option (Bool):=LJ L L x
def Ia (L:Nat):Sum tT:=⟨47,[.row 8,.row 8],fun x=>.par ((.one (.bool):RD).Ty tT) (Qv L x) ((.one (.bool):RD).tv tT)⟩
theorem P5 {C:Cfg}{L:Nat}(h:St C L):XV C (Ia L):=have ih:=VC h L
 WG YV h.L h.G (QL YV (Kt ih Zz)) [] (h.T _ _ rfl) (by kernel_rfl) fun _=>rfl
def UM:Nat→List Zt→List Zt→Nat→(Int×PUnit→Option Bool)→Int×PUnit→Option Bool:=fun (m:Nat)=>fun x0 x1 L self acc=>bif decide (acc.1 < (↑x0.length:Int)) then bT (Z8 x0 acc.1) fun y=>bT (Z8 x1 acc.1) fun y_1=>bT (bT (LJ L m (y,y_1,())) fun y=>some y) fun y=>bif !y then some false else self (Go.IntKind.i64.wrap (acc.1 + 1),()) else some true
theorem AZ (L m:Nat)(x0:(List Zt))(x1:(List Zt)):Td L (m + 1) (x0,x1,())=bif (↑x0.length:Int) != (↑x1.length:Int) then some false else Zo (UM m x0 x1 L) L (0,()):=by kernel_rfl
theorem Zoh (L m:Nat)(x0:Zt)(x1:Zt):LJ L (m + 1) (x0,x1,())=bif x0.1 != x1.1 || !x0.2 == x1.2 || x0.3 != x1.3 then some false else bT (Td L m (x0.4,x1.4,())) fun y=>some y:=by kernel_rfl
end Go.Proofs.YtleomfgijkapfaaGreatDoor
end
noncomputable section
namespace Go.Proofs.YtleomfgijkapfaaGreatDoor
open Go Go.Proofs.YtleomfgijkapfaaGreatDoor.Abs Go.Proofs.YtleomfgijkapfaaGreatDoor.Tl
set_option maxRecDepth 100000
set_option maxHeartbeats 0
def LD (L:Nat)(x:ZZ×PUnit):Option Bool:=fT [Jz L,Ia L,Ey L] L ZcI [] (.one .bool) [.row 15] x
def Zma (L:Nat):Sum tT:=mU 81 [.row 15] (.one .bool) (LD L)
theorem Zl0 (L:Nat)(x0:ZZ):LD L (x0,())=bT (bT (Vl L ()) fun y=>some y) fun y=>bT (Z8 y x0.1) fun y=>bif y.2 == [] && x0.2 != 0 then some false else bif y.3 == [] && x0.3 != 0 then some false else bif !y.4 && x0.4 != 0 then some false else bif !y.7 && x0.9 then some false else bT (bif (!y.5) == true then bT (Qv L (x0.5,Zt.mk 0 [] 0 [],())) fun y=>some !y else some false) fun y_1=>bif y_1 then some false else bT (bif (!y.6) == true then bT (Qv L (x0.6,Zt.mk 0 [] 0 [],())) fun y=>some !y else some false) fun y_2=>bif y_2 then some false else bif !y.8 && decide ((↑x0.7.length:Int) > 0) then some false else bT (bif y.9 == false then bT (QG L (x0.8,YP.mk 0 0 0 0 [] [],())) fun y=>some y else some true) fun y=>some y:=by kernel_rfl
def Vm (L:Nat)(x:Zm×Int×Y8×ZZ×PUnit):Option Int:=fT [Es L,ZoE L,Zez L,ZlW L,ZhN L,Zma L,Ze2 L] L ZcG [.rnd [.slot 11 (.int .i64)]] (.one (.int .i64)) [.row 19,.int .i64,.row 16,.row 15] x
def ZlZ (L:Nat):Sum tT:=mU 36 [.row 19,.int .i64,.row 16,.row 15] (.one (.int .i64)) (Vm L)
def Oz:Zm→Int→Y8→ZZ→Nat→List Zt→(Int×PUnit→Option Int)→Int×PUnit→Option Int:=fun x0 x1 x2 x3 L y self acc=>bif decide (acc.1 < (↑y.length:Int)) then bT (Z8 y acc.1) fun y_1=>bT (Ug L (y_1,())) fun y_2=>bT (bif (y_2 == 0) == true then bT (Z8 y acc.1) fun y=>bT (bT (Zar L (x0,x1,x2,y,())) fun y=>some y) fun y=>some !y else some false) fun y=>bif y then some 2 else bif y_2 != 0 then some y_2 else self (Go.IntKind.i64.wrap (acc.1 + 1),()) else bif x3.1 == 3 then bT (Jn L (x3.8,())) fun y=>some y else some 0
theorem Zly (L:Nat)(x0:Zm)(x1:Int)(x2:Y8)(x3:ZZ):Vm L (x0,x1,x2,x3,())=bT (Oc L (x3.1,())) fun y=>bT (bif (!y) == false then bT (LD L (x3,())) fun y=>some !y else some true) fun y=>bif y then some 1 else bT (LC L (x0,x1,x2,x3,())) fun y=>bif y != 0 then some y else bT (L9 L (x3,())) fun y=>Zo (Oz x0 x1 x2 x3 L y) L (0,()):=by kernel_rfl
def WA (L:Nat)(x:Zm×Int×Y8×PUnit):Option Int:=fT [ZlZ L,Jl L] L Ae [.rnd [.slot 8 (.int .i64)]] (.one (.int .i64)) [.row 19,.int .i64,.row 16] x
def ZhM (L:Nat):Sum tT:=mU 15 [.row 19,.int .i64,.row 16] (.one (.int .i64)) (WA L)
def UQ:Zm→Int→Y8→Nat→(Int×PUnit→Option Int)→Int×PUnit→Option Int:=fun x0 x1 x2 L self acc=>bif decide (acc.1 < (↑x2.4.length:Int)) then bT (Z8 x2.4 acc.1) fun y=>bT (bT (Vm L (x0,x1,x2,y,())) fun y=>some y) fun y=>bif y != 0 then some y else self (Go.IntKind.i64.wrap (acc.1 + 1),()) else bT (Z8 x2.4 (Go.IntKind.i64.wrap ((↑x2.4.length:Int) - 1))) fun y=>bif y.1 != 19 && y.1 != 4 then some 8 else some 0
theorem Fb (L:Nat)(x0:Zm)(x1:Int)(x2:Y8):WA L (x0,x1,x2,())=bif decide (x1 < 0) || decide (x1 ≥ (↑x0.2.length:Int)) then some 2 else bT (Q7 L (x2.1,())) fun y=>bif y != 0 then some y else bif decide (x2.2 < 0) || decide (x2.2 > x2.3) || decide (x2.2 > 6) || decide (x2.3 > 16) then some 2 else bif (↑x2.4.length:Int) == 0 then some 7 else bif decide ((↑x2.4.length:Int) > 1000) then some 6 else Zo (UQ x0 x1 x2 L) L (0,()):=by kernel_rfl
def TZ (L:Nat)(x:Zm×PUnit):Option Int:=fT [] L Zf4 [.rnd [.slot 2 (.int .i64),.slot 4 (.int .i64)],.rnd [.slot 2 (.int .i64),.slot 6 (.int .i64)]] (.one (.int .i64)) [.row 19] x
def ZoC (L:Nat):Sum tT:=mU 34 [.row 19] (.one (.int .i64)) (TZ L)
def I8:Zm→(Int×Int×PUnit→Option Int)→Int×Int×PUnit→Zcl→(Int×Int×PUnit→Option Int)→Int×Int×PUnit→Option Int:=fun x0 self acc y self_1 acc_1=>bif decide (acc_1.2.1 < acc.2.1) then bT (Z8 x0.3 acc_1.2.1) fun y_1=>bT (bif (y_1.1 == y.1) == true then bT (Z8 x0.3 acc_1.2.1) fun y_2=>some (y_2.2 == y.2) else some false) fun y=>bif y then some 4 else self_1 (acc_1.1,Go.IntKind.i64.wrap (acc_1.2.1 + 1),()) else self (acc_1.1,Go.IntKind.i64.wrap (acc.2.1 + 1),())
def I9:Zm→Nat→(Int×Int×PUnit→Option Int)→Int×Int×PUnit→Option Int:=fun x0 L self acc=>bif decide (acc.2.1 < (↑x0.3.length:Int)) then bT (Z8 x0.3 acc.2.1) fun y=>bif decide (y.1 < 0) || decide (y.1 ≥ (↑x0.2.length:Int)) || decide (y.2 < 0) || decide (y.2 ≥ (↑x0.2.length:Int)) || y.1 == y.2 || decide (y.3 < 1) || decide (y.3 > 1000000000) then some 2 else Zo (I8 x0 self acc y) L (acc.1,0,()) else some 0
theorem Zos (L:Nat)(x0:Zm):TZ L (x0,())=bif decide ((↑x0.3.length:Int) > 32) then some 6 else Zo (I9 x0 L) L (0,0,()):=by kernel_rfl
def Mc (L:Nat)(x:Z4×PUnit):Option Bool:=fT [] L Zf5 [.rnd [.slot 3 (.int .i64)]] (.one .bool) [.row 17] x
def ZoD (L:Nat):Sum tT:=mU 33 [.row 17] (.one .bool) (Mc L)
def MQ:Z4→(Int×PUnit→Option Bool)→Int×PUnit→Option Bool:=fun x0 self acc=>bif decide (acc.1 < (↑x0.2.length:Int)) then bT (Z8 x0.Decl.11 acc.1) fun y=>bT (bif decide ((↑y.4.length:Int) > 0) == false then bT (Z8 x0.2 acc.1) fun y_1=>some !y.1 == y_1.1 else some true) fun y_1=>bT (bif y_1 == false then bT (Z8 x0.2 acc.1) fun y_2=>some ((↑y.2.length:Int) != y_2.2) else some true) fun y=>bif y then some false else self (Go.IntKind.i64.wrap (acc.1 + 1),()) else some true
theorem ZfZ (L:Nat)(x0:Z4):Mc L (x0,())=bif (↑x0.2.length:Int) != (↑x0.Decl.11.length:Int) then some false else Zo (MQ x0) L (0,()):=by kernel_rfl
def ZN (L:Nat)(x:Int×Int×Int×PUnit):Option Bool:=fT [] L Za9 [] (.one .bool) [.int .i64,.int .i64,.int .i64] x
def Vk (L:Nat):Sum tT:=mU 152 [.int .i64,.int .i64,.int .i64] (.one .bool) (ZN L)
theorem Zjr (L:Nat)(x0:Int)(x1:Int)(x2:Int):ZN L (x0,x1,x2,())=some (decide (x0 ≥ x1) && decide (x0≤x2)):=by kernel_rfl
def Zaq (L:Nat)(x:WY×(List UInt8)×PUnit):Option Int:=fT [] L Zf0 [.rnd [.slot 5 (.int .i64)]] (.one (.int .i64)) [.row 21,.str] x
def Zo9 (L:Nat):Sum tT:=mU 151 [.row 21,.str] (.one (.int .i64)) (Zaq L)
def L6 (L:Nat)(x:WY×PUnit):Option Int:=fT [Vk L,Zo9 L] L Zc7 [.rnd [.slot 2 (.int .i64),.slot 3 (.int .i64)],.rnd [.slot 2 (.int .i64),.slot 5 (.int .i64)]] (.one (.int .i64)) [.row 21] x
def ZlT (L:Nat):Sum tT:=mU 74 [.row 21] (.one (.int .i64)) (L6 L)
def Zjy:WY→(Int×Int×PUnit→Option Int)→Int×Int×PUnit→Bd→(Int×Int×PUnit→Option Int)→Int×Int×PUnit→Option Int:=fun x0 self acc y self_1 acc_1=>bif decide (acc_1.2.1 < acc.2.1) then bT (Z8 x0.4 acc_1.2.1) fun y_1=>bT (bif (y_1.1 == y.1) == true then bT (Z8 x0.4 acc_1.2.1) fun y_2=>some (y_2.2 == y.2) else some false) fun y=>bif y then some 4 else self_1 (acc_1.1,Go.IntKind.i64.wrap (acc_1.2.1 + 1),()) else self (acc_1.1,Go.IntKind.i64.wrap (acc.2.1 + 1),())
def ZaV:WY→Nat→(Int×Int×PUnit→Option Int)→Int×Int×PUnit→Option Int:=fun x0 L self acc=>bif decide (acc.2.1 < (↑x0.4.length:Int)) then bT (Z8 x0.4 acc.2.1) fun y=>bT (Zaq L (x0,y.1,())) fun y_1=>bT (bif decide (y_1 < 0) == false then bT (Zaq L (x0,y.2,())) fun y=>some (decide (y < 0)) else some true) fun y_2=>bif y_2 then some 5 else bif y.1 == y.2 then some 1 else bT (ZN L (y.3,1,1000000000,())) fun y_3=>bif !y_3 then some 2 else Zo (Zjy x0 self acc y) L (acc.1,0,()) else some 0
theorem Zlq (L:Nat)(x0:WY):L6 L (x0,())=bif decide ((↑x0.4.length:Int) > 32) then some 6 else Zo (ZaV x0 L) L (0,0,()):=by kernel_rfl
def ZB (L:Nat)(x:Int×Int×PUnit):Option Int:=fT [] L Zc6 [] (.one (.int .i64)) [.int .i64,.int .i64] x
def X6 (L:Nat):Sum tT:=mU 69 [.int .i64,.int .i64] (.one (.int .i64)) (ZB L)
theorem Zlp (L:Nat)(x0:Int)(x1:Int):ZB L (x0,x1,())=bif x0 != 0 then some x0 else some x1:=by kernel_rfl
def UD (L:Nat)(x:Zc×PUnit):Option ((List (List (List UInt8)))):=fT [] L Zc4 [.rnd [.slot 4 (.int .i64),.cell 1 0 (.own 1 .str),.cell 1 1 (.own 1 .str),.cell 1 2 (.own 1 .str),.cell 1 3 (.own 1 .str),.cell 1 4 (.lst 1 .str),.cell 1 5 (.lst 1 .str),.cell 1 6 (.lst 1 .str),.cell 1 7 (.lst 1 .str),.cell 1 8 (.lst 1 .str),.cell 1 9 (.own 1 .str)],.rnd [.slot 5 (.int .i64),.cell 1 0 (.own 1 .str),.cell 1 1 (.own 1 .str),.cell 1 2 (.own 1 .str),.cell 1 3 (.own 1 .str),.cell 1 4 (.lst 1 .str),.cell 1 5 (.lst 1 .str),.cell 1 6 (.lst 1 .str),.cell 1 7 (.lst 1 .str),.cell 1 8 (.lst 1 .str),.cell 1 9 (.own 1 .str)],.rnd [.slot 6 (.int .i64),.cell 1 0 (.own 1 .str),.cell 1 1 (.own 1 .str),.cell 1 2 (.own 1 .str),.cell 1 3 (.own 1 .str),.cell 1 4 (.lst 1 .str),.cell 1 5 (.lst 1 .str),.cell 1 6 (.lst 1 .str),.cell 1 7 (.lst 1 .str),.cell 1 8 (.lst 1 .str),.cell 1 9 (.own 1 .str)],.rnd [.slot 7 (.int .i64),.cell 1 0 (.own 1 .str),.cell 1 1 (.own 1 .str),.cell 1 2 (.own 1 .str),.cell 1 3 (.own 1 .str),.cell 1 4 (.lst 1 .str),.cell 1 5 (.lst 1 .str),.cell 1 6 (.lst 1 .str),.cell 1 7 (.lst 1 .str),.cell 1 8 (.lst 1 .str),.cell 1 9 (.own 1 .str)],.rnd [.slot 8 (.int .i64),.cell 1 0 (.own 1 .str),.cell 1 1 (.own 1 .str),.cell 1 2 (.own 1 .str),.cell 1 3 (.own 1 .str),.cell 1 4 (.lst 1 .str),.cell 1 5 (.lst 1 .str),.cell 1 6 (.lst 1 .str),.cell 1 7 (.lst 1 .str),.cell 1 8 (.lst 1 .str),.cell 1 9 (.own 1 .str)]] (.one (.lst 1 (.lst 1 .str))) [.row 14] x
def Eu (L:Nat):Sum tT:=mU 147 [.row 14] (.one (.lst 1 (.lst 1 .str))) (UD L)
def Dk:Zc→(Int×List (List UInt8)×List (List UInt8)×List (List UInt8)×List (List UInt8)×List (List UInt8)×List (List UInt8)×List (List UInt8)×List (List UInt8)×List (List UInt8)×List (List UInt8)×PUnit→Option (List (List (List UInt8))))→Int×List (List UInt8)×List (List UInt8)×List (List UInt8)×List (List UInt8)×List (List UInt8)×List (List UInt8)×List (List UInt8)×List (List UInt8)×List (List UInt8)×List (List UInt8)×PUnit→Option (List (List (List UInt8))):=fun (x0:Zc) (self:Int×List (List UInt8)×List (List UInt8)×List (List UInt8)×List (List UInt8)×List (List UInt8)×List (List UInt8)×List (List UInt8)×List (List UInt8)×List (List UInt8)×List (List UInt8)×PUnit→Option (List (List (List UInt8)))) (acc:Int×List (List UInt8)×List (List UInt8)×List (List UInt8)×List (List UInt8)×List (List UInt8)×List (List UInt8)×List (List UInt8)×List (List UInt8)×List (List UInt8)×List (List UInt8)×PUnit)=>bif decide (acc.1 < (↑x0.11.length:Int)) then bT (Z8 x0.11 acc.1) fun y=>bT (apT 16 acc.2.2.2.2.2.2.2.2.2.2.1 [y.1]) fun y=>self (Go.IntKind.i64.wrap (acc.1 + 1),acc.2.1,acc.2.2.1,acc.2.2.2.1,acc.2.2.2.2.1,acc.2.2.2.2.2.1,acc.2.2.2.2.2.2.1,acc.2.2.2.2.2.2.2.1,acc.2.2.2.2.2.2.2.2.1,acc.2.2.2.2.2.2.2.2.2.1,y,()) else some [acc.2.1,acc.2.2.1,acc.2.2.2.1,acc.2.2.2.2.1,acc.2.2.2.2.2.1,acc.2.2.2.2.2.2.1,acc.2.2.2.2.2.2.2.1,acc.2.2.2.2.2.2.2.2.1,acc.2.2.2.2.2.2.2.2.2.1,acc.2.2.2.2.2.2.2.2.2.2.1]
def Dl:Zc→Nat→(Int×List (List UInt8)×List (List UInt8)×List (List UInt8)×List (List UInt8)×List (List UInt8)×List (List UInt8)×List (List UInt8)×List (List UInt8)×List (List UInt8)×List (List UInt8)×PUnit→Option (List (List (List UInt8))))→Int×List (List UInt8)×List (List UInt8)×List (List UInt8)×List (List UInt8)×List (List UInt8)×List (List UInt8)×List (List UInt8)×List (List UInt8)×List (List UInt8)×List (List UInt8)×PUnit→Option (List (List (List UInt8))):=fun (x0:Zc) (L:Nat) (self:Int×List (List UInt8)×List (List UInt8)×List (List UInt8)×List (List UInt8)×List (List UInt8)×List (List UInt8)×List (List UInt8)×List (List UInt8)×List (List UInt8)×List (List UInt8)×PUnit→Option (List (List (List UInt8)))) (acc:Int×List (List UInt8)×List (List UInt8)×List (List UInt8)×List (List UInt8)×List (List UInt8)×List (List UInt8)×List (List UInt8)×List (List UInt8)×List (List UInt8)×List (List UInt8)×PUnit)=>bif decide (acc.1 < (↑x0.5.length:Int)) then bT (Z8 x0.5 acc.1) fun y=>bT (apT 16 acc.2.2.2.2.1 [y.1]) fun y=>self (Go.IntKind.i64.wrap (acc.1 + 1),acc.2.1,acc.2.2.1,acc.2.2.2.1,y,acc.2.2.2.2.2.1,acc.2.2.2.2.2.2.1,acc.2.2.2.2.2.2.2.1,acc.2.2.2.2.2.2.2.2.1,acc.2.2.2.2.2.2.2.2.2.1,acc.2.2.2.2.2.2.2.2.2.2.1,()) else Zo (Dk x0) L (0,acc.2.1,acc.2.2.1,acc.2.2.2.1,acc.2.2.2.2.1,x0.6,x0.7,x0.8,x0.9,x0.10,acc.2.2.2.2.2.2.2.2.2.2.1,())
def Dn:Zc→Nat→(Int×List (List UInt8)×List (List UInt8)×List (List UInt8)×List (List UInt8)×List (List UInt8)×List (List UInt8)×List (List UInt8)×List (List UInt8)×List (List UInt8)×List (List UInt8)×PUnit→Option (List (List (List UInt8))))→Int×List (List UInt8)×List (List UInt8)×List (List UInt8)×List (List UInt8)×List (List UInt8)×List (List UInt8)×List (List UInt8)×List (List UInt8)×List (List UInt8)×List (List UInt8)×PUnit→Option (List (List (List UInt8))):=fun (x0:Zc) (L:Nat) (self:Int×List (List UInt8)×List (List UInt8)×List (List UInt8)×List (List UInt8)×List (List UInt8)×List (List UInt8)×List (List UInt8)×List (List UInt8)×List (List UInt8)×List (List UInt8)×PUnit→Option (List (List (List UInt8)))) (acc:Int×List (List UInt8)×List (List UInt8)×List (List UInt8)×List (List UInt8)×List (List UInt8)×List (List UInt8)×List (List UInt8)×List (List UInt8)×List (List UInt8)×List (List UInt8)×PUnit)=>bif decide (acc.1 < (↑x0.4.length:Int)) then bT (Z8 x0.4 acc.1) fun y=>bT (apT 16 acc.2.2.2.1 [y.1]) fun y=>self (Go.IntKind.i64.wrap (acc.1 + 1),acc.2.1,acc.2.2.1,y,acc.2.2.2.2.1,acc.2.2.2.2.2.1,acc.2.2.2.2.2.2.1,acc.2.2.2.2.2.2.2.1,acc.2.2.2.2.2.2.2.2.1,acc.2.2.2.2.2.2.2.2.2.1,acc.2.2.2.2.2.2.2.2.2.2.1,()) else Zo (Dl x0 L) L (0,acc.2.1,acc.2.2.1,acc.2.2.2.1,acc.2.2.2.2.1,acc.2.2.2.2.2.1,acc.2.2.2.2.2.2.1,acc.2.2.2.2.2.2.2.1,acc.2.2.2.2.2.2.2.2.1,acc.2.2.2.2.2.2.2.2.2.1,acc.2.2.2.2.2.2.2.2.2.2.1,())
def Dp:Zc→Nat→(Int×List (List UInt8)×List (List UInt8)×List (List UInt8)×List (List UInt8)×List (List UInt8)×List (List UInt8)×List (List UInt8)×List (List UInt8)×List (List UInt8)×List (List UInt8)×PUnit→Option (List (List (List UInt8))))→Int×List (List UInt8)×List (List UInt8)×List (List UInt8)×List (List UInt8)×List (List UInt8)×List (List UInt8)×List (List UInt8)×List (List UInt8)×List (List UInt8)×List (List UInt8)×PUnit→Option (List (List (List UInt8))):=fun (x0:Zc) (L:Nat) (self:Int×List (List UInt8)×List (List UInt8)×List (List UInt8)×List (List UInt8)×List (List UInt8)×List (List UInt8)×List (List UInt8)×List (List UInt8)×List (List UInt8)×List (List UInt8)×PUnit→Option (List (List (List UInt8)))) (acc:Int×List (List UInt8)×List (List UInt8)×List (List UInt8)×List (List UInt8)×List (List UInt8)×List (List UInt8)×List (List UInt8)×List (List UInt8)×List (List UInt8)×List (List UInt8)×PUnit)=>bif decide (acc.1 < (↑x0.3.length:Int)) then bT (Z8 x0.3 acc.1) fun y=>bT (apT 16 acc.2.2.1 [y.1]) fun y=>self (Go.IntKind.i64.wrap (acc.1 + 1),acc.2.1,y,acc.2.2.2.1,acc.2.2.2.2.1,acc.2.2.2.2.2.1,acc.2.2.2.2.2.2.1,acc.2.2.2.2.2.2.2.1,acc.2.2.2.2.2.2.2.2.1,acc.2.2.2.2.2.2.2.2.2.1,acc.2.2.2.2.2.2.2.2.2.2.1,()) else Zo (Dn x0 L) L (0,acc.2.1,acc.2.2.1,acc.2.2.2.1,acc.2.2.2.2.1,acc.2.2.2.2.2.1,acc.2.2.2.2.2.2.1,acc.2.2.2.2.2.2.2.1,acc.2.2.2.2.2.2.2.2.1,acc.2.2.2.2.2.2.2.2.2.1,acc.2.2.2.2.2.2.2.2.2.2.1,())
def Dq:Zc→Nat→(Int×List (List UInt8)×List (List UInt8)×List (List UInt8)×List (List UInt8)×List (List UInt8)×List (List UInt8)×List (List UInt8)×List (List UInt8)×List (List UInt8)×List (List UInt8)×PUnit→Option (List (List (List UInt8))))→Int×List (List UInt8)×List (List UInt8)×List (List UInt8)×List (List UInt8)×List (List UInt8)×List (List UInt8)×List (List UInt8)×List (List UInt8)×List (List UInt8)×List (List UInt8)×PUnit→Option (List (List (List UInt8))):=fun (x0:Zc) (L:Nat) (self:Int×List (List UInt8)×List (List UInt8)×List (List UInt8)×List (List UInt8)×List (List UInt8)×List (List UInt8)×List (List UInt8)×List (List UInt8)×List (List UInt8)×List (List UInt8)×PUnit→Option (List (List (List UInt8)))) (acc:Int×List (List UInt8)×List (List UInt8)×List (List UInt8)×List (List UInt8)×List (List UInt8)×List (List UInt8)×List (List UInt8)×List (List UInt8)×List (List UInt8)×List (List UInt8)×PUnit)=>bif decide (acc.1 < (↑x0.2.length:Int)) then bT (Z8 x0.2 acc.1) fun y=>bT (apT 16 acc.2.1 [y.1]) fun y=>self (Go.IntKind.i64.wrap (acc.1 + 1),y,acc.2.2.1,acc.2.2.2.1,acc.2.2.2.2.1,acc.2.2.2.2.2.1,acc.2.2.2.2.2.2.1,acc.2.2.2.2.2.2.2.1,acc.2.2.2.2.2.2.2.2.1,acc.2.2.2.2.2.2.2.2.2.1,acc.2.2.2.2.2.2.2.2.2.2.1,()) else Zo (Dp x0 L) L (0,acc.2.1,acc.2.2.1,acc.2.2.2.1,acc.2.2.2.2.1,acc.2.2.2.2.2.1,acc.2.2.2.2.2.2.1,acc.2.2.2.2.2.2.2.1,acc.2.2.2.2.2.2.2.2.1,acc.2.2.2.2.2.2.2.2.2.1,acc.2.2.2.2.2.2.2.2.2.2.1,())
theorem Zln (L:Nat)(x0:Zc):UD L (x0,())=Zo (Dq x0 L) L (0,[],[],[],[],[],[],[],[],[],[],()):=by kernel_rfl
end Go.Proofs.YtleomfgijkapfaaGreatDoor
end
noncomputable section
namespace Go.Proofs.YtleomfgijkapfaaGreatDoor
open Go Go.Proofs.YtleomfgijkapfaaGreatDoor.Abs Go.Proofs.YtleomfgijkapfaaGreatDoor.Tl
set_option maxRecDepth 100000
set_option maxHeartbeats 0
def Xm (L:Nat)(x:Zc×(List UInt8)×PUnit):Option (List UInt8):=fT [TS L,Eu L] L Zfz [.rnd [.slot 7 (.int .i64)]] (.one .str) [.row 14,.str] x
def Zo8 (L:Nat):Sum tT:=mU 233 [.row 14,.str] (.one .str) (Xm L)
def MN:List UInt8→Nat→List (List (List UInt8))→(Int×PUnit→Option (List UInt8))→Int×PUnit→Option (List UInt8):=fun x1 L y self acc=>bif decide (acc.1 < (↑y.length:Int)) then bT (Z8 y acc.1) fun y=>bT (J4 L (y,x1,())) fun y=>bif decide (y ≥ 0) then bT (Z8 [[118,97,114],[114,101,115,111,117,114,99,101],[115,116,111,114,101],[98,101,108,116],[113,117,101,117,101],[115,116,114,101,97,109],[116,97,108,108,121],[108,101,118,101,108],[99,111,117,110,116],[114,111,117,116,105,110,101]] acc.1) fun y=>some y else self (Go.IntKind.i64.wrap (acc.1 + 1),()) else some []
theorem Zoo (L:Nat)(x0:Zc)(x1:(List UInt8)):Xm L (x0,x1,())=bT (UD L (x0,())) fun (y:List (List (List UInt8)))=>Zo (MN x1 L y) L (0,()):=by kernel_rfl
def Zr (L:Nat)(x:Bool×Int×PUnit):Option Int:=fT [] L Za8 [] (.one (.int .i64)) [.bool,.int .i64] x
def Qr (L:Nat):Sum tT:=mU 70 [.bool,.int .i64] (.one (.int .i64)) (Zr L)
theorem Zjq (L:Nat)(x0:Bool)(x1:Int):Zr L (x0,x1,())=bif x0 then some 0 else some x1:=by kernel_rfl
def PH (L:Nat)(x:Zc×JC×PUnit):Option Int:=fT [Vk L,X6 L,Zo8 L,Qr L] L Zf2 [] (.one (.int .i64)) [.row 14,.row 12] x
def ZoB (L:Nat):Sum tT:=mU 195 [.row 14,.row 12] (.one (.int .i64)) (PH L)
theorem Zoq (L:Nat)(x0:Zc)(x1:JC):PH L (x0,x1,())=bif x1.2 == [99,114,101,97,116,101,100] then bT (bT (Zr L (!([114,111,117,116,105,110,101]:List UInt8) == [],1,())) fun y=>some y) fun y=>bT (bT (Xm L (x0,x1.3,())) fun y=>some y) fun y_1=>bT (bT (Zr L (y_1 == [114,111,117,116,105,110,101],5,())) fun y=>some y) fun y_2=>bT (bT (ZB L (y,y_2,())) fun y=>some y) fun y=>bT (ZN L (x1.1,(-1000),1000,())) fun y_3=>bT (Zr L (y_3 && x1.1 != 0,2,())) fun y_4=>bT (ZB L (y,y_4,())) fun y=>some y else bif x1.2 == [101,110,100,101,100] then bT (bT (Zr L (!([114,111,117,116,105,110,101]:List UInt8) == [],1,())) fun y=>some y) fun y=>bT (bT (Xm L (x0,x1.3,())) fun y=>some y) fun y_1=>bT (bT (Zr L (y_1 == [114,111,117,116,105,110,101],5,())) fun y=>some y) fun y_2=>bT (bT (ZB L (y,y_2,())) fun y=>some y) fun y=>bT (ZN L (x1.1,(-1000),1000,())) fun y_3=>bT (Zr L (y_3 && x1.1 != 0,2,())) fun y_4=>bT (ZB L (y,y_4,())) fun y=>some y else bif x1.2 == [105,110,115,105,100,101] then bT (bT (Zr L (!([114,111,117,116,105,110,101]:List UInt8) == [],1,())) fun y=>some y) fun y=>bT (bT (Xm L (x0,x1.3,())) fun y=>some y) fun y_1=>bT (bT (Zr L (y_1 == [114,111,117,116,105,110,101],5,())) fun y=>some y) fun y_2=>bT (bT (ZB L (y,y_2,())) fun y=>some y) fun y=>bT (ZN L (x1.1,(-1000),1000,())) fun y_3=>bT (Zr L (y_3 && x1.1 != 0,2,())) fun y_4=>bT (ZB L (y,y_4,())) fun y=>some y else bif x1.2 == [115,116,111,114,101,100] then bT (bT (Zr L (!([115,116,111,114,101]:List UInt8) == [],1,())) fun y=>some y) fun y=>bT (bT (Xm L (x0,x1.3,())) fun y=>some y) fun y_1=>bT (bT (Zr L (y_1 == [115,116,111,114,101],5,())) fun y=>some y) fun y_2=>bT (bT (ZB L (y,y_2,())) fun y=>some y) fun y=>bT (ZN L (x1.1,(-1000),1000,())) fun y_3=>bT (Zr L (y_3 && x1.1 != 0,2,())) fun y_4=>bT (ZB L (y,y_4,())) fun y=>some y else bif x1.2 == [101,110,116,101,114,101,100] then bT (bT (Zr L (!([115,116,111,114,101]:List UInt8) == [],1,())) fun y=>some y) fun y=>bT (bT (Xm L (x0,x1.3,())) fun y=>some y) fun y_1=>bT (bT (Zr L (y_1 == [115,116,111,114,101],5,())) fun y=>some y) fun y_2=>bT (bT (ZB L (y,y_2,())) fun y=>some y) fun y=>bT (ZN L (x1.1,(-1000),1000,())) fun y_3=>bT (Zr L (y_3 && x1.1 != 0,2,())) fun y_4=>bT (ZB L (y,y_4,())) fun y=>some y else bif x1.2 == [108,101,102,116] then bT (bT (Zr L (!([115,116,111,114,101]:List UInt8) == [],1,())) fun y=>some y) fun y=>bT (bT (Xm L (x0,x1.3,())) fun y=>some y) fun y_1=>bT (bT (Zr L (y_1 == [115,116,111,114,101],5,())) fun y=>some y) fun y_2=>bT (bT (ZB L (y,y_2,())) fun y=>some y) fun y=>bT (ZN L (x1.1,(-1000),1000,())) fun y_3=>bT (Zr L (y_3 && x1.1 != 0,2,())) fun y_4=>bT (ZB L (y,y_4,())) fun y=>some y else bif x1.2 == [99,111,117,110,116,101,100] then bT (bT (Zr L (!([99,111,117,110,116]:List UInt8) == [],1,())) fun y=>some y) fun y=>bT (bT (Xm L (x0,x1.3,())) fun y=>some y) fun y_1=>bT (bT (Zr L (y_1 == [99,111,117,110,116],5,())) fun y=>some y) fun y_2=>bT (bT (ZB L (y,y_2,())) fun y=>some y) fun y=>bT (ZN L (x1.1,(-1000),1000,())) fun y_3=>bT (Zr L (y_3 && x1.1 != 0,2,())) fun y_4=>bT (ZB L (y,y_4,())) fun y=>some y else bT (bT (Zr L (!([]:List UInt8) == [],1,())) fun y=>some y) fun y=>bT (bT (Xm L (x0,x1.3,())) fun y=>some y) fun y_1=>bT (bT (Zr L (y_1 == [],5,())) fun y=>some y) fun y_2=>bT (bT (ZB L (y,y_2,())) fun y=>some y) fun y=>bT (ZN L (x1.1,(-1000),1000,())) fun y_3=>bT (Zr L (y_3 && x1.1 != 0,2,())) fun y_4=>bT (ZB L (y,y_4,())) fun y=>some y:=by kernel_rfl
def Jo (L:Nat)(x:(List UInt8)×(List (List UInt8))×PUnit):Option Int:=fT [X6 L,Qr L,TS L,Jl L] L Zc8 [] (.one (.int .i64)) [.str,.lst 1 .str] x
def IU (L:Nat):Sum tT:=mU 72 [.str,.lst 1 .str] (.one (.int .i64)) (Jo L)
theorem Zlr (L:Nat)(x0:(List UInt8))(x1:(List (List UInt8))):Jo L (x0,x1,())=bT (Q7 L (x0,())) fun y=>bT (J4 L (x1,x0,())) fun y_1=>bT (Zr L (decide (y_1 < 0),4,())) fun y_2=>bT (ZB L (y,y_2,())) fun y=>some y:=by kernel_rfl
def FT (L:Nat)(x:Zc×RV×(List (List UInt8))×PUnit):Option Int:=fT [Zck L,ZoB L,X6 L,Qr L,IU L] L Zia [.rnd [.slot 7 (.int .i64),.slot 8 (.int .i64)]] (.one (.int .i64)) [.row 14,.row 13,.lst 1 .str] x
def Zrl (L:Nat):Sum tT:=mU 150 [.row 14,.row 13,.lst 1 .str] (.one (.int .i64)) (FT L)
def Pq:Zc→RV→Nat→(Int×Int×PUnit→Option Int)→Int×Int×PUnit→Option Int:=fun x0 x1 L self acc=>bif decide (acc.2.1 < (↑x1.2.length:Int)) then bT (Z8 x1.2 acc.2.1) fun y=>bT (bT (PH L (x0,y,())) fun y=>some y) fun y=>bT (bT (ZB L (acc.1,y,())) fun y=>some y) fun y=>self (y,Go.IntKind.i64.wrap (acc.2.1 + 1),()) else bT (PD L (x1.3,())) fun y=>bT (Zr L (y,2,())) fun y=>bT (ZB L (acc.1,y,())) fun y=>some y
theorem ZqK (L:Nat)(x0:Zc)(x1:RV)(x2:(List (List UInt8))):FT L (x0,x1,x2,())=bT (Jo L (x1.1,x2,())) fun y=>bT (Zr L (decide ((↑x1.2.length:Int) > 0),7,())) fun y_1=>bT (ZB L (y,y_1,())) fun y=>bT (Zr L (decide ((↑x1.2.length:Int)≤8),6,())) fun y_2=>bT (ZB L (y,y_2,())) fun y=>Zo (Pq x0 x1 L) L (y,0,()):=by kernel_rfl
def TY (L:Nat)(x:Int×Int×PUnit):Option Bool:=fT [Vk L,Zck L] L Zfy [] (.one .bool) [.int .i64,.int .i64] x
def Zam (L:Nat):Sum tT:=mU 146 [.int .i64,.int .i64] (.one .bool) (TY L)
theorem Zon (L:Nat)(x0:Int)(x1:Int):TY L (x0,x1,())=bif x0 == 1 then bT (PD L (x1,())) fun y=>some y else bif x0 == 2 then some (x1 == 0 || x1 == 1) else bif x0 == 3 then bT (ZN L (x1,0,1000000000,())) fun y=>some y else some false:=by kernel_rfl
def Ht (L:Nat)(x:Zc×(List UInt8)×PUnit):Option Int:=fT [TS L,Eu L] L Aa [] (.one (.int .i64)) [.row 14,.str] x
def ZhK (L:Nat):Sum tT:=mU 194 [.row 14,.str] (.one (.int .i64)) (Ht L)
theorem Zhp (L:Nat)(x0:Zc)(x1:(List UInt8)):Ht L (x0,x1,())=bT (UD L (x0,())) fun (y:List (List (List UInt8)))=>bT (Z8 y 9) fun y=>bT (J4 L (y,x1,())) fun y=>some y:=by kernel_rfl
def L8 (L:Nat)(x:Zc×Qm×PUnit):Option Int:=fT [Qr L,Vk L,Zam L,ZhK L] L Zc9 [.rnd [.slot 7 (.int .i64)]] (.one (.int .i64)) [.row 14,.row 11] x
def ZlU (L:Nat):Sum tT:=mU 149 [.row 14,.row 11] (.one (.int .i64)) (L8 L)
def Oy:Qm→Nat→ZJ→(Int×PUnit→Option Int)→Int×PUnit→Option Int:=fun x1 L y self acc=>bif decide (acc.1 < (↑y.2.length:Int)) then bT (Z8 y.2 acc.1) fun y=>bT (Z8 x1.2 acc.1) fun y_1=>bT (bT (TY L (y.2,y_1,())) fun y=>some y) fun y=>bif !y then some 2 else self (Go.IntKind.i64.wrap (acc.1 + 1),()) else bT (ZN L (x1.3,0,1000000000,())) fun y=>bT (bif y == true then bT (ZN L (x1.4,0,1000000000,())) fun y=>some y else some false) fun y=>bT (bif y == true then bT (ZN L (x1.5,0,1000000000,())) fun y=>some y else some false) fun y=>bT (Zr L (y && (x1.4 != 0 || x1.5 == 0),2,())) fun y=>some y
theorem Zls (L:Nat)(x0:Zc)(x1:Qm):L8 L (x0,x1,())=bT (Ht L (x0,x1.1,())) fun y=>bif decide (y < 0) then some 5 else bT (Z8 x0.11 y) fun y=>bif (↑x1.2.length:Int) != (↑y.2.length:Int) then some 8 else Zo (Oy x1 L y) L (0,()):=by kernel_rfl
def W9 (L:Nat)(x:Zt×PUnit):Option Int:=fT [Ze0 L] L Zcz [] (.one (.int .i64)) [.row 8] x
def ZlM (L:Nat):Sum tT:=mU 275 [.row 8] (.one (.int .i64)) (W9 L)
theorem Zle (L:Nat)(x0:Zt):W9 L (x0,())=bT (Oa L (x0,false,())) fun y=>some y:=by kernel_rfl
def Lt (L:Nat)(x:Zy×Wn×PUnit):Option Int:=fT [ZlM L] L Zc2 [.rnd [.slot 5 (.int .i64),.slot 6 (.int .i64)]] (.one (.int .i64)) [.row 9,.row 27] x
def ZlR (L:Nat):Sum tT:=mU 273 [.row 9,.row 27] (.one (.int .i64)) (Lt L)
def WU:Zy→Nat→(Int×Int×PUnit→Option Int)→Int×Int×PUnit→Option Int:=fun x0 L self acc=>bif acc.1 == 0 && decide (acc.2.1 < (↑x0.6.length:Int)) then bT (Z8 x0.6 acc.2.1) fun y=>bT (W9 L (y,())) fun y=>self (y,Go.IntKind.i64.wrap (acc.2.1 + 1),()) else some acc.1
def ZaO:Zy→Nat→(Int×Int×PUnit→Option Int)→Int×Int×PUnit→Option Int:=fun x0 L self acc=>bif acc.1 == 0 && decide (acc.2.1 < (↑x0.6.length:Int)) then bT (Z8 x0.6 acc.2.1) fun y=>bT (W9 L (y,())) fun y=>self (y,Go.IntKind.i64.wrap (acc.2.1 + 1),()) else some acc.1
def ZaP:Zy→Nat→(Int×Int×PUnit→Option Int)→Int×Int×PUnit→Option Int:=fun x0 L self acc=>bif acc.1 == 0 && decide (acc.2.1 < (↑x0.6.length:Int)) then bT (Z8 x0.6 acc.2.1) fun y=>bT (W9 L (y,())) fun y=>self (y,Go.IntKind.i64.wrap (acc.2.1 + 1),()) else some acc.1
def ZaQ:Zy→Nat→(Int×Int×PUnit→Option Int)→Int×Int×PUnit→Option Int:=fun x0 L self acc=>bif acc.1 == 0 && decide (acc.2.1 < (↑x0.6.length:Int)) then bT (Z8 x0.6 acc.2.1) fun y=>bT (W9 L (y,())) fun y=>self (y,Go.IntKind.i64.wrap (acc.2.1 + 1),()) else some acc.1
def ZaR:Zy→Nat→(Int×Int×PUnit→Option Int)→Int×Int×PUnit→Option Int:=fun x0 L self acc=>bif acc.1 == 0 && decide (acc.2.1 < (↑x0.6.length:Int)) then bT (Z8 x0.6 acc.2.1) fun y=>bT (W9 L (y,())) fun y=>self (y,Go.IntKind.i64.wrap (acc.2.1 + 1),()) else some acc.1
def ZaS:Zy→Nat→(Int×Int×PUnit→Option Int)→Int×Int×PUnit→Option Int:=fun x0 L self acc=>bif acc.1 == 0 && decide (acc.2.1 < (↑x0.6.length:Int)) then bT (Z8 x0.6 acc.2.1) fun y=>bT (W9 L (y,())) fun y=>self (y,Go.IntKind.i64.wrap (acc.2.1 + 1),()) else some acc.1
def ZaT:Zy→Nat→(Int×Int×PUnit→Option Int)→Int×Int×PUnit→Option Int:=fun x0 L self acc=>bif acc.1 == 0 && decide (acc.2.1 < (↑x0.6.length:Int)) then bT (Z8 x0.6 acc.2.1) fun y=>bT (W9 L (y,())) fun y=>self (y,Go.IntKind.i64.wrap (acc.2.1 + 1),()) else some acc.1
def ZaU:Zy→Nat→(Int×Int×PUnit→Option Int)→Int×Int×PUnit→Option Int:=fun x0 L self acc=>bif acc.1 == 0 && decide (acc.2.1 < (↑x0.6.length:Int)) then bT (Z8 x0.6 acc.2.1) fun y=>bT (W9 L (y,())) fun y=>self (y,Go.IntKind.i64.wrap (acc.2.1 + 1),()) else some acc.1
theorem Zll (L:Nat)(x0:Zy)(x1:Wn):Lt L (x0,x1,())=bif x1.3 then bT (W9 L (x0.4,())) fun y=>bif y == 0 && x1.4 then bT (W9 L (x0.5,())) fun y=>bif y == 0 && decide ((↑x0.6.length:Int) > 6) then Zo (WU x0 L) L (6,0,()) else Zo (ZaO x0 L) L (y,0,()) else bif y == 0 && decide ((↑x0.6.length:Int) > 6) then Zo (ZaP x0 L) L (6,0,()) else Zo (ZaQ x0 L) L (y,0,()) else bif 0 == 0 && x1.4 then bT (W9 L (x0.5,())) fun y=>bif y == 0 && decide ((↑x0.6.length:Int) > 6) then Zo (ZaR x0 L) L (6,0,()) else Zo (ZaS x0 L) L (y,0,()) else bif 0 == 0 && decide ((↑x0.6.length:Int) > 6) then Zo (ZaT x0 L) L (6,0,()) else Zo (ZaU x0 L) L (0,0,()):=by kernel_rfl
end Go.Proofs.YtleomfgijkapfaaGreatDoor
end
noncomputable section
namespace Go.Proofs.YtleomfgijkapfaaGreatDoor
open Go Go.Proofs.YtleomfgijkapfaaGreatDoor.Abs Go.Proofs.YtleomfgijkapfaaGreatDoor.Tl
set_option maxRecDepth 100000
set_option maxHeartbeats 0
def TW (L:Nat)(x:Zt×PUnit):Option Bool:=fT [] L Zfx [] (.one .bool) [.row 8] x
def Zo7 (L:Nat):Sum tT:=mU 274 [.row 8] (.one .bool) (TW L)
theorem Zom (L:Nat)(x0:Zt):TW L (x0,())=some (x0.1 == 0 && x0.2 == [] && x0.3 == 0 && (↑x0.4.length:Int) == 0):=by kernel_rfl
def FP (L:Nat)(x:Int×PUnit):Option (Wn×Bool×PUnit):=fT [] L Zmf [] (.tup [.row 27,.bool]) [.int .i64] x
def Zns (L:Nat):Sum tT:=mU 271 [.int .i64] (.tup [.row 27,.bool]) (FP L)
theorem ZsW (L:Nat)(x0:Int):FP L (x0,())=bif x0 == 1 then some (Wn.mk true false true false false false false false false,true,()) else bif x0 == 7 then some (Wn.mk true false true false false false false false false,true,()) else bif x0 == 8 then some (Wn.mk true false true false false false false false false,true,()) else bif x0 == 12 then some (Wn.mk true false true false false false false false false,true,()) else bif x0 == 15 then some (Wn.mk true false true false false false false false false,true,()) else bif x0 == 16 then some (Wn.mk true false true false false false false false false,true,()) else bif x0 == 17 then some (Wn.mk true false true false false false false false false,true,()) else bif x0 == 2 then some (Wn.mk true true false false false true false false false,true,()) else bif x0 == 3 then some (Wn.mk false false true false false false false true true,true,()) else bif x0 == 4 then some (Wn.mk false false true false false false false true false,true,()) else bif x0 == 5 then some (Wn.mk false false true false false false false false false,true,()) else bif x0 == 6 then some (Wn.mk true false true true false false true false false,true,()) else bif x0 == 9 then some (Wn.mk true true false false false false false false false,true,()) else bif x0 == 10 then some (Wn.mk true false false false false false false false false,true,()) else bif x0 == 11 then some (Wn.mk true false false false false false false false false,true,()) else bif x0 == 13 then some (Wn.mk true true true false true false false false false,true,()) else bif x0 == 14 then some (Wn.mk true false true false true false false false false,true,()) else bif x0 == 18 then some (Wn.mk false false false false false false false false false,true,()) else some (Wn.mk false false false false false false false false false,false,()):=by kernel_rfl
def OH (L:Nat)(x:Zy×PUnit):Option Bool:=fT [Jz L,Zo7 L,Zns L] L Za7 [] (.one .bool) [.row 9] x
def ZjS (L:Nat):Sum tT:=mU 272 [.row 9] (.one .bool) (OH L)
theorem Zjp (L:Nat)(x0:Zy):OH L (x0,())=bT (FP L (x0.1,())) fun y=>bT (bif y.1.3 == false then bT (TW L (x0.4,())) fun y=>some y else some true) fun y_1=>bT (bif y_1 == true then bif y.1.4 == false then bT (TW L (x0.5,())) fun y=>some y else some true else some false) fun y_2=>bT (bif (y.2.1 && ((y.1.1 || x0.2 == []) && (y.1.2 || x0.3 == [])) && (y_2 && (y.1.5 || (↑x0.6.length:Int) == 0)) && ((y.1.8 || (↑x0.9.length:Int) == 0) && (y.1.9 || (↑x0.10.length:Int) == 0))) == true then bif y.1.6 == false then bT (QG L (x0.7,YP.mk 0 0 0 0 [] [],())) fun y=>some y else some true else some false) fun y_3=>some (y_3 && (y.1.7 || !x0.8)):=by kernel_rfl
def FQ (L:Nat)(x:Zy×PUnit):Option Int:=fT [Es L,ZlR L,Jl L,ZjS L,Zns L] L ZhZ [] (.one (.int .i64)) [.row 9] x
def ZjT (L:Nat):Sum tT:=mU 267 [.row 9] (.one (.int .i64)) (FQ L)
theorem ZqJ (L:Nat)(x0:Zy):FQ L (x0,())=bT (FP L (x0.1,())) fun y=>bT (OH L (x0,())) fun y_1=>bif !y_1 then some 1 else bT (bif y.1.1 == true then bT (Q7 L (x0.2,())) fun y=>some (y != 0) else some false) fun y_2=>bT (bif y_2 == false then bif y.1.2 == true then bT (Q7 L (x0.3,())) fun y=>some (y != 0) else some false else some true) fun y_3=>bif y_3 then some 3 else bT (Lt L (x0,y.1,())) fun y_4=>bif y_4 == 0 && y.1.6 then bT (Jn L (x0.7,())) fun y=>some y else some y_4:=by kernel_rfl
def Zem (L:Nat):Nat→List (Sum tT)
 | 0=>[⟨253,[.lst 21 (.row 9)],fun _=>.par _ none ((.one (.int .i64):RD).tv tT)⟩]
 | m + 1=>[⟨253,[.lst 21 (.row 9)],fun x=>.par _ (fnT tF tG (qOf tF (Zem L m ++ [ZjT L])) 0 L Cc [.rnd [.slot 3 (.int .i64)]] (.one (.int .i64)) (tvL tT [.lst 21 (.row 9)] x) []) ((.one (.int .i64):RD).tv tT)⟩]
def UF (L m:Nat)(x:(List Zy)×PUnit):Option (Int):=fnT tF tG (qOf tF (Zem L m ++ [ZjT L])) 0 L Cc [.rnd [.slot 3 (.int .i64)]] (.one (.int .i64)) (tvL tT [.lst 21 (.row 9)] x) []
def Zap (L:Nat)(x:(List Zy)×PUnit):Option (Int):=UF L L x
def Zo6 (L:Nat):Sum tT:=⟨253,[.lst 21 (.row 9)],fun x=>.par ((.one (.int .i64):RD).Ty tT) (Zap L x) ((.one (.int .i64):RD).tv tT)⟩
def Ee:Nat→List Zy→Nat→(Int×PUnit→Option Int)→Int×PUnit→Option Int:=fun (m:Nat)=>fun x0 L self acc=>bif decide (acc.1 < (↑x0.length:Int)) then bT (Z8 x0 acc.1) fun y=>bT (FQ L (y,())) fun y=>bif y == 0 then bT (Z8 x0 acc.1) fun y=>bT (UF L m (y.9,())) fun y=>bif y == 0 then bT (Z8 x0 acc.1) fun y=>bT (UF L m (y.10,())) fun y=>bif y != 0 then some y else self (Go.IntKind.i64.wrap (acc.1 + 1),()) else bif y != 0 then some y else self (Go.IntKind.i64.wrap (acc.1 + 1),()) else bif y == 0 then bT (Z8 x0 acc.1) fun y=>bT (UF L m (y.10,())) fun y=>bif y != 0 then some y else self (Go.IntKind.i64.wrap (acc.1 + 1),()) else bif y != 0 then some y else self (Go.IntKind.i64.wrap (acc.1 + 1),()) else some 0
theorem Zol (L m:Nat)(x0:(List Zy)):UF L (m + 1) (x0,())=Zo (Ee m x0 L) L (0,()):=by kernel_rfl
def Zbc (L:Nat):Nat→List (Sum tT)
 | 0=>[⟨252,[.lst 21 (.row 9)],fun _=>.par _ none ((.one (.int .i64):RD).tv tT)⟩]
 | m + 1=>[⟨252,[.lst 21 (.row 9)],fun x=>.par _ (fnT tF tG (qOf tF (Zbc L m ++ [])) 0 L NV [.rnd [.slot 3 (.int .i64),.slot 4 (.int .i64)]] (.one (.int .i64)) (tvL tT [.lst 21 (.row 9)] x) []) ((.one (.int .i64):RD).tv tT)⟩]
def KZ (L m:Nat)(x:(List Zy)×PUnit):Option (Int):=fnT tF tG (qOf tF (Zbc L m ++ [])) 0 L NV [.rnd [.slot 3 (.int .i64),.slot 4 (.int .i64)]] (.one (.int .i64)) (tvL tT [.lst 21 (.row 9)] x) []
def EE (L:Nat)(x:(List Zy)×PUnit):Option (Int):=KZ L L x
def ZlQ (L:Nat):Sum tT:=⟨252,[.lst 21 (.row 9)],fun x=>.par ((.one (.int .i64):RD).Ty tT) (EE L x) ((.one (.int .i64):RD).tv tT)⟩
def Dh:Nat→List Zy→Nat→(Int×Int×PUnit→Option Int)→Int×Int×PUnit→Option Int:=fun (m:Nat)=>fun x0 L self acc=>bif decide (acc.2.1 < (↑x0.length:Int)) then bT (Z8 x0 acc.2.1) fun y=>bT (bT (KZ L m (y.9,())) fun y=>some y) fun y=>bT (Z8 x0 acc.2.1) fun y_1=>bT (bT (KZ L m (y_1.10,())) fun y=>some y) fun y_2=>self (if Go.IntKind.i64.wrap (1 + y_2) > if Go.IntKind.i64.wrap (1 + y) > acc.1 then Go.IntKind.i64.wrap (1 + y) else acc.1 then Go.IntKind.i64.wrap (1 + y_2) else if Go.IntKind.i64.wrap (1 + y) > acc.1 then Go.IntKind.i64.wrap (1 + y) else acc.1,Go.IntKind.i64.wrap (acc.2.1 + 1),()) else some acc.1
theorem Zlk (L m:Nat)(x0:(List Zy)):KZ L (m + 1) (x0,())=Zo (Dh m x0 L) L (0,0,()):=by kernel_rfl
def D8 (L:Nat):Nat→List (Sum tT)
 | 0=>[⟨25,[.lst 21 (.row 9)],fun _=>.par _ none ((.one (.int .i64):RD).tv tT)⟩]
 | m + 1=>[⟨25,[.lst 21 (.row 9)],fun x=>.par _ (fnT tF tG (qOf tF (D8 L m ++ [])) 0 L NU [.rnd [.slot 3 (.int .i64),.slot 4 (.int .i64)]] (.one (.int .i64)) (tvL tT [.lst 21 (.row 9)] x) []) ((.one (.int .i64):RD).tv tT)⟩]
theorem D9 {C:Cfg}{L:Nat}(h:St C L):∀ m,∀ s ∈ D8 L m,XV C s
 | 0=>(Zg (XO _ _ _) Zz)
 | m + 1=>have ih:=D9 h m
  (Zg (WG YV h.L h.G (QL YV (Kt ih Zz)) [.rnd [.slot 3 (.int .i64),.slot 4 (.int .i64)]] (h.T _ _ rfl) (by kernel_rfl) fun _=>rfl) Zz)
def KY (L m:Nat)(x:(List Zy)×PUnit):Option (Int):=fnT tF tG (qOf tF (D8 L m ++ [])) 0 L NU [.rnd [.slot 3 (.int .i64),.slot 4 (.int .i64)]] (.one (.int .i64)) (tvL tT [.lst 21 (.row 9)] x) []
def UC (L:Nat)(x:(List Zy)×PUnit):Option (Int):=KY L L x
def Et (L:Nat):Sum tT:=⟨25,[.lst 21 (.row 9)],fun x=>.par ((.one (.int .i64):RD).Ty tT) (UC L x) ((.one (.int .i64):RD).tv tT)⟩
theorem ZlF {C:Cfg}{L:Nat}(h:St C L):XV C (Et L):=have ih:=D9 h L
 WG YV h.L h.G (QL YV (Kt ih Zz)) [.rnd [.slot 3 (.int .i64),.slot 4 (.int .i64)]] (h.T _ _ rfl) (by kernel_rfl) fun _=>rfl
def Df:Nat→List Zy→Nat→(Int×Int×PUnit→Option Int)→Int×Int×PUnit→Option Int:=fun (m:Nat)=>fun x0 L self acc=>bif decide (acc.2.1 < (↑x0.length:Int)) then bT (Z8 x0 acc.2.1) fun y=>bT (bT (KY L m (y.9,())) fun y=>some y) fun y=>bT (Z8 x0 acc.2.1) fun y_1=>bT (bT (KY L m (y_1.10,())) fun y=>some y) fun y_2=>self (Go.IntKind.i64.wrap (Go.IntKind.i64.wrap (Go.IntKind.i64.wrap (acc.1 + 1) + y) + y_2),Go.IntKind.i64.wrap (acc.2.1 + 1),()) else some acc.1
theorem Zlj (L m:Nat)(x0:(List Zy)):KY L (m + 1) (x0,())=Zo (Df m x0 L) L (0,0,()):=by kernel_rfl
def Ls (L:Nat)(x:(List Zy)×PUnit):Option Int:=fT [Zo6 L,ZlQ L,Et L] L Zc1 [] (.one (.int .i64)) [.lst 21 (.row 9)] x
def ZlP (L:Nat):Sum tT:=mU 232 [.lst 21 (.row 9)] (.one (.int .i64)) (Ls L)
theorem Zli (L:Nat)(x0:(List Zy)):Ls L (x0,())=bT (UC L (x0,())) fun y=>bif decide (y > 200) then some 6 else bT (EE L (x0,())) fun y=>bif decide (y > 12) then some 11 else bT (Zap L (x0,())) fun y=>some y:=by kernel_rfl
def Ob (L:Nat)(x:Int×PUnit):Option Bool:=fT [] L Zc5 [] (.one .bool) [.int .i64] x
def Ew (L:Nat):Sum tT:=mU 145 [.int .i64] (.one .bool) (Ob L)
theorem Zlo (L:Nat)(x0:Int):Ob L (x0,())=some (x0 == 1 || x0 == 2 || x0 == 3):=by kernel_rfl
def Hu (L:Nat)(x:ZJ×PUnit):Option Int:=fT [ZlP L,X6 L,Qr L,Ew L,IU L] L Ac [.rnd [.slot 3 (.own 1 .str),.slot 5 (.int .i64)]] (.one (.int .i64)) [.row 10] x
def ZhL (L:Nat):Sum tT:=mU 193 [.row 10] (.one (.int .i64)) (Hu L)
def UN:ZJ→Nat→List Y1→(List (List UInt8)×Int×PUnit→Option Int)→List (List UInt8)×Int×PUnit→Option Int:=fun x0 L y self acc=>bif decide (acc.2.1 < (↑y.length:Int)) then bT (Z8 y acc.2.1) fun y_1=>bT (bT (Jo L (y_1.1,acc.1,())) fun y=>some y) fun y_2=>bT (Z8 y acc.2.1) fun y_3=>bT (bT (Ob L (y_3.2,())) fun y=>some y) fun y_4=>bT (bT (Zr L (y_4,1,())) fun y=>some y) fun y_5=>bT (bT (ZB L (y_2,y_5,())) fun y=>some y) fun y_6=>bif y_6 != 0 then some y_6 else bT (Z8 y acc.2.1) fun y=>bT (apT 16 acc.1 [y.1]) fun y=>self (y,Go.IntKind.i64.wrap (acc.2.1 + 1),()) else bT (Ls L (x0.4,())) fun y=>some y
theorem Zhq (L:Nat)(x0:ZJ):Hu L (x0,())=bif decide ((↑x0.2.length:Int) > 6) || decide (Go.IntKind.i64.wrap ((↑x0.2.length:Int) + (↑x0.3.length:Int)) > 16) then some 6 else bT (apT 24 [] x0.2) fun y=>bT (apT 24 y x0.3) fun y=>Zo (UN x0 L y) L ([],0,()):=by kernel_rfl
end Go.Proofs.YtleomfgijkapfaaGreatDoor
end
noncomputable section
namespace Go.Proofs.YtleomfgijkapfaaGreatDoor
open Go Go.Proofs.YtleomfgijkapfaaGreatDoor.Abs Go.Proofs.YtleomfgijkapfaaGreatDoor.Tl
set_option maxRecDepth 100000
set_option maxHeartbeats 0
def UU (L:Nat)(x:Zn×PUnit):Option Int:=fT [Vk L,Qr L] L Nv [.rnd [.slot 3 (.int .i64)]] (.one (.int .i64)) [.row 4] x
def Zfo (L:Nat):Sum tT:=mU 231 [.row 4] (.one (.int .i64)) (UU L)
def Vb:Zn→Nat→(Int×PUnit→Option Int)→Int×PUnit→Option Int:=fun x0 L self acc=>bif decide (acc.1 < (↑x0.3.length:Int)) then bT (Z8 x0.3 acc.1) fun y=>bT (ZN L (y.1,0,Go.IntKind.i64.wrap (x0.4 - 1),())) fun y_1=>bT (bif (!y_1) == false then bT (ZN L (y.2,0,1000,())) fun y=>some !y else some true) fun y_2=>bif y_2 then some 2 else bT (bif decide (acc.1 > 0) == true then bT (Z8 x0.3 (Go.IntKind.i64.wrap (acc.1 - 1))) fun y_3=>some (decide (y.1≤y_3.1)) else some false) fun y=>bif y then some 12 else self (Go.IntKind.i64.wrap (acc.1 + 1),()) else some 0
theorem Zfa (L:Nat)(x0:Zn):UU L (x0,())=bif (↑x0.3.length:Int) == 0 then bT (Zr L (x0.4 == 0,1,())) fun y=>some y else bif decide ((↑x0.3.length:Int) > 20) then some 6 else bT (ZN L (x0.4,1,1000000000,())) fun y=>bif !y then some 2 else Zo (Vb x0 L) L (0,()):=by kernel_rfl
def UV (L:Nat)(x:Zc×Zn×PUnit):Option Int:=fT [Es L,TS L,Jz L,X6 L,Zfo L,Qr L,Vk L] L Ny [] (.one (.int .i64)) [.row 14,.row 4] x
def Zfq (L:Nat):Sum tT:=mU 192 [.row 14,.row 4] (.one (.int .i64)) (UV L)
theorem Zfb (L:Nat)(x0:Zc)(x1:Zn):UV L (x0,x1,())=bT (bT (ZN L (x1.2,0,1000,())) fun y=>some y) fun y=>bT (bT (Zr L (y,2,())) fun y=>some y) fun y=>bT (bT (UU L (x1,())) fun y=>some y) fun y_1=>bT (bT (ZB L (y,y_1,())) fun y=>some y) fun y=>bif y != 0 then some y else bif x1.Fault.1 == [] then bT (QG L (x1.Fault.2,YP.mk 0 0 0 0 [] [],())) fun y=>bT (bif y == true then bT (QG L (x1.Fault.3,YP.mk 0 0 0 0 [] [],())) fun y=>some y else some false) fun y=>bT (Zr L (y,1,())) fun y=>some y else bT (J4 L (x0.7,x1.Fault.1,())) fun y=>bif decide (y < 0) then some 5 else bT (bT (Jn L (x1.Fault.2,())) fun y=>some y) fun y=>bT (bT (Jn L (x1.Fault.3,())) fun y=>some y) fun y_2=>bT (bT (ZB L (y,y_2,())) fun y=>some y) fun y=>some y:=by kernel_rfl
def Wl (L:Nat)(x:Zc×Int×Int×PUnit):Option Int:=fT [ZhL L,Vk L,Zfq L,X6 L,Zam L,Qr L,Ew L] L Nw [] (.one (.int .i64)) [.row 14,.int .i64,.int .i64] x
def Zfp (L:Nat):Sum tT:=mU 148 [.row 14,.int .i64,.int .i64] (.one (.int .i64)) (Wl L)
theorem XG (L:Nat)(x0:Zc)(x1:Int)(x2:Int):Wl L (x0,x1,x2,())=bif x1 == 0 then bT (Z8 x0.2 x2) fun y=>bT (bT (Ob L (y.2,())) fun y=>some y) fun y=>bT (bT (Zr L (y,1,())) fun y=>some y) fun y=>bT (Z8 x0.2 x2) fun y_1=>bT (Z8 x0.2 x2) fun y_2=>bT (bT (TY L (y_1.2,y_2.3,())) fun y=>some y) fun y_3=>bT (bT (Zr L (y_3,2,())) fun y=>some y) fun y_4=>bT (bT (ZB L (y,y_4,())) fun y=>some y) fun y=>some y else bif x1 == 1 then bT (Z8 x0.3 x2) fun y=>bT (bT (UV L (x0,y,())) fun y=>some y) fun y=>some y else bif x1 == 2 then bT (Z8 x0.4 x2) fun y=>bT (Z8 x0.4 x2) fun y_1=>bT (ZN L (y_1.2,1,1000,())) fun y_2=>bT (Zr L (y_2,2,())) fun y_3=>bT (Zr L (decide (y.3 ≥ 1) && decide (y.3≤3),1,())) fun y=>bT (ZB L (y_3,y,())) fun y=>some y else bif x1 == 3 then bT (Z8 x0.5 x2) fun y=>bT (ZN L (y.2,1,1000,())) fun y=>bT (bif y == true then bT (Z8 x0.5 x2) fun y=>bT (ZN L (y.3,1,1000,())) fun y=>some y else some false) fun y=>bT (Zr L (y,2,())) fun y=>some y else bif x1 == 9 then bT (Z8 x0.11 x2) fun y=>bT (Hu L (y,())) fun y=>some y else some 0:=by kernel_rfl
def PG (L:Nat)(x:Zc×PUnit):Option Int:=fT [Zrl L,ZlU L,X6 L,Zfp L,IU L,Eu L] L Zf1 [.rnd [.slot 2 (.int .i64),.slot 3 (.own 1 .str),.slot 5 (.int .i64)],.rnd [.slot 2 (.int .i64),.slot 3 (.own 1 .str),.slot 6 (.int .i64)],.rnd [.slot 2 (.int .i64),.slot 8 (.int .i64)],.rnd [.slot 10 (.own 1 .str),.slot 11 (.int .i64)]] (.one (.int .i64)) [.row 14] x
def ZoA (L:Nat):Sum tT:=mU 73 [.row 14] (.one (.int .i64)) (PG L)
def I4:Zc→Nat→List (List (List UInt8))→(Int×List (List UInt8)×Int×PUnit→Option Int)→Int×List (List UInt8)×Int×PUnit→(Int×List (List UInt8)×Int×PUnit→Option Int)→Int×List (List UInt8)×Int×PUnit→Option Int:=fun x0 L y self acc self_1 acc_1=>bT (Z8 y acc.2.2.1) fun y_1=>bif decide (acc_1.2.2.1 < (↑y_1.length:Int)) then bT (Z8 y acc.2.2.1) fun y_2=>bT (Z8 y_2 acc_1.2.2.1) fun y_3=>bT (bT (Jo L (y_3,acc_1.2.1,())) fun y=>some y) fun y_4=>bT (bT (Wl L (x0,acc.2.2.1,acc_1.2.2.1,())) fun y=>some y) fun y_5=>bT (bT (ZB L (y_4,y_5,())) fun y=>some y) fun y_6=>bif y_6 != 0 then some y_6 else bT (Z8 y acc.2.2.1) fun y=>bT (Z8 y acc_1.2.2.1) fun y=>bT (apT 16 acc_1.2.1 [y]) fun y=>self_1 (acc_1.1,y,Go.IntKind.i64.wrap (acc_1.2.2.1 + 1),()) else self (acc_1.1,acc_1.2.1,Go.IntKind.i64.wrap (acc.2.2.1 + 1),())
def U7:Zc→Nat→(List (List UInt8)×Int×PUnit→Option Int)→List (List UInt8)×Int×PUnit→Option Int:=fun x0 L self acc=>bif decide (acc.2.1 < (↑x0.13.length:Int)) then bT (Z8 x0.13 acc.2.1) fun y=>bT (bT (FT L (x0,y,acc.1,())) fun y=>some y) fun y=>bif y != 0 then some y else bT (Z8 x0.13 acc.2.1) fun y=>bT (apT 16 acc.1 [y.1]) fun y=>self (y,Go.IntKind.i64.wrap (acc.2.1 + 1),()) else some 0
def I5:Zc→Nat→(Int×Int×PUnit→Option Int)→Int×Int×PUnit→Option Int:=fun x0 L self acc=>bif decide (acc.2.1 < (↑x0.12.length:Int)) then bT (Z8 x0.12 acc.2.1) fun y=>bT (bT (L8 L (x0,y,())) fun y=>some y) fun y=>bif y != 0 then some y else self (acc.1,Go.IntKind.i64.wrap (acc.2.1 + 1),()) else bif decide ((↑x0.13.length:Int) > 32) then some 6 else Zo (U7 x0 L) L ([],0,())
def U8:Zc→Nat→List (List (List UInt8))→(Int×List (List UInt8)×Int×PUnit→Option Int)→Int×List (List UInt8)×Int×PUnit→Option Int:=fun x0 L y self acc=>bif decide (acc.2.2.1 < (↑y.length:Int)) then bT (Z8 y acc.2.2.1) fun y_1=>bT (bif decide ((↑y_1.length:Int) > 32) == false then bif (acc.2.2.1 == 9) == true then bT (Z8 y acc.2.2.1) fun y=>some (decide ((↑y.length:Int) > 16)) else some false else some true) fun y_2=>bif y_2 then some 6 else Zo (I4 x0 L y self acc) L (acc.1,acc.2.1,0,()) else bif decide ((↑x0.12.length:Int) > 32) then some 6 else Zo (I5 x0 L) L (acc.1,0,())
theorem Zop (L:Nat)(x0:Zc):PG L (x0,())=bT (UD L (x0,())) fun (y:List (List (List UInt8)))=>Zo (U8 x0 L y) L (0,[],0,()):=by kernel_rfl
def ZeB (L:Nat)(x:WO×(List (List UInt8))×PUnit):Option Int:=fT [Zam L,X6 L,Qr L,Ew L,IU L] L ZcA [] (.one (.int .i64)) [.row 0,.lst 1 .str] x
def ZlV (L:Nat):Sum tT:=mU 71 [.row 0,.lst 1 .str] (.one (.int .i64)) (ZeB L)
def Lu (L:Nat)(x:WY×PUnit):Option Int:=fT [ZlT L,ZoA L,IU L,ZlV L,X6 L,Qr L,Jl L] L Zc3 [.rnd [.slot 2 (.int .i64),.slot 4 (.own 1 .str),.slot 5 (.int .i64)],.rnd [.slot 6 (.own 1 .str),.slot 7 (.int .i64)]] (.one (.int .i64)) [.row 21] x
def ZlS (L:Nat):Sum tT:=mU 32 [.row 21] (.one (.int .i64)) (Lu L)
def Di:WY→Nat→(List (List UInt8)×Int×PUnit→Option Int)→List (List UInt8)×Int×PUnit→Option Int:=fun x0 L self acc=>bif decide (acc.2.1 < (↑x0.3.length:Int)) then bT (Z8 x0.3 acc.2.1) fun y=>bT (bT (Jo L (y.1,acc.1,())) fun y=>some y) fun y=>bT (Z8 x0.3 acc.2.1) fun y_1=>bT (bT (PG L (y_1,())) fun y=>some y) fun y_2=>bT (bT (ZB L (y,y_2,())) fun y=>some y) fun y=>bif y != 0 then some y else bT (Z8 x0.3 acc.2.1) fun y=>bT (apT 16 acc.1 [y.1]) fun y=>self (y,Go.IntKind.i64.wrap (acc.2.1 + 1),()) else bT (L6 L (x0,())) fun y=>some y
def Dj:WY→Nat→(Int×List (List UInt8)×Int×PUnit→Option Int)→Int×List (List UInt8)×Int×PUnit→Option Int:=fun x0 L self acc=>bif decide (acc.2.2.1 < (↑x0.2.length:Int)) then bT (Z8 x0.2 acc.2.2.1) fun y=>bT (ZeB L (y,acc.2.1,())) fun y=>bif y != 0 then some y else bT (Z8 x0.2 acc.2.2.1) fun y=>bT (apT 16 acc.2.1 [y.1]) fun y=>self (acc.1,y,Go.IntKind.i64.wrap (acc.2.2.1 + 1),()) else bT (bT (Zr L (decide ((↑x0.3.length:Int) > 0),7,())) fun y=>some y) fun y=>bT (bT (Zr L (decide ((↑x0.3.length:Int)≤16),6,())) fun y=>some y) fun y_1=>bT (bT (ZB L (y,y_1,())) fun y=>some y) fun y=>bif y != 0 then some y else Zo (Di x0 L) L ([],0,())
theorem Zlm (L:Nat)(x0:WY):Lu L (x0,())=bT (bT (Q7 L (x0.1,())) fun y=>some y) fun y=>bT (bT (Zr L (decide ((↑x0.2.length:Int)≤32),6,())) fun y=>some y) fun y_1=>bT (bT (ZB L (y,y_1,())) fun y=>some y) fun y=>bif y != 0 then some y else Zo (Dj x0 L) L (0,[],0,()):=by kernel_rfl
def ZeC (L:Nat)(x:Zm×PUnit):Option Int:=fT [ZhM L,ZoC L,ZoD L,ZlS L,Jl L] L ZcB [.rnd [.slot 2 (.int .i64),.slot 4 (.int .i64)],.rnd [.slot 2 (.int .i64),.slot 5 (.int .i64)],.rnd [.slot 3 (.int .i64),.slot 6 (.int .i64)],.rnd [.slot 3 (.int .i64),.slot 7 (.int .i64)]] (.one (.int .i64)) [.row 19] x
def KE:Zm→Nat→(Int×Int×PUnit→Option Int)→Int×Int×PUnit→(Int×Int×PUnit→Option Int)→Int×Int×PUnit→Option Int:=fun x0 L self acc self_1 acc_1=>bif decide (acc_1.2.1 < acc.2.1) then bT (Z8 x0.2 acc_1.2.1) fun y=>bT (Z8 x0.2 acc.2.1) fun y_1=>bif y.Decl.1 == y_1.Decl.1 then some 4 else self_1 (acc_1.1,Go.IntKind.i64.wrap (acc_1.2.1 + 1),()) else bT (Z8 x0.2 acc.2.1) fun y=>bT (Mc L (y,())) fun y=>bif !y then some 8 else self (acc_1.1,Go.IntKind.i64.wrap (acc.2.1 + 1),())
def KF:Zm→Nat→(Int×Int×PUnit→Option Int)→Int×Int×PUnit→(Int×Int×PUnit→Option Int)→Int×Int×PUnit→Option Int:=fun x0 L self acc self_1 acc_1=>bT (Z8 x0.2 acc.2.1) fun y=>bif decide (acc_1.2.1 < (↑y.2.length:Int)) then bif acc_1.1 == 0 then bT (Z8 x0.2 acc.2.1) fun y=>bT (Z8 y.2 acc_1.2.1) fun y=>bT (bT (WA L (x0,acc.2.1,y,())) fun y=>some y) fun y=>self_1 (y,Go.IntKind.i64.wrap (acc_1.2.1 + 1),()) else self_1 (acc_1.1,Go.IntKind.i64.wrap (acc_1.2.1 + 1),()) else self (acc_1.1,Go.IntKind.i64.wrap (acc.2.1 + 1),())
def Xu:Zm→Nat→(Int×Int×PUnit→Option Int)→Int×Int×PUnit→Option Int:=fun x0 L self acc=>bif decide (acc.2.1 < (↑x0.2.length:Int)) then Zo (KF x0 L self acc) L (acc.1,0,()) else some acc.1
def KG:Zm→Nat→(Int×Int×PUnit→Option Int)→Int×Int×PUnit→Option Int:=fun x0 L self acc=>bif decide (acc.2.1 < (↑x0.2.length:Int)) then bT (Z8 x0.2 acc.2.1) fun y=>bT (bT (Lu L (WY.mk x0.1 [] [y.1] [],())) fun y=>some y) fun y=>bif y != 0 then some y else Zo (KE x0 L self acc) L (acc.1,0,()) else bT (TZ L (x0,())) fun y=>Zo (Xu x0 L) L (y,0,())
theorem Zlt (L:Nat)(x0:Zm):ZeC L (x0,())=bT (Q7 L (x0.1,())) fun y=>bif y != 0 then some y else bif (↑x0.2.length:Int) == 0 then some 7 else bif decide ((↑x0.2.length:Int) > 16) then some 6 else Zo (KG x0 L) L (0,0,()):=by kernel_rfl
def ZeN:List (Inl tT):=[⟨202,Xg,[],.one (.bool),[]⟩,⟨235,XK,[.rnd [.slot 8 (.int .i64)]],.one (.int .i64),[]⟩,⟨203,Bj,[],.one (.bool),[]⟩]
def YQ (L:Nat)(x:Int×Int×(List Int)×PUnit):Option Bool:=fI [] L ZeN EM [] (.one .bool) [.int .i64,.int .i64,.lst 1 (.int .i64)] x
def F9 (L:Nat):Sum tT:=mU 160 [.int .i64,.int .i64,.lst 1 (.int .i64)] (.one .bool) (YQ L)
theorem Zh2:SX F9:=fun h=>sI h Zz (Zg ⟨h.T _ _ rfl,by kernel_rfl⟩ (Zg ⟨h.T _ _ rfl,by kernel_rfl⟩ (Zg ⟨h.T _ _ rfl,by kernel_rfl⟩ Zz))) rfl (by kernel_rfl) fun _=>rfl
def UI:Int→Int→List Int→(Int×PUnit→Option Int)→Int×PUnit→Option Int:=fun x0 x1 x2 self acc=>bif decide (acc.1 < (↑x2.length:Int)) then bT (Z8 x2 acc.1) fun y=>bif decide (y < x0) || decide (y > x1) then some acc.1 else self (Go.IntKind.i64.wrap (acc.1 + 1),()) else some (-1)
theorem Zhf (L:Nat)(x0:Int)(x1:Int)(x2:(List Int)):YQ L (x0,x1,x2,())=bT (bT (Zo (UI x0 x1 x2) L (0,())) fun y=>some (decide (y ≥ 0))) fun y=>some !y:=by kernel_rfl
def Hl (L:Nat)(x:YP×PUnit):Option Bool:=fT [] L EL [] (.one .bool) [.row 2] x
def F8 (L:Nat):Sum tT:=mU 159 [.row 2] (.one .bool) (Hl L)
theorem Zh1:SX F8:=fun h=>sT h Zz rfl (by kernel_rfl) fun _=>rfl
theorem Zhe (L:Nat)(x0:YP):Hl L (x0,())=bif x0.1 == 1 then some (Go.IntKind.i64.wrap ((↑x0.5.length:Int) + (↑x0.6.length:Int)) == 0 && x0.3 == 0 && x0.4 == 0) else bif x0.1 == 2 then some (Go.IntKind.i64.wrap ((↑x0.5.length:Int) + (↑x0.6.length:Int)) == 0 && x0.4 == 0) else bif x0.1 == 5 then some (Go.IntKind.i64.wrap ((↑x0.5.length:Int) + (↑x0.6.length:Int)) == 0 && x0.4 == 0) else bif x0.1 == 4 then some (Go.IntKind.i64.wrap ((↑x0.5.length:Int) + (↑x0.6.length:Int)) == 0) else bif x0.1 == 3 then some (x0.2 == 0 && x0.3 == 0 && x0.4 == 0) else some false:=by kernel_rfl
def QQ (L:Nat)(x:YP×PUnit):Option Int:=fT [F9 L,F8 L] L Zaw [] (.one (.int .i64)) [.row 2] x
def O7 (L:Nat):Sum tT:=mU 79 [.row 2] (.one (.int .i64)) (QQ L)
theorem Dw:SX O7:=fun h=>sT h (Zg (Zh2 h) (Zg (Zh1 h) Zz)) rfl (by kernel_rfl) fun _=>rfl
theorem Zjd (L:Nat)(x0:YP):QQ L (x0,())=bT (Hl L (x0,())) fun y=>bif !y then some 1 else bif x0.1 == 1 then bT (YQ L (0,1000000000,[x0.2],())) fun y=>bif !y then some 2 else some 0 else bif x0.1 == 2 then bT (YQ L (0,1000000000,[x0.2,x0.3],())) fun y=>bif !(y && decide (x0.2≤x0.3)) then some 2 else some 0 else bif x0.1 == 4 then bT (YQ L (1,20,[x0.4],())) fun y=>bT (bif y == true then bT (YQ L (0,1000000,[x0.2,x0.3],())) fun y=>some y else some false) fun y=>bif !(y && decide (x0.2≤x0.3)) then some 2 else some 0 else bif x0.1 == 5 then bT (YQ L (1,1000,[x0.2,x0.3],())) fun y=>bif !y then some 2 else some 0 else bif x0.1 == 3 then bif (↑x0.5.length:Int) != (↑x0.6.length:Int) then some 8 else bif (↑x0.5.length:Int) == 0 then some 7 else bif decide ((↑x0.5.length:Int) > 20) then some 6 else bT (YQ L (0,1000000000,x0.5,())) fun y=>bT (bif y == true then bT (YQ L (1,1000,x0.6,())) fun y=>some y else some false) fun y=>bif !y then some 2 else some 0 else some 2:=by kernel_rfl
end Go.Proofs.YtleomfgijkapfaaGreatDoor
end
noncomputable section
namespace Go.Proofs.YtleomfgijkapfaaGreatDoor
open Go Go.Proofs.YtleomfgijkapfaaGreatDoor.Abs Go.Proofs.YtleomfgijkapfaaGreatDoor.Tl
set_option maxRecDepth 100000
set_option maxHeartbeats 0
def YE (L:Nat)(x:XM×Int×Int×PUnit):Option Int:=fT [] L Ig [] (.one (.int .i64)) [.row 24,.int .i64,.int .i64] x
def X5 (L:Nat):Sum tT:=mU 155 [.row 24,.int .i64,.int .i64] (.one (.int .i64)) (YE L)
theorem Jj:SX X5:=fun h=>sT h Zz rfl (by kernel_rfl) fun _=>rfl
theorem Ji (L:Nat)(x0:XM)(x1:Int)(x2:Int):YE L (x0,x1,x2,())=bT (Z8 x0.p.2 x0.2) fun y=>bif x1 == 1 then some x0.c.3 else bif x1 == 2 then some (↑y.Decl.2.length:Int) else bif x1 == 3 then some (↑y.Decl.7.length:Int) else bif x1 == 4 then some (↑x0.c.4.length:Int) else bif x1 == 5 then some (↑y.Decl.3.length:Int) else bif x1 == 6 then some (↑y.Decl.4.length:Int) else bif x1 == 7 then some (↑y.Decl.5.length:Int) else bif x1 == 8 then some (↑y.Decl.6.length:Int) else bif x1 == 9 then some (↑x0.p.2.length:Int) else bif x1 == 10 then bT (Z8 x0.p.2 x2) fun y=>some (↑y.2.length:Int) else bif x1 == 11 then some (↑y.Decl.8.length:Int) else bif x1 == 12 then some (↑y.Decl.9.length:Int) else bif x1 == 13 then some (↑y.Decl.10.length:Int) else some 1:=by kernel_rfl
def Ya (L:Nat)(x:XM×Int×Int×Int×PUnit):Option Bool:=fT [X5 L] L Oi [] (.one .bool) [.row 24,.int .i64,.int .i64,.int .i64] x
def XP (L:Nat):Sum tT:=mU 76 [.row 24,.int .i64,.int .i64,.int .i64] (.one .bool) (Ya L)
theorem JV:SX XP:=fun h=>sT h (Zg (Jj h) Zz) rfl (by kernel_rfl) fun _=>rfl
theorem JM (L:Nat)(x0:XM)(x1:Int)(x2:Int)(x3:Int):Ya L (x0,x1,x2,x3,())=bT (bif decide (x2 ≥ 0) == true then bT (YE L (x0,x1,x3,())) fun y=>some (decide (x2 < y)) else some false) fun y=>some y:=by kernel_rfl
def G6:List (Inl tT):=[⟨157,WH,[],.one (.bool),[]⟩,⟨201,Qa,[.rnd [.slot 8 (.int .i64)]],.one (.int .i64),[]⟩,⟨158,Ko,[],.one (.bool),[]⟩]
def VG (L:Nat):Nat→List (Sum tT)
 | 0=>[⟨78,[.row 24,.row 8],fun _=>.par _ none ((.one (.bool):RD).tv tT)⟩]
 | m + 1=>[⟨78,[.row 24,.row 8],fun x=>.par _ (fnT tF tG (Fv tF tG (qOf tF (VG L m ++ [X5 L,XP L])) L G6 8) 0 L Jf [] (.one (.bool)) (tvL tT [.row 24,.row 8] x) []) ((.one (.bool):RD).tv tT)⟩]
theorem JW {C:Cfg}{L:Nat}(h:St C L):∀ m,∀ s ∈ VG L m,XV C s
 | 0=>(Zg (XO _ _ _) Zz)
 | m + 1=>have ih:=JW h m
  (Zg (WG YV h.L h.G (IG YV h.L h.G (QL YV (Kt ih (Zg (Jj h) (Zg (JV h) Zz)))) (Zg ⟨h.T _ _ rfl,by kernel_rfl⟩ (Zg ⟨h.T _ _ rfl,by kernel_rfl⟩ (Zg ⟨h.T _ _ rfl,by kernel_rfl⟩ Zz))) 8) [] (h.T _ _ rfl) (by kernel_rfl) fun _=>rfl) Zz)
def Yn (L m:Nat)(x:XM×Zt×PUnit):Option (Bool):=fnT tF tG (Fv tF tG (qOf tF (VG L m ++ [X5 L,XP L])) L G6 8) 0 L Jf [] (.one (.bool)) (tvL tT [.row 24,.row 8] x) []
def Qy (L:Nat)(x:XM×Zt×PUnit):Option (Bool):=Yn L L x
def IJ (L:Nat):Sum tT:=⟨78,[.row 24,.row 8],fun x=>.par ((.one (.bool):RD).Ty tT) (Qy L x) ((.one (.bool):RD).tv tT)⟩
theorem Ef {C:Cfg}{L:Nat}(h:St C L):XV C (IJ L):=have ih:=JW h L
 WG YV h.L h.G (IG YV h.L h.G (QL YV (Kt ih (Zg (Jj h) (Zg (JV h) Zz)))) (Zg ⟨h.T _ _ rfl,by kernel_rfl⟩ (Zg ⟨h.T _ _ rfl,by kernel_rfl⟩ (Zg ⟨h.T _ _ rfl,by kernel_rfl⟩ Zz))) 8) [] (h.T _ _ rfl) (by kernel_rfl) fun _=>rfl
def Yl:Nat→XM→Zt→Nat→(Int×PUnit→Option Int)→Int×PUnit→Option Int:=fun (m:Nat)=>fun x0 x1 L self acc=>bif decide (acc.1 < (↑x1.4.length:Int)) then bT (Z8 x1.4 acc.1) fun y=>bT (bT (Yn L m (x0,y,())) fun y=>some !y) fun y=>bif y then some acc.1 else self (Go.IntKind.i64.wrap (acc.1 + 1),()) else some (-1)
def Gq:Nat→XM→Zt→Nat→(Int×PUnit→Option Int)→Int×PUnit→Option Int:=fun (m:Nat)=>fun x0 x1 L self acc=>bif decide (acc.1 < (↑x1.4.length:Int)) then bT (Z8 x1.4 acc.1) fun y=>bT (bT (Yn L m (x0,y,())) fun y=>some !y) fun y=>bif y then some acc.1 else self (Go.IntKind.i64.wrap (acc.1 + 1),()) else some (-1)
def Gs:Nat→XM→Zt→Nat→(Int×PUnit→Option Int)→Int×PUnit→Option Int:=fun (m:Nat)=>fun x0 x1 L self acc=>bif decide (acc.1 < (↑x1.4.length:Int)) then bT (Z8 x1.4 acc.1) fun y=>bT (bT (Yn L m (x0,y,())) fun y=>some !y) fun y=>bif y then some acc.1 else self (Go.IntKind.i64.wrap (acc.1 + 1),()) else some (-1)
def Gt:Nat→XM→Zt→Nat→(Int×PUnit→Option Int)→Int×PUnit→Option Int:=fun (m:Nat)=>fun x0 x1 L self acc=>bif decide (acc.1 < (↑x1.4.length:Int)) then bT (Z8 x1.4 acc.1) fun y=>bT (bT (Yn L m (x0,y,())) fun y=>some !y) fun y=>bif y then some acc.1 else self (Go.IntKind.i64.wrap (acc.1 + 1),()) else some (-1)
def Gu:Nat→XM→Zt→Nat→(Int×PUnit→Option Int)→Int×PUnit→Option Int:=fun (m:Nat)=>fun x0 x1 L self acc=>bif decide (acc.1 < (↑x1.4.length:Int)) then bT (Z8 x1.4 acc.1) fun y=>bT (bT (Yn L m (x0,y,())) fun y=>some !y) fun y=>bif y then some acc.1 else self (Go.IntKind.i64.wrap (acc.1 + 1),()) else some (-1)
def Gv:Nat→XM→Zt→Nat→(Int×PUnit→Option Int)→Int×PUnit→Option Int:=fun (m:Nat)=>fun x0 x1 L self acc=>bif decide (acc.1 < (↑x1.4.length:Int)) then bT (Z8 x1.4 acc.1) fun y=>bT (bT (Yn L m (x0,y,())) fun y=>some !y) fun y=>bif y then some acc.1 else self (Go.IntKind.i64.wrap (acc.1 + 1),()) else some (-1)
theorem SQ (L m:Nat)(x0:XM)(x1:Zt):Yn L (m + 1) (x0,x1,())=bif x1.1 == 25 then bT (Ya L (x0,1,x1.3,0,())) fun y=>bT (bif y == true then bT (bT (Zo (Yl m x0 x1 L) L (0,())) fun y=>some (decide (y ≥ 0))) fun y=>some !y else some false) fun y=>some y else bif x1.1 == 26 then bT (Ya L (x0,2,x1.3,0,())) fun y=>bT (bif y == true then bT (bT (Zo (Gq m x0 x1 L) L (0,())) fun y=>some (decide (y ≥ 0))) fun y=>some !y else some false) fun y=>some y else bif x1.1 == 22 then bT (Ya L (x0,5,x1.3,0,())) fun y=>bT (bif y == true then bT (bT (Zo (Gs m x0 x1 L) L (0,())) fun y=>some (decide (y ≥ 0))) fun y=>some !y else some false) fun y=>some y else bif x1.1 == 23 then bT (Ya L (x0,6,x1.3,0,())) fun y=>bT (bif y == true then bT (bT (Zo (Gt m x0 x1 L) L (0,())) fun y=>some (decide (y ≥ 0))) fun y=>some !y else some false) fun y=>some y else bif x1.1 == 24 then bT (bT (YE L (x0,5,0,())) fun y=>some y) fun y=>bT (bT (YE L (x0,8,0,())) fun y=>some y) fun y_1=>bT (bif decide (x1.3 < Go.IntKind.i64.wrap (y + y_1)) == true then bT (bT (Zo (Gu m x0 x1 L) L (0,())) fun y=>some (decide (y ≥ 0))) fun y=>some !y else some false) fun y=>some y else bT (bT (bT (Zo (Gv m x0 x1 L) L (0,())) fun y=>some (decide (y ≥ 0))) fun y=>some !y) fun y=>some y:=by kernel_rfl
def Uf (L:Nat)(x:(List UInt8)×PUnit):Option Bool:=fT [] L BH [] (.one .bool) [.str] x
def DN (L:Nat):Sum tT:=mU 58 [.str] (.one .bool) (Uf L)
theorem Zed:SX DN:=fun h=>sT h Zz rfl (by kernel_rfl) fun _=>rfl
theorem ZdK (L:Nat)(x0:(List UInt8)):Uf L (x0,())=bif x0 == [97,100,100] then some true else bif x0 == [97,102,116,101,114] then some true else bif x0 == [97,110,100] then some true else bif x0 == [97,116] then some true else bif x0 == [98,101,108,116] then some true else bif x0 == [98,111,111,108] then some true else bif x0 == [99,111,110,115,101,114,118,101] then some true else bif x0 == [99,111,110,115,116] then some true else bif x0 == [99,111,117,110,116] then some true else bif x0 == [99,121,99,108,101] then some true else bif x0 == [100,111,119,110] then some true else bif x0 == [100,114,97,119] then some true else bif x0 == [100,117,114] then some true else bif x0 == [101,108,115,101] then some true else bif x0 == [101,110,100] then some true else bif x0 == [101,118,101,114,121] then some true else bif x0 == [102,97,108,115,101] then some true else bif x0 == [102,97,117,108,116] then some true else bif x0 == [102,105,102,111] then some true else bif x0 == [102,114,101,101] then some true else bif x0 == [102,114,111,109] then some true else bif x0 == [103,101,111,109] then some true else bif x0 == [103,101,116] then some true else bif x0 == [104,111,108,100] then some true else bif x0 == [105,102] then some true else bif x0 == [105,110,116] then some true else bif x0 == [105,110,116,111] then some true else bif x0 == [108,101,97,115,116] then some true else bif x0 == [108,101,118,101,108] then some true else bif x0 == [108,105,102,111] then some true else bif x0 == [108,105,110,107] then some true else bif x0 == [108,111,99,97,108] then some true else bif x0 == [109,97,120] then some true else bif x0 == [109,105,110] then some true else bif x0 == [109,111,100,101,108] then some true else bif x0 == [110,111,116] then some true else bif x0 == [110,111,119] then some true else bif x0 == [111,98,115,101,114,118,101] then some true else bif x0 == [111,114] then some true else bif x0 == [112,97,114,97,109] then some true else bif x0 == [112,114,101,101,109,112,116] then some true else bif x0 == [112,114,105,111] then some true else bif x0 == [112,117,116] then some true else bif x0 == [113,117,101,117,101] then some true else bif x0 == [114,101,108,101,97,115,101] then some true else bif x0 == [114,101,115,111,117,114,99,101] then some true else bif x0 == [114,105,100,101] then some true else bif x0 == [114,111,117,116,105,110,101] then some true else bif x0 == [115,101,105,122,101] then some true else bif x0 == [115,101,110,100] then some true else bif x0 == [115,101,116] then some true else bif x0 == [115,104,105,102,116] then some true else bif x0 == [115,105,103,110,97,108] then some true else bif x0 == [115,105,116,101] then some true else bif x0 == [115,105,122,101] then some true else bif x0 == [115,112,97,119,110] then some true else bif x0 == [115,116,97,114,116] then some true else bif x0 == [115,116,111,112] then some true else bif x0 == [115,116,111,114,101] then some true else bif x0 == [115,116,114,101,97,109] then some true else bif x0 == [115,117,109] then some true else bif x0 == [116,97,98,108,101] then some true else bif x0 == [116,97,108,108,121] then some true else bif x0 == [116,105,99,107,115] then some true else bif x0 == [116,105,109,101] then some true else bif x0 == [116,114,117,101] then some true else bif x0 == [117,110,105,102,111,114,109] then some true else bif x0 == [117,110,116,105,108] then some true else bif x0 == [117,112] then some true else bif x0 == [118,97,114] then some true else bif x0 == [119,97,105,116] then some true else bif x0 == [119,97,105,116,105,110,103] then some true else bif x0 == [119,104,105,108,101] then some true else some false:=by kernel_rfl
def VS (L:Nat)(x:Int×PUnit):Option Bool:=fT [] L Nq [] (.one .bool) [.int .u8] x
def NJ (L:Nat):Sum tT:=mU 57 [.int .u8] (.one .bool) (VS L)
theorem Zff:SX NJ:=fun h=>sT h Zz rfl (by kernel_rfl) fun _=>rfl
theorem ZeW (L:Nat)(x0:Int):VS L (x0,())=some (decide (x0 ≥ 97) && decide (x0≤122)):=by kernel_rfl
def ZK (L:Nat)(x:(List UInt8)×PUnit):Option Int:=fT [DN L,NJ L] L EX [.rnd [.slot 24 (.int .i64)]] (.one (.int .i64)) [.str] x
def Ql (L:Nat):Sum tT:=mU 27 [.str] (.one (.int .i64)) (ZK L)
theorem QM:SX Ql:=fun h=>sT h (Zg (Zed h) (Zg (Zff h) Zz)) rfl (by kernel_rfl) fun _=>rfl
def UL:List UInt8→Nat→(Int×PUnit→Option Int)→Int×PUnit→Option Int:=fun x0 L self acc=>bif decide (acc.1 < (↑x0.length:Int)) then bT (Z8 x0 acc.1) fun y=>bT (VS L ((↑y.toNat:Int),())) fun y_1=>bif !y_1 && (decide ((↑y.toNat:Int) < 48) || decide ((↑y.toNat:Int) > 57)) && (↑y.toNat:Int) != 95 then some 3 else self (Go.IntKind.i64.wrap (acc.1 + 1),()) else some 0
theorem Zhm (L:Nat)(x0:(List UInt8)):ZK L (x0,())=bT (bif (x0 == [] || decide ((↑x0.length:Int) > 24)) == false then bT (Z8 x0 0) fun y=>bT (VS L ((↑y.toNat:Int),())) fun y=>some !y else some true) fun y=>bT (bif y == false then bT (Uf L (x0,())) fun y=>some y else some true) fun y=>bif y then some 3 else Zo (UL x0 L) L (0,()):=by kernel_rfl
def Ub (L:Nat)(x:Int×PUnit):Option Bool:=fT [] L EN [] (.one .bool) [.int .i64] x
def Lm (L:Nat):Sum tT:=mU 268 [.int .i64] (.one .bool) (Ub L)
theorem Fh:SX Lm:=fun h=>sT h Zz rfl (by kernel_rfl) fun _=>rfl
theorem Zhg (L:Nat)(x0:Int):Ub L (x0,())=some (decide (x0 ≥ 22) && decide (x0≤24)):=by kernel_rfl
def QP (L:Nat)(x:Xf×Int×PUnit):Option (Int×Int×Bool×PUnit):=fT [Lm L] L Kq [] (.tup [.int .i64,.int .i64,.bool]) [.row 25,.int .i64] x
def KO (L:Nat):Sum tT:=mU 257 [.row 25,.int .i64] (.tup [.int .i64,.int .i64,.bool]) (QP L)
theorem Dv:SX KO:=fun h=>sT h (Zg (Fh h) Zz) rfl (by kernel_rfl) fun _=>rfl
theorem BV (L:Nat)(x0:Xf)(x1:Int):QP L (x0,x1,())=bif x1 == 2 then some (0,1,true,()) else bif x1 == 25 then some (0,15,true,()) else bif x1 == 26 then some (0,31,true,()) else bT (Ub L (x1,())) fun y=>bif y && x0.1 then some (0,63,true,()) else some (0,0,false,()):=by kernel_rfl
def P9 (L:Nat)(x:Int×PUnit):Option Bool:=fT [] L Zmd [] (.one .bool) [.int .i64] x
def Zcj (L:Nat):Sum tT:=mU 188 [.int .i64] (.one .bool) (P9 L)
theorem Zh7:SX Zcj:=fun h=>sT h Zz rfl (by kernel_rfl) fun _=>rfl
theorem ZsU (L:Nat)(x0:Int):P9 L (x0,())=some (decide (x0 ≥ (-1000000000000)) && decide (x0≤1000000000000)):=by kernel_rfl
def Q3 (L:Nat)(x:Xf×Int×PUnit):Option Bool:=fT [Lm L] L Ij [] (.one .bool) [.row 25,.int .i64] x
def IL (L:Nat):Sum tT:=mU 256 [.row 25,.int .i64] (.one .bool) (Q3 L)
theorem Eh:SX IL:=fun h=>sT h (Zg (Fh h) Zz) rfl (by kernel_rfl) fun _=>rfl
theorem SY (L:Nat)(x0:Xf)(x1:Int):Q3 L (x0,x1,())=bT (bif (x1 == 3) == false then bT (Ub L (x1,())) fun y=>some (y && !x0.1) else some true) fun y=>some y:=by kernel_rfl
end Go.Proofs.YtleomfgijkapfaaGreatDoor
end
noncomputable section
namespace Go.Proofs.YtleomfgijkapfaaGreatDoor
open Go Go.Proofs.YtleomfgijkapfaaGreatDoor.Abs Go.Proofs.YtleomfgijkapfaaGreatDoor.Tl
set_option maxRecDepth 100000
set_option maxHeartbeats 0
def IY (L:Nat)(x:Int×PUnit):Option Int:=fT [] L Zcs [] (.one (.int .i64)) [.int .i64] x
def Ep (L:Nat):Sum tT:=mU 255 [.int .i64] (.one (.int .i64)) (IY L)
theorem Zea:SX Ep:=fun h=>sT h Zz rfl (by kernel_rfl) fun _=>rfl
theorem ZkY (L:Nat)(x0:Int):IY L (x0,())=bif x0 == 1 || x0 == 2 || x0 == 3 || x0 == 4 then some 0 else bif decide (x0 ≥ 5) && decide (x0≤8) then some 1 else bif decide (x0 ≥ 9) && decide (x0≤21) then some 2 else bif decide (x0 ≥ 22) && decide (x0≤26) then some 0 else some (-1):=by kernel_rfl
def X7 (L:Nat)(x:Xf×Int×PUnit):Option Bool:=fT [Ep L] L Ii [] (.one .bool) [.row 25,.int .i64] x
def IK (L:Nat):Sum tT:=mU 254 [.row 25,.int .i64] (.one .bool) (X7 L)
theorem Eg:SX IK:=fun h=>sT h (Zg (Zea h) Zz) rfl (by kernel_rfl) fun _=>rfl
theorem SV (L:Nat)(x0:Xf)(x1:Int):X7 L (x0,x1,())=bif x1 == 3 then some !x0.1 else bif x1 == 25 then some x0.1 else bif x1 == 26 then some x0.1 else bT (IY L (x1,())) fun y=>some (decide (y ≥ 0)):=by kernel_rfl
def XQ (L:Nat)(x:Xf×Zt×PUnit):Option Int:=fT [Ql L,KO L,Zcj L,IL L,Ep L,IK L] L Oj [] (.one (.int .i64)) [.row 25,.row 8] x
def JY (L:Nat):Sum tT:=mU 234 [.row 25,.row 8] (.one (.int .i64)) (XQ L)
theorem O3:SX JY:=fun h=>sT h (Zg (QM h) (Zg (Dv h) (Zg (Zh7 h) (Zg (Eh h) (Zg (Zea h) (Zg (Eg h) Zz)))))) rfl (by kernel_rfl) fun _=>rfl
theorem AU (L:Nat)(x0:Xf)(x1:Zt):XQ L (x0,x1,())=bT (bT (X7 L (x0,x1.1,())) fun y=>some y) fun y=>bT (bif (!y) == false then bT (bT (IY L (x1.1,())) fun y=>some y) fun y=>some ((↑x1.4.length:Int) != y) else some true) fun y=>bT (bif y == false then bif (!x1.2 == []) == true then bT (bT (Q3 L (x0,x1.1,())) fun y=>some y) fun y=>some !y else some false else some true) fun y=>bif y then some 1 else bif x1.1 == 1 then bT (P9 L (x1.3,())) fun y=>bif !y then some 2 else some 0 else bT (QP L (x0,x1.1,())) fun y=>bif !y.2.2.1 && x1.3 != 0 then some 1 else bif y.2.2.1 && (decide (x1.3 < y.1) || decide (x1.3 > y.2.1)) then some 2 else bT (Q3 L (x0,x1.1,())) fun y=>bif y then bT (ZK L (x1.2,())) fun y=>some y else some 0:=by kernel_rfl
def VH (L:Nat):Nat→List (Sum tT)
 | 0=>[⟨200,[.row 25,.row 8],fun _=>.par _ none ((.one (.int .i64):RD).tv tT)⟩]
 | m + 1=>[⟨200,[.row 25,.row 8],fun x=>.par _ (fnT tF tG (qOf tF (VH L m ++ [JY L])) 0 L Jg [.rnd [.slot 18 (.int .i64)]] (.one (.int .i64)) (tvL tT [.row 25,.row 8] x) []) ((.one (.int .i64):RD).tv tT)⟩]
theorem JX {C:Cfg}{L:Nat}(h:St C L):∀ m,∀ s ∈ VH L m,XV C s
 | 0=>(Zg (XO _ _ _) Zz)
 | m + 1=>have ih:=JX h m
  (Zg (WG YV h.L h.G (QL YV (Kt ih (Zg (O3 h) Zz))) [.rnd [.slot 18 (.int .i64)]] (h.T _ _ rfl) (by kernel_rfl) fun _=>rfl) Zz)
def Xe (L m:Nat)(x:Xf×Zt×PUnit):Option (Int):=fnT tF tG (qOf tF (VH L m ++ [JY L])) 0 L Jg [.rnd [.slot 18 (.int .i64)]] (.one (.int .i64)) (tvL tT [.row 25,.row 8] x) []
def Jm (L:Nat)(x:Xf×Zt×PUnit):Option (Int):=Xe L L x
def IM (L:Nat):Sum tT:=⟨200,[.row 25,.row 8],fun x=>.par ((.one (.int .i64):RD).Ty tT) (Jm L x) ((.one (.int .i64):RD).tv tT)⟩
theorem Ei {C:Cfg}{L:Nat}(h:St C L):XV C (IM L):=have ih:=JX h L
 WG YV h.L h.G (QL YV (Kt ih (Zg (O3 h) Zz))) [.rnd [.slot 18 (.int .i64)]] (h.T _ _ rfl) (by kernel_rfl) fun _=>rfl
def Xb:Nat→Xf→Zt→Nat→(Int×PUnit→Option Int)→Int×PUnit→Option Int:=fun (m:Nat)=>fun x0 x1 L self acc=>bif decide (acc.1 < (↑x1.4.length:Int)) then bT (Z8 x1.4 acc.1) fun y=>bT (Xe L m (x0,y,())) fun y=>bif y != 0 then some y else self (Go.IntKind.i64.wrap (acc.1 + 1),()) else some 0
theorem Ea (L m:Nat)(x0:Xf)(x1:Zt):Xe L (m + 1) (x0,x1,())=bT (XQ L (x0,x1,())) fun y=>bif y != 0 then some y else Zo (Xb m x0 x1 L) L (0,()):=by kernel_rfl
def MX (L:Nat):Nat→List (Sum tT)
 | 0=>[⟨199,[.row 8],fun _=>.par _ none ((.one (.int .i64):RD).tv tT)⟩]
 | m + 1=>[⟨199,[.row 8],fun x=>.par _ (fnT tF tG (qOf tF (MX L m ++ [])) 0 L Bl [.rnd [.slot 3 (.int .i64),.slot 9 (.int .i64)]] (.one (.int .i64)) (tvL tT [.row 8] x) []) ((.one (.int .i64):RD).tv tT)⟩]
theorem Rt {C:Cfg}{L:Nat}(h:St C L):∀ m,∀ s ∈ MX L m,XV C s
 | 0=>(Zg (XO _ _ _) Zz)
 | m + 1=>have ih:=Rt h m
  (Zg (WG YV h.L h.G (QL YV (Kt ih Zz)) [.rnd [.slot 3 (.int .i64),.slot 9 (.int .i64)]] (h.T _ _ rfl) (by kernel_rfl) fun _=>rfl) Zz)
def Hy (L m:Nat)(x:Zt×PUnit):Option (Int):=fnT tF tG (qOf tF (MX L m ++ [])) 0 L Bl [.rnd [.slot 3 (.int .i64),.slot 9 (.int .i64)]] (.one (.int .i64)) (tvL tT [.row 8] x) []
def DU (L:Nat)(x:Zt×PUnit):Option (Int):=Hy L L x
def Zbi (L:Nat):Sum tT:=⟨199,[.row 8],fun x=>.par ((.one (.int .i64):RD).Ty tT) (DU L x) ((.one (.int .i64):RD).tv tT)⟩
theorem Zj6 {C:Cfg}{L:Nat}(h:St C L):XV C (Zbi L):=have ih:=Rt h L
 WG YV h.L h.G (QL YV (Kt ih Zz)) [.rnd [.slot 3 (.int .i64),.slot 9 (.int .i64)]] (h.T _ _ rfl) (by kernel_rfl) fun _=>rfl
def MI:Nat→Zt→Nat→(Int×Int×PUnit→Option Int)→Int×Int×PUnit→Option Int:=fun (m:Nat)=>fun x0 L self acc=>bif decide (acc.2.1 < (↑x0.4.length:Int)) then bT (Z8 x0.4 acc.2.1) fun y=>bT (Hy L m (y,())) fun y=>self (if y > acc.1 then y else acc.1,Go.IntKind.i64.wrap (acc.2.1 + 1),()) else some (Go.IntKind.i64.wrap (acc.1 + 1))
theorem Zjf (L m:Nat)(x0:Zt):Hy L (m + 1) (x0,())=Zo (MI m x0 L) L (0,0,()):=by kernel_rfl
def MZ (L:Nat):Nat→List (Sum tT)
 | 0=>[⟨198,[.row 8],fun _=>.par _ none ((.one (.int .i64):RD).tv tT)⟩]
 | m + 1=>[⟨198,[.row 8],fun x=>.par _ (fnT tF tG (qOf tF (MZ L m ++ [])) 0 L Bo [.rnd [.slot 3 (.int .i64),.slot 9 (.int .i64)]] (.one (.int .i64)) (tvL tT [.row 8] x) []) ((.one (.int .i64):RD).tv tT)⟩]
theorem Ru {C:Cfg}{L:Nat}(h:St C L):∀ m,∀ s ∈ MZ L m,XV C s
 | 0=>(Zg (XO _ _ _) Zz)
 | m + 1=>have ih:=Ru h m
  (Zg (WG YV h.L h.G (QL YV (Kt ih Zz)) [.rnd [.slot 3 (.int .i64),.slot 9 (.int .i64)]] (h.T _ _ rfl) (by kernel_rfl) fun _=>rfl) Zz)
def Hz (L m:Nat)(x:Zt×PUnit):Option (Int):=fnT tF tG (qOf tF (MZ L m ++ [])) 0 L Bo [.rnd [.slot 3 (.int .i64),.slot 9 (.int .i64)]] (.one (.int .i64)) (tvL tT [.row 8] x) []
def DV (L:Nat)(x:Zt×PUnit):Option (Int):=Hz L L x
def Zbj (L:Nat):Sum tT:=⟨198,[.row 8],fun x=>.par ((.one (.int .i64):RD).Ty tT) (DV L x) ((.one (.int .i64):RD).tv tT)⟩
theorem Zj7 {C:Cfg}{L:Nat}(h:St C L):XV C (Zbj L):=have ih:=Ru h L
 WG YV h.L h.G (QL YV (Kt ih Zz)) [.rnd [.slot 3 (.int .i64),.slot 9 (.int .i64)]] (h.T _ _ rfl) (by kernel_rfl) fun _=>rfl
def MJ:Nat→Zt→Nat→(Int×Int×PUnit→Option Int)→Int×Int×PUnit→Option Int:=fun (m:Nat)=>fun x0 L self acc=>bif decide (acc.2.1 < (↑x0.4.length:Int)) then bT (Z8 x0.4 acc.2.1) fun y=>bT (Hz L m (y,())) fun y=>self (Go.IntKind.i64.wrap (acc.1 + y),Go.IntKind.i64.wrap (acc.2.1 + 1),()) else some acc.1
theorem Zjg (L m:Nat)(x0:Zt):Hz L (m + 1) (x0,())=Zo (MJ m x0 L) L (1,0,()):=by kernel_rfl
def Qz (L:Nat)(x:Xf×Zt×PUnit):Option Int:=fT [IM L,Zbi L,Zbj L] L Ih [] (.one (.int .i64)) [.row 25,.row 8] x
def Jk (L:Nat):Sum tT:=mU 156 [.row 25,.row 8] (.one (.int .i64)) (Qz L)
theorem IB:SX Jk:=fun h=>sT h (Zg (Ei h) (Zg (Zj6 h) (Zg (Zj7 h) Zz))) rfl (by kernel_rfl) fun _=>rfl
theorem SS (L:Nat)(x0:Xf)(x1:Zt):Qz L (x0,x1,())=bT (DV L (x1,())) fun y=>bif decide (y > 60) then some 6 else bT (DU L (x1,())) fun y=>bif decide (y > 12) then some 11 else bT (Jm L (x0,x1,())) fun y=>some y:=by kernel_rfl
def QF (L:Nat)(x:Zt×PUnit):Option Int:=fT [Jk L] L LU [] (.one (.int .i64)) [.row 8] x
def RG (L:Nat):Sum tT:=mU 77 [.row 8] (.one (.int .i64)) (QF L)
theorem ZbL:SX RG:=fun h=>sT h (Zg (IB h) Zz) rfl (by kernel_rfl) fun _=>rfl
theorem ZbB (L:Nat)(x0:Zt):QF L (x0,())=bT (Qz L (Xf.mk true,x0,())) fun y=>some y:=by kernel_rfl
def KQ (L:Nat)(x:Int×PUnit):Option Bool:=fT [] L Zav [] (.one .bool) [.int .i64] x
def DD (L:Nat):Sum tT:=mU 37 [.int .i64] (.one .bool) (KQ L)
theorem ZaX:SX DD:=fun h=>sT h Zz rfl (by kernel_rfl) fun _=>rfl
theorem Zjc (L:Nat)(x0:Int):KQ L (x0,())=some (decide (x0 ≥ 1) && decide (x0≤19)):=by kernel_rfl
def Qe (L:Nat)(x:ZZ×PUnit):Option (List Zt):=fT [DD L] L Ol [] (.one (.lst 4 (.row 8))) [.row 15] x
def O6 (L:Nat):Sum tT:=mU 41 [.row 15] (.one (.lst 4 (.row 8))) (Qe L)
theorem Fg:SX O6:=fun h=>sT h (Zg (ZaX h) Zz) rfl (by kernel_rfl) fun _=>rfl
theorem AY (L:Nat)(x0:ZZ):Qe L (x0,())=bT (KQ L (x0.1,())) fun y=>bif !y then some [] else bT (Z8 Iu x0.1) fun y=>bif y.5 then bT (apT 56 [] [x0.5]) fun y_1=>bif y.6 then bT (apT 56 y_1 [x0.6]) fun y_2=>bif y.7 then bT (apT 56 y_2 x0.7) fun y=>some y else some y_2 else bif y.7 then bT (apT 56 y_1 x0.7) fun y=>some y else some y_1 else bif y.6 then bT (apT 56 [] [x0.6]) fun y_1=>bif y.7 then bT (apT 56 y_1 x0.7) fun y=>some y else some y_1 else bif y.7 then bT (apT 56 [] x0.7) fun y=>some y else some []:=by kernel_rfl
def Zkv:List (Inl tT):=[⟨52,Qp,[.rnd [.slot 8 (.int .i64)]],.one (.int .i64),[]⟩,⟨53,Zas,[],.one (.bool),[]⟩]
end Go.Proofs.YtleomfgijkapfaaGreatDoor
end
noncomputable section
namespace Go.Proofs.YtleomfgijkapfaaGreatDoor
open Go Go.Proofs.YtleomfgijkapfaaGreatDoor.Abs Go.Proofs.YtleomfgijkapfaaGreatDoor.Tl
set_option maxRecDepth 100000
set_option maxHeartbeats 0
def TU (L:Nat)(x:Zm×Int×Int×PUnit):Option (Int×Bool×PUnit):=fI [] L Zkv Zft [] (.tup [.int .i64,.bool]) [.row 19,.int .i64,.int .i64] x
def Zal (L:Nat):Sum tT:=mU 22 [.row 19,.int .i64,.int .i64] (.tup [.int .i64,.bool]) (TU L)
theorem Zgi:SX Zal:=fun h=>sI h Zz (Zg ⟨h.T _ _ rfl,by kernel_rfl⟩ (Zg ⟨h.T _ _ rfl,by kernel_rfl⟩ Zz)) rfl (by kernel_rfl) fun _=>rfl
def Sl:Zm→Int→Int→(Int×PUnit→Option Int)→Int×PUnit→Option Int:=fun x0 x1 x2 self acc=>bif decide (acc.1 < (↑x0.3.length:Int)) then bT (Z8 x0.3 acc.1) fun y=>bif y.1 == x1 && y.2 == x2 then some acc.1 else self (Go.IntKind.i64.wrap (acc.1 + 1),()) else some (-1)
theorem Zoe (L:Nat)(x0:Zm)(x1:Int)(x2:Int):TU L (x0,x1,x2,())=bT (Zo (Sl x0 x1 x2) L (0,())) fun y=>bif decide (y < 0) then some (0,false,()) else bT (Z8 x0.3 y) fun y=>some (y.3,true,()):=by kernel_rfl
def Yr (L:Nat)(x:(List Int)×(List Int)×PUnit):Option Bool:=fT [] L Jr [.rnd [.slot 13 (.int .i64)]] (.one .bool) [.lst 1 (.int .i64),.lst 1 (.int .i64)] x
def Xk (L:Nat):Sum tT:=mU 197 [.lst 1 (.int .i64),.lst 1 (.int .i64)] (.one .bool) (Yr L)
theorem Jv:SX Xk:=fun h=>sT h Zz rfl (by kernel_rfl) fun _=>rfl
def QW:List Int→List Int→(Int×PUnit→Option Bool)→Int×PUnit→Option Bool:=fun x0 x1 self acc=>bif decide (acc.1 < (↑x0.length:Int)) then bT (Z8 x0 acc.1) fun y=>bT (Z8 x1 acc.1) fun y_1=>bif y != y_1 then some false else self (Go.IntKind.i64.wrap (acc.1 + 1),()) else some true
theorem TK (L:Nat)(x0:(List Int))(x1:(List Int)):Yr L (x0,x1,())=bif (↑x0.length:Int) != (↑x1.length:Int) then some false else Zo (QW x0 x1) L (0,()):=by kernel_rfl
def Qg (L:Nat)(x:YP×YP×PUnit):Option Bool:=fT [Xk L] L Zcr [] (.one .bool) [.row 2,.row 2] x
def QX (L:Nat):Sum tT:=mU 154 [.row 2,.row 2] (.one .bool) (Qg L)
theorem Vd:SX QX:=fun h=>sT h (Zg (Jv h) Zz) rfl (by kernel_rfl) fun _=>rfl
theorem ZkX (L:Nat)(x0:YP)(x1:YP):Qg L (x0,x1,())=bT (bif (x0.1 == x1.1 && x0.2 == x1.2 && x0.3 == x1.3 && x0.4 == x1.4) == true then bT (Yr L (x0.5,x1.5,())) fun y=>some y else some false) fun y=>bT (bif y == true then bT (Yr L (x0.6,x1.6,())) fun y=>some y else some false) fun y=>some y:=by kernel_rfl
def D6 (L:Nat):Nat→List (Sum tT)
 | 0=>[⟨196,[.row 8,.row 8],fun _=>.par _ none ((.one (.bool):RD).tv tT)⟩]
 | m + 1=>[⟨196,[.row 8,.row 8],fun x=>.par _ (fnT tF tG (qOf tF (D6 L m ++ [])) 0 L NR [.rnd [.slot 38 (.int .i64)]] (.one (.bool)) (tvL tT [.row 8,.row 8] x) []) ((.one (.bool):RD).tv tT)⟩]
theorem D7 {C:Cfg}{L:Nat}(h:St C L):∀ m,∀ s ∈ D6 L m,XV C s
 | 0=>(Zg (XO _ _ _) Zz)
 | m + 1=>have ih:=D7 h m
  (Zg (WG YV h.L h.G (QL YV (Kt ih Zz)) [.rnd [.slot 38 (.int .i64)]] (h.T _ _ rfl) (by kernel_rfl) fun _=>rfl) Zz)
def OL (L m:Nat)(x:Zt×Zt×PUnit):Option (Bool):=fnT tF tG (qOf tF (D6 L m ++ [])) 0 L NR [.rnd [.slot 38 (.int .i64)]] (.one (.bool)) (tvL tT [.row 8,.row 8] x) []
def Q4 (L:Nat)(x:Zt×Zt×PUnit):Option (Bool):=OL L L x
def Vj (L:Nat):Sum tT:=⟨196,[.row 8,.row 8],fun x=>.par ((.one (.bool):RD).Ty tT) (Q4 L x) ((.one (.bool):RD).tv tT)⟩
theorem UA {C:Cfg}{L:Nat}(h:St C L):XV C (Vj L):=have ih:=D7 h L
 WG YV h.L h.G (QL YV (Kt ih Zz)) [.rnd [.slot 38 (.int .i64)]] (h.T _ _ rfl) (by kernel_rfl) fun _=>rfl
def Ou:Nat→Zt→Zt→Nat→(Int×PUnit→Option Bool)→Int×PUnit→Option Bool:=fun (m:Nat)=>fun x0 x1 L self acc=>bif decide (acc.1 < (↑x0.4.length:Int)) then bT (Z8 x0.4 acc.1) fun y=>bT (Z8 x1.4 acc.1) fun y_1=>bT (bT (OL L m (y,y_1,())) fun y=>some y) fun y=>bif !y then some false else self (Go.IntKind.i64.wrap (acc.1 + 1),()) else some true
theorem ZdG (L m:Nat)(x0:Zt)(x1:Zt):OL L (m + 1) (x0,x1,())=bif x0.1 != x1.1 || !x0.2 == x1.2 || x0.3 != x1.3 || (↑x0.4.length:Int) != (↑x1.4.length:Int) then some false else Zo (Ou m x0 x1 L) L (0,()):=by kernel_rfl
def IX (L:Nat)(x:Zt×PUnit):Option Bool:=fT [Vj L] L Zcq [] (.one .bool) [.row 8] x
def Zew (L:Nat):Sum tT:=mU 153 [.row 8] (.one .bool) (IX L)
theorem ZlD:SX Zew:=fun h=>sT h (Zg (UA h) Zz) rfl (by kernel_rfl) fun _=>rfl
theorem ZkW (L:Nat)(x0:Zt):IX L (x0,())=bT (Q4 L (x0,Zt.mk 0 [] 0 [],())) fun y=>some y:=by kernel_rfl
def OA (L:Nat)(x:ZZ×PUnit):Option Bool:=fT [QX L,Zew L] L Zau [] (.one .bool) [.row 15] x
def Zbg (L:Nat):Sum tT:=mU 75 [.row 15] (.one .bool) (OA L)
theorem Zj4:SX Zbg:=fun h=>sT h (Zg (Vd h) (Zg (ZlD h) Zz)) rfl (by kernel_rfl) fun _=>rfl
theorem Zjb (L:Nat)(x0:ZZ):OA L (x0,())=bT (Z8 Iu x0.1) fun y=>bT (bif ((y.2 != 0 || x0.2 == 0) && (y.3 != 0 || x0.3 == 0) && (y.4 || x0.4 == 0)) == true then bif y.5 == false then bT (IX L (x0.5,())) fun y=>some y else some true else some false) fun y_1=>bT (bif y_1 == true then bif y.6 == false then bT (IX L (x0.6,())) fun y=>some y else some true else some false) fun y_2=>bT (bif (y_2 && (y.7 || (↑x0.7.length:Int) == 0)) == true then bif y.8 == false then bT (Qg L (x0.8,YP.mk 0 0 0 0 [] [],())) fun y=>some y else some true else some false) fun y_3=>some (y_3 && (y.9 || !x0.9)):=by kernel_rfl
def WB (L:Nat)(x:XM×ZZ×PUnit):Option Int:=fT [O7 L,IJ L,RG L,O6 L,Zal L,XP L,Zbg L,DD L] L Gw [.rnd [.slot 103 (.int .i64)]] (.one (.int .i64)) [.row 24,.row 15] x
def G7 (L:Nat):Sum tT:=mU 35 [.row 24,.row 15] (.one (.int .i64)) (WB L)
theorem PP:SX G7:=fun h=>sT h (Zg (Dw h) (Zg (Ef h) (Zg (ZbL h) (Zg (Fg h) (Zg (Zgi h) (Zg (JV h) (Zg (Zj4 h) (Zg (ZaX h) Zz)))))))) rfl (by kernel_rfl) fun _=>rfl
def YW:XM→ZZ→Nat→OV→List Zt→(Int×PUnit→Option Int)→Int×PUnit→Option Int:=fun x0 x1 L y y_1 self acc=>bif decide (acc.1 < (↑y_1.length:Int)) then bT (Z8 y_1 acc.1) fun y=>bT (QF L (y,())) fun y_2=>bif y_2 != 0 then some y_2 else bT (Qy L (x0,y,())) fun y=>bif !y then some 2 else self (Go.IntKind.i64.wrap (acc.1 + 1),()) else bif y.8 then bT (QQ L (x1.8,())) fun y=>some y else some 0
def UY:XM→ZZ→Nat→OV→List Zt→(Int×PUnit→Option Int)→Int×PUnit→Option Int:=fun x0 x1 L y y_1 self acc=>bif decide (acc.1 < (↑y_1.length:Int)) then bT (Z8 y_1 acc.1) fun y=>bT (QF L (y,())) fun y_2=>bif y_2 != 0 then some y_2 else bT (Qy L (x0,y,())) fun y=>bif !y then some 2 else self (Go.IntKind.i64.wrap (acc.1 + 1),()) else bif y.8 then bT (QQ L (x1.8,())) fun y=>some y else some 0
def UZ:XM→ZZ→Nat→OV→List Zt→(Int×PUnit→Option Int)→Int×PUnit→Option Int:=fun x0 x1 L y y_1 self acc=>bif decide (acc.1 < (↑y_1.length:Int)) then bT (Z8 y_1 acc.1) fun y=>bT (QF L (y,())) fun y_2=>bif y_2 != 0 then some y_2 else bT (Qy L (x0,y,())) fun y=>bif !y then some 2 else self (Go.IntKind.i64.wrap (acc.1 + 1),()) else bif y.8 then bT (QQ L (x1.8,())) fun y=>some y else some 0
theorem PN (L:Nat)(x0:XM)(x1:ZZ):WB L (x0,x1,())=bT (KQ L (x1.1,())) fun y=>bT (bif (!y) == false then bT (OA L (x1,())) fun y=>some !y else some true) fun y=>bif y then some 1 else bT (Z8 Iu x1.1) fun y=>bT (Ya L (x0,y.2,x1.2,0,())) fun y_1=>bif !y_1 && y.2 != 0 then some 2 else bif x1.1 == 14 then bT (TU L (x0.1,x0.2,x1.2,())) fun y_2=>bif !y_2.2.1 || y_2.1 != x1.4 then some 16 else bT (Ya L (x0,10,x1.3,x1.2,())) fun y_3=>bif !y_3 then some 2 else bT (Z8 x0.p.2 x1.2) fun y_4=>bT (Z8 y_4.2 x1.3) fun y_5=>bif (↑x1.7.length:Int) != y_5.2 then some 8 else bT (Qe L (x1,())) fun y_6=>Zo (YW x0 x1 L y y_6) L (0,()) else bif x1.1 == 15 then bT (Ya L (x0,10,x1.3,x0.2,())) fun y_2=>bif !y_2 then some 2 else bT (Z8 x0.p.2 x0.2) fun y_3=>bT (Z8 y_3.2 x1.3) fun y_4=>bif (↑x1.7.length:Int) != y_4.2 then some 8 else bT (Qe L (x1,())) fun y_5=>Zo (UY x0 x1 L y y_5) L (0,()) else bT (bif (y.3 != 0) == true then bT (Ya L (x0,y.3,x1.3,0,())) fun y=>some !y else some false) fun y_2=>bif y_2 then some 2 else bT (Qe L (x1,())) fun y_3=>Zo (UZ x0 x1 L y y_3) L (0,()):=by kernel_rfl
def Qu (L:Nat)(x:Zm×Int×Y8×PUnit):Option Int:=fT [G7 L,Ql L] L PT [.rnd [.slot 66 (.int .i64)]] (.one (.int .i64)) [.row 19,.int .i64,.row 16] x
def NI (L:Nat):Sum tT:=mU 14 [.row 19,.int .i64,.row 16] (.one (.int .i64)) (Qu L)
theorem Zfe:SX NI:=fun h=>sT h (Zg (PP h) (Zg (QM h) Zz)) rfl (by kernel_rfl) fun _=>rfl
def JH:Zm→Int→Y8→Nat→(Int×PUnit→Option Int)→Int×PUnit→Option Int:=fun x0 x1 x2 L self acc=>bif decide (acc.1 < (↑x2.4.length:Int)) then bT (Z8 x2.4 acc.1) fun y=>bT (WB L (XM.mk x0 x1 x2,y,())) fun y=>bif y != 0 then some y else self (Go.IntKind.i64.wrap (acc.1 + 1),()) else bT (Z8 x2.4 (Go.IntKind.i64.wrap ((↑x2.4.length:Int) - 1))) fun y=>bif y.1 != 19 && y.1 != 4 then some 8 else some 0
theorem ND (L:Nat)(x0:Zm)(x1:Int)(x2:Y8):Qu L (x0,x1,x2,())=bif decide (x1 < 0) || decide (x1 ≥ (↑x0.2.length:Int)) then some 2 else bT (ZK L (x2.1,())) fun y=>bif y != 0 then some y else bif decide (x2.2 < 0) || decide (x2.2 > x2.3) || decide (x2.2 > 6) || decide (x2.3 > 16) then some 2 else bif (↑x2.4.length:Int) == 0 then some 7 else bif decide ((↑x2.4.length:Int) > 1000) then some 6 else Zo (JH x0 x1 x2 L) L (0,()):=by kernel_rfl
def IW (L:Nat)(x:Zm×PUnit):Option Int:=fT [] L Zcp [.rnd [.slot 15 (.int .i64),.cont 1 (.map (.pint .i64))]] (.one (.int .i64)) [.row 19] x
def Zev (L:Nat):Sum tT:=mU 30 [.row 19] (.one (.int .i64)) (IW L)
theorem ZlC:SX Zev:=fun h=>sT h Zz rfl (by kernel_rfl) fun _=>rfl
def Ku:Zm→(Int×List (Int×Int)×PUnit→Option Int)→Int×List (Int×Int)×PUnit→Option Int:=fun x0 self acc=>bif decide (acc.1 < (↑x0.3.length:Int)) then bT (Z8 x0.3 acc.1) fun y=>bif decide ((if y.2 < y.1 then y.2 else y.1) < 0) || decide ((if y.2 > y.1 then y.2 else y.1) ≥ (↑x0.2.length:Int)) || y.1 == y.2 then some 2 else bif decide (y.3 < 1) || decide (y.3 > 1000000000) then some 2 else bif hasK (MK.pint Go.IntKind.i64) acc.2.1 (y.1,y.2) then some 4 else self (Go.IntKind.i64.wrap (acc.1 + 1),ZaD (MK.pint Go.IntKind.i64) acc.2.1 (y.1,y.2),()) else some 0
theorem ZkV (L:Nat)(x0:Zm):IW L (x0,())=bif decide ((↑x0.3.length:Int) > 32) then some 6 else Zo (Ku x0) L (0,[],()):=by kernel_rfl
def IV (L:Nat)(x:Y8×ZJ×PUnit):Option Bool:=fT [] L Bg [] (.one .bool) [.row 16,.row 10] x
def DC (L:Nat):Sum tT:=mU 66 [.row 16,.row 10] (.one .bool) (IV L)
theorem ZdX:SX DC:=fun h=>sT h Zz rfl (by kernel_rfl) fun _=>rfl
theorem ZdD (L:Nat)(x0:Y8)(x1:ZJ):IV L (x0,x1,())=some (x0.1 == x1.1 && x0.2 == (↑x1.2.length:Int) && (↑x1.4.length:Int) == 0):=by kernel_rfl
def ZeM:List (Inl tT):=[⟨65,Yd,[.rnd [.slot 17 (.int .i64)]],.one (.bool),[]⟩]
end Go.Proofs.YtleomfgijkapfaaGreatDoor
end
noncomputable section
namespace Go.Proofs.YtleomfgijkapfaaGreatDoor
open Go Go.Proofs.YtleomfgijkapfaaGreatDoor.Abs Go.Proofs.YtleomfgijkapfaaGreatDoor.Tl
set_option maxRecDepth 100000
set_option maxHeartbeats 0
def Hg (L:Nat)(x:Z4×PUnit):Option Bool:=fI [DC L] L ZeM EK [] (.one .bool) [.row 17] x
def F7 (L:Nat):Sum tT:=mU 29 [.row 17] (.one .bool) (Hg L)
theorem Zh0:SX F7:=fun h=>sI h (Zg (ZdX h) Zz) (Zg ⟨h.T _ _ rfl,by kernel_rfl⟩ Zz) rfl (by kernel_rfl) fun _=>rfl
def UH:Z4→Nat→(Int×PUnit→Option Bool)→Int×PUnit→Option Bool:=fun x0 L self acc=>bif decide (acc.1 < (↑x0.2.length:Int)) then bT (Z8 x0.2 acc.1) fun y=>bT (Z8 x0.Decl.11 acc.1) fun y_1=>bT (IV L (y,y_1,())) fun y=>bif !y then some false else self (Go.IntKind.i64.wrap (acc.1 + 1),()) else some true
theorem AX (L:Nat)(x0:Z4):Hg L (x0,())=bT (bif (↑x0.2.length:Int) != (↑x0.Decl.11.length:Int) then some false else Zo (UH x0 L) L (0,())) fun y=>some y:=by kernel_rfl
def ZH (L:Nat)(x:Int×Int×Int×PUnit):Option Bool:=fT [] L Np [] (.one .bool) [.int .i64,.int .i64,.int .i64] x
def QY (L:Nat):Sum tT:=mU 116 [.int .i64,.int .i64,.int .i64] (.one .bool) (ZH L)
theorem XH:SX QY:=fun h=>sT h Zz rfl (by kernel_rfl) fun _=>rfl
theorem ZeV (L:Nat)(x0:Int)(x1:Int)(x2:Int):ZH L (x0,x1,x2,())=some (decide (x0 ≥ x1) && decide (x0≤x2)):=by kernel_rfl
def ZgE:List (Inl tT):=[⟨189,YR,[.rnd [.slot 8 (.int .i64)]],.one (.int .i64),[]⟩,⟨190,PV,[],.one (.bool),[]⟩]
def DW (L:Nat)(x:WY×(List UInt8)×PUnit):Option Int:=fI [] L ZgE Zaz [] (.one (.int .i64)) [.row 21,.str] x
def Zbl (L:Nat):Sum tT:=mU 142 [.row 21,.str] (.one (.int .i64)) (DW L)
theorem Zj9:SX Zbl:=fun h=>sI h Zz (Zg ⟨h.T _ _ rfl,by kernel_rfl⟩ (Zg ⟨h.T _ _ rfl,by kernel_rfl⟩ Zz)) rfl (by kernel_rfl) fun _=>rfl
def ZeP:List (Inl tT):=[⟨140,Us,[.rnd [.slot 16 (.int .i64),.cont 1 (.map .pstr)]],.one (.int .i64),[(3,[.cont 1 (.map .pstr)])]⟩,⟨141,Bz,[],.one (.int .i64),[(4,[.cont 1 (.map .pstr)])]⟩]
def Ho (L:Nat)(x:WY×PUnit):Option Int:=fI [QY L,Zbl L] L ZeP EU [] (.one (.int .i64)) [.row 21] x
def FD (L:Nat):Sum tT:=mU 64 [.row 21] (.one (.int .i64)) (Ho L)
theorem Zh5:SX FD:=fun h=>sI h (Zg (XH h) (Zg (Zj9 h) Zz)) (Zg ⟨h.T _ _ rfl,by kernel_rfl⟩ (Zg ⟨h.T _ _ rfl,by kernel_rfl⟩ Zz)) rfl (by kernel_rfl) fun _=>rfl
def NC:WY→Nat→(Int×List (List UInt8×List UInt8)×PUnit→Option (Int×List (List UInt8×List UInt8)×PUnit))→Int×List (List UInt8×List UInt8)×PUnit→Option (Int×List (List UInt8×List UInt8)×PUnit):=fun x0 L self acc=>bif decide (acc.1 < (↑x0.4.length:Int)) then bT (Z8 x0.4 acc.1) fun y=>bT (bT (DW L (x0,y.1,())) fun y_1=>bT (bif decide (y_1 < 0) == false then bT (DW L (x0,y.2,())) fun y=>some (decide (y < 0)) else some true) fun y_2=>bif y_2 then some (5,acc.2.1,()) else bif y.1 == y.2 then some (1,acc.2.1,()) else bT (ZH L (y.3,1,1000000000,())) fun y_3=>bif !y_3 then some (2,acc.2.1,()) else bif hasK MK.pstr acc.2.1 (y.1,y.2) then some (4,acc.2.1,()) else some (0,ZaD MK.pstr acc.2.1 (y.1,y.2),())) fun y=>bif y.1 != 0 then some (y.1,y.2.1,()) else self (Go.IntKind.i64.wrap (acc.1 + 1),y.2.1,()) else some (0,acc.2.1,())
theorem Zhk (L:Nat)(x0:WY):Ho L (x0,())=bT (bif decide ((↑x0.4.length:Int) > 32) then some (6,[],()) else Zo (NC x0 L) L (0,[],())) fun y=>some y.1:=by kernel_rfl
def WX (L:Nat)(x:(List (List UInt8))×(List UInt8)×PUnit):Option Int:=fT [] L Xt [.rnd [.slot 8 (.int .i64)]] (.one (.int .i64)) [.lst 1 .str,.str] x
def Xx (L:Nat):Sum tT:=mU 222 [.lst 1 .str,.str] (.one (.int .i64)) (WX L)
theorem KJ:SX Xx:=fun h=>sT h Zz rfl (by kernel_rfl) fun _=>rfl
def WM:List (List UInt8)→List UInt8→(Int×PUnit→Option Int)→Int×PUnit→Option Int:=fun x0 x1 self acc=>bif decide (acc.1 < (↑x0.length:Int)) then bT (Z8 x0 acc.1) fun y=>bif x1 == y then some acc.1 else self (Go.IntKind.i64.wrap (acc.1 + 1),()) else some (-1)
theorem KD (L:Nat)(x0:(List (List UInt8)))(x1:(List UInt8)):WX L (x0,x1,())=Zo (WM x0 x1) L (0,()):=by kernel_rfl
def Yf (L:Nat)(x:(List (List UInt8))×(List UInt8)×PUnit):Option Bool:=fT [Xx L] L QH [] (.one .bool) [.lst 1 .str,.str] x
def Wv (L:Nat):Sum tT:=mU 179 [.lst 1 .str,.str] (.one .bool) (Yf L)
theorem QN:SX Wv:=fun h=>sT h (Zg (KJ h) Zz) rfl (by kernel_rfl) fun _=>rfl
theorem JO (L:Nat)(x0:(List (List UInt8)))(x1:(List UInt8)):Yf L (x0,x1,())=bT (WX L (x0,x1,())) fun y=>some (decide (y ≥ 0)):=by kernel_rfl
def Zb1:List (Inl tT):=[⟨227,Wi,[.rnd [.slot 8 (.int .i64)]],.one (.int .i64),[]⟩,⟨228,Ti,[],.one (.bool),[]⟩]
def Q5 (L:Nat)(x:Zc×(List UInt8)×PUnit):Option Int:=fI [] L Zb1 Bv [] (.one (.int .i64)) [.row 14,.str] x
def IP (L:Nat):Sum tT:=mU 182 [.row 14,.str] (.one (.int .i64)) (Q5 L)
theorem Dx:SX IP:=fun h=>sI h Zz (Zg ⟨h.T _ _ rfl,by kernel_rfl⟩ (Zg ⟨h.T _ _ rfl,by kernel_rfl⟩ Zz)) rfl (by kernel_rfl) fun _=>rfl
def Gj:Zc→List UInt8→(Int×PUnit→Option Int)→Int×PUnit→Option Int:=fun x0 x1 self acc=>bif decide (acc.1 < (↑x0.11.length:Int)) then bT (Z8 x0.11 acc.1) fun y=>bif y.1 == x1 then some acc.1 else self (Go.IntKind.i64.wrap (acc.1 + 1),()) else some (-1)
theorem ZdH (L:Nat)(x0:Zc)(x1:(List UInt8)):Q5 L (x0,x1,())=bT (Zo (Gj x0 x1) L (0,())) fun y=>some y:=by kernel_rfl
def ZgH:List (Inl tT):=[⟨229,YC,[],.one (.bool),[]⟩,⟨251,YK,[.rnd [.slot 8 (.int .i64)]],.one (.int .i64),[]⟩,⟨230,Nl,[],.one (.bool),[]⟩]
def OE (L:Nat)(x:Zc×JC×PUnit):Option Int:=fI [QY L,Wv L,IP L] L ZgH Za3 [] (.one (.int .i64)) [.row 14,.row 12] x
def Zbo (L:Nat):Sum tT:=mU 187 [.row 14,.row 12] (.one (.int .i64)) (OE L)
theorem ZjC:SX Zbo:=fun h=>sI h (Zg (XH h) (Zg (QN h) (Zg (Dx h) Zz))) (Zg ⟨h.T _ _ rfl,by kernel_rfl⟩ (Zg ⟨h.T _ _ rfl,by kernel_rfl⟩ (Zg ⟨h.T _ _ rfl,by kernel_rfl⟩ Zz))) rfl (by kernel_rfl) fun _=>rfl
def Vy:Zc→JC→(Int×PUnit→Option Int)→Int×PUnit→Option Int:=fun x0 x1 self acc=>bif decide (acc.1 < (↑x0.4.length:Int)) then bT (Z8 x0.4 acc.1) fun y=>bif y.1 == x1.3 then some acc.1 else self (Go.IntKind.i64.wrap (acc.1 + 1),()) else some (-1)
def AA:Zc→JC→(Int×PUnit→Option Int)→Int×PUnit→Option Int:=fun x0 x1 self acc=>bif decide (acc.1 < (↑x0.4.length:Int)) then bT (Z8 x0.4 acc.1) fun y=>bif y.1 == x1.3 then some acc.1 else self (Go.IntKind.i64.wrap (acc.1 + 1),()) else some (-1)
def AB:Zc→JC→(Int×PUnit→Option Int)→Int×PUnit→Option Int:=fun x0 x1 self acc=>bif decide (acc.1 < (↑x0.4.length:Int)) then bT (Z8 x0.4 acc.1) fun y=>bif y.1 == x1.3 then some acc.1 else self (Go.IntKind.i64.wrap (acc.1 + 1),()) else some (-1)
theorem Zjl (L:Nat)(x0:Zc)(x1:JC):OE L (x0,x1,())=bif x1.2 == [99,114,101,97,116,101,100] then bT (Q5 L (x0,x1.3,())) fun y=>bif !decide (y ≥ 0) then some 5 else bT (ZH L (x1.1,(-1000),1000,())) fun y=>bif !y || x1.1 == 0 then some 2 else some 0 else bif x1.2 == [101,110,100,101,100] then bT (Q5 L (x0,x1.3,())) fun y=>bif !decide (y ≥ 0) then some 5 else bT (ZH L (x1.1,(-1000),1000,())) fun y=>bif !y || x1.1 == 0 then some 2 else some 0 else bif x1.2 == [105,110,115,105,100,101] then bT (Q5 L (x0,x1.3,())) fun y=>bif !decide (y ≥ 0) then some 5 else bT (ZH L (x1.1,(-1000),1000,())) fun y=>bif !y || x1.1 == 0 then some 2 else some 0 else bif x1.2 == [115,116,111,114,101,100] then bT (bT (Zo (Vy x0 x1) L (0,())) fun y=>some (decide (y ≥ 0))) fun y=>bif !y then some 5 else bT (ZH L (x1.1,(-1000),1000,())) fun y=>bif !y || x1.1 == 0 then some 2 else some 0 else bif x1.2 == [101,110,116,101,114,101,100] then bT (bT (Zo (AA x0 x1) L (0,())) fun y=>some (decide (y ≥ 0))) fun y=>bif !y then some 5 else bT (ZH L (x1.1,(-1000),1000,())) fun y=>bif !y || x1.1 == 0 then some 2 else some 0 else bif x1.2 == [108,101,102,116] then bT (bT (Zo (AB x0 x1) L (0,())) fun y=>some (decide (y ≥ 0))) fun y=>bif !y then some 5 else bT (ZH L (x1.1,(-1000),1000,())) fun y=>bif !y || x1.1 == 0 then some 2 else some 0 else bif x1.2 == [99,111,117,110,116,101,100] then bT (Yf L (x0.10,x1.3,())) fun y=>bif !y then some 5 else bT (ZH L (x1.1,(-1000),1000,())) fun y=>bif !y || x1.1 == 0 then some 2 else some 0 else some 1:=by kernel_rfl
def ZgF:List (Inl tT):=[⟨183,Kr,[.rnd [.slot 16 (.int .i64),.cont 1 (.map .str)]],.one (.int .i64),[(3,[.cont 1 (.map .str)])]⟩,⟨184,PW,[],.one (.int .i64),[(4,[.cont 1 (.map .str)])]⟩,⟨185,Ut,[.rnd [.slot 16 (.int .i64),.cont 1 (.map .str)]],.one (.int .i64),[(5,[.cont 1 (.map .str)])]⟩,⟨186,LX,[],.one (.int .i64),[]⟩,⟨62,WS,[],.one (.int .i64),[(5,[.cont 1 (.map .str)])]⟩]
def OC (L:Nat)(x:Zc×PUnit):Option Int:=fI [Zcj L,Zbo L,Ql L] L ZgF Za1 [] (.one (.int .i64)) [.row 14] x
def Zbm (L:Nat):Sum tT:=mU 139 [.row 14] (.one (.int .i64)) (OC L)
theorem ZjA:SX Zbm:=fun h=>sI h (Zg (Zh7 h) (Zg (ZjC h) (Zg (QM h) Zz))) (Zg ⟨h.T _ _ rfl,by kernel_rfl⟩ (Zg ⟨h.T _ _ rfl,by kernel_rfl⟩ (Zg ⟨h.T _ _ rfl,by kernel_rfl⟩ (Zg ⟨h.T _ _ rfl,by kernel_rfl⟩ (Zg ⟨h.T _ _ rfl,by kernel_rfl⟩ Zz))))) rfl (by kernel_rfl) fun _=>rfl
def GK:Zc→Nat→RV→(Int×List (List UInt8)×PUnit→Option (Int×List (List UInt8)×PUnit))→Int×List (List UInt8)×PUnit→Option (Int×List (List UInt8)×PUnit):=fun x0 L y self acc=>bif decide (acc.1 < (↑y.2.length:Int)) then bT (Z8 y.2 acc.1) fun y=>bT (bT (OE L (x0,y,())) fun y=>some y) fun y=>bif y != 0 then some (y,acc.2.1,()) else self (Go.IntKind.i64.wrap (acc.1 + 1),acc.2.1,()) else some (0,acc.2.1,())
def GL:Zc→Nat→(Int×List (List UInt8)×PUnit→Option (Int×List (List UInt8)×PUnit))→Int×List (List UInt8)×PUnit→Option (Int×List (List UInt8)×PUnit):=fun x0 L self acc=>bif decide (acc.1 < (↑x0.13.length:Int)) then bT (Z8 x0.13 acc.1) fun y=>bT (bT (bT (ZK L (y.1,())) fun y_1=>bif y_1 != 0 then some (y_1,acc.2.1,()) else bif hasK MK.str acc.2.1 y.1 then some (4,acc.2.1,()) else some (0,ZaD MK.str acc.2.1 y.1,())) fun y_1=>bif y_1.1 != 0 then some (y_1.1,y_1.2.1,()) else bif (↑y.2.length:Int) == 0 then some (7,y_1.2.1,()) else bT (bif decide ((↑y.2.length:Int) > 8) then some (6,y_1.2.1,()) else Zo (GK x0 L y) L (0,y_1.2.1,())) fun y_2=>bif y_2.1 != 0 then some (y_2.1,y_2.2.1,()) else bT (P9 L (y.3,())) fun y=>bif !y then some (2,y_2.2.1,()) else some (0,y_2.2.1,())) fun y=>bif y.1 != 0 then some (y.1,y.2.1,()) else self (Go.IntKind.i64.wrap (acc.1 + 1),y.2.1,()) else some (0,acc.2.1,())
theorem Zjj (L:Nat)(x0:Zc):OC L (x0,())=bT (bif decide ((↑x0.13.length:Int) > 32) then some (6,[],()) else Zo (GL x0 L) L (0,[],())) fun y=>some y.1:=by kernel_rfl
def J3 (L:Nat)(x:Int×Int×PUnit):Option Bool:=fT [QY L,Zcj L] L Za0 [] (.one .bool) [.int .i64,.int .i64] x
def O8 (L:Nat):Sum tT:=mU 178 [.int .i64,.int .i64] (.one .bool) (J3 L)
theorem Dy:SX O8:=fun h=>sT h (Zg (XH h) (Zg (Zh7 h) Zz)) rfl (by kernel_rfl) fun _=>rfl
theorem Zji (L:Nat)(x0:Int)(x1:Int):J3 L (x0,x1,())=bif x0 == 1 then bT (P9 L (x1,())) fun y=>some y else bif x0 == 2 then some (x1 == 0 || x1 == 1) else bif x0 == 3 then bT (ZH L (x1,0,1000000000,())) fun y=>some y else some false:=by kernel_rfl
end Go.Proofs.YtleomfgijkapfaaGreatDoor
end
noncomputable section
namespace Go.Proofs.YtleomfgijkapfaaGreatDoor
open Go Go.Proofs.YtleomfgijkapfaaGreatDoor.Abs Go.Proofs.YtleomfgijkapfaaGreatDoor.Tl
set_option maxRecDepth 100000
set_option maxHeartbeats 0
def Hq (L:Nat)(x:Zc×Qm×PUnit):Option Int:=fT [QY L,O8 L,IP L] L EW [.rnd [.slot 30 (.int .i64)]] (.one (.int .i64)) [.row 14,.row 11] x
def FH (L:Nat):Sum tT:=mU 137 [.row 14,.row 11] (.one (.int .i64)) (Hq L)
theorem Zh6:SX FH:=fun h=>sT h (Zg (XH h) (Zg (Dy h) (Zg (Dx h) Zz))) rfl (by kernel_rfl) fun _=>rfl
def UK:Qm→Nat→ZJ→(Int×PUnit→Option Int)→Int×PUnit→Option Int:=fun x1 L y self acc=>bif decide (acc.1 < (↑x1.2.length:Int)) then bT (Z8 x1.2 acc.1) fun y_1=>bT (Z8 y.2 acc.1) fun y=>bT (J3 L (y.2,y_1,())) fun y=>bif !y then some 2 else self (Go.IntKind.i64.wrap (acc.1 + 1),()) else bT (ZH L (x1.3,0,1000000000,())) fun y=>bT (bif (!y) == false then bT (ZH L (x1.4,0,1000000000,())) fun y=>some !y else some true) fun y=>bT (bif y == false then bT (ZH L (x1.5,0,1000000000,())) fun y=>some !y else some true) fun y=>bif y || x1.4 == 0 && x1.5 != 0 then some 2 else some 0
theorem Zhl (L:Nat)(x0:Zc)(x1:Qm):Hq L (x0,x1,())=bT (Q5 L (x0,x1.1,())) fun y=>bif decide (y < 0) then some 5 else bT (Z8 x0.11 y) fun y=>bif (↑x1.2.length:Int) != (↑y.2.length:Int) then some 8 else Zo (UK x1 L y) L (0,()):=by kernel_rfl
def KT (L:Nat)(x:Zt×PUnit):Option Int:=fT [Jk L] L Zax [] (.one (.int .i64)) [.row 8] x
def Zbh (L:Nat):Sum tT:=mU 266 [.row 8] (.one (.int .i64)) (KT L)
theorem Zj5:SX Zbh:=fun h=>sT h (Zg (IB h) Zz) rfl (by kernel_rfl) fun _=>rfl
theorem Zje (L:Nat)(x0:Zt):KT L (x0,())=bT (Qz L (Xf.mk false,x0,())) fun y=>some y:=by kernel_rfl
def OJ (L:Nat)(x:Zy×Ie×PUnit):Option Int:=fT [O7 L,Zbh L,Ql L] L ZaC [.rnd [.slot 4 (.int .i64),.slot 26 (.int .i64)],.rnd [.slot 4 (.int .i64),.slot 53 (.int .i64)],.rnd [.slot 74 (.int .i64)]] (.one (.int .i64)) [.row 9,.row 26] x
def DT (L:Nat):Sum tT:=mU 250 [.row 9,.row 26] (.one (.int .i64)) (OJ L)
theorem ZaY:SX DT:=fun h=>sT h (Zg (Dw h) (Zg (Zj5 h) (Zg (QM h) Zz))) rfl (by kernel_rfl) fun _=>rfl
def Ha:Zy→Ie→Nat→(Int×PUnit→Option Int)→Int×PUnit→Option Int:=fun x0 x1 L self acc=>bif decide (acc.1 < (↑x0.6.length:Int)) then bT (Z8 x0.6 acc.1) fun y=>bT (KT L (y,())) fun y=>bif y != 0 then some y else self (Go.IntKind.i64.wrap (acc.1 + 1),()) else bif x1.6 then bT (QQ L (x0.7,())) fun y=>some y else some 0
def Ll:Zy→Ie→Nat→Int×Int×PUnit→(Int×Int×PUnit→Option Int)→Int×Int×PUnit→Option Int:=fun x0 x1 L acc self acc_1=>bif decide (acc_1.2.1 < (↑[MB.mk x1.3 x0.4,MB.mk x1.4 x0.5].length:Int)) then bT (Z8 [MB.mk x1.3 x0.4,MB.mk x1.4 x0.5] acc_1.2.1) fun y=>bif !y.1 then self (acc_1.1,Go.IntKind.i64.wrap (acc_1.2.1 + 1),()) else bT (KT L (y.2,())) fun y=>bif y != 0 then some y else self (acc_1.1,Go.IntKind.i64.wrap (acc_1.2.1 + 1),()) else bif decide ((↑x0.6.length:Int) > 6) then some 6 else Zo (Ha x0 x1 L) L (0,())
def Fz:Zy→Ie→Nat→(Int×Int×PUnit→Option Int)→Int×Int×PUnit→Option Int:=fun x0 x1 L self acc=>bif decide (acc.2.1 < (↑[MC.mk x1.1 x0.2,MC.mk x1.2 x0.3].length:Int)) then bT (Z8 [MC.mk x1.1 x0.2,MC.mk x1.2 x0.3] acc.2.1) fun y=>bT (ZK L (y.2,())) fun y_1=>bif y.1 && y_1 != 0 then some y_1 else self (acc.1,Go.IntKind.i64.wrap (acc.2.1 + 1),()) else Zo (Ll x0 x1 L acc) L (acc.1,0,())
theorem Zjx (L:Nat)(x0:Zy)(x1:Ie):OJ L (x0,x1,())=Zo (Fz x0 x1 L) L (0,0,()):=by kernel_rfl
def Ui (L:Nat)(x:Zt×PUnit):Option Bool:=fT [Vj L] L Ag [] (.one .bool) [.row 8] x
def FM (L:Nat):Sum tT:=mU 265 [.row 8] (.one .bool) (Ui L)
theorem Zh9:SX FM:=fun h=>sT h (Zg (UA h) Zz) rfl (by kernel_rfl) fun _=>rfl
theorem Zht (L:Nat)(x0:Zt):Ui L (x0,())=bT (Q4 L (x0,Zt.mk 0 [] 0 [],())) fun y=>some y:=by kernel_rfl
def LG (L:Nat)(x:Zy×Ie×PUnit):Option Bool:=fT [QX L,FM L] L ZcJ [] (.one .bool) [.row 9,.row 26] x
def Ez (L:Nat):Sum tT:=mU 249 [.row 9,.row 26] (.one .bool) (LG L)
theorem Zef:SX Ez:=fun h=>sT h (Zg (Vd h) (Zg (Zh9 h) Zz)) rfl (by kernel_rfl) fun _=>rfl
theorem Zl2 (L:Nat)(x0:Zy)(x1:Ie):LG L (x0,x1,())=bT (bif ((x1.1 || x0.2 == []) && (x1.2 || x0.3 == [])) == true then bif x1.3 == false then bT (Ui L (x0.4,())) fun y=>some y else some true else some false) fun y=>bT (bif y == true then bif x1.4 == false then bT (Ui L (x0.5,())) fun y=>some y else some true else some false) fun y=>bT (bif (y && (x1.5 || (↑x0.6.length:Int) == 0)) == true then bif x1.6 == false then bT (Qg L (x0.7,YP.mk 0 0 0 0 [] [],())) fun y=>some y else some true else some false) fun y=>some (y && (x1.7 || !x0.8) && (x1.8 || (↑x0.9.length:Int) == 0) && (x1.9 || (↑x0.10.length:Int) == 0)):=by kernel_rfl
def LH (L:Nat)(x:Int×PUnit):Option (Ie×Bool×PUnit):=fT [] L ZcK [] (.tup [.row 26,.bool]) [.int .i64] x
def E5 (L:Nat):Sum tT:=mU 248 [.int .i64] (.tup [.row 26,.bool]) (LH L)
theorem Zeg:SX E5:=fun h=>sT h Zz rfl (by kernel_rfl) fun _=>rfl
theorem Zl4 (L:Nat)(x0:Int):LH L (x0,())=bif x0 == 1 then some (Ie.mk true false true false false false false false false,true,()) else bif x0 == 7 then some (Ie.mk true false true false false false false false false,true,()) else bif x0 == 8 then some (Ie.mk true false true false false false false false false,true,()) else bif x0 == 12 then some (Ie.mk true false true false false false false false false,true,()) else bif x0 == 15 then some (Ie.mk true false true false false false false false false,true,()) else bif x0 == 16 then some (Ie.mk true false true false false false false false false,true,()) else bif x0 == 17 then some (Ie.mk true false true false false false false false false,true,()) else bif x0 == 2 then some (Ie.mk true true false false false true false false false,true,()) else bif x0 == 3 then some (Ie.mk false false true false false false false true true,true,()) else bif x0 == 4 then some (Ie.mk false false true false false false false true false,true,()) else bif x0 == 5 then some (Ie.mk false false true false false false false false false,true,()) else bif x0 == 6 then some (Ie.mk true false true true false false true false false,true,()) else bif x0 == 9 then some (Ie.mk true true false false false false false false false,true,()) else bif x0 == 10 then some (Ie.mk true false false false false false false false false,true,()) else bif x0 == 11 then some (Ie.mk true false false false false false false false false,true,()) else bif x0 == 13 then some (Ie.mk true true true false true false false false false,true,()) else bif x0 == 14 then some (Ie.mk true false true false true false false false false,true,()) else bif x0 == 18 then some (Ie.mk false false false false false false false false false,true,()) else some (Ie.mk false false false false false false false false false,false,()):=by kernel_rfl
def Ld (L:Nat):Nat→List (Sum tT)
 | 0=>[⟨226,[.lst 21 (.row 9)],fun _=>.par _ none ((.one (.int .i64):RD).tv tT)⟩]
 | m + 1=>[⟨226,[.lst 21 (.row 9)],fun x=>.par _ (fnT tF tG (qOf tF (Ld L m ++ [DT L,Ez L,E5 L])) 0 L BO [.rnd [.slot 12 (.int .i64)]] (.one (.int .i64)) (tvL tT [.lst 21 (.row 9)] x) []) ((.one (.int .i64):RD).tv tT)⟩]
theorem Ry {C:Cfg}{L:Nat}(h:St C L):∀ m,∀ s ∈ Ld L m,XV C s
 | 0=>(Zg (XO _ _ _) Zz)
 | m + 1=>have ih:=Ry h m
  (Zg (WG YV h.L h.G (QL YV (Kt ih (Zg (ZaY h) (Zg (Zef h) (Zg (Zeg h) Zz))))) [.rnd [.slot 12 (.int .i64)]] (h.T _ _ rfl) (by kernel_rfl) fun _=>rfl) Zz)
def Ul (L m:Nat)(x:(List Zy)×PUnit):Option (Int):=fnT tF tG (qOf tF (Ld L m ++ [DT L,Ez L,E5 L])) 0 L BO [.rnd [.slot 12 (.int .i64)]] (.one (.int .i64)) (tvL tT [.lst 21 (.row 9)] x) []
def Pe (L:Nat)(x:(List Zy)×PUnit):Option (Int):=Ul L L x
def Zbt (L:Nat):Sum tT:=⟨226,[.lst 21 (.row 9)],fun x=>.par ((.one (.int .i64):RD).Ty tT) (Pe L x) ((.one (.int .i64):RD).tv tT)⟩
theorem ZjG {C:Cfg}{L:Nat}(h:St C L):XV C (Zbt L):=have ih:=Ry h L
 WG YV h.L h.G (QL YV (Kt ih (Zg (ZaY h) (Zg (Zef h) (Zg (Zeg h) Zz))))) [.rnd [.slot 12 (.int .i64)]] (h.T _ _ rfl) (by kernel_rfl) fun _=>rfl
def Lj:Nat→List Zy→Nat→(Int×PUnit→Option Int)→Int×PUnit→Option Int:=fun (m:Nat)=>fun x0 L self acc=>bif decide (acc.1 < (↑x0.length:Int)) then bT (Z8 x0 acc.1) fun y=>bT (LH L (y.1,())) fun y_1=>bT (bif (!y_1.2.1) == false then bT (LG L (y,y_1.1,())) fun y=>some !y else some true) fun y_2=>bif y_2 then some 1 else bT (OJ L (y,y_1.1,())) fun y_3=>bif y_3 != 0 then some y_3 else bT (Ul L m (y.9,())) fun y_4=>bif y_4 != 0 then some y_4 else bT (Ul L m (y.10,())) fun y=>bif y != 0 then some y else self (Go.IntKind.i64.wrap (acc.1 + 1),()) else some 0
theorem Zjw (L m:Nat)(x0:(List Zy)):Ul L (m + 1) (x0,())=Zo (Lj m x0 L) L (0,()):=by kernel_rfl
def Lc (L:Nat):Nat→List (Sum tT)
 | 0=>[⟨225,[.lst 21 (.row 9)],fun _=>.par _ none ((.one (.int .i64):RD).tv tT)⟩]
 | m + 1=>[⟨225,[.lst 21 (.row 9)],fun x=>.par _ (fnT tF tG (qOf tF (Lc L m ++ [])) 0 L BN [.rnd [.slot 3 (.int .i64),.slot 8 (.int .i64)]] (.one (.int .i64)) (tvL tT [.lst 21 (.row 9)] x) []) ((.one (.int .i64):RD).tv tT)⟩]
theorem Rx {C:Cfg}{L:Nat}(h:St C L):∀ m,∀ s ∈ Lc L m,XV C s
 | 0=>(Zg (XO _ _ _) Zz)
 | m + 1=>have ih:=Rx h m
  (Zg (WG YV h.L h.G (QL YV (Kt ih Zz)) [.rnd [.slot 3 (.int .i64),.slot 8 (.int .i64)]] (h.T _ _ rfl) (by kernel_rfl) fun _=>rfl) Zz)
def Uk (L m:Nat)(x:(List Zy)×PUnit):Option (Int):=fnT tF tG (qOf tF (Lc L m ++ [])) 0 L BN [.rnd [.slot 3 (.int .i64),.slot 8 (.int .i64)]] (.one (.int .i64)) (tvL tT [.lst 21 (.row 9)] x) []
def DZ (L:Nat)(x:(List Zy)×PUnit):Option (Int):=Uk L L x
def Zbs (L:Nat):Sum tT:=⟨225,[.lst 21 (.row 9)],fun x=>.par ((.one (.int .i64):RD).Ty tT) (DZ L x) ((.one (.int .i64):RD).tv tT)⟩
theorem ZjF {C:Cfg}{L:Nat}(h:St C L):XV C (Zbs L):=have ih:=Rx h L
 WG YV h.L h.G (QL YV (Kt ih Zz)) [.rnd [.slot 3 (.int .i64),.slot 8 (.int .i64)]] (h.T _ _ rfl) (by kernel_rfl) fun _=>rfl
def Lh:Nat→List Zy→Nat→(Int×Int×PUnit→Option Int)→Int×Int×PUnit→Option Int:=fun (m:Nat)=>fun x0 L self acc=>bif decide (acc.2.1 < (↑x0.length:Int)) then bT (Z8 x0 acc.2.1) fun y=>bT (bT (Uk L m (y.9,())) fun y=>some y) fun y_1=>bT (bT (Uk L m (y.10,())) fun y=>some y) fun y=>self (if Go.IntKind.i64.wrap (1 + y) > if Go.IntKind.i64.wrap (1 + y_1) > acc.1 then Go.IntKind.i64.wrap (1 + y_1) else acc.1 then Go.IntKind.i64.wrap (1 + y) else if Go.IntKind.i64.wrap (1 + y_1) > acc.1 then Go.IntKind.i64.wrap (1 + y_1) else acc.1,Go.IntKind.i64.wrap (acc.2.1 + 1),()) else some acc.1
theorem Zjv (L m:Nat)(x0:(List Zy)):Uk L (m + 1) (x0,())=Zo (Lh m x0 L) L (0,0,()):=by kernel_rfl
def La (L:Nat):Nat→List (Sum tT)
 | 0=>[⟨224,[.lst 21 (.row 9)],fun _=>.par _ none ((.one (.int .i64):RD).tv tT)⟩]
 | m + 1=>[⟨224,[.lst 21 (.row 9)],fun x=>.par _ (fnT tF tG (qOf tF (La L m ++ [])) 0 L BM [.rnd [.slot 3 (.int .i64),.slot 10 (.int .i64)]] (.one (.int .i64)) (tvL tT [.lst 21 (.row 9)] x) []) ((.one (.int .i64):RD).tv tT)⟩]
theorem Rw {C:Cfg}{L:Nat}(h:St C L):∀ m,∀ s ∈ La L m,XV C s
 | 0=>(Zg (XO _ _ _) Zz)
 | m + 1=>have ih:=Rw h m
  (Zg (WG YV h.L h.G (QL YV (Kt ih Zz)) [.rnd [.slot 3 (.int .i64),.slot 10 (.int .i64)]] (h.T _ _ rfl) (by kernel_rfl) fun _=>rfl) Zz)
def Uj (L m:Nat)(x:(List Zy)×PUnit):Option (Int):=fnT tF tG (qOf tF (La L m ++ [])) 0 L BM [.rnd [.slot 3 (.int .i64),.slot 10 (.int .i64)]] (.one (.int .i64)) (tvL tT [.lst 21 (.row 9)] x) []
def DY (L:Nat)(x:(List Zy)×PUnit):Option (Int):=Uj L L x
def Zbr (L:Nat):Sum tT:=⟨224,[.lst 21 (.row 9)],fun x=>.par ((.one (.int .i64):RD).Ty tT) (DY L x) ((.one (.int .i64):RD).tv tT)⟩
theorem ZjE {C:Cfg}{L:Nat}(h:St C L):XV C (Zbr L):=have ih:=Rw h L
 WG YV h.L h.G (QL YV (Kt ih Zz)) [.rnd [.slot 3 (.int .i64),.slot 10 (.int .i64)]] (h.T _ _ rfl) (by kernel_rfl) fun _=>rfl
def Le:Nat→List Zy→Nat→(Int×Int×PUnit→Option Int)→Int×Int×PUnit→Option Int:=fun (m:Nat)=>fun x0 L self acc=>bif decide (acc.2.1 < (↑x0.length:Int)) then bT (Z8 x0 acc.2.1) fun y=>bT (bT (Uj L m (y.9,())) fun y=>some y) fun y_1=>bT (bT (Uj L m (y.10,())) fun y=>some y) fun y=>self (Go.IntKind.i64.wrap (acc.1 + Go.IntKind.i64.wrap (y_1 + y)),Go.IntKind.i64.wrap (acc.2.1 + 1),()) else some acc.1
theorem Zju (L m:Nat)(x0:(List Zy)):Uj L (m + 1) (x0,())=Zo (Le m x0 L) L ((↑x0.length:Int),0,()):=by kernel_rfl
def OI (L:Nat)(x:(List Zy)×PUnit):Option Int:=fT [Zbt L,Zbs L,Zbr L] L ZaB [] (.one (.int .i64)) [.lst 21 (.row 9)] x
def Zbq (L:Nat):Sum tT:=mU 181 [.lst 21 (.row 9)] (.one (.int .i64)) (OI L)
theorem ZjD:SX Zbq:=fun h=>sT h (Zg (ZjG h) (Zg (ZjF h) (Zg (ZjE h) Zz))) rfl (by kernel_rfl) fun _=>rfl
theorem Zjt (L:Nat)(x0:(List Zy)):OI L (x0,())=bT (DY L (x0,())) fun y=>bif decide (y > 200) then some 6 else bT (DZ L (x0,())) fun y=>bif decide (y > 12) then some 11 else bT (Pe L (x0,())) fun y=>some y:=by kernel_rfl
end Go.Proofs.YtleomfgijkapfaaGreatDoor
end
noncomputable section
namespace Go.Proofs.YtleomfgijkapfaaGreatDoor
open Go Go.Proofs.YtleomfgijkapfaaGreatDoor.Abs Go.Proofs.YtleomfgijkapfaaGreatDoor.Tl
set_option maxRecDepth 100000
set_option maxHeartbeats 0
def V7 (L:Nat)(x:Int×PUnit):Option Bool:=fT [] L ES [] (.one .bool) [.int .i64] x
def He (L:Nat):Sum tT:=mU 177 [.int .i64] (.one .bool) (V7 L)
theorem MV:SX He:=fun h=>sT h Zz rfl (by kernel_rfl) fun _=>rfl
theorem Zhj (L:Nat)(x0:Int):V7 L (x0,())=some (decide (x0 ≥ 1) && decide (x0≤3)):=by kernel_rfl
def Ym (L:Nat)(x:(List (List Y1))×PUnit):Option (List Y1):=fT [Zub] L Qh [.rnd [.slot 3 (.int .i64),.slot 11 (.int .i64)],.rnd [.slot 6 (.own 2 (.row 7)),.slot 27 (.int .i64)]] (.one (.lst 2 (.row 7))) [.lst 1 (.lst 2 (.row 7))] x
def Qj (L:Nat):Sum tT:=mU 180 [.lst 1 (.lst 2 (.row 7))] (.one (.lst 2 (.row 7))) (Ym L)
theorem VF:SX Qj:=fun h=>sT h (Zg (ZxQ h) Zz) rfl (by kernel_rfl) fun _=>rfl
def YF:List (List Y1)→(List Y1×Int×PUnit→Option (List Y1))→List Y1×Int×PUnit→Option (List Y1):=fun x0 self acc=>bif decide (acc.2.1 < (↑x0.length:Int)) then bT (Z8 x0 acc.2.1) fun y=>bT (apT 24 acc.1 y) fun y=>self (y,Go.IntKind.i64.wrap (acc.2.1 + 1),()) else some acc.1
def Qc:List (List Y1)→Nat→(Int×Int×PUnit→Option (List Y1))→Int×Int×PUnit→Option (List Y1):=fun x0 L self acc=>bif decide (acc.2.1 < (↑x0.length:Int)) then bT (Z8 x0 acc.2.1) fun y=>bif decide (Go.IntKind.i64.wrap (acc.1 + (↑y.length:Int)) < 0) then none else self (Go.IntKind.i64.wrap (acc.1 + (↑y.length:Int)),Go.IntKind.i64.wrap (acc.2.1 + 1),()) else bT (Zsa [] acc.1) fun y=>Zo (YF x0) L (y,0,())
theorem VE (L:Nat)(x0:(List (List Y1))):Ym L (x0,())=Zo (Qc x0 L) L (0,0,()):=by kernel_rfl
def Zb2:List (Inl tT):=[⟨62,WS,[],.one (.int .i64),[(3,[.cont 1 (.map .str)])]⟩]
def Ud (L:Nat)(x:ZJ×PUnit):Option Int:=fI [Zbq L,He L,Ql L,Qj L] L Zb2 BA [.rnd [.slot 29 (.int .i64),.cont 1 (.map .str)]] (.one (.int .i64)) [.row 10] x
def DJ (L:Nat):Sum tT:=mU 133 [.row 10] (.one (.int .i64)) (Ud L)
theorem Zeb:SX DJ:=fun h=>sI h (Zg (ZjD h) (Zg (MV h) (Zg (QM h) (Zg (VF h) Zz)))) (Zg ⟨h.T _ _ rfl,by kernel_rfl⟩ Zz) rfl (by kernel_rfl) fun _=>rfl
def VW:ZJ→Nat→List Y1→(Int×List (List UInt8)×PUnit→Option Int)→Int×List (List UInt8)×PUnit→Option Int:=fun x0 L y self acc=>bif decide (acc.1 < (↑y.length:Int)) then bT (Z8 y acc.1) fun y=>bT (bT (ZK L (y.1,())) fun y_1=>bif y_1 != 0 then some (y_1,acc.2.1,()) else bif hasK MK.str acc.2.1 y.1 then some (4,acc.2.1,()) else some (0,ZaD MK.str acc.2.1 y.1,())) fun y_1=>bif y_1.1 != 0 then some y_1.1 else bT (V7 L (y.2,())) fun y=>bif !y then some 1 else self (Go.IntKind.i64.wrap (acc.1 + 1),y_1.2.1,()) else bT (OI L (x0.4,())) fun y=>some y
theorem ZdI (L:Nat)(x0:ZJ):Ud L (x0,())=bif decide ((↑x0.2.length:Int) > 6) || decide (Go.IntKind.i64.wrap ((↑x0.2.length:Int) + (↑x0.3.length:Int)) > 16) then some 6 else bT (Ym L ([x0.2,x0.3],())) fun y=>Zo (VW x0 L y) L (0,[],()):=by kernel_rfl
def VZ (L:Nat)(x:Zc×Tf×PUnit):Option Int:=fT [O7 L,Wv L,QX L] L LW [] (.one (.int .i64)) [.row 14,.row 3] x
def RH (L:Nat):Sum tT:=mU 118 [.row 14,.row 3] (.one (.int .i64)) (VZ L)
theorem ZbN:SX RH:=fun h=>sT h (Zg (Dw h) (Zg (QN h) (Zg (Vd h) Zz))) rfl (by kernel_rfl) fun _=>rfl
theorem ZbD (L:Nat)(x0:Zc)(x1:Tf):VZ L (x0,x1,())=bT (bif (x1.1 == []) == true then bT (Qg L (x1.2,YP.mk 0 0 0 0 [] [],())) fun y=>bif (!y) == false then bT (Qg L (x1.3,YP.mk 0 0 0 0 [] [],())) fun y=>some !y else some true else some false) fun y=>bif y then some 1 else bif x1.1 == [] then some 0 else bT (Yf L (x0.7,x1.1,())) fun y=>bif !y then some 5 else bT (QQ L (x1.2,())) fun y=>bif y != 0 then some y else bT (QQ L (x1.3,())) fun y=>some y:=by kernel_rfl
def Jb (L:Nat)(x:Zn×PUnit):Option Int:=fT [QY L] L LZ [.rnd [.slot 25 (.int .i64)]] (.one (.int .i64)) [.row 4] x
def RJ (L:Nat):Sum tT:=mU 117 [.row 4] (.one (.int .i64)) (Jb L)
theorem ZbP:SX RJ:=fun h=>sT h (Zg (XH h) Zz) rfl (by kernel_rfl) fun _=>rfl
def Xh:Zn→Nat→(Int×PUnit→Option Int)→Int×PUnit→Option Int:=fun x0 L self acc=>bif decide (acc.1 < (↑x0.3.length:Int)) then bT (Z8 x0.3 acc.1) fun y=>bT (ZH L (y.1,0,Go.IntKind.i64.wrap (x0.4 - 1),())) fun y_1=>bif !y_1 then some 2 else bT (ZH L (y.2,0,1000,())) fun y_2=>bif !y_2 then some 2 else bT (bif decide (acc.1 > 0) == true then bT (Z8 x0.3 (Go.IntKind.i64.wrap (acc.1 - 1))) fun y_3=>some (decide (y.1≤y_3.1)) else some false) fun y=>bif y then some 12 else self (Go.IntKind.i64.wrap (acc.1 + 1),()) else some 0
theorem ZbF (L:Nat)(x0:Zn):Jb L (x0,())=bif (↑x0.3.length:Int) == 0 then bif x0.4 != 0 then some 1 else some 0 else bif decide ((↑x0.3.length:Int) > 20) then some 6 else bT (ZH L (x0.4,1,1000000000,())) fun y=>bif !y then some 2 else Zo (Xh x0 L) L (0,()):=by kernel_rfl
def ZgG:List (Inl tT):=[⟨111,ER,[.unr 60],.one (.int .i64),[(5,[.cont 1 (.map .str)])]⟩,⟨138,BG,[],.one (.int .i64),[]⟩,⟨134,BF,[],.one (.int .i64),[(5,[.cont 1 (.map .str)])]⟩,⟨135,JD,[.rnd [.slot 16 (.int .i64),.cont 1 (.map .str)]],.one (.int .i64),[(5,[.cont 1 (.map .str)])]⟩,⟨136,Tn,[],.one (.int .i64),[]⟩,⟨130,BD,[],.one (.int .i64),[(5,[.cont 1 (.map .str)])]⟩,⟨131,VI,[.rnd [.slot 16 (.int .i64),.cont 1 (.map .str)]],.one (.int .i64),[(5,[.cont 1 (.map .str)])]⟩,⟨132,Tm,[],.one (.int .i64),[(6,[.cont 1 (.map .str)])]⟩,⟨62,WS,[],.one (.int .i64),[(7,[.cont 1 (.map .str)]),(5,[.cont 1 (.map .str)])]⟩,⟨129,BC,[],.one (.int .i64),[(5,[.cont 1 (.map .str)])]⟩,⟨128,Nk,[],.one (.int .i64),[(5,[.cont 1 (.map .str)])]⟩,⟨127,Nj,[],.one (.int .i64),[(5,[.cont 1 (.map .str)])]⟩,⟨126,Nh,[],.one (.int .i64),[(5,[.cont 1 (.map .str)])]⟩,⟨125,Nc,[],.one (.int .i64),[(5,[.cont 1 (.map .str)])]⟩,⟨122,Nb,[],.one (.int .i64),[(5,[.cont 1 (.map .str)])]⟩,⟨123,VA,[.rnd [.slot 16 (.int .i64),.cont 1 (.map .str)]],.one (.int .i64),[(5,[.cont 1 (.map .str)])]⟩,⟨124,Ri,[],.one (.int .i64),[(6,[.cont 1 (.map .str)])]⟩,⟨119,Na,[],.one (.int .i64),[(5,[.cont 1 (.map .str)])]⟩,⟨120,XX,[.rnd [.slot 16 (.int .i64),.cont 1 (.map .str)]],.one (.int .i64),[(5,[.cont 1 (.map .str)])]⟩,⟨121,Rh,[],.one (.int .i64),[(6,[.cont 1 (.map .str)])]⟩,⟨113,PZ,[],.one (.int .i64),[(5,[.cont 1 (.map .str)])]⟩,⟨114,Xq,[.rnd [.slot 16 (.int .i64),.cont 1 (.map .str)]],.one (.int .i64),[(5,[.cont 1 (.map .str)])]⟩,⟨115,Rf,[],.one (.int .i64),[(6,[.cont 1 (.map .str)])]⟩,⟨112,PY,[],.one (.int .i64),[(5,[.cont 1 (.map .str)])]⟩,⟨59,XI,[],.one (.int .i64),[(5,[.cont 1 (.map .str)])]⟩,⟨107,Xy,[.rnd [.slot 16 (.int .i64),.cont 1 (.map .str)]],.one (.int .i64),[(5,[.cont 1 (.map .str)])]⟩,⟨108,XW,[],.one (.int .i64),[(6,[.cont 1 (.map .str)])]⟩,⟨109,PX,[],.one (.int .i64),[(5,[.cont 1 (.map .str)])]⟩,⟨110,Gx,[.rnd [.slot 16 (.int .i64),.cont 1 (.map .str)]],.one (.int .i64),[(5,[.cont 1 (.map .str)])]⟩]
def OD (L:Nat)(x:Zc×PUnit):Option Int:=fI [Zbm L,FH L,DJ L,Ql L,QY L,RH L,RJ L,O8 L,He L] L ZgG Za2 [] (.one (.int .i64)) [.row 14] x
def Zbn (L:Nat):Sum tT:=mU 63 [.row 14] (.one (.int .i64)) (OD L)
theorem ZjB:SX Zbn:=fun h=>sI h (Zg (ZjA h) (Zg (Zh6 h) (Zg (Zeb h) (Zg (QM h) (Zg (XH h) (Zg (ZbN h) (Zg (ZbP h) (Zg (Dy h) (Zg (MV h) Zz))))))))) (Zg ⟨h.T _ _ rfl,by kernel_rfl⟩ (Zg ⟨h.T _ _ rfl,by kernel_rfl⟩ (Zg ⟨h.T _ _ rfl,by kernel_rfl⟩ (Zg ⟨h.T _ _ rfl,by kernel_rfl⟩ (Zg ⟨h.T _ _ rfl,by kernel_rfl⟩ (Zg ⟨h.T _ _ rfl,by kernel_rfl⟩ (Zg ⟨h.T _ _ rfl,by kernel_rfl⟩ (Zg ⟨h.T _ _ rfl,by kernel_rfl⟩ (Zg ⟨h.T _ _ rfl,by kernel_rfl⟩ (Zg ⟨h.T _ _ rfl,by kernel_rfl⟩ (Zg ⟨h.T _ _ rfl,by kernel_rfl⟩ (Zg ⟨h.T _ _ rfl,by kernel_rfl⟩ (Zg ⟨h.T _ _ rfl,by kernel_rfl⟩ (Zg ⟨h.T _ _ rfl,by kernel_rfl⟩ (Zg ⟨h.T _ _ rfl,by kernel_rfl⟩ (Zg ⟨h.T _ _ rfl,by kernel_rfl⟩ (Zg ⟨h.T _ _ rfl,by kernel_rfl⟩ (Zg ⟨h.T _ _ rfl,by kernel_rfl⟩ (Zg ⟨h.T _ _ rfl,by kernel_rfl⟩ (Zg ⟨h.T _ _ rfl,by kernel_rfl⟩ (Zg ⟨h.T _ _ rfl,by kernel_rfl⟩ (Zg ⟨h.T _ _ rfl,by kernel_rfl⟩ (Zg ⟨h.T _ _ rfl,by kernel_rfl⟩ (Zg ⟨h.T _ _ rfl,by kernel_rfl⟩ (Zg ⟨h.T _ _ rfl,by kernel_rfl⟩ (Zg ⟨h.T _ _ rfl,by kernel_rfl⟩ (Zg ⟨h.T _ _ rfl,by kernel_rfl⟩ (Zg ⟨h.T _ _ rfl,by kernel_rfl⟩ (Zg ⟨h.T _ _ rfl,by kernel_rfl⟩ Zz))))))))))))))))))))))))))))) rfl (by kernel_rfl) fun _=>rfl
def GM:Zc→Nat→(Int×List (List UInt8)×PUnit→Option (Int×List (List UInt8)×PUnit))→Int×List (List UInt8)×PUnit→Option (Int×List (List UInt8)×PUnit):=fun x0 L self acc=>bif decide (acc.1 < (↑x0.2.length:Int)) then bT (Z8 x0.2 acc.1) fun y=>bT (bT (bT (ZK L (y.1,())) fun y_1=>bif y_1 != 0 then some (y_1,acc.2.1,()) else bif hasK MK.str acc.2.1 y.1 then some (4,acc.2.1,()) else some (0,ZaD MK.str acc.2.1 y.1,())) fun y_1=>bif y_1.1 != 0 then some (y_1.1,y_1.2.1,()) else bT (V7 L (y.2,())) fun y_2=>bif !y_2 then some (1,y_1.2.1,()) else bT (J3 L (y.2,y.3,())) fun y=>bif !y then some (2,y_1.2.1,()) else some (0,y_1.2.1,())) fun y=>bif y.1 != 0 then some (y.1,y.2.1,()) else self (Go.IntKind.i64.wrap (acc.1 + 1),y.2.1,()) else some (0,acc.2.1,())
def GN:Zc→Nat→(Int×List (List UInt8)×PUnit→Option (Int×List (List UInt8)×PUnit))→Int×List (List UInt8)×PUnit→Option (Int×List (List UInt8)×PUnit):=fun x0 L self acc=>bif decide (acc.1 < (↑x0.3.length:Int)) then bT (Z8 x0.3 acc.1) fun y=>bT (bT (bT (ZK L (y.1,())) fun y_1=>bif y_1 != 0 then some (y_1,acc.2.1,()) else bif hasK MK.str acc.2.1 y.1 then some (4,acc.2.1,()) else some (0,ZaD MK.str acc.2.1 y.1,())) fun y_1=>bif y_1.1 != 0 then some (y_1.1,y_1.2.1,()) else bT (ZH L (y.2,0,1000,())) fun y_2=>bif !y_2 then some (2,y_1.2.1,()) else bT (Jb L (y,())) fun y_3=>bif y_3 != 0 then some (y_3,y_1.2.1,()) else bT (VZ L (x0,y.5,())) fun y=>some (y,y_1.2.1,())) fun y=>bif y.1 != 0 then some (y.1,y.2.1,()) else self (Go.IntKind.i64.wrap (acc.1 + 1),y.2.1,()) else some (0,acc.2.1,())
def GU:Zc→Nat→(Int×List (List UInt8)×PUnit→Option (Int×List (List UInt8)×PUnit))→Int×List (List UInt8)×PUnit→Option (Int×List (List UInt8)×PUnit):=fun x0 L self acc=>bif decide (acc.1 < (↑x0.4.length:Int)) then bT (Z8 x0.4 acc.1) fun y=>bT (bT (bT (ZK L (y.1,())) fun y_1=>bif y_1 != 0 then some (y_1,acc.2.1,()) else bif hasK MK.str acc.2.1 y.1 then some (4,acc.2.1,()) else some (0,ZaD MK.str acc.2.1 y.1,())) fun y_1=>bif y_1.1 != 0 then some (y_1.1,y_1.2.1,()) else bT (ZH L (y.2,1,1000,())) fun y_2=>bif !y_2 then some (2,y_1.2.1,()) else bif decide (y.3 < 1) || decide (y.3 > 3) then some (1,y_1.2.1,()) else some (0,y_1.2.1,())) fun y=>bif y.1 != 0 then some (y.1,y.2.1,()) else self (Go.IntKind.i64.wrap (acc.1 + 1),y.2.1,()) else some (0,acc.2.1,())
def GV:Zc→Nat→(Int×List (List UInt8)×PUnit→Option (Int×List (List UInt8)×PUnit))→Int×List (List UInt8)×PUnit→Option (Int×List (List UInt8)×PUnit):=fun x0 L self acc=>bif decide (acc.1 < (↑x0.5.length:Int)) then bT (Z8 x0.5 acc.1) fun y=>bT (bT (bT (ZK L (y.1,())) fun y_1=>bif y_1 != 0 then some (y_1,acc.2.1,()) else bif hasK MK.str acc.2.1 y.1 then some (4,acc.2.1,()) else some (0,ZaD MK.str acc.2.1 y.1,())) fun y_1=>bif y_1.1 != 0 then some (y_1.1,y_1.2.1,()) else bT (ZH L (y.2,1,1000,())) fun y_2=>bT (bif (!y_2) == false then bT (ZH L (y.3,1,1000,())) fun y=>some !y else some true) fun y=>bif y then some (2,y_1.2.1,()) else some (0,y_1.2.1,())) fun y=>bif y.1 != 0 then some (y.1,y.2.1,()) else self (Go.IntKind.i64.wrap (acc.1 + 1),y.2.1,()) else some (0,acc.2.1,())
def GX:Zc→Nat→(Int×List (List UInt8)×PUnit→Option (Int×List (List UInt8)×PUnit))→Int×List (List UInt8)×PUnit→Option (Int×List (List UInt8)×PUnit):=fun x0 L self acc=>bif decide (acc.1 < (↑x0.6.length:Int)) then bT (Z8 x0.6 acc.1) fun y=>bT (bT (ZK L (y,())) fun y_1=>bif y_1 != 0 then some (y_1,acc.2.1,()) else bif hasK MK.str acc.2.1 y then some (4,acc.2.1,()) else some (0,ZaD MK.str acc.2.1 y,())) fun y=>bif y.1 != 0 then some (y.1,y.2.1,()) else self (Go.IntKind.i64.wrap (acc.1 + 1),y.2.1,()) else some (0,acc.2.1,())
def Aw:Zc→Nat→(Int×List (List UInt8)×PUnit→Option (Int×List (List UInt8)×PUnit))→Int×List (List UInt8)×PUnit→Option (Int×List (List UInt8)×PUnit):=fun x0 L self acc=>bif decide (acc.1 < (↑x0.7.length:Int)) then bT (Z8 x0.7 acc.1) fun y=>bT (bT (ZK L (y,())) fun y_1=>bif y_1 != 0 then some (y_1,acc.2.1,()) else bif hasK MK.str acc.2.1 y then some (4,acc.2.1,()) else some (0,ZaD MK.str acc.2.1 y,())) fun y=>bif y.1 != 0 then some (y.1,y.2.1,()) else self (Go.IntKind.i64.wrap (acc.1 + 1),y.2.1,()) else some (0,acc.2.1,())
def Az:Zc→Nat→(Int×List (List UInt8)×PUnit→Option (Int×List (List UInt8)×PUnit))→Int×List (List UInt8)×PUnit→Option (Int×List (List UInt8)×PUnit):=fun x0 L self acc=>bif decide (acc.1 < (↑x0.8.length:Int)) then bT (Z8 x0.8 acc.1) fun y=>bT (bT (ZK L (y,())) fun y_1=>bif y_1 != 0 then some (y_1,acc.2.1,()) else bif hasK MK.str acc.2.1 y then some (4,acc.2.1,()) else some (0,ZaD MK.str acc.2.1 y,())) fun y=>bif y.1 != 0 then some (y.1,y.2.1,()) else self (Go.IntKind.i64.wrap (acc.1 + 1),y.2.1,()) else some (0,acc.2.1,())
def A7:Zc→Nat→(Int×List (List UInt8)×PUnit→Option (Int×List (List UInt8)×PUnit))→Int×List (List UInt8)×PUnit→Option (Int×List (List UInt8)×PUnit):=fun x0 L self acc=>bif decide (acc.1 < (↑x0.9.length:Int)) then bT (Z8 x0.9 acc.1) fun y=>bT (bT (ZK L (y,())) fun y_1=>bif y_1 != 0 then some (y_1,acc.2.1,()) else bif hasK MK.str acc.2.1 y then some (4,acc.2.1,()) else some (0,ZaD MK.str acc.2.1 y,())) fun y=>bif y.1 != 0 then some (y.1,y.2.1,()) else self (Go.IntKind.i64.wrap (acc.1 + 1),y.2.1,()) else some (0,acc.2.1,())
def A8:Zc→Nat→(Int×List (List UInt8)×PUnit→Option (Int×List (List UInt8)×PUnit))→Int×List (List UInt8)×PUnit→Option (Int×List (List UInt8)×PUnit):=fun x0 L self acc=>bif decide (acc.1 < (↑x0.10.length:Int)) then bT (Z8 x0.10 acc.1) fun y=>bT (bT (ZK L (y,())) fun y_1=>bif y_1 != 0 then some (y_1,acc.2.1,()) else bif hasK MK.str acc.2.1 y then some (4,acc.2.1,()) else some (0,ZaD MK.str acc.2.1 y,())) fun y=>bif y.1 != 0 then some (y.1,y.2.1,()) else self (Go.IntKind.i64.wrap (acc.1 + 1),y.2.1,()) else some (0,acc.2.1,())
def GY:Zc→Nat→(Int×List (List UInt8)×PUnit→Option (Int×List (List UInt8)×PUnit))→Int×List (List UInt8)×PUnit→Option (Int×List (List UInt8)×PUnit):=fun x0 L self acc=>bif decide (acc.1 < (↑x0.11.length:Int)) then bT (Z8 x0.11 acc.1) fun y=>bT (bT (bT (ZK L (y.1,())) fun y_1=>bif y_1 != 0 then some (y_1,acc.2.1,()) else bif hasK MK.str acc.2.1 y.1 then some (4,acc.2.1,()) else some (0,ZaD MK.str acc.2.1 y.1,())) fun y_1=>bif y_1.1 != 0 then some (y_1.1,y_1.2.1,()) else bT (Ud L (y,())) fun y=>some (y,y_1.2.1,())) fun y=>bif y.1 != 0 then some (y.1,y.2.1,()) else self (Go.IntKind.i64.wrap (acc.1 + 1),y.2.1,()) else some (0,acc.2.1,())
def XF:Zc→Nat→(Int×List (List UInt8)×PUnit→Option (Int×List (List UInt8)×PUnit))→Int×List (List UInt8)×PUnit→Option (Int×List (List UInt8)×PUnit):=fun x0 L self acc=>bif decide (acc.1 < (↑x0.12.length:Int)) then bT (Z8 x0.12 acc.1) fun y=>bT (bT (Hq L (x0,y,())) fun y=>some y) fun y=>bif y != 0 then some (y,acc.2.1,()) else self (Go.IntKind.i64.wrap (acc.1 + 1),acc.2.1,()) else some (0,acc.2.1,())
theorem Zjk (L:Nat)(x0:Zc):OD L (x0,())=bT (bT (bT (bT (bif decide ((↑x0.2.length:Int) > 32) then some (6,[],()) else Zo (GM x0 L) L (0,[],())) fun y=>some (y.1,y.2.1,())) fun y=>some (y.1,y.2.1,())) fun y=>bif y.1 != 0 then some (y.1,y.2.1,()) else bT (bT (bif decide ((↑x0.3.length:Int) > 32) then some (6,y.2.1,()) else Zo (GN x0 L) L (0,y.2.1,())) fun y=>some (y.1,y.2.1,())) fun y=>bif y.1 != 0 then some (y.1,y.2.1,()) else bT (bT (bif decide ((↑x0.4.length:Int) > 32) then some (6,y.2.1,()) else Zo (GU x0 L) L (0,y.2.1,())) fun y=>some (y.1,y.2.1,())) fun y=>bif y.1 != 0 then some (y.1,y.2.1,()) else bT (bT (bif decide ((↑x0.5.length:Int) > 32) then some (6,y.2.1,()) else Zo (GV x0 L) L (0,y.2.1,())) fun y=>some (y.1,y.2.1,())) fun y=>bif y.1 != 0 then some (y.1,y.2.1,()) else bT (bT (bT (bif decide ((↑x0.6.length:Int) > 32) then some (6,y.2.1,()) else Zo (GX x0 L) L (0,y.2.1,())) fun y=>some (y.1,y.2.1,())) fun y=>some (y.1,y.2.1,())) fun y=>bif y.1 != 0 then some (y.1,y.2.1,()) else bT (bT (bT (bif decide ((↑x0.7.length:Int) > 32) then some (6,y.2.1,()) else Zo (Aw x0 L) L (0,y.2.1,())) fun y=>some (y.1,y.2.1,())) fun y=>some (y.1,y.2.1,())) fun y=>bif y.1 != 0 then some (y.1,y.2.1,()) else bT (bT (bT (bif decide ((↑x0.8.length:Int) > 32) then some (6,y.2.1,()) else Zo (Az x0 L) L (0,y.2.1,())) fun y=>some (y.1,y.2.1,())) fun y=>some (y.1,y.2.1,())) fun y=>bif y.1 != 0 then some (y.1,y.2.1,()) else bT (bT (bT (bif decide ((↑x0.9.length:Int) > 32) then some (6,y.2.1,()) else Zo (A7 x0 L) L (0,y.2.1,())) fun y=>some (y.1,y.2.1,())) fun y=>some (y.1,y.2.1,())) fun y=>bif y.1 != 0 then some (y.1,y.2.1,()) else bT (bT (bT (bif decide ((↑x0.10.length:Int) > 32) then some (6,y.2.1,()) else Zo (A8 x0 L) L (0,y.2.1,())) fun y=>some (y.1,y.2.1,())) fun y=>some (y.1,y.2.1,())) fun y=>bif y.1 != 0 then some (y.1,y.2.1,()) else bT (bT (bif decide ((↑x0.11.length:Int) > 16) then some (6,y.2.1,()) else Zo (GY x0 L) L (0,y.2.1,())) fun y=>some (y.1,y.2.1,())) fun y=>bif y.1 != 0 then some (y.1,y.2.1,()) else bT (bT (bif decide ((↑x0.12.length:Int) > 32) then some (6,y.2.1,()) else Zo (XF x0 L) L (0,y.2.1,())) fun y=>some (y.1,y.2.1,())) fun y=>bif y.1 != 0 then some (y.1,y.2.1,()) else bT (bT (OC L (x0,())) fun y=>some y) fun y_1=>bif y_1 != 0 then some (y_1,y.2.1,()) else some (0,y.2.1,())) fun y=>some y.1:=by kernel_rfl
def ZeO:List (Inl tT):=[⟨60,VB,[.rnd [.slot 16 (.int .i64),.cont 1 (.map .str),.cont 2 (.map .str)]],.one (.int .i64),[(4,[.cont 1 (.map .str),.cont 2 (.map .str)])]⟩,⟨61,Bq,[],.one (.int .i64),[(5,[.cont 2 (.map .str)])]⟩,⟨62,WS,[],.one (.int .i64),[(4,[.cont 1 (.map .str)]),(6,[.cont 2 (.map .str)])]⟩,⟨59,XI,[],.one (.int .i64),[(2,[.cont 1 (.map .str)])]⟩,⟨107,Xy,[.rnd [.slot 16 (.int .i64),.cont 1 (.map .str)]],.one (.int .i64),[(2,[.cont 1 (.map .str)])]⟩,⟨108,XW,[],.one (.int .i64),[(3,[.cont 1 (.map .str)])]⟩]
def Hm (L:Nat)(x:WY×PUnit):Option Int:=fI [FD L,Zbn L,Ql L,O8 L,He L] L ZeO EQ [] (.one (.int .i64)) [.row 21] x
def FC (L:Nat):Sum tT:=mU 28 [.row 21] (.one (.int .i64)) (Hm L)
theorem Zh4:SX FC:=fun h=>sI h (Zg (Zh5 h) (Zg (ZjB h) (Zg (QM h) (Zg (Dy h) (Zg (MV h) Zz))))) (Zg ⟨h.T _ _ rfl,by kernel_rfl⟩ (Zg ⟨h.T _ _ rfl,by kernel_rfl⟩ (Zg ⟨h.T _ _ rfl,by kernel_rfl⟩ (Zg ⟨h.T _ _ rfl,by kernel_rfl⟩ (Zg ⟨h.T _ _ rfl,by kernel_rfl⟩ (Zg ⟨h.T _ _ rfl,by kernel_rfl⟩ Zz)))))) rfl (by kernel_rfl) fun _=>rfl
def OX:WY→Nat→(Int×List (List UInt8)×PUnit→Option (Int×List (List UInt8)×PUnit))→Int×List (List UInt8)×PUnit→Option (Int×List (List UInt8)×PUnit):=fun x0 L self acc=>bif decide (acc.1 < (↑x0.2.length:Int)) then bT (Z8 x0.2 acc.1) fun y=>bT (bT (bT (ZK L (y.1,())) fun y_1=>bif y_1 != 0 then some (y_1,acc.2.1,()) else bif hasK MK.str acc.2.1 y.1 then some (4,acc.2.1,()) else some (0,ZaD MK.str acc.2.1 y.1,())) fun y_1=>bif y_1.1 != 0 then some (y_1.1,y_1.2.1,()) else bT (V7 L (y.2,())) fun y_2=>bif !y_2 then some (1,y_1.2.1,()) else bT (J3 L (y.2,y.3,())) fun y=>bif !y then some (2,y_1.2.1,()) else some (0,y_1.2.1,())) fun y=>bif y.1 != 0 then some (y.1,y.2.1,()) else self (Go.IntKind.i64.wrap (acc.1 + 1),y.2.1,()) else some (0,acc.2.1,())
def OY:WY→Nat→(Int×List (List UInt8)×List (List UInt8)×PUnit→Option (Int×List (List UInt8)×List (List UInt8)×PUnit))→Int×List (List UInt8)×List (List UInt8)×PUnit→Option (Int×List (List UInt8)×List (List UInt8)×PUnit):=fun x0 L self acc=>bif decide (acc.1 < (↑x0.3.length:Int)) then bT (Z8 x0.3 acc.1) fun y=>bT (bT (bT (ZK L (y.1,())) fun y_1=>bif y_1 != 0 then some (y_1,acc.2.2.1,()) else bif hasK MK.str acc.2.2.1 y.1 then some (4,acc.2.2.1,()) else some (0,ZaD MK.str acc.2.2.1 y.1,())) fun y_1=>bif y_1.1 != 0 then some (y_1.1,y_1.2.1,()) else bT (OD L (y,())) fun y=>some (y,y_1.2.1,())) fun y=>bif y.1 != 0 then some (y.1,acc.2.1,y.2.1,()) else self (Go.IntKind.i64.wrap (acc.1 + 1),acc.2.1,y.2.1,()) else some (0,acc.2.1,acc.2.2.1,())
theorem Zhi (L:Nat)(x0:WY):Hm L (x0,())=bT (ZK L (x0.1,())) fun y=>bif y != 0 then some y else bT (bT (bif decide ((↑x0.2.length:Int) > 32) then some (6,[],()) else Zo (OX x0 L) L (0,[],())) fun y=>some (y.1,y.2.1,())) fun y=>bif y.1 != 0 then some y.1 else bif (↑x0.3.length:Int) == 0 then some 7 else bT (bif decide ((↑x0.3.length:Int) > 16) then some (6,y.2.1,[],()) else Zo (OY x0 L) L (0,y.2.1,[],())) fun y=>bif y.1 != 0 then some y.1 else bT (Ho L (x0,())) fun y=>some y:=by kernel_rfl
def KP (L:Nat)(x:Zm×PUnit):Option Int:=fT [NI L,Zev L,F7 L,FC L,Ql L] L Zat [.rnd [.slot 2 (.int .i64),.slot 34 (.int .i64),.cont 1 (.map .str)],.rnd [.slot 2 (.int .i64),.slot 71 (.int .i64),.cont 1 (.map .str)],.rnd [.slot 2 (.int .i64),.slot 79 (.int .i64),.cont 1 (.map .str)]] (.one (.int .i64)) [.row 19] x
def Zbf (L:Nat):Sum tT:=mU 11 [.row 19] (.one (.int .i64)) (KP L)
theorem Zj3:SX Zbf:=fun h=>sT h (Zg (Zfe h) (Zg (ZlC h) (Zg (Zh0 h) (Zg (Zh4 h) (Zg (QM h) Zz))))) rfl (by kernel_rfl) fun _=>rfl
def JF:Zm→Nat→(Int×Int×List (List UInt8)×PUnit→Option Int)→Int×Int×List (List UInt8)×PUnit→Z4→(Int×Int×List (List UInt8)×PUnit→Option Int)→Int×Int×List (List UInt8)×PUnit→Option Int:=fun x0 L self acc y self_1 acc_1=>bif decide (acc_1.2.1 < (↑y.2.length:Int)) then bT (Z8 y.2 acc_1.2.1) fun y=>bT (Qu L (x0,acc.2.1,y,())) fun y=>bif y != 0 then some y else self_1 (acc_1.1,Go.IntKind.i64.wrap (acc_1.2.1 + 1),acc_1.2.2.1,()) else self (acc_1.1,Go.IntKind.i64.wrap (acc.2.1 + 1),acc_1.2.2.1,())
def Vp:Zm→Nat→(Int×Int×List (List UInt8)×PUnit→Option Int)→Int×Int×List (List UInt8)×PUnit→Option Int:=fun x0 L self acc=>bif decide (acc.2.1 < (↑x0.2.length:Int)) then bT (Z8 x0.2 acc.2.1) fun y=>Zo (JF x0 L self acc y) L (acc.1,0,acc.2.2.1,()) else some 0
def JG:Zm→Nat→(Int×Int×List (List UInt8)×PUnit→Option Int)→Int×Int×List (List UInt8)×PUnit→Option Int:=fun x0 L self acc=>bif decide (acc.2.1 < (↑x0.2.length:Int)) then bT (Z8 x0.2 acc.2.1) fun y=>bT (Hm L (WY.mk x0.1 [] [y.1] [],())) fun y_1=>bif y_1 != 0 then some y_1 else bif hasK MK.str acc.2.2.1 y.Decl.1 then some 4 else bT (Hg L (y,())) fun y_2=>bif !y_2 then some 8 else self (acc.1,Go.IntKind.i64.wrap (acc.2.1 + 1),ZaD MK.str acc.2.2.1 y.Decl.1,()) else bT (IW L (x0,())) fun y=>bif y != 0 then some y else Zo (Vp x0 L) L (acc.1,0,acc.2.2.1,())
theorem Zja (L:Nat)(x0:Zm):KP L (x0,())=bT (ZK L (x0.1,())) fun y=>bif y != 0 then some y else bif (↑x0.2.length:Int) == 0 then some 7 else bif decide ((↑x0.2.length:Int) > 16) then some 6 else Zo (JG x0 L) L (0,0,[],()):=by kernel_rfl
def Uc (L:Nat)(x:Y8×PUnit):Option Bool:=fT [] L EP [.rnd [.slot 3 (.int .i64)]] (.one .bool) [.row 16] x
def FB (L:Nat):Sum tT:=mU 13 [.row 16] (.one .bool) (Uc L)
theorem Zh3:SX FB:=fun h=>sT h Zz rfl (by kernel_rfl) fun _=>rfl
def UJ:Y8→(Int×PUnit→Option Bool)→Int×PUnit→Option Bool:=fun x0 self acc=>bif decide (acc.1 < (↑x0.4.length:Int)) then bT (Z8 x0.4 acc.1) fun y=>bif decide ((↑y.7.length:Int) > 10) then some false else self (Go.IntKind.i64.wrap (acc.1 + 1),()) else some (decide ((↑x0.4.length:Int)≤60))
theorem Zhh (L:Nat)(x0:Y8):Uc L (x0,())=Zo (UJ x0) L (0,()):=by kernel_rfl
def IZ (L:Nat)(x:Zm×PUnit):Option Bool:=fT [Et L,FB L] L Zct [.rnd [.slot 2 .bool,.slot 3 (.int .i64)],.rnd [.slot 2 .bool,.slot 5 (.int .i64)],.rnd [.slot 2 .bool,.slot 6 (.int .i64)]] (.one .bool) [.row 19] x
def Zex (L:Nat):Sum tT:=mU 9 [.row 19] (.one .bool) (IZ L)
theorem ZlE:SX Zex:=fun h=>sT h (Zg (ZlF h) (Zg (Zh3 h) Zz)) rfl (by kernel_rfl) fun _=>rfl
def Kw:Nat→(Bool×Int×PUnit→Option Bool)→Bool×Int×PUnit→Z4→(Bool×Int×PUnit→Option Bool)→Bool×Int×PUnit→Option Bool:=fun L self acc y self_1 acc_1=>bif decide (acc_1.2.1 < (↑y.Decl.11.length:Int)) then bT (Z8 y.Decl.11 acc_1.2.1) fun y=>bT (UC L (y.4,())) fun y=>bif decide (y > 40) then some false else self_1 (acc_1.1,Go.IntKind.i64.wrap (acc_1.2.1 + 1),()) else self (acc_1.1,Go.IntKind.i64.wrap (acc.2.1 + 1),())
def Ky:Zm→Nat→(Bool×Int×PUnit→Option Bool)→Bool×Int×PUnit→Z4→(Bool×Int×PUnit→Option Bool)→Bool×Int×PUnit→Option Bool:=fun x0 L self acc y self_1 acc_1=>bT (Z8 x0.2 acc.2.1) fun y_1=>bif decide (acc_1.2.1 < (↑y_1.2.length:Int)) then bT (Z8 x0.2 acc.2.1) fun y=>bT (Z8 y.2 acc_1.2.1) fun y=>bT (Uc L (y,())) fun y=>bif !y then some false else self_1 (acc_1.1,Go.IntKind.i64.wrap (acc_1.2.1 + 1),()) else Zo (Kw L self acc y) L (acc_1.1,0,())
def Ov:Zm→Nat→(Bool×Int×PUnit→Option Bool)→Bool×Int×PUnit→Option Bool:=fun x0 L self acc=>bif decide (acc.2.1 < (↑x0.2.length:Int)) then bT (Z8 x0.2 acc.2.1) fun y=>bT (Z8 x0.2 acc.2.1) fun y_1=>bif decide ((↑y_1.2.length:Int) > 6) || decide ((↑y.Decl.11.length:Int) > 6) || decide (Go.IntKind.i64.wrap (Go.IntKind.i64.wrap (Go.IntKind.i64.wrap (Go.IntKind.i64.wrap (Go.IntKind.i64.wrap (Go.IntKind.i64.wrap ((↑y.Decl.2.length:Int) + (↑y.Decl.3.length:Int)) + (↑y.Decl.4.length:Int)) + (↑y.Decl.6.length:Int)) + (↑y.Decl.7.length:Int)) + (↑y.Decl.12.length:Int)) + (↑y.Decl.13.length:Int)) > 60) then some false else Zo (Ky x0 L self acc y) L (acc.1,0,()) else some (decide ((↑x0.2.length:Int)≤20) && decide ((↑x0.3.length:Int)≤40))
theorem ZkZ (L:Nat)(x0:Zm):IZ L (x0,())=Zo (Ov x0 L) L (false,0,()):=by kernel_rfl
end Go.Proofs.YtleomfgijkapfaaGreatDoor
end
section
namespace Go.Proofs.YtleomfgijkapfaaGreatDoor
open Go Go.Proofs.YtleomfgijkapfaaGreatDoor.Abs Go.Proofs.YtleomfgijkapfaaGreatDoor.Tl
set_option maxRecDepth 100000
theorem Zh {α:Type}(c:Bool)(a b:α):(bif c then some a else some b)=some (bif c then a else b):=by cases c <;> rfl
theorem Zi (c:Bool)(x:Option Bool):(bif c == true then x else some false)=bif c then x else some false:=by cases c <;> rfl
theorem condC (c:Bool)(x:Option Bool):(bif c == false then x else some true)=bif c then some true else x:=by cases c <;> rfl
theorem Zk (c x:Bool):(bif c == true then x else false)=(c && x):=by cases c <;> rfl
theorem Zj (c x:Bool):(bif c == false then x else true)=(c || x):=by cases c <;> rfl
theorem XE {α:Type}(c:Prop)[Decidable c](a b:α):(if c then some a else some b)=some (if c then a else b):=by split <;> rfl
theorem Y3 {α:Type}(c:Bool)(a b:α):(bif c then a else b)=if c=true then a else b:=by cases c <;> rfl
theorem Za {α:Type}(o:Option α):bT o (fun y=>some y)=o:=by cases o <;> rfl
theorem Zw {α:Type}[DecidableEq α](a b:α):(a != b)=!decide (a=b):=by
 by_cases h:a=b <;> simp [bne,h]
theorem Zx (a b:Int):(a == b)=decide (a=b):=by
 by_cases h:a=b <;> simp [h]
theorem Z5 (a b:List UInt8):(a == b)=decide (a=b):=by
 by_cases h:a=b <;> simp [h]
abbrev Len {α:Type}(l:List α):Prop:=l.length≤4611686018427387
theorem Zdu {τ ρ:Type}{f:(τ→Option ρ)→τ→Option ρ}(n:Nat)(pk:Int→τ)(R:Nat→Option ρ)
  (h1:∀ self (i:Nat),i < n→self (pk ((i:Int) + 1))=R (i + 1)→f self (pk i)=R i)
  (h2:∀ self,f self (pk n)=R n):∀ (m i:Nat),i≤n→n - i < m→Zo f m (pk i)=R i
 | 0,_,_,h=>absurd h (Nat.not_lt_zero _)
 | m + 1,i,hi,hm=>by
  show f (Zo f m) (pk i)=_
  rcases Nat.lt_or_ge i n with hlt | hge
  ·exact h1 _ i hlt (Zdu n pk R h1 h2 m (i + 1) hlt (by omega))
  ·have:i=n:=by omega
   subst this
   exact h2 _
theorem ZiF {τ α σ ρ:Type}{f:(τ→Option ρ)→τ→Option ρ}(l:List α)(pk:σ→Int→τ)(R:List α→σ→Option ρ)
  (h1:∀ self s (i:Nat) x r,l[i]? = some x→i < l.length→x ∈ l→(∀ s',self (pk s' ((i:Int) + 1))=R r s')→f self (pk s i)=R (x :: r) s)
  (h2:∀ self s,f self (pk s (l.length:Nat))=R [] s):∀ (m i:Nat) (s:σ),i≤l.length→l.length - i < m→Zo f m (pk s i)=R (l.drop i) s
 | 0,_,_,_,h=>absurd h (Nat.not_lt_zero _)
 | m + 1,i,s,hi,hm=>by
  show f (Zo f m) (pk s i)=_
  rcases Nat.lt_or_ge i l.length with hlt | hge
  ·have hx:=List.getElem?_eq_getElem hlt
   rw [List.drop_eq_getElem_cons hlt]
   exact h1 _ s i _ _ hx hlt (List.getElem_mem hlt) fun s'=>ZiF l pk R h1 h2 m (i + 1) s' hlt (by omega)
  ·have:i=l.length:=by omega
   subst this
   rw [h2,List.drop_length]
theorem Zb4 {α ρ:Type}{f:(Int×PUnit→Option ρ)→Int×PUnit→Option ρ}(l:List α)(R:List α→Option ρ){m:Nat}(hm:l.length < m)
  (h1:∀ self (i:Nat) x r,l[i]? = some x→i < l.length→x ∈ l→self ((i:Int) + 1,())=R r→f self ((i:Int),())=R (x :: r))
  (h2:∀ self,f self ((l.length:Int),())=R []):Zo f m (0,())=R l :=
 ZiF (σ := Unit) l (fun _ i=>(i,())) (fun l _=>R l) (fun self _ i x r a b c d=>h1 self i x r a b c (d ())) (fun self _=>h2 self) m 0 () (Nat.zero_le _) (by omega)
theorem Zk1 {α ρ:Type}{f:(Int×PUnit→Option ρ)→Int×PUnit→Option ρ}(l:List α)(R:List α→Int→Option ρ){m:Nat}(hm:l.length < m)
  (h1:∀ self (i:Nat) x r,l[i]? = some x→i < l.length→x ∈ l→self ((i:Int) + 1,())=R r ((i:Int) + 1)→f self ((i:Int),())=R (x :: r) i)
  (h2:∀ self,f self ((l.length:Int),())=R [] l.length):Zo f m (0,())=R l 0:=by
 have:=Zdu (f := f) l.length (fun i=>(i,())) (fun i=>R (l.drop i) i) (fun self i hi e=>by
  have hx:=List.getElem?_eq_getElem hi
  rw [List.drop_eq_getElem_cons hi]
  exact h1 self i _ _ hx hi (List.getElem_mem hi) e) (fun self=>by rw [List.drop_length]; exact h2 self) m 0 (Nat.zero_le _) (by omega)
 exact this
theorem Zb5 {α σ ρ:Type}{f:(σ×Int×PUnit→Option ρ)→σ×Int×PUnit→Option ρ}(l:List α)(R:List α→σ→Option ρ){m:Nat}(hm:l.length < m)(s:σ)
  (h1:∀ self s (i:Nat) x r,l[i]? = some x→i < l.length→x ∈ l→(∀ s',self (s',(i:Int) + 1,())=R r s')→f self (s,(i:Int),())=R (x :: r) s)
  (h2:∀ self s,f self (s,(l.length:Int),())=R [] s):Zo f m (s,0,())=R l s :=
 ZiF l (fun s i=>(s,i,())) R h1 h2 m 0 s (Nat.zero_le _) (by omega)
theorem ZeR {α β ρ:Type}{f:(Int×PUnit→Option ρ)→Int×PUnit→Option ρ}(l:List α)(l':List β)(hl:l.length=l'.length)(R:List α→List β→Option ρ){m:Nat}(hm:l.length < m)
  (h1:∀ self (i:Nat) x y r r',l[i]? = some x→l'[i]? = some y→i < l.length→x ∈ l→self ((i:Int) + 1,())=R r r'→f self ((i:Int),())=R (x :: r) (y :: r'))
  (h2:∀ self,f self ((l.length:Int),())=R [] []):Zo f m (0,())=R l l':=by
 have:=Zdu (f := f) l.length (fun i=>(i,())) (fun i=>R (l.drop i) (l'.drop i)) (fun self i hi e=>by
  have hx:=List.getElem?_eq_getElem hi
  have hy:=List.getElem?_eq_getElem (show i < l'.length by omega)
  rw [List.drop_eq_getElem_cons hi,List.drop_eq_getElem_cons (show i < l'.length by omega)]
  exact h1 self i _ _ _ _ hx hy hi (List.getElem_mem hi) e) (fun self=>by rw [List.drop_length,hl,List.drop_length]; rw [← hl]; exact h2 self) m 0 (Nat.zero_le _) (by omega)
 exact this
end Go.Proofs.YtleomfgijkapfaaGreatDoor
end
section
namespace Go.Proofs.YtleomfgijkapfaaGreatDoor
open Go Go.Proofs.YtleomfgijkapfaaGreatDoor.Abs Go.Proofs.YtleomfgijkapfaaGreatDoor.Tl
set_option maxRecDepth 100000
theorem ZmR (L:Nat)(n:Int):VS L (n,())=some (Zt8 n):=ZeW L n
theorem Zd9 (L:Nat)(n:Int):KU L (n,())=some (Zt8 n):=Zjn L n
theorem chainB (x:List UInt8):∀ l:List (List UInt8),(l.foldr (fun k r=>bif x == k then some true else r) (some false):Option Bool)=some (l.any fun k=>decide (x=k))
 | []=>rfl
 | k :: l=>by
  rw [List.foldr_cons,chainB x l,Z5,List.any_cons]
  cases decide (x=k) <;> rfl
theorem Zq0 (L:Nat)(s:List UInt8):Uf L (s,())=some (kwB s):=(ZdK L s).trans (chainB s kws)
theorem ZiP (L:Nat)(l:List (List UInt8))(s:List UInt8)(hl:Len l)(hL:l.length < L):J4 L (l,s,())=some (Iw (fun k=>decide (k=s)) l 0):=by
 rw [Zog]
 refine Zk1 l (fun l i=>some (Iw (fun k=>decide (k=s)) l i)) hL (fun self i x r hx hi _ e=>?_) (fun self=>?_)
 ·rw [Ec]; simp only [Ze,Zb,cond_true,cond_false,Zd,Zq,Za,Zi,condC,Zk,Zj,Zh,Zx,Z5,Zw,hi,hx,wrap_succ hi (by omega),e,Iw]; simp only [Y3,XE,if_true,if_false,Bool.false_eq_true,ne_eq,decide_not,gt_iff_lt,ge_iff_le]
 ·rw [Ec]; simp only [Ze,Zb,cond_true,cond_false,Zd,Zq,Za,Zi,condC,Zk,Zj,Zh,Zx,Z5,Zw,Iw]
theorem ZiT (L:Nat)(s:List UInt8)(hL:100≤L):Hr L (s,())=some (kwB s):=by
 rw [Zho,show UR L ()=some kws from ZeY L,Zq,ZiP L kws s (by decide) (by have:kws.length=73:=rfl; omega),Zq]
 have:=CG (fun k=>decide (k=s)) kws 0 (Int.le_refl _)
 rw [show decide (Iw (fun k=>decide (k=s)) kws 0 ≥ 0)=_ from this]
 unfold kwB
 congr 2; funext k; exact decide_eq_decide.2 ⟨Eq.symm,Eq.symm⟩
theorem ZmH (s:List UInt8):J5 s=bif (decide (s=[]) || decide ((s.length:Int) > 24)) || (!Zt8 ((s.headD 0).toNat)) || kwB s then 3 else bif s.all (fun x=>Zg0 x.toNat) then 0 else 3:=by
 cases s with
 | nil=>simp [J5]
 | cons c r =>
  simp only [J5,List.headD_cons,reduceCtorEq,decide_false,Bool.false_or]
  rw [show (decide ((((c :: r).length:Nat):Int) > 24))=decide (24 < (c :: r).length) from decide_eq_decide.2 (by omega)]
  by_cases h1:24 < (c :: r).length <;> cases Zt8 (c.toNat:Int) <;> cases kwB (c :: r) <;> cases (c :: r).all (fun x=>Zg0 x.toNat) <;> simp [h1]
theorem Zva (c:Bool)(x:UInt8):(!c && (decide ((x.toNat:Int) < 48) || decide ((x.toNat:Int) > 57)) && (!decide ((x.toNat:Int)=95)))=!(c || decide ((x.toNat:Int)=95) || (decide (48≤(x.toNat:Int)) && decide ((x.toNat:Int)≤57))):=by
 rw [show decide (48≤(x.toNat:Int))=!decide ((x.toNat:Int) < 48) by rw [← decide_not]; congr 1; exact propext Int.not_lt.symm,show decide ((x.toNat:Int)≤57)=!decide ((x.toNat:Int) > 57) by rw [← decide_not]; congr 1; exact propext Int.not_lt.symm]
 cases c <;> cases decide ((x.toNat:Int)=95) <;> cases decide ((x.toNat:Int) < 48) <;> cases decide ((x.toNat:Int) > 57) <;> rfl
theorem ZuZ (L:Nat)(s:List UInt8)(h:Len s)(hL:s.length < L):Zo (UL s L) L (0,())=some (bif s.all (fun x=>Zg0 x.toNat) then 0 else 3):=by
 refine Zb4 s (fun s=>some (bif s.all (fun x=>Zg0 x.toNat) then 0 else 3)) hL (fun self i x r hx hi _ e=>?_) (fun self=>?_)
 ·rw [UL]
  simp only [Ze,Zb,cond_true,cond_false,Zd,Zq,Za,Zi,condC,Zk,Zj,Zh,Zx,Z5,Zw,hi,hx,ZmR,wrap_succ hi (by omega),e,Zw,Zva,List.all_cons,Zg0]
  cases (Zt8 (x.toNat:Int) || decide ((x.toNat:Int)=95) || (decide (48≤(x.toNat:Int)) && decide ((x.toNat:Int)≤57))) <;> rfl
 ·rw [UL]; simp only [Ze,Zb,cond_true,cond_false,Zd,Zq,Za,Zi,condC,Zk,Zj,Zh,Zx,Z5,Zw,List.all_nil]
theorem X0 (L:Nat)(s:List UInt8)(h:Len s)(hL:s.length < L):ZK L (s,())=some (J5 s):=by
 rw [Zhm,ZuZ L s h hL,ZmH,Zt5]
 cases s with
 | nil=>rfl
 | cons c r =>
  simp only [Ze,Zb,cond_true,cond_false,Zd,Zq,Za,Zi,condC,Zk,Zj,Zh,Zx,Z5,Zw,List.getElem?_cons_zero,ZmR,Zq0,List.headD_cons,reduceCtorEq,decide_false,Bool.false_or,Bool.or_assoc]
theorem ZsY (L:Nat)(s:List UInt8)(h:Len s)(hL:s.length < L):Zo (Ox s L) L (0,())=some (bif s.all (fun x=>Zg0 x.toNat) then 0 else 3):=by
 refine Zb4 s (fun s=>some (bif s.all (fun x=>Zg0 x.toNat) then 0 else 3)) hL (fun self i x r hx hi _ e=>?_) (fun self=>?_)
 ·rw [Ox]
  simp only [Ze,Zb,cond_true,cond_false,Zd,Zq,Za,Zi,condC,Zk,Zj,Zh,Zx,Z5,Zw,hi,hx,Zd9,wrap_succ hi (by omega),e,Zw,List.all_cons,Zg0,Zi,condC,Zh]
  rw [show decide (48≤(x.toNat:Int))=!decide ((x.toNat:Int) < 48) by rw [← decide_not]; congr 1; exact propext Int.not_lt.symm,show decide ((x.toNat:Int)≤57)=!decide ((x.toNat:Int) > 57) by rw [← decide_not]; congr 1; exact propext Int.not_lt.symm]
  cases Zt8 (x.toNat:Int) <;> cases decide ((x.toNat:Int)=95) <;> cases decide ((x.toNat:Int) < 48) <;> cases decide ((x.toNat:Int) > 57) <;> rfl
 ·rw [Ox]; simp only [Ze,Zb,cond_true,cond_false,Zd,Zq,Za,Zi,condC,Zk,Zj,Zh,Zx,Z5,Zw,List.all_nil]
theorem U4 (L:Nat)(s:List UInt8)(h:Len s)(hL:s.length < L)(h1:100≤L):Q7 L (s,())=some (J5 s):=by
 rw [Zlc,ZsY L s h hL,ZmH,Zt5]
 cases s with
 | nil=>rfl
 | cons c r =>
  have:decide ((((c :: r).length:Nat):Int) < 1)=false:=by simp only [List.length_cons,decide_eq_false_iff_not]; omega
  simp only [Ze,Zb,cond_true,cond_false,Zd,Zq,Za,Zi,condC,Zk,Zj,Zh,Zx,Z5,Zw,List.getElem?_cons_zero,Zd9,ZiT L _ h1,List.headD_cons,this,reduceCtorEq,decide_false,Bool.false_or,Bool.or_assoc]
theorem Zu {α:Type}[SizeOf α]:∀ l:List α,l.length < SizeOf.sizeOf l
 | []=>by simp
 | x :: l=>by have:=Zu l; simp only [List.length_cons,List.cons.sizeOf_spec]; omega
theorem Ztg (d:YP):SizeOf.sizeOf d.Values < SizeOf.sizeOf d∧SizeOf.sizeOf d.Weights < SizeOf.sizeOf d:=by cases d; simp; omega
theorem ZiQ (L:Nat)(a b c:Int):Wy L (a,b,c,())=some (btw a b c):=Zhn L a b c
theorem Zcb (L:Nat)(lo hi:Int)(l:List Int)(h:Len l)(hL:l.length < L):YQ L (lo,hi,l,())=some (Qx lo hi l):=by
 have:=Zk1 (f := UI lo hi l) l (fun l i=>some (Iw (ZtI lo hi) l i)) hL (fun self i x r hx hi' _ e=>by
  rw [UI]; simp only [Ze,Zb,cond_true,cond_false,Zd,Zq,Za,Zi,condC,Zk,Zj,Zh,Zx,Z5,Zw,hi',hx,wrap_succ hi' (by omega),e,Iw]; simp only [Y3,XE,if_true,if_false,Bool.false_eq_true,ne_eq,decide_not,gt_iff_lt,ge_iff_le]; rfl) (fun self=>by rw [UI]; simp only [Ze,Zb,cond_true,cond_false,Zd,Zq,Za,Zi,condC,Zk,Zj,Zh,Zx,Z5,Zw,Iw])
 have h2:decide (Iw (ZtI lo hi) l 0 ≥ 0)=l.any (ZtI lo hi):=CG (ZtI lo hi) l 0 (Int.le_refl _)
 simp only [Zhf,this,Zq,h2,Qx]
theorem Zq9 (L:Nat)(h:2 < L)(lo hi a:Int):YQ L (lo,hi,[a],())=some (Qx lo hi [a]):=Zcb L lo hi [a] (by simp [Len]) (by simp; omega)
theorem ZqA (L:Nat)(h:2 < L)(lo hi a b:Int):YQ L (lo,hi,[a,b],())=some (Qx lo hi [a,b]):=Zcb L lo hi [a,b] (by simp [Len]) (by simpa using h)
theorem ZsQ (L:Nat)(d:YP)(h:Jq d):Hl L (d,())=some (E8 d):=by
 simp only [Ze,Zb,cond_true,cond_false,Zd,Zq,Za,Zi,condC,Zk,Zj,Zh,Zx,Z5,Zw,Zhe,h.wr,E8]; simp only [Y3,XE,if_true,if_false,Bool.false_eq_true,ne_eq,decide_not,gt_iff_lt,ge_iff_le]
theorem ML (L:Nat)(d:YP)(h:Jq d)(hL:SizeOf.sizeOf d < L)(h1:100≤L):QQ L (d,())=some (RZ d):=by
 have hs:d.Values.length < L∧d.Weights.length < L:=by
  have:=Zu d.Values; have:=Zu d.Weights; have:=Ztg d; omega
 simp only [Ze,Zb,cond_true,cond_false,Zd,Zq,Za,Zi,condC,Zk,Zj,Zh,Zx,Z5,Zw,Zjd,ZsQ L d h,RZ,Zcb L _ _ _ h.v hs.1,Zcb L _ _ _ h.w hs.2,Zq9 L (by omega),ZqA L (by omega)]
 simp only [Y3,XE,if_true,if_false,Bool.false_eq_true,ne_eq,decide_not,gt_iff_lt,ge_iff_le]
theorem ZkL (L:Nat)(d:YP):OG L (d,())=some (Ze5 d):=by
 simp only [Ze,Zb,cond_true,cond_false,Zd,Zq,Za,Zi,condC,Zk,Zj,Zh,Zx,Z5,Zw,Zjm,Ze5]; simp only [Y3,XE,if_true,if_false,Bool.false_eq_true,ne_eq,decide_not,gt_iff_lt,ge_iff_le]
theorem ZvC (L:Nat)(d:YP)(h:Jq d)(hL:SizeOf.sizeOf d < L):Lp L (d,())=some (Znq d):=by
 have hs:d.Values.length < L∧d.Weights.length < L:=by
  have:=Zu d.Values; have:=Zu d.Weights; have:=Ztg d; omega
 rw [Zlb,Znq]
 by_cases hl:d.Values.length=d.Weights.length
 ·rw [ZeR d.Values d.Weights hl (fun l m=>some (ZtZ l m)) hs.1 (fun self i x y r r' hx hy hi _ e=>by
   have hv:=h.v
   rw [BX]; simp only [Ze,Zb,cond_true,cond_false,Zd,Zq,Za,Zi,condC,Zk,Zj,Zh,Zx,Z5,Zw,hi,hx,hy,ZiQ,wrap_succ hi (by omega),e,ZtZ]; simp only [Y3,XE,if_true,if_false,Bool.false_eq_true,ne_eq,decide_not,gt_iff_lt,ge_iff_le]) (fun self=>by rw [BX]; simp only [Ze,Zb,cond_true,cond_false,Zd,Zq,Za,Zi,condC,Zk,Zj,Zh,Zx,Z5,Zw,ZtZ])]
  simp only [Ze,Zb,cond_true,cond_false,Zd,Zq,Za,Zi,condC,Zk,Zj,Zh,Zx,Z5,Zw]; simp only [Y3,XE,if_true,if_false,Bool.false_eq_true,ne_eq,decide_not,gt_iff_lt,ge_iff_le]
 ·simp only [Y3,XE,if_true,if_false,Bool.false_eq_true,ne_eq,decide_not,gt_iff_lt,ge_iff_le,Zx,Zw,Bool.not_false,show decide ((d.Values.length:Int)=d.Weights.length)=false by simp only [decide_eq_false_iff_not]; omega]
theorem Pn (L:Nat)(d:YP)(h:Jq d)(hL:SizeOf.sizeOf d < L):Jn L (d,())=some (RZ d):=by
 rw [← Zg3]
 simp only [Ze,Zb,cond_true,cond_false,Zd,Zq,Za,Zi,condC,Zk,Zj,Zh,Zx,Z5,Zw,Zla,ZkL,ZrP,ZiQ,ZvC L d h hL]; simp only [Y3,XE,if_true,if_false,Bool.false_eq_true,ne_eq,decide_not,gt_iff_lt,ge_iff_le]
end Go.Proofs.YtleomfgijkapfaaGreatDoor
end
section
namespace Go.Proofs.YtleomfgijkapfaaGreatDoor
open Go Go.Proofs.YtleomfgijkapfaaGreatDoor.Abs Go.Proofs.YtleomfgijkapfaaGreatDoor.Tl
set_option maxRecDepth 100000
theorem Zrh (e:Zt):SizeOf.sizeOf e.Kids < SizeOf.sizeOf e∧SizeOf.sizeOf e.Name < SizeOf.sizeOf e:=by cases e; simp; omega
theorem Yk.nl {e:Zt}(h:Yk e):Len e.Name:=by have:=h.n; unfold Len; omega
theorem ZiX (L:Nat):∀ (m:Nat) (e:Zt),Yk e→SizeOf.sizeOf e≤m→m≤L→Hz L m (e,())=some (Zpt e)
 | 0,e,h,hs,_=>absurd hs (by have:=NH e; omega)
 | m + 1,e,h,hs,hm=>by
  have hk:=Zu e.Kids; have hz:=Zrh e; have hl:=h.k
  rw [Zjg,Zpu]
  refine Zb5 e.Kids (fun l s=>some (sumW Zpt l s)) (by omega) 1 (fun self s i x r hx hi mem e'=>?_) (fun self s=>?_)
  ·have ih:=ZiX L m x (h.Kids.2 x mem) (by have:=Aq mem; omega) (by omega)
   rw [MJ]; simp only [Ze,Zb,cond_true,cond_false,Zd,Zq,Za,Zi,condC,Zk,Zj,Zh,Zx,Z5,Zw,hi,hx,ih,wrap_succ hi (by omega),e',sumW]
  ·rw [MJ]; simp only [Ze,Zb,cond_true,cond_false,Zd,Zq,Za,Zi,condC,Zk,Zj,Zh,Zx,Z5,Zw,sumW]
theorem ZiZ (L:Nat):∀ (m:Nat) (e:Zt),Yk e→SizeOf.sizeOf e≤m→m≤L→OQ L m (e,())=some (Zpt e)
 | 0,e,h,hs,_=>absurd hs (by have:=NH e; omega)
 | m + 1,e,h,hs,hm=>by
  have hk:=Zu e.Kids; have hz:=Zrh e; have hl:=h.k
  rw [Zlg,Zpu]
  refine Zb5 e.Kids (fun l s=>some (sumW Zpt l s)) (by omega) 1 (fun self s i x r hx hi mem e'=>?_) (fun self s=>?_)
  ·have ih:=ZiZ L m x (h.Kids.2 x mem) (by have:=Aq mem; omega) (by omega)
   rw [Dc]; simp only [Ze,Zb,cond_true,cond_false,Zd,Zq,Za,Zi,condC,Zk,Zj,Zh,Zx,Z5,Zw,hi,hx,ih,wrap_succ hi (by omega),e',sumW]
  ·rw [Dc]; simp only [Ze,Zb,cond_true,cond_false,Zd,Zq,Za,Zi,condC,Zk,Zj,Zh,Zx,Z5,Zw,sumW]
theorem ZiW (L:Nat):∀ (m:Nat) (e:Zt),Yk e→SizeOf.sizeOf e≤m→m≤L→Hy L m (e,())=some (ZoG e)
 | 0,e,h,hs,_=>absurd hs (by have:=NH e; omega)
 | m + 1,e,h,hs,hm=>by
  have hk:=Zu e.Kids; have hz:=Zrh e; have hl:=h.k
  rw [Zjf,Zpy]
  refine Zb5 e.Kids (fun l s=>some (IntKind.i64.wrap (Zst ZoG l s + 1))) (by omega) 0 (fun self s i x r hx hi mem e'=>?_) (fun self s=>?_)
  ·have ih:=ZiW L m x (h.Kids.2 x mem) (by have:=Aq mem; omega) (by omega)
   rw [MI]; simp only [Ze,Zb,cond_true,cond_false,Zd,Zq,Za,Zi,condC,Zk,Zj,Zh,Zx,Z5,Zw,hi,hx,ih,wrap_succ hi (by omega),e',Zst]
  ·rw [MI]; simp only [Ze,Zb,cond_true,cond_false,Zd,Zq,Za,Zi,condC,Zk,Zj,Zh,Zx,Z5,Zw,Zst]
theorem ZiY (L:Nat):∀ (m:Nat) (e:Zt),Yk e→SizeOf.sizeOf e≤m→m≤L→OO L m (e,())=some (ZoG e)
 | 0,e,h,hs,_=>absurd hs (by have:=NH e; omega)
 | m + 1,e,h,hs,hm=>by
  have hk:=Zu e.Kids; have hz:=Zrh e; have hl:=h.k
  rw [Zlf,Zpy]
  refine Zb5 e.Kids (fun l s=>some (IntKind.i64.wrap (Zst ZoG l s + 1))) (by omega) 0 (fun self s i x r hx hi mem e'=>?_) (fun self s=>?_)
  ·have ih:=ZiY L m x (h.Kids.2 x mem) (by have:=Aq mem; omega) (by omega)
   rw [BZ]; simp only [Ze,Zb,cond_true,cond_false,Zd,Zq,Za,Zi,condC,Zk,Zj,Zh,Zx,Z5,Zw,hi,hx,ih,wrap_succ hi (by omega),e',Zst]
  ·rw [BZ]; simp only [Ze,Zb,cond_true,cond_false,Zd,Zq,Za,Zi,condC,Zk,Zj,Zh,Zx,Z5,Zw,Zst]
theorem ZmT (L:Nat)(n:Int):Ub L (n,())=some (Zqm n):=Zhg L n
theorem ZtM (L:Nat)(n:Int):IY L (n,())=some (ZiC n):=by
 simp only [Ze,Zb,cond_true,cond_false,Zd,Zq,Za,Zi,condC,Zk,Zj,Zh,Zx,Z5,Zw,ZkY,ZiC]; simp only [Y3,XE,if_true,if_false,Bool.false_eq_true,ne_eq,decide_not,gt_iff_lt,ge_iff_le]
theorem Zv2 (L:Nat)(k:Xf)(n:Int):X7 L (k,n,())=some (Zdt k.1 n):=by
 simp only [Ze,Zb,cond_true,cond_false,Zd,Zq,Za,Zi,condC,Zk,Zj,Zh,Zx,Z5,Zw,SV,ZtM,Zdt]; simp only [Y3,XE,if_true,if_false,Bool.false_eq_true,ne_eq,decide_not,gt_iff_lt,ge_iff_le]
theorem Zv4 (L:Nat)(k:Xf)(n:Int):Q3 L (k,n,())=some (ZfQ k.1 n):=by
 simp only [Ze,Zb,cond_true,cond_false,Zd,Zq,Za,Zi,condC,Zk,Zj,Zh,Zx,Z5,Zw,SY,ZmT,ZfQ]
theorem Zq3 (L:Nat)(k:Xf)(n:Int):QP L (k,n,())=some ((Zrt k.1 n).1,(Zrt k.1 n).2.1,(Zrt k.1 n).2.2,()):=by
 simp only [Ze,Zb,cond_true,cond_false,Zd,Zq,Za,Zi,condC,Zk,Zj,Zh,Zx,Z5,Zw,BV,ZmT,Zrt]
 cases decide (n=2) <;> cases decide (n=25) <;> cases decide (n=26) <;> cases Zqm n <;> cases k.1 <;> rfl
theorem Zzk (L:Nat)(n:Int):P9 L (n,())=some (inB n):=ZsU L n
theorem ZxA (L:Nat)(k:Xf)(e:Zt)(h:Yk e)(hL:SizeOf.sizeOf e≤L):XQ L (k,e,())=some (Zb7 k.1 e):=by
 have hn:=X0 L e.Name h.nl (by have:=Zu e.Name; have:=Zrh e; omega)
 simp only [Ze,Zb,cond_true,cond_false,Zd,Zq,Za,Zi,condC,Zk,Zj,Zh,Zx,Z5,Zw,AU,Zv2,ZtM,Zv4,Zq3,Zzk,hn,Zb7]; simp only [Y3,XE,if_true,if_false,Bool.false_eq_true,ne_eq,decide_not,gt_iff_lt,ge_iff_le,Bool.or_assoc]
theorem ZmZ (L:Nat)(k:Xf):∀ (m:Nat) (e:Zt),Yk e→SizeOf.sizeOf e≤m→m≤L→Xe L m (k,e,())=some (Uu k.1 e)
 | 0,e,h,hs,_=>absurd hs (by have:=NH e; omega)
 | m + 1,e,h,hs,hm=>by
  have hk:=Zu e.Kids; have hz:=Zrh e; have hl:=h.k
  have lp:Zo (Xb m k e L) L (0,())=some (Y2 (Uu k.1) e.Kids):=by
   refine Zb4 e.Kids (fun l=>some (Y2 (Uu k.1) l)) (by omega) (fun self i x r hx hi mem e'=>?_) (fun self=>?_)
   ·have ih:=ZmZ L k m x (h.Kids.2 x mem) (by have:=Aq mem; omega) (by omega)
    rw [Xb]; simp only [Ze,Zb,cond_true,cond_false,Zd,Zq,Za,Zi,condC,Zk,Zj,Zh,Zx,Z5,Zw,hi,hx,ih,wrap_succ hi (by omega),e',Y2]; simp only [Y3,XE,if_true,if_false,Bool.false_eq_true,ne_eq,decide_not,gt_iff_lt,ge_iff_le]
   ·rw [Xb]; simp only [Ze,Zb,cond_true,cond_false,Zd,Zq,Za,Zi,condC,Zk,Zj,Zh,Zx,Z5,Zw,Y2]
  rw [Ea,Zdy,lp,ZxA L k e h (by omega)]
  simp only [Ze,Zb,cond_true,cond_false,Zd,Zq,Za,Zi,condC,Zk,Zj,Zh,Zx,Z5,Zw]; simp only [Y3,XE,if_true,if_false,Bool.false_eq_true,ne_eq,decide_not,gt_iff_lt,ge_iff_le]
theorem ZmQ (L:Nat)(k:Xf)(e:Zt)(h:Yk e)(hL:SizeOf.sizeOf e≤L):Qz L (k,e,())=some (QI k.1 e):=by
 simp only [Ze,Zb,cond_true,cond_false,Zd,Zq,Za,Zi,condC,Zk,Zj,Zh,Zx,Z5,Zw,SS,show DV L (e,())=_ from ZiX L L e h hL (Nat.le_refl _),show DU L (e,())=_ from ZiW L L e h hL (Nat.le_refl _),show Jm L (k,e,())=_ from ZmZ L k L e h hL (Nat.le_refl _),QI]; simp only [Y3,XE,if_true,if_false,Bool.false_eq_true,ne_eq,decide_not,gt_iff_lt,ge_iff_le]
theorem ZkI (L:Nat)(e:Zt)(h:Yk e)(hL:SizeOf.sizeOf e≤L):QF L (e,())=some (QI true e):=by
 simp only [Ze,Zb,cond_true,cond_false,Zd,Zq,Za,Zi,condC,Zk,Zj,Zh,Zx,Z5,Zw,ZbB,ZmQ L _ e h hL]
theorem ZgV (L:Nat)(e:Zt)(h:Yk e)(hL:SizeOf.sizeOf e≤L):KT L (e,())=some (QI false e):=by
 simp only [Ze,Zb,cond_true,cond_false,Zd,Zq,Za,Zi,condC,Zk,Zj,Zh,Zx,Z5,Zw,Zje,ZmQ L _ e h hL]
theorem Zv7 (L:Nat)(n:Int):PD L (n,())=some (inB n):=ZsV L n
theorem Zq5 (L:Nat)(n:Int):KW L (n,())=some (Zqm n):=Zjo L n
theorem Zvy (L:Nat)(n:Int):Lr L (n,())=some (ZcO n):=by
 simp only [Ze,Zb,cond_true,cond_false,Zd,Zq,Za,Zi,condC,Zk,Zj,Zh,Zx,Z5,Zw,Zld,ZcO]; simp only [Y3,XE,if_true,if_false,Bool.false_eq_true,ne_eq,decide_not,gt_iff_lt,ge_iff_le]
theorem Zx9 (L:Nat)(n:Int):PE L (n,())=some (Zsx n):=by
 simp only [Ze,Zb,cond_true,cond_false,Zd,Zq,Za,Zi,condC,Zk,Zj,Zh,Zx,Z5,Zw,Zoi,Zsx]; simp only [Y3,XE,if_true,if_false,Bool.false_eq_true,ne_eq,decide_not,gt_iff_lt,ge_iff_le]
theorem Zw2 (a b d:Bool)(n r:Int):(if a=true then 1 else if b=true then 2 else if (d && !decide (n=0))=true then n else r) =
  if (!decide ((if a=true then 1 else if b=true then 2 else if (d && !decide (n=0))=true then n else 0)=0))=true then (if a=true then 1 else if b=true then 2 else if (d && !decide (n=0))=true then n else 0) else r:=by
 cases a <;> cases b <;> cases d <;> by_cases h:n=0 <;> simp [h]
theorem Zna (L:Nat)(c:Bool)(h1:100≤L):∀ (m:Nat) (e:Zt),Yk e→SizeOf.sizeOf e≤m→m≤L→LK L m (e,c,())=some (Uu c e)
 | 0,e,h,hs,_=>absurd hs (by have:=NH e; omega)
 | m + 1,e,h,hs,hm=>by
  have hk:=Zu e.Kids; have hz:=Zrh e; have hl:=h.k
  have lp:Zo (MM m e c L) L (0,())=some (Y2 (Uu c) e.Kids):=by
   refine Zb4 e.Kids (fun l=>some (Y2 (Uu c) l)) (by omega) (fun self i x r hx hi mem e'=>?_) (fun self=>?_)
   ·have ih:=Zna L c h1 m x (h.Kids.2 x mem) (by have:=Aq mem; omega) (by omega)
    rw [MM]; simp only [Ze,Zb,cond_true,cond_false,Zd,Zq,Za,Zi,condC,Zk,Zj,Zh,Zx,Z5,Zw,hi,hx,ih,wrap_succ hi (by omega),e',Y2]; simp only [Y3,XE,if_true,if_false,Bool.false_eq_true,ne_eq,decide_not,gt_iff_lt,ge_iff_le]
   ·rw [MM]; simp only [Ze,Zb,cond_true,cond_false,Zd,Zq,Za,Zi,condC,Zk,Zj,Zh,Zx,Z5,Zw,Y2]
  have hn:=U4 L e.Name h.nl (by have:=Zu e.Name; omega) h1
  rw [← Zql]
  simp only [Ze,Zb,cond_true,cond_false,Zd,Zq,Za,Zi,condC,Zk,Zj,Zh,Zx,Z5,Zw,Zoj,lp,Zvy,Zq5,Zv7,Zx9,hn,ZnL]; simp only [Y3,XE,if_true,if_false,Bool.false_eq_true,ne_eq,decide_not,gt_iff_lt,ge_iff_le,Bool.or_assoc]
  exact congrArg some (Zw2 _ _ _ _ _)
theorem ZmU (L:Nat)(c:Bool)(h1:100≤L)(e:Zt)(h:Yk e)(hL:SizeOf.sizeOf e≤L):Oa L (e,c,())=some (QI c e):=by
 simp only [Ze,Zb,cond_true,cond_false,Zd,Zq,Za,Zi,condC,Zk,Zj,Zh,Zx,Z5,Zw,Zlh,show ED L (e,())=_ from ZiZ L L e h hL (Nat.le_refl _),show EC L (e,())=_ from ZiY L L e h hL (Nat.le_refl _),show Zan L (e,c,())=_ from Zna L c h1 L e h hL (Nat.le_refl _),QI]; simp only [Y3,XE,if_true,if_false,Bool.false_eq_true,ne_eq,decide_not,gt_iff_lt,ge_iff_le]
theorem ZiU (L:Nat)(h1:100≤L)(e:Zt)(h:Yk e)(hL:SizeOf.sizeOf e≤L):Ug L (e,())=some (QI true e):=by
 simp only [Ze,Zb,cond_true,cond_false,Zd,Zq,Za,Zi,condC,Zk,Zj,Zh,Zx,Z5,Zw,ZdL,ZmU L _ h1 e h hL]
theorem ZgX (L:Nat)(h1:100≤L)(e:Zt)(h:Yk e)(hL:SizeOf.sizeOf e≤L):W9 L (e,())=some (QI false e):=by
 simp only [Ze,Zb,cond_true,cond_false,Zd,Zq,Za,Zi,condC,Zk,Zj,Zh,Zx,Z5,Zw,Zle,ZmU L _ h1 e h hL]
theorem ZgW (L:Nat)(a b:List Int)(h:Len a)(hL:a.length < L):Yr L (a,b,())=some (decide (a=b)):=by
 rw [TK]
 by_cases hl:a.length=b.length
 ·rw [ZeR a b hl (fun l m=>some (decide (l=m))) hL (fun self i x y r r' hx hy hi _ e=>by
   rw [QW]; simp only [Ze,Zb,cond_true,cond_false,Zd,Zq,Za,Zi,condC,Zk,Zj,Zh,Zx,Z5,Zw,hi,hx,hy,wrap_succ hi (by omega),e,List.cons.injEq,Bool.decide_and]; cases decide (x=y) <;> rfl) (fun self=>by rw [QW]; simp only [Ze,Zb,cond_true,cond_false,Zd,Zq,Za,Zi,condC,Zk,Zj,Zh,Zx,Z5,Zw,decide_true])]
  rw [Zw,show decide ((a.length:Int)=b.length)=true by simp only [decide_eq_true_eq]; omega]; rfl
 ·rw [Zw,show decide ((a.length:Int)=b.length)=false by simp only [decide_eq_false_iff_not]; omega]
  have:a≠b:=fun e=>hl (by rw [e])
  simp [this]
theorem ZfY (L:Nat)(a b:List Int)(h:Len a)(hL:a.length < L):VT L (a,b,())=some (decide (a=b)):=by
 rw [ZeX]
 by_cases hl:a.length=b.length
 ·rw [ZeR a b hl (fun l m=>some (decide (l=m))) hL (fun self i x y r r' hx hy hi _ e=>by
   rw [Iy]; simp only [Ze,Zb,cond_true,cond_false,Zd,Zq,Za,Zi,condC,Zk,Zj,Zh,Zx,Z5,Zw,hi,hx,hy,wrap_succ hi (by omega),e,List.cons.injEq,Bool.decide_and]; cases decide (x=y) <;> rfl) (fun self=>by rw [Iy]; simp only [Ze,Zb,cond_true,cond_false,Zd,Zq,Za,Zi,condC,Zk,Zj,Zh,Zx,Z5,Zw,decide_true])]
  rw [Zw,show decide ((a.length:Int)=b.length)=true by simp only [decide_eq_true_eq]; omega]; rfl
 ·rw [Zw,show decide ((a.length:Int)=b.length)=false by simp only [decide_eq_false_iff_not]; omega]
  have:a≠b:=fun e=>hl (by rw [e])
  simp [this]
theorem Zd8 (L:Nat)(a b:YP)(h:Jq a)(hL:SizeOf.sizeOf a≤L):Qg L (a,b,())=some (Ziu a b):=by
 have h1:=Zu a.Values; have h2:=Zu a.Weights; have h3:=Ztg a
 simp only [Ze,Zb,cond_true,cond_false,Zd,Zq,Za,Zi,condC,Zk,Zj,Zh,Zx,Z5,Zw,ZkX,ZgW L a.Values _ h.v (by omega),ZgW L a.Weights _ h.w (by omega),Ziu]
theorem AO (L:Nat)(a b:YP)(h:Jq a)(hL:SizeOf.sizeOf a≤L):QG L (a,b,())=some (Ziu a b):=by
 have h1:=Zu a.Values; have h2:=Zu a.Weights; have h3:=Ztg a
 simp only [Ze,Zb,cond_true,cond_false,Zd,Zq,Za,Zi,condC,Zk,Zj,Zh,Zx,Z5,Zw,Zof,ZfY L a.Values _ h.v (by omega),ZfY L a.Weights _ h.w (by omega),Ziu]
theorem Zwn {α β:Type}(a:List α)(b:List β):(a.length=b.length∧decide ((a.length:Int)=(b.length:Int))=true)∨(a.length≠b.length∧decide ((a.length:Int)=(b.length:Int))=false):=by
 by_cases h:a.length=b.length
 ·exact .inl ⟨h,by simp only [decide_eq_true_eq]; omega⟩
 ·exact .inr ⟨h,by simp only [decide_eq_false_iff_not]; omega⟩
theorem ZmY (L:Nat):∀ (m:Nat) (a b:Zt),Yk a→SizeOf.sizeOf a≤m→m≤L→OL L m (a,b,())=some (Ba a b)
 | 0,e,_,h,hs,_=>absurd hs (by have:=NH e; omega)
 | m + 1,e,b,h,hs,hm=>by
  have hk:=Zu e.Kids; have hz:=Zrh e; have hl:=h.k
  rw [Zch]
  rcases Zwn e.Kids b.Kids with ⟨hl1,hl2⟩ | ⟨hl1,hl2⟩
  ·have lp:Zo (Ou m e b L) L (0,())=some (all2 Ba e.Kids b.Kids):=by
    refine ZeR e.Kids b.Kids hl1 (fun l l'=>some (all2 Ba l l')) (by omega) (fun self i x y r r' hx hy hi mem e'=>?_) (fun self=>?_)
    ·have ih:=ZmY L m x y (h.Kids.2 x mem) (by have:=Aq mem; omega) (by omega)
     rw [Ou]; simp only [Ze,Zb,cond_true,cond_false,Zd,Zq,Za,Zi,condC,Zk,Zj,Zh,Zx,Z5,Zw,hi,hx,hy,ih,wrap_succ hi (by omega),e',all2]; simp only [Y3,XE,if_true,if_false,Bool.false_eq_true,ne_eq,decide_not,gt_iff_lt,ge_iff_le]
    ·rw [Ou]; simp only [Ze,Zb,cond_true,cond_false,Zd,Zq,Za,Zi,condC,Zk,Zj,Zh,Zx,Z5,Zw,all2]
   simp only [Ze,Zb,cond_true,cond_false,Zd,Zq,Za,Zi,condC,Zk,Zj,Zh,Zx,Z5,Zw,ZdG,lp,Zi9,hl2]; simp only [Y3,XE,if_true,if_false,Bool.false_eq_true,ne_eq,decide_not,gt_iff_lt,ge_iff_le,hl2]
  ·simp only [Ze,Zb,cond_true,cond_false,Zd,Zq,Za,Zi,condC,Zk,Zj,Zh,Zx,Z5,Zw,ZdG,Zi9,hl2,Bool.not_false,Bool.or_true]; simp only [Y3,XE,if_true,if_false,Bool.false_eq_true,ne_eq,decide_not,gt_iff_lt,ge_iff_le,hl2,Bool.not_false,Bool.or_true]
theorem ZkK (L:Nat)(a b:Zt)(h:Yk a)(hL:SizeOf.sizeOf a≤L):Q4 L (a,b,())=some (Ba a b):=ZmY L L a b h hL (Nat.le_refl _)
end Go.Proofs.YtleomfgijkapfaaGreatDoor
end
