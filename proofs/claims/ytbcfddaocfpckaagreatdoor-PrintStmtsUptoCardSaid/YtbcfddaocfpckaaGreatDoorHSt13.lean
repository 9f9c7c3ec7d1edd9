import Derived.Test.YtbcfddaocfpckaaGreatDoorHSt12
set_option linter.all false
noncomputable section
namespace Go.Proofs.YtbcfddaocfpckaaGreatDoor
open Go Go.Proofs.YtbcfddaocfpckaaGreatDoor.Abs Go.Proofs.YtbcfddaocfpckaaGreatDoor.Tl
set_option maxRecDepth 100000
set_option maxHeartbeats 0
def XW (L:Nat)(x:Int×PUnit):Option (List UInt8):=fT [] L LX [] (.one .str) [.int .i64] x
def YY (L:Nat):Sum tT:=mU 75 [.int .i64] (.one .str) (XW L)
theorem QM:SX YY:=fun h=>sT h Zn rfl (by kernel_rfl) fun _=>rfl
theorem Zah (L:Nat)(x0:Int):XW L (x0,())=bif x0 == 19 then some [111,114] else bif x0 == 18 then some [97,110,100] else bif x0 == 14 then some [61] else bif x0 == 15 then some [33,61] else bif x0 == 16 then some [60] else bif x0 == 17 then some [60,61] else bif x0 == 9 then some [43] else bif x0 == 10 then some [45] else bif x0 == 11 then some [42] else bif x0 == 12 then some [47] else bif x0 == 13 then some [37] else some []:=by kernel_rfl
def Xp (L:Nat)(x:Zi×PUnit):Option Int:=fT [] L OB [] (.one (.int .i64)) [.row 8] x
def YD (L:Nat):Sum tT:=mU 72 [.row 8] (.one (.int .i64)) (Xp L)
theorem Qa:SX YD:=fun h=>sT h Zn rfl (by kernel_rfl) fun _=>rfl
theorem Et (L:Nat)(x0:Zi):Xp L (x0,())=bif x0.1 == 19 then some 1 else bif x0.1 == 18 then some 2 else bif x0.1 == 6 then some 3 else bif x0.1 == 14 then some 4 else bif x0.1 == 15 then some 4 else bif x0.1 == 16 then some 4 else bif x0.1 == 17 then some 4 else bif x0.1 == 9 then some 5 else bif x0.1 == 10 then some 5 else bif x0.1 == 11 then some 6 else bif x0.1 == 12 then some 6 else bif x0.1 == 13 then some 6 else bif x0.1 == 5 then some 7 else some 8:=by kernel_rfl
def Z9 (L:Nat):Nat→List (Sum tT)
 | 0=>[⟨74,[.row 8,.int .i64],fun _=>.par _ none ((.one (.str):RD).tv tT)⟩,⟨151,[.lst 4 (.row 8)],fun _=>.par _ none ((.one (.str):RD).tv tT)⟩,⟨73,[.row 8],fun _=>.par _ none ((.one (.str):RD).tv tT)⟩,⟨32,[.row 8],fun _=>.par _ none ((.one (.str):RD).tv tT)⟩]
 | m + 1=>[⟨74,[.row 8,.int .i64],fun x=>.par _ (fnT tF tG (qOf tF (Z9 L m ++ [XI,YD L,YY L])) 0 L Vf [] (.one (.str)) (tvL tT [.row 8,.int .i64] x) []) ((.one (.str):RD).tv tT)⟩,⟨151,[.lst 4 (.row 8)],fun x=>.par _ (fnT tF tG (qOf tF (Z9 L m ++ [XI,YD L,YY L])) 0 L GV [.rnd [.slot 3 (.str),.slot 4 (.int .i64)]] (.one (.str)) (tvL tT [.lst 4 (.row 8)] x) []) ((.one (.str):RD).tv tT)⟩,⟨73,[.row 8],fun x=>.par _ (fnT tF tG (qOf tF (Z9 L m ++ [XI,YD L,YY L])) 0 L GU [] (.one (.str)) (tvL tT [.row 8] x) []) ((.one (.str):RD).tv tT)⟩,⟨32,[.row 8],fun x=>.par _ (fnT tF tG (qOf tF (Z9 L m ++ [XI,YD L,YY L])) 0 L GN [] (.one (.str)) (tvL tT [.row 8] x) []) ((.one (.str):RD).tv tT)⟩]
theorem YU {C:Cfg}{L:Nat}(h:St C L):∀ m,∀ s ∈ Z9 L m,SumOk C s
 | 0=>(Za (ZV _ _ _) (Za (ZV _ _ _) (Za (ZV _ _ _) (Za (ZV _ _ _) Zn))))
 | m + 1=>have ih:=YU h m
  (Za (sum_par Zv h.L h.G (qOf_ok Zv (Y4 ih (Za (UI h) (Za (Qa h) (Za (QM h) Zn))))) [] (h.T _ _ rfl) (by kernel_rfl) fun _=>rfl) (Za (sum_par Zv h.L h.G (qOf_ok Zv (Y4 ih (Za (UI h) (Za (Qa h) (Za (QM h) Zn))))) [.rnd [.slot 3 (.str),.slot 4 (.int .i64)]] (h.T _ _ rfl) (by kernel_rfl) fun _=>rfl) (Za (sum_par Zv h.L h.G (qOf_ok Zv (Y4 ih (Za (UI h) (Za (Qa h) (Za (QM h) Zn))))) [] (h.T _ _ rfl) (by kernel_rfl) fun _=>rfl) (Za (sum_par Zv h.L h.G (qOf_ok Zv (Y4 ih (Za (UI h) (Za (Qa h) (Za (QM h) Zn))))) [] (h.T _ _ rfl) (by kernel_rfl) fun _=>rfl) Zn))))
def Ye (L m:Nat)(x:Zi×Int×PUnit):Option ((List UInt8)):=fnT tF tG (qOf tF (Z9 L m ++ [XI,YD L,YY L])) 0 L Vf [] (.one (.str)) (tvL tT [.row 8,.int .i64] x) []
def WC (L m:Nat)(x:(List Zi)×PUnit):Option ((List UInt8)):=fnT tF tG (qOf tF (Z9 L m ++ [XI,YD L,YY L])) 0 L GV [.rnd [.slot 3 (.str),.slot 4 (.int .i64)]] (.one (.str)) (tvL tT [.lst 4 (.row 8)] x) []
def QR (L:Nat)(x:(List Zi)×PUnit):Option ((List UInt8)):=WC L L x
def RP (L:Nat):Sum tT:=⟨151,[.lst 4 (.row 8)],fun x=>.par ((.one (.str):RD).Ty tT) (QR L x) ((.one (.str):RD).tv tT)⟩
theorem Zap {C:Cfg}{L:Nat}(h:St C L):SumOk C (RP L):=have ih:=YU h L
 sum_par Zv h.L h.G (qOf_ok Zv (Y4 ih (Za (UI h) (Za (Qa h) (Za (QM h) Zn))))) [.rnd [.slot 3 (.str),.slot 4 (.int .i64)]] (h.T _ _ rfl) (by kernel_rfl) fun _=>rfl
def MJ (L m:Nat)(x:Zi×PUnit):Option ((List UInt8)):=fnT tF tG (qOf tF (Z9 L m ++ [XI,YD L,YY L])) 0 L GU [] (.one (.str)) (tvL tT [.row 8] x) []
def ZW (L m:Nat)(x:Zi×PUnit):Option ((List UInt8)):=fnT tF tG (qOf tF (Z9 L m ++ [XI,YD L,YY L])) 0 L GN [] (.one (.str)) (tvL tT [.row 8] x) []
def YO (L:Nat)(x:Zi×PUnit):Option ((List UInt8)):=ZW L L x
def JX (L:Nat):Sum tT:=⟨32,[.row 8],fun x=>.par ((.one (.str):RD).Ty tT) (YO L x) ((.one (.str):RD).tv tT)⟩
theorem Hg {C:Cfg}{L:Nat}(h:St C L):SumOk C (JX L):=have ih:=YU h L
 sum_par Zv h.L h.G (qOf_ok Zv (Y4 ih (Za (UI h) (Za (Qa h) (Za (QM h) Zn))))) [] (h.T _ _ rfl) (by kernel_rfl) fun _=>rfl
theorem BX (L m:Nat)(x0:Zi)(x1:Int):Ye L (m + 1) (x0,x1,())=bT (Xp L (x0,())) fun y=>bif decide (y < x1) then bT (ZW L m (x0,())) fun y=>bT (catS [40] y) fun y=>bT (catS y [41]) fun y=>some y else bT (ZW L m (x0,())) fun y=>some y:=by kernel_rfl
def Tu:Nat→List Zi→Nat→(List UInt8×Int×PUnit→Option (List UInt8))→List UInt8×Int×PUnit→Option (List UInt8):=fun (m:Nat)=>fun x0 L self acc=>bif decide (acc.2.1 < (↑x0.length:Int)) then bif decide (acc.2.1 > 0) then bT (catS acc.1 [44,32]) fun y=>bT (getT x0 acc.2.1) fun y_1=>bT (ZW L m (y_1,())) fun y_2=>bT (catS y y_2) fun y=>self (y,Go.IntKind.i64.wrap (acc.2.1 + 1),()) else bT (getT x0 acc.2.1) fun y=>bT (ZW L m (y,())) fun y=>bT (catS acc.1 y) fun y=>self (y,Go.IntKind.i64.wrap (acc.2.1 + 1),()) else bT (catS [40] acc.1) fun y=>bT (catS y [41]) fun y=>some y
theorem Zag (L m:Nat)(x0:(List Zi)):WC L (m + 1) (x0,())=loopT (Tu m x0 L) L ([],0,()):=by kernel_rfl
theorem YX (L m:Nat)(x0:Zi):MJ L (m + 1) (x0,())=bif x0.1 == 1 then bif decide (x0.3 < 0) then bT (XG x0.3) fun y=>bT (catS [40] y) fun y=>bT (catS y [41]) fun y=>some y else bT (XG x0.3) fun y=>some y else bif x0.1 == 2 then bif x0.3 == 1 then some [116,114,117,101] else some [102,97,108,115,101] else bif x0.1 == 3 then some x0.2 else bif x0.1 == 4 then some [110,111,119] else bif x0.1 == 7 then bT (WC L m (x0.4,())) fun y=>bT (catS [100,117,114] y) fun y=>some y else bif x0.1 == 8 then bT (WC L m (x0.4,())) fun y=>bT (catS [116,105,99,107,115] y) fun y=>some y else bif x0.1 == 20 then bT (WC L m (x0.4,())) fun y=>bT (catS [109,105,110] y) fun y=>some y else bif x0.1 == 21 then bT (WC L m (x0.4,())) fun y=>bT (catS [109,97,120] y) fun y=>some y else bif x0.1 == 22 then bT (catS [102,114,101,101,40] x0.2) fun y=>bT (catS y [41]) fun y=>some y else bif x0.1 == 23 then bT (catS [115,105,122,101,40] x0.2) fun y=>bT (catS y [41]) fun y=>some y else bT (catS [119,97,105,116,105,110,103,40] x0.2) fun y=>bT (catS y [41]) fun y=>some y:=by kernel_rfl
theorem Zae (L m:Nat)(x0:Zi):ZW L (m + 1) (x0,())=bT (Xp L (x0,())) fun y=>bif y == 8 then bT (MJ L m (x0,())) fun y=>some y else bif y == 7 then bT (getT x0.4 0) fun y=>bT (Ye L m (y,7,())) fun y=>bT (catS [45] y) fun y=>some y else bif y == 3 then bT (getT x0.4 0) fun y=>bT (Ye L m (y,3,())) fun y=>bT (catS [110,111,116,32] y) fun y=>some y else bif y == 4 then bT (getT x0.4 0) fun y=>bT (bT (Ye L m (y,5,())) fun y=>some y) fun y=>bT (catS y [32]) fun y=>bT (bT (XW L (x0.1,())) fun y=>some y) fun y_1=>bT (catS y y_1) fun y=>bT (catS y [32]) fun y=>bT (getT x0.4 1) fun y_2=>bT (bT (Ye L m (y_2,5,())) fun y=>some y) fun y_3=>bT (catS y y_3) fun y=>some y else bT (getT x0.4 0) fun y_1=>bT (bT (Ye L m (y_1,y,())) fun y=>some y) fun y_2=>bT (catS y_2 [32]) fun y_3=>bT (bT (XW L (x0.1,())) fun y=>some y) fun y_4=>bT (catS y_3 y_4) fun y_5=>bT (catS y_5 [32]) fun y_6=>bT (getT x0.4 1) fun y_7=>bT (bT (Ye L m (y_7,Go.IntKind.i64.wrap (y + 1),())) fun y=>some y) fun y=>bT (catS y_6 y) fun y=>some y:=by kernel_rfl
def QQ (L:Nat)(x:(List (List UInt8))×(List UInt8)×PUnit):Option Int:=fT [] L LK [.rnd [.slot 5 (.int .i64)]] (.one (.int .i64)) [.lst 1 .str,.str] x
def QN (L:Nat):Sum tT:=mU 211 [.lst 1 .str,.str] (.one (.int .i64)) (QQ L)
theorem Zak:SX QN:=fun h=>sT h Zn rfl (by kernel_rfl) fun _=>rfl
def UA:List (List UInt8)→List UInt8→(Int×PUnit→Option Int)→Int×PUnit→Option Int:=fun x0 x1 self acc=>bif decide (acc.1 < (↑x0.length:Int)) then bT (getT x0 acc.1) fun y=>bif y == x1 then some acc.1 else self (Go.IntKind.i64.wrap (acc.1 + 1),()) else some (-1)
theorem CX (L:Nat)(x0:(List (List UInt8)))(x1:(List UInt8)):QQ L (x0,x1,())=loopT (UA x0 x1) L (0,()):=by kernel_rfl
def Qh (L:Nat)(x:PUnit):Option ((List (List UInt8))):=fT [] L Ue [] (.one (.lst 1 .str)) [] x
def Us (L:Nat):Sum tT:=mU 271 [] (.one (.lst 1 .str)) (Qh L)
theorem L9:SX Us:=fun h=>sT h Zn rfl (by kernel_rfl) fun _=>rfl
theorem Ls (L:Nat)  : Qh L ()=some [[97,100,100],[97,102,116,101,114],[97,110,100],[97,116],[98,101,108,116],[98,111,111,108],[99,111,110,115,101,114,118,101],[99,111,110,115,116],[99,111,117,110,116],[99,121,99,108,101],[100,111,119,110],[100,114,97,119],[100,117,114],[101,108,115,101],[101,110,100],[101,118,101,114,121],[102,97,108,115,101],[102,97,117,108,116],[102,105,102,111],[102,114,101,101],[102,114,111,109],[103,101,111,109],[103,101,116],[104,111,108,100],[105,102],[105,110,116],[105,110,116,111],[108,101,97,115,116],[108,101,118,101,108],[108,105,102,111],[108,105,110,107],[108,111,99,97,108],[109,97,120],[109,105,110],[109,111,100,101,108],[110,111,116],[110,111,119],[111,98,115,101,114,118,101],[111,114],[112,97,114,97,109],[112,114,101,101,109,112,116],[112,114,105,111],[112,117,116],[113,117,101,117,101],[114,101,108,101,97,115,101],[114,101,115,111,117,114,99,101],[114,105,100,101],[114,111,117,116,105,110,101],[115,101,105,122,101],[115,101,110,100],[115,101,116],[115,104,105,102,116],[115,105,103,110,97,108],[115,105,116,101],[115,105,122,101],[115,112,97,119,110],[115,116,97,114,116],[115,116,111,112],[115,116,111,114,101],[115,116,114,101,97,109],[115,117,109],[116,97,98,108,101],[116,97,108,108,121],[116,105,99,107,115],[116,105,109,101],[116,114,117,101],[117,110,105,102,111,114,109],[117,110,116,105,108],[117,112],[118,97,114],[119,97,105,116],[119,97,105,116,105,110,103],[119,104,105,108,101]]:=by kernel_rfl
def QH (L:Nat)(x:(List UInt8)×PUnit):Option Bool:=fT [QN L,Us L] L KG [] (.one .bool) [.str] x
def Gx (L:Nat):Sum tT:=mU 208 [.str] (.one .bool) (QH L)
theorem Dn:SX Gx:=fun h=>sT h (Za (Zak h) (Za (L9 h) Zn)) rfl (by kernel_rfl) fun _=>rfl
theorem BU (L:Nat)(x0:(List UInt8)):QH L (x0,())=bT (Qh L ()) fun y=>bT (QQ L (y,x0,())) fun y=>some (decide (y ≥ 0)):=by kernel_rfl
def Qu (L:Nat)(x:Int×PUnit):Option Bool:=fT [] L H9 [] (.one .bool) [.int .u8] x
def IA (L:Nat):Sum tT:=mU 207 [.int .u8] (.one .bool) (Qu L)
theorem NF:SX IA:=fun h=>sT h Zn rfl (by kernel_rfl) fun _=>rfl
theorem Nk (L:Nat)(x0:Int):Qu L (x0,())=some (decide (x0 ≥ 97) && decide (x0≤122)):=by kernel_rfl
def YW (L:Nat)(x:(List UInt8)×PUnit):Option Int:=fT [Gx L,IA L] L Oy [.rnd [.slot 3 (.int .i64)]] (.one (.int .i64)) [.str] x
def Xj (L:Nat):Sum tT:=mU 107 [.str] (.one (.int .i64)) (YW L)
theorem UG:SX Xj:=fun h=>sT h (Za (Dn h) (Za (NF h) Zn)) rfl (by kernel_rfl) fun _=>rfl
def Xz:List UInt8→Nat→(Int×PUnit→Option Int)→Int×PUnit→Option Int:=fun x0 L self acc=>bif decide (acc.1 < (↑x0.length:Int)) then bT (getT x0 acc.1) fun y=>bT (Qu L ((↑y.toNat:Int),())) fun y=>bT (bif (!y) == true then bT (getT x0 acc.1) fun y=>some ((↑y.toNat:Int) != 95) else some false) fun y=>bT (bif y == true then bT (getT x0 acc.1) fun y=>bif decide ((↑y.toNat:Int) < 48) == false then bT (getT x0 acc.1) fun y=>some (decide ((↑y.toNat:Int) > 57)) else some true else some false) fun y=>bif y then some 3 else self (Go.IntKind.i64.wrap (acc.1 + 1),()) else some 0
theorem Ec (L:Nat)(x0:(List UInt8)):YW L (x0,())=bT (bif (decide ((↑x0.length:Int) < 1) || decide ((↑x0.length:Int) > 24)) == false then bT (getT x0 0) fun y=>bT (Qu L ((↑y.toNat:Int),())) fun y=>some !y else some true) fun y=>bT (bif y == false then bT (QH L (x0,())) fun y=>some y else some true) fun y=>bif y then some 3 else loopT (Xz x0 L) L (0,()):=by kernel_rfl
def JY (L:Nat)(x:Int×PUnit):Option Int:=fT [] L LM [] (.one (.int .i64)) [.int .i64] x
def Ho (L:Nat):Sum tT:=mU 239 [.int .i64] (.one (.int .i64)) (JY L)
theorem Rx:SX Ho:=fun h=>sT h Zn rfl (by kernel_rfl) fun _=>rfl
theorem CY (L:Nat)(x0:Int):JY L (x0,())=bif x0 == 25 then some 15 else bif x0 == 26 then some 31 else some 63:=by kernel_rfl
def G5 (L:Nat)(x:Int×PUnit):Option Bool:=fT [] L Ah [] (.one .bool) [.int .i64] x
def Gw (L:Nat):Sum tT:=mU 238 [.int .i64] (.one .bool) (G5 L)
theorem Fe:SX Gw:=fun h=>sT h Zn rfl (by kernel_rfl) fun _=>rfl
theorem ZbX (L:Nat)(x0:Int):G5 L (x0,())=some (decide (x0 ≥ (-1000000000000)) && decide (x0≤1000000000000)):=by kernel_rfl
def Qv (L:Nat)(x:Int×PUnit):Option Bool:=fT [] L HY [] (.one .bool) [.int .i64] x
def JK (L:Nat):Sum tT:=mU 237 [.int .i64] (.one .bool) (Qv L)
theorem Iy:SX JK:=fun h=>sT h Zn rfl (by kernel_rfl) fun _=>rfl
theorem Nl (L:Nat)(x0:Int):Qv L (x0,())=some (decide (x0 ≥ 22) && decide (x0≤24)):=by kernel_rfl
def VH (L:Nat)(x:Int×PUnit):Option Int:=fT [] L Oz [] (.one (.int .i64)) [.int .i64] x
def UN (L:Nat):Sum tT:=mU 236 [.int .i64] (.one (.int .i64)) (VH L)
theorem TJ:SX UN:=fun h=>sT h Zn rfl (by kernel_rfl) fun _=>rfl
theorem Ed (L:Nat)(x0:Int):VH L (x0,())=bif decide (x0 < 1) || decide (x0 > 26) then some (-1) else bif decide (x0 ≥ 5) && decide (x0≤8) then some 1 else bif decide (x0 ≥ 9) && decide (x0≤21) then some 2 else some 0:=by kernel_rfl
end Go.Proofs.YtbcfddaocfpckaaGreatDoor
end
noncomputable section
namespace Go.Proofs.YtbcfddaocfpckaaGreatDoor
open Go Go.Proofs.YtbcfddaocfpckaaGreatDoor.Abs Go.Proofs.YtbcfddaocfpckaaGreatDoor.Tl
set_option maxRecDepth 100000
set_option maxHeartbeats 0
def UJ (L:Nat):Nat→List (Sum tT)
 | 0=>[⟨150,[.row 8,.bool],fun _=>.par _ none ((.one (.int .i64):RD).tv tT)⟩]
 | m + 1=>[⟨150,[.row 8,.bool],fun x=>.par _ (fnT tF tG (qOf tF (UJ L m ++ [Xj L,Ho L,Gw L,JK L,UN L])) 0 L GK [.rnd [.slot 10 (.int .i64)]] (.one (.int .i64)) (tvL tT [.row 8,.bool] x) []) ((.one (.int .i64):RD).tv tT)⟩]
theorem Ul {C:Cfg}{L:Nat}(h:St C L):∀ m,∀ s ∈ UJ L m,SumOk C s
 | 0=>(Za (ZV _ _ _) Zn)
 | m + 1=>have ih:=Ul h m
  (Za (sum_par Zv h.L h.G (qOf_ok Zv (Y4 ih (Za (UG h) (Za (Rx h) (Za (Fe h) (Za (Iy h) (Za (TJ h) Zn))))))) [.rnd [.slot 10 (.int .i64)]] (h.T _ _ rfl) (by kernel_rfl) fun _=>rfl) Zn)
def VN (L m:Nat)(x:Zi×Bool×PUnit):Option (Int):=fnT tF tG (qOf tF (UJ L m ++ [Xj L,Ho L,Gw L,JK L,UN L])) 0 L GK [.rnd [.slot 10 (.int .i64)]] (.one (.int .i64)) (tvL tT [.row 8,.bool] x) []
def Hr (L:Nat)(x:Zi×Bool×PUnit):Option (Int):=VN L L x
def RG (L:Nat):Sum tT:=⟨150,[.row 8,.bool],fun x=>.par ((.one (.int .i64):RD).Ty tT) (Hr L x) ((.one (.int .i64):RD).tv tT)⟩
theorem Zal {C:Cfg}{L:Nat}(h:St C L):SumOk C (RG L):=have ih:=Ul h L
 sum_par Zv h.L h.G (qOf_ok Zv (Y4 ih (Za (UG h) (Za (Rx h) (Za (Fe h) (Za (Iy h) (Za (TJ h) Zn))))))) [.rnd [.slot 10 (.int .i64)]] (h.T _ _ rfl) (by kernel_rfl) fun _=>rfl
def Vp:Nat→Zi→Bool→Nat→(Int×PUnit→Option Int)→Int×PUnit→Option Int:=fun (m:Nat)=>fun x0 x1 L self acc=>bif decide (acc.1 < (↑x0.4.length:Int)) then bT (getT x0.4 acc.1) fun y=>bT (VN L m (y,x1,())) fun y=>bif y != 0 then some y else self (Go.IntKind.i64.wrap (acc.1 + 1),()) else some 0
theorem CZ (L m:Nat)(x0:Zi)(x1:Bool):VN L (m + 1) (x0,x1,())=bT (VH L (x0.1,())) fun y=>bT (bif (!x1) == true then bif (x0.1 == 3) == false then bT (Qv L (x0.1,())) fun y=>some y else some true else some false) fun y_1=>bT (bif x1 == true then bT (Qv L (x0.1,())) fun y=>some (y || x0.1 == 25 || x0.1 == 26) else some false) fun y_2=>bif !(decide (y ≥ 0) && (x1 && x0.1 != 3 || !x1 && decide (x0.1≤24))) || !y_1 && !x0.2 == [] || !(x0.1 == 1 || x0.1 == 2 || y_2) && x0.3 != 0 || (↑x0.4.length:Int) != y then some 1 else bT (bif (x0.1 == 1) == true then bT (bT (G5 L (x0.3,())) fun y=>some y) fun y=>some !y else some false) fun y=>bT (bif (y || x0.1 == 2 && x0.3 != 0 && x0.3 != 1) == false then bif y_2 == true then bif decide (x0.3 < 0) == false then bT (bT (JY L (x0.1,())) fun y=>some y) fun y=>some (decide (x0.3 > y)) else some true else some false else some true) fun y=>bif y then some 2 else bT (bif y_1 == true then bT (YW L (x0.2,())) fun y=>some (y != 0) else some false) fun y=>bif y then bT (YW L (x0.2,())) fun y=>some y else loopT (Vp m x0 x1 L) L (0,()):=by kernel_rfl
def J8 (L:Nat):Nat→List (Sum tT)
 | 0=>[⟨149,[.row 8],fun _=>.par _ none ((.one (.int .i64):RD).tv tT)⟩]
 | m + 1=>[⟨149,[.row 8],fun x=>.par _ (fnT tF tG (qOf tF (J8 L m ++ [])) 0 L Uw [.rnd [.slot 3 (.int .i64),.slot 4 (.int .i64)]] (.one (.int .i64)) (tvL tT [.row 8] x) []) ((.one (.int .i64):RD).tv tT)⟩]
theorem J9 {C:Cfg}{L:Nat}(h:St C L):∀ m,∀ s ∈ J8 L m,SumOk C s
 | 0=>(Za (ZV _ _ _) Zn)
 | m + 1=>have ih:=J9 h m
  (Za (sum_par Zv h.L h.G (qOf_ok Zv (Y4 ih Zn)) [.rnd [.slot 3 (.int .i64),.slot 4 (.int .i64)]] (h.T _ _ rfl) (by kernel_rfl) fun _=>rfl) Zn)
def X9 (L m:Nat)(x:Zi×PUnit):Option (Int):=fnT tF tG (qOf tF (J8 L m ++ [])) 0 L Uw [.rnd [.slot 3 (.int .i64),.slot 4 (.int .i64)]] (.one (.int .i64)) (tvL tT [.row 8] x) []
def UV (L:Nat)(x:Zi×PUnit):Option (Int):=X9 L L x
def TU (L:Nat):Sum tT:=⟨149,[.row 8],fun x=>.par ((.one (.int .i64):RD).Ty tT) (UV L x) ((.one (.int .i64):RD).tv tT)⟩
theorem EK {C:Cfg}{L:Nat}(h:St C L):SumOk C (TU L):=have ih:=J9 h L
 sum_par Zv h.L h.G (qOf_ok Zv (Y4 ih Zn)) [.rnd [.slot 3 (.int .i64),.slot 4 (.int .i64)]] (h.T _ _ rfl) (by kernel_rfl) fun _=>rfl
def Jy:Nat→Zi→Nat→(Int×Int×PUnit→Option Int)→Int×Int×PUnit→Option Int:=fun (m:Nat)=>fun x0 L self acc=>bif decide (acc.2.1 < (↑x0.4.length:Int)) then bT (getT x0.4 acc.2.1) fun y=>bT (X9 L m (y,())) fun y=>self (if y > acc.1 then y else acc.1,Go.IntKind.i64.wrap (acc.2.1 + 1),()) else some (Go.IntKind.i64.wrap (acc.1 + 1))
theorem Ef (L m:Nat)(x0:Zi):X9 L (m + 1) (x0,())=loopT (Jy m x0 L) L (0,0,()):=by kernel_rfl
def JA (L:Nat):Nat→List (Sum tT)
 | 0=>[⟨10,[.row 8],fun _=>.par _ none ((.one (.int .i64):RD).tv tT)⟩]
 | m + 1=>[⟨10,[.row 8],fun x=>.par _ (fnT tF tG (qOf tF (JA L m ++ [])) 0 L Ux [.rnd [.slot 3 (.int .i64),.slot 4 (.int .i64)]] (.one (.int .i64)) (tvL tT [.row 8] x) []) ((.one (.int .i64):RD).tv tT)⟩]
theorem JB {C:Cfg}{L:Nat}(h:St C L):∀ m,∀ s ∈ JA L m,SumOk C s
 | 0=>(Za (ZV _ _ _) Zn)
 | m + 1=>have ih:=JB h m
  (Za (sum_par Zv h.L h.G (qOf_ok Zv (Y4 ih Zn)) [.rnd [.slot 3 (.int .i64),.slot 4 (.int .i64)]] (h.T _ _ rfl) (by kernel_rfl) fun _=>rfl) Zn)
def XA (L m:Nat)(x:Zi×PUnit):Option (Int):=fnT tF tG (qOf tF (JA L m ++ [])) 0 L Ux [.rnd [.slot 3 (.int .i64),.slot 4 (.int .i64)]] (.one (.int .i64)) (tvL tT [.row 8] x) []
def YH (L:Nat)(x:Zi×PUnit):Option (Int):=XA L L x
def VB (L:Nat):Sum tT:=⟨10,[.row 8],fun x=>.par ((.one (.int .i64):RD).Ty tT) (YH L x) ((.one (.int .i64):RD).tv tT)⟩
theorem UH {C:Cfg}{L:Nat}(h:St C L):SumOk C (VB L):=have ih:=JB h L
 sum_par Zv h.L h.G (qOf_ok Zv (Y4 ih Zn)) [.rnd [.slot 3 (.int .i64),.slot 4 (.int .i64)]] (h.T _ _ rfl) (by kernel_rfl) fun _=>rfl
def Jz:Nat→Zi→Nat→(Int×Int×PUnit→Option Int)→Int×Int×PUnit→Option Int:=fun (m:Nat)=>fun x0 L self acc=>bif decide (acc.2.1 < (↑x0.4.length:Int)) then bT (getT x0.4 acc.2.1) fun y=>bT (XA L m (y,())) fun y=>self (Go.IntKind.i64.wrap (acc.1 + y),Go.IntKind.i64.wrap (acc.2.1 + 1),()) else some acc.1
theorem Eg (L m:Nat)(x0:Zi):XA L (m + 1) (x0,())=loopT (Jz m x0 L) L (1,0,()):=by kernel_rfl
def VI (L:Nat)(x:Zi×Bool×PUnit):Option Int:=fT [RG L,TU L,VB L] L O1 [] (.one (.int .i64)) [.row 8,.bool] x
def TW (L:Nat):Sum tT:=mU 71 [.row 8,.bool] (.one (.int .i64)) (VI L)
theorem EL:SX TW:=fun h=>sT h (Za (Zal h) (Za (EK h) (Za (UH h) Zn))) rfl (by kernel_rfl) fun _=>rfl
theorem Eh (L:Nat)(x0:Zi)(x1:Bool):VI L (x0,x1,())=bT (YH L (x0,())) fun y=>bif decide (y > 60) then some 6 else bT (UV L (x0,())) fun y=>bif decide (y > 12) then some 11 else bT (Hr L (x0,x1,())) fun y=>some y:=by kernel_rfl
def ZO (L:Nat)(x:Zi×PUnit):Option Int:=fT [TW L] L O0 [] (.one (.int .i64)) [.row 8] x
def TS (L:Nat):Sum tT:=mU 31 [.row 8] (.one (.int .i64)) (ZO L)
theorem EJ:SX TS:=fun h=>sT h (Za (EL h) Zn) rfl (by kernel_rfl) fun _=>rfl
theorem Ee (L:Nat)(x0:Zi):ZO L (x0,())=bT (VI L (x0,false,())) fun y=>some y:=by kernel_rfl
def YK (L:Nat)(x:Int×PUnit):Option ((List UInt8)×Int×Bool×PUnit):=fT [] L VP [] (.tup [.str,.int .i64,.bool]) [.int .i64] x
def ZT (L:Nat):Sum tT:=mU 70 [.int .i64] (.tup [.str,.int .i64,.bool]) (YK L)
theorem YJ:SX ZT:=fun h=>sT h Zn rfl (by kernel_rfl) fun _=>rfl
theorem IV (L:Nat)(x0:Int):YK L (x0,())=bif x0 == 19 then some ([111,114],1,true,()) else bif x0 == 18 then some ([97,110,100],2,true,()) else bif x0 == 14 then some ([61],4,true,()) else bif x0 == 15 then some ([33,61],4,true,()) else bif x0 == 16 then some ([60],4,true,()) else bif x0 == 17 then some ([60,61],4,true,()) else bif x0 == 9 then some ([43],5,true,()) else bif x0 == 10 then some ([45],5,true,()) else bif x0 == 11 then some ([42],6,true,()) else bif x0 == 12 then some ([47],6,true,()) else bif x0 == 13 then some ([37],6,true,()) else some ([],8,false,()):=by kernel_rfl
def QG (L:Nat)(x:Zi×PUnit):Option Int:=fT [ZT L] L KD [] (.one (.int .i64)) [.row 8] x
def YB (L:Nat):Sum tT:=mU 148 [.row 8] (.one (.int .i64)) (QG L)
theorem QC:SX YB:=fun h=>sT h (Za (YJ h) Zn) rfl (by kernel_rfl) fun _=>rfl
theorem BP (L:Nat)(x0:Zi):QG L (x0,())=bif x0.1 == 6 then some 3 else bif x0.1 == 5 then some 7 else bT (YK L (x0.1,())) fun y=>some y.2.1:=by kernel_rfl
def VF (L:Nat)(x:Int×PUnit):Option (List UInt8):=fT [] L KE [] (.one .str) [.int .i64] x
def YC (L:Nat):Sum tT:=mU 67 [.int .i64] (.one .str) (VF L)
theorem QD:SX YC:=fun h=>sT h Zn rfl (by kernel_rfl) fun _=>rfl
theorem BQ (L:Nat)(x0:Int):VF L (x0,())=bif x0 == 0 then some [102,97,108,115,101] else some [116,114,117,101]:=by kernel_rfl
def KO:List (Inl tT):=[⟨147,YP,[.rnd [.slot 5 (.own 1 (.str)),.slot 10 (.int .i64)]],.one (.str),[]⟩]
def ZE (L:Nat):Nat→List (Sum tT)
 | 0=>[⟨69,[.row 8,.int .i64],fun _=>.par _ none ((.one (.str):RD).tv tT)⟩,⟨68,[.str,.row 8],fun _=>.par _ none ((.one (.str):RD).tv tT)⟩,⟨30,[.row 8],fun _=>.par _ none ((.one (.str):RD).tv tT)⟩]
 | m + 1=>[⟨69,[.row 8,.int .i64],fun x=>.par _ (fnT tF tG (qOf tF (ZE L m ++ [Gz,Gt,YB L,ZT L,YC L])) 0 L QZ [] (.one (.str)) (tvL tT [.row 8,.int .i64] x) []) ((.one (.str):RD).tv tT)⟩,⟨68,[.str,.row 8],fun x=>.par _ (fnT tF tG (stackQ tF tG (qOf tF (ZE L m ++ [Gz,Gt,YB L,ZT L,YC L])) L KO 8) 0 L Jl [] (.one (.str)) (tvL tT [.str,.row 8] x) []) ((.one (.str):RD).tv tT)⟩,⟨30,[.row 8],fun x=>.par _ (fnT tF tG (qOf tF (ZE L m ++ [Gz,Gt,YB L,ZT L,YC L])) 0 L Jm [] (.one (.str)) (tvL tT [.row 8] x) []) ((.one (.str):RD).tv tT)⟩]
theorem WO {C:Cfg}{L:Nat}(h:St C L):∀ m,∀ s ∈ ZE L m,SumOk C s
 | 0=>(Za (ZV _ _ _) (Za (ZV _ _ _) (Za (ZV _ _ _) Zn)))
 | m + 1=>have ih:=WO h m
  (Za (sum_par Zv h.L h.G (qOf_ok Zv (Y4 ih (Za (Rz h) (Za (Rw h) (Za (QC h) (Za (YJ h) (Za (QD h) Zn))))))) [] (h.T _ _ rfl) (by kernel_rfl) fun _=>rfl) (Za (sum_par Zv h.L h.G (stackQ_ok Zv h.L h.G (qOf_ok Zv (Y4 ih (Za (Rz h) (Za (Rw h) (Za (QC h) (Za (YJ h) (Za (QD h) Zn))))))) (Za ⟨h.T _ _ rfl,by kernel_rfl⟩ Zn) 8) [] (h.T _ _ rfl) (by kernel_rfl) fun _=>rfl) (Za (sum_par Zv h.L h.G (qOf_ok Zv (Y4 ih (Za (Rz h) (Za (Rw h) (Za (QC h) (Za (YJ h) (Za (QD h) Zn))))))) [] (h.T _ _ rfl) (by kernel_rfl) fun _=>rfl) Zn)))
def ZU (L m:Nat)(x:Zi×Int×PUnit):Option ((List UInt8)):=fnT tF tG (qOf tF (ZE L m ++ [Gz,Gt,YB L,ZT L,YC L])) 0 L QZ [] (.one (.str)) (tvL tT [.row 8,.int .i64] x) []
def Yd (L m:Nat)(x:(List UInt8)×Zi×PUnit):Option ((List UInt8)):=fnT tF tG (stackQ tF tG (qOf tF (ZE L m ++ [Gz,Gt,YB L,ZT L,YC L])) L KO 8) 0 L Jl [] (.one (.str)) (tvL tT [.str,.row 8] x) []
def ZP (L m:Nat)(x:Zi×PUnit):Option ((List UInt8)):=fnT tF tG (qOf tF (ZE L m ++ [Gz,Gt,YB L,ZT L,YC L])) 0 L Jm [] (.one (.str)) (tvL tT [.row 8] x) []
def Zz (L:Nat)(x:Zi×PUnit):Option ((List UInt8)):=ZP L L x
def Y7 (L:Nat):Sum tT:=⟨30,[.row 8],fun x=>.par ((.one (.str):RD).Ty tT) (Zz L x) ((.one (.str):RD).tv tT)⟩
theorem Qo {C:Cfg}{L:Nat}(h:St C L):SumOk C (Y7 L):=have ih:=WO h L
 sum_par Zv h.L h.G (qOf_ok Zv (Y4 ih (Za (Rz h) (Za (Rw h) (Za (QC h) (Za (YJ h) (Za (QD h) Zn))))))) [] (h.T _ _ rfl) (by kernel_rfl) fun _=>rfl
theorem Tq (L m:Nat)(x0:Zi)(x1:Int):ZU L (m + 1) (x0,x1,())=bT (QG L (x0,())) fun y=>bif decide (y < x1) then bT (ZP L m (x0,())) fun y=>bT (catS [40] y) fun y=>bT (catS y [41]) fun y=>some y else bT (ZP L m (x0,())) fun y=>some y:=by kernel_rfl
def KW:Nat→Zi→Nat→(List (List UInt8)×Int×PUnit→Option (List UInt8))→List (List UInt8)×Int×PUnit→Option (List UInt8):=fun (m:Nat)=>fun x1 L self acc=>bif decide (acc.2.1 < (↑x1.4.length:Int)) then bT (getT x1.4 acc.2.1) fun y=>bT (ZP L m (y,())) fun y=>bT (apT 16 acc.1 [y]) fun y=>self (y,Go.IntKind.i64.wrap (acc.2.1 + 1),()) else bT (CG acc.1 [44,32]) fun y=>some y
theorem Ij (L m:Nat)(x0:(List UInt8))(x1:Zi):Yd L (m + 1) (x0,x1,())=bif (↑x1.4.length:Int) == 0 then bT (catS x0 [40]) fun y=>bT (catS y x1.2) fun y=>bT (catS y [41]) fun y=>some y else bT (catS x0 [40]) fun y=>bT (loopT (KW m x1 L) L ([],0,())) fun y_1=>bT (catS y y_1) fun y=>bT (catS y [41]) fun y=>some y:=by kernel_rfl
theorem Nh (L m:Nat)(x0:Zi):ZP L (m + 1) (x0,())=bif x0.1 == 1 then bif decide (x0.3 < 0) then bT (XG x0.3) fun y=>bT (catS [40] y) fun y=>bT (catS y [41]) fun y=>some y else bT (XG x0.3) fun y=>some y else bif x0.1 == 2 then bT (VF L (x0.3,())) fun y=>some y else bif x0.1 == 4 then some [110,111,119] else bif x0.1 == 3 then some x0.2 else bif x0.1 == 7 then bT (Yd L m ([100,117,114],x0,())) fun y=>some y else bif x0.1 == 8 then bT (Yd L m ([116,105,99,107,115],x0,())) fun y=>some y else bif x0.1 == 20 then bT (Yd L m ([109,105,110],x0,())) fun y=>some y else bif x0.1 == 21 then bT (Yd L m ([109,97,120],x0,())) fun y=>some y else bif x0.1 == 22 then bT (Yd L m ([102,114,101,101],x0,())) fun y=>some y else bif x0.1 == 23 then bT (Yd L m ([115,105,122,101],x0,())) fun y=>some y else bif x0.1 == 24 then bT (Yd L m ([119,97,105,116,105,110,103],x0,())) fun y=>some y else bif x0.1 == 6 then bT (getT x0.4 0) fun y=>bT (ZU L m (y,3,())) fun y=>bT (catS [110,111,116,32] y) fun y=>some y else bif x0.1 == 5 then bT (getT x0.4 0) fun y=>bT (ZU L m (y,7,())) fun y=>bT (catS [45] y) fun y=>some y else bT (YK L (x0.1,())) fun y=>bif y.2.1 == 4 then bT (getT x0.4 0) fun y_1=>bT (bT (ZU L m (y_1,Go.IntKind.i64.wrap (y.2.1 + 1),())) fun y=>some y) fun y_2=>bT (catS y_2 [32]) fun y_3=>bT (catS y_3 y.1) fun y_4=>bT (catS y_4 [32]) fun y_5=>bT (getT x0.4 1) fun y_6=>bT (bT (ZU L m (y_6,Go.IntKind.i64.wrap (y.2.1 + 1),())) fun y=>some y) fun y=>bT (catS y_5 y) fun y=>some y else bT (getT x0.4 0) fun y_1=>bT (bT (ZU L m (y_1,y.2.1,())) fun y=>some y) fun y_2=>bT (catS y_2 [32]) fun y_3=>bT (catS y_3 y.1) fun y_4=>bT (catS y_4 [32]) fun y_5=>bT (getT x0.4 1) fun y_6=>bT (bT (ZU L m (y_6,Go.IntKind.i64.wrap (y.2.1 + 1),())) fun y=>some y) fun y=>bT (catS y_5 y) fun y=>some y:=by kernel_rfl
def WT (L:Nat)(x:(List UInt8)×PUnit):Option Bool:=fT [] L Jk [] (.one .bool) [.str] x
def JJ (L:Nat):Sum tT:=mU 161 [.str] (.one .bool) (WT L)
theorem TC:SX JJ:=fun h=>sT h Zn rfl (by kernel_rfl) fun _=>rfl
theorem Tn (L:Nat)(x0:(List UInt8)):WT L (x0,())=bif x0 == [97,100,100] then some true else bif x0 == [97,102,116,101,114] then some true else bif x0 == [97,110,100] then some true else bif x0 == [97,116] then some true else bif x0 == [98,101,108,116] then some true else bif x0 == [98,111,111,108] then some true else bif x0 == [99,111,110,115,101,114,118,101] then some true else bif x0 == [99,111,110,115,116] then some true else bif x0 == [99,111,117,110,116] then some true else bif x0 == [99,121,99,108,101] then some true else bif x0 == [100,111,119,110] then some true else bif x0 == [100,114,97,119] then some true else bif x0 == [100,117,114] then some true else bif x0 == [101,108,115,101] then some true else bif x0 == [101,110,100] then some true else bif x0 == [101,118,101,114,121] then some true else bif x0 == [102,97,108,115,101] then some true else bif x0 == [102,97,117,108,116] then some true else bif x0 == [102,105,102,111] then some true else bif x0 == [102,114,101,101] then some true else bif x0 == [102,114,111,109] then some true else bif x0 == [103,101,111,109] then some true else bif x0 == [103,101,116] then some true else bif x0 == [104,111,108,100] then some true else bif x0 == [105,102] then some true else bif x0 == [105,110,116] then some true else bif x0 == [105,110,116,111] then some true else bif x0 == [108,101,97,115,116] then some true else bif x0 == [108,101,118,101,108] then some true else bif x0 == [108,105,102,111] then some true else bif x0 == [108,105,110,107] then some true else bif x0 == [108,111,99,97,108] then some true else bif x0 == [109,97,120] then some true else bif x0 == [109,105,110] then some true else bif x0 == [109,111,100,101,108] then some true else bif x0 == [110,111,116] then some true else bif x0 == [110,111,119] then some true else bif x0 == [111,98,115,101,114,118,101] then some true else bif x0 == [111,114] then some true else bif x0 == [112,97,114,97,109] then some true else bif x0 == [112,114,101,101,109,112,116] then some true else bif x0 == [112,114,105,111] then some true else bif x0 == [112,117,116] then some true else bif x0 == [113,117,101,117,101] then some true else bif x0 == [114,101,108,101,97,115,101] then some true else bif x0 == [114,101,115,111,117,114,99,101] then some true else bif x0 == [114,105,100,101] then some true else bif x0 == [114,111,117,116,105,110,101] then some true else bif x0 == [115,101,105,122,101] then some true else bif x0 == [115,101,110,100] then some true else bif x0 == [115,101,116] then some true else bif x0 == [115,104,105,102,116] then some true else bif x0 == [115,105,103,110,97,108] then some true else bif x0 == [115,105,116,101] then some true else bif x0 == [115,105,122,101] then some true else bif x0 == [115,112,97,119,110] then some true else bif x0 == [115,116,97,114,116] then some true else bif x0 == [115,116,111,112] then some true else bif x0 == [115,116,111,114,101] then some true else bif x0 == [115,116,114,101,97,109] then some true else bif x0 == [115,117,109] then some true else bif x0 == [116,97,98,108,101] then some true else bif x0 == [116,97,108,108,121] then some true else bif x0 == [116,105,99,107,115] then some true else bif x0 == [116,105,109,101] then some true else bif x0 == [116,114,117,101] then some true else bif x0 == [117,110,105,102,111,114,109] then some true else bif x0 == [117,110,116,105,108] then some true else bif x0 == [117,112] then some true else bif x0 == [118,97,114] then some true else bif x0 == [119,97,105,116] then some true else bif x0 == [119,97,105,116,105,110,103] then some true else bif x0 == [119,104,105,108,101] then some true else some false:=by kernel_rfl
def Wu (L:Nat)(x:Int×PUnit):Option Bool:=fT [] L Uc [] (.one .bool) [.int .u8] x
def Uo (L:Nat):Sum tT:=mU 160 [.int .u8] (.one .bool) (Wu L)
theorem L6:SX Uo:=fun h=>sT h Zn rfl (by kernel_rfl) fun _=>rfl
theorem Lp (L:Nat)(x0:Int):Wu L (x0,())=some (decide (x0 ≥ 97) && decide (x0≤122)):=by kernel_rfl
end Go.Proofs.YtbcfddaocfpckaaGreatDoor
end
noncomputable section
namespace Go.Proofs.YtbcfddaocfpckaaGreatDoor
open Go Go.Proofs.YtbcfddaocfpckaaGreatDoor.Abs Go.Proofs.YtbcfddaocfpckaaGreatDoor.Tl
set_option maxRecDepth 100000
set_option maxHeartbeats 0
def WS (L:Nat)(x:(List UInt8)×PUnit):Option Int:=fT [JJ L,Uo L] L KA [.rnd [.slot 24 (.int .i64)]] (.one (.int .i64)) [.str] x
def V8 (L:Nat):Sum tT:=mU 86 [.str] (.one (.int .i64)) (WS L)
theorem Gj:SX V8:=fun h=>sT h (Za (TC h) (Za (L6 h) Zn)) rfl (by kernel_rfl) fun _=>rfl
def Qe:List UInt8→Nat→(Int×PUnit→Option Int)→Int×PUnit→Option Int:=fun x0 L self acc=>bif decide (acc.1 < (↑x0.length:Int)) then bT (getT x0 acc.1) fun y=>bT (Wu L ((↑y.toNat:Int),())) fun y_1=>bif !y_1 && (decide ((↑y.toNat:Int) < 48) || decide ((↑y.toNat:Int) > 57)) && (↑y.toNat:Int) != 95 then some 3 else self (Go.IntKind.i64.wrap (acc.1 + 1),()) else some 0
theorem BN (L:Nat)(x0:(List UInt8)):WS L (x0,())=bT (bif (x0 == [] || decide ((↑x0.length:Int) > 24)) == false then bT (getT x0 0) fun y=>bT (Wu L ((↑y.toNat:Int),())) fun y=>some !y else some true) fun y=>bT (bif y == false then bT (WT L (x0,())) fun y=>some y else some true) fun y=>bif y then some 3 else loopT (Qe x0 L) L (0,()):=by kernel_rfl
def WQ (L:Nat)(x:Int×PUnit):Option Bool:=fT [] L Ky [] (.one .bool) [.int .i64] x
def V7 (L:Nat):Sum tT:=mU 323 [.int .i64] (.one .bool) (WQ L)
theorem Gh:SX V7:=fun h=>sT h Zn rfl (by kernel_rfl) fun _=>rfl
theorem BM (L:Nat)(x0:Int):WQ L (x0,())=some (decide (x0 ≥ 22) && decide (x0≤24)):=by kernel_rfl
def Yn (L:Nat)(x:Y6×Int×PUnit):Option (Int×Int×Bool×PUnit):=fT [V7 L] L Ql [] (.tup [.int .i64,.int .i64,.bool]) [.row 17,.int .i64] x
def Qp (L:Nat):Sum tT:=mU 293 [.row 17,.int .i64] (.tup [.int .i64,.int .i64,.bool]) (Yn L)
theorem J5:SX Qp:=fun h=>sT h (Za (Gh h) Zn) rfl (by kernel_rfl) fun _=>rfl
theorem Jv (L:Nat)(x0:Y6)(x1:Int):Yn L (x0,x1,())=bif x1 == 2 then some (0,1,true,()) else bif x1 == 25 then some (0,15,true,()) else bif x1 == 26 then some (0,31,true,()) else bT (WQ L (x1,())) fun y=>bif y && x0.1 then some (0,63,true,()) else some (0,0,false,()):=by kernel_rfl
def Oa (L:Nat)(x:Int×PUnit):Option Bool:=fT [] L Ag [] (.one .bool) [.int .i64] x
def F6 (L:Nat):Sum tT:=mU 260 [.int .i64] (.one .bool) (Oa L)
theorem Zce:SX F6:=fun h=>sT h Zn rfl (by kernel_rfl) fun _=>rfl
theorem ZbW (L:Nat)(x0:Int):Oa L (x0,())=some (decide (x0 ≥ (-1000000000000)) && decide (x0≤1000000000000)):=by kernel_rfl
def Yi (L:Nat)(x:Y6×Int×PUnit):Option Bool:=fT [V7 L] L QX [] (.one .bool) [.row 17,.int .i64] x
def Xh (L:Nat):Sum tT:=mU 292 [.row 17,.int .i64] (.one .bool) (Yi L)
theorem UE:SX Xh:=fun h=>sT h (Za (Gh h) Zn) rfl (by kernel_rfl) fun _=>rfl
theorem U8 (L:Nat)(x0:Y6)(x1:Int):Yi L (x0,x1,())=bT (bif (x1 == 3) == false then bT (WQ L (x1,())) fun y=>some (y && !x0.1) else some true) fun y=>some y:=by kernel_rfl
def Xl (L:Nat)(x:Int×PUnit):Option Int:=fT [] L Og [] (.one (.int .i64)) [.int .i64] x
def UM (L:Nat):Sum tT:=mU 291 [.int .i64] (.one (.int .i64)) (Xl L)
theorem TB:SX UM:=fun h=>sT h Zn rfl (by kernel_rfl) fun _=>rfl
theorem SY (L:Nat)(x0:Int):Xl L (x0,())=bif x0 == 1 || x0 == 2 || x0 == 3 || x0 == 4 then some 0 else bif decide (x0 ≥ 5) && decide (x0≤8) then some 1 else bif decide (x0 ≥ 9) && decide (x0≤21) then some 2 else bif decide (x0 ≥ 22) && decide (x0≤26) then some 0 else some (-1):=by kernel_rfl
def YF (L:Nat)(x:Y6×Int×PUnit):Option Bool:=fT [UM L] L QW [] (.one .bool) [.row 17,.int .i64] x
def Xg (L:Nat):Sum tT:=mU 290 [.row 17,.int .i64] (.one .bool) (YF L)
theorem UD:SX Xg:=fun h=>sT h (Za (TB h) Zn) rfl (by kernel_rfl) fun _=>rfl
theorem U7 (L:Nat)(x0:Y6)(x1:Int):YF L (x0,x1,())=bif x1 == 3 then some !x0.1 else bif x1 == 25 then some x0.1 else bif x1 == 26 then some x0.1 else bT (Xl L (x1,())) fun y=>some (decide (y ≥ 0)):=by kernel_rfl
def YR (L:Nat)(x:Y6×Zi×PUnit):Option Int:=fT [V8 L,Qp L,F6 L,Xh L,UM L,Xg L] L Xv [] (.one (.int .i64)) [.row 17,.row 8] x
def WP (L:Nat):Sum tT:=mU 235 [.row 17,.row 8] (.one (.int .i64)) (YR L)
theorem X0:SX WP:=fun h=>sT h (Za (Gj h) (Za (J5 h) (Za (Zce h) (Za (UE h) (Za (TB h) (Za (UD h) Zn)))))) rfl (by kernel_rfl) fun _=>rfl
theorem KX (L:Nat)(x0:Y6)(x1:Zi):YR L (x0,x1,())=bT (bT (YF L (x0,x1.1,())) fun y=>some y) fun y=>bT (bif (!y) == false then bT (bT (Xl L (x1.1,())) fun y=>some y) fun y=>some ((↑x1.4.length:Int) != y) else some true) fun y=>bT (bif y == false then bif (!x1.2 == []) == true then bT (bT (Yi L (x0,x1.1,())) fun y=>some y) fun y=>some !y else some false else some true) fun y=>bif y then some 1 else bif x1.1 == 1 then bT (Oa L (x1.3,())) fun y=>bif !y then some 2 else some 0 else bT (Yn L (x0,x1.1,())) fun y=>bif !y.2.2.1 && x1.3 != 0 then some 1 else bif y.2.2.1 && (decide (x1.3 < y.1) || decide (x1.3 > y.2.1)) then some 2 else bT (Yi L (x0,x1.1,())) fun y=>bif y then bT (WS L (x1.2,())) fun y=>some y else some 0:=by kernel_rfl
def Wl (L:Nat):Nat→List (Sum tT)
 | 0=>[⟨146,[.row 17,.row 8],fun _=>.par _ none ((.one (.int .i64):RD).tv tT)⟩]
 | m + 1=>[⟨146,[.row 17,.row 8],fun x=>.par _ (fnT tF tG (qOf tF (Wl L m ++ [WP L])) 0 L Wx [.rnd [.slot 18 (.int .i64)]] (.one (.int .i64)) (tvL tT [.row 17,.row 8] x) []) ((.one (.int .i64):RD).tv tT)⟩]
theorem WN {C:Cfg}{L:Nat}(h:St C L):∀ m,∀ s ∈ Wl L m,SumOk C s
 | 0=>(Za (ZV _ _ _) Zn)
 | m + 1=>have ih:=WN h m
  (Za (sum_par Zv h.L h.G (qOf_ok Zv (Y4 ih (Za (X0 h) Zn))) [.rnd [.slot 18 (.int .i64)]] (h.T _ _ rfl) (by kernel_rfl) fun _=>rfl) Zn)
def Yw (L m:Nat)(x:Y6×Zi×PUnit):Option (Int):=fnT tF tG (qOf tF (Wl L m ++ [WP L])) 0 L Wx [.rnd [.slot 18 (.int .i64)]] (.one (.int .i64)) (tvL tT [.row 17,.row 8] x) []
def WA (L:Nat)(x:Y6×Zi×PUnit):Option (Int):=Yw L L x
def Xi (L:Nat):Sum tT:=⟨146,[.row 17,.row 8],fun x=>.par ((.one (.int .i64):RD).Ty tT) (WA L x) ((.one (.int .i64):RD).tv tT)⟩
theorem UF {C:Cfg}{L:Nat}(h:St C L):SumOk C (Xi L):=have ih:=WN h L
 sum_par Zv h.L h.G (qOf_ok Zv (Y4 ih (Za (X0 h) Zn))) [.rnd [.slot 18 (.int .i64)]] (h.T _ _ rfl) (by kernel_rfl) fun _=>rfl
def Yv:Nat→Y6→Zi→Nat→(Int×PUnit→Option Int)→Int×PUnit→Option Int:=fun (m:Nat)=>fun x0 x1 L self acc=>bif decide (acc.1 < (↑x1.4.length:Int)) then bT (getT x1.4 acc.1) fun y=>bT (Yw L m (x0,y,())) fun y=>bif y != 0 then some y else self (Go.IntKind.i64.wrap (acc.1 + 1),()) else some 0
theorem U9 (L m:Nat)(x0:Y6)(x1:Zi):Yw L (m + 1) (x0,x1,())=bT (YR L (x0,x1,())) fun y=>bif y != 0 then some y else loopT (Yv m x0 x1 L) L (0,()):=by kernel_rfl
def Vu (L:Nat):Nat→List (Sum tT)
 | 0=>[⟨145,[.row 8],fun _=>.par _ none ((.one (.int .i64):RD).tv tT)⟩]
 | m + 1=>[⟨145,[.row 8],fun x=>.par _ (fnT tF tG (qOf tF (Vu L m ++ [])) 0 L Jh [.rnd [.slot 3 (.int .i64),.slot 9 (.int .i64)]] (.one (.int .i64)) (tvL tT [.row 8] x) []) ((.one (.int .i64):RD).tv tT)⟩]
theorem VS {C:Cfg}{L:Nat}(h:St C L):∀ m,∀ s ∈ Vu L m,SumOk C s
 | 0=>(Za (ZV _ _ _) Zn)
 | m + 1=>have ih:=VS h m
  (Za (sum_par Zv h.L h.G (qOf_ok Zv (Y4 ih Zn)) [.rnd [.slot 3 (.int .i64),.slot 9 (.int .i64)]] (h.T _ _ rfl) (by kernel_rfl) fun _=>rfl) Zn)
def QJ (L m:Nat)(x:Zi×PUnit):Option (Int):=fnT tF tG (qOf tF (Vu L m ++ [])) 0 L Jh [.rnd [.slot 3 (.int .i64),.slot 9 (.int .i64)]] (.one (.int .i64)) (tvL tT [.row 8] x) []
def JO (L:Nat)(x:Zi×PUnit):Option (Int):=QJ L L x
def I7 (L:Nat):Sum tT:=⟨145,[.row 8],fun x=>.par ((.one (.int .i64):RD).Ty tT) (JO L x) ((.one (.int .i64):RD).tv tT)⟩
theorem NC {C:Cfg}{L:Nat}(h:St C L):SumOk C (I7 L):=have ih:=VS h L
 sum_par Zv h.L h.G (qOf_ok Zv (Y4 ih Zn)) [.rnd [.slot 3 (.int .i64),.slot 9 (.int .i64)]] (h.T _ _ rfl) (by kernel_rfl) fun _=>rfl
def Vj:Nat→Zi→Nat→(Int×Int×PUnit→Option Int)→Int×Int×PUnit→Option Int:=fun (m:Nat)=>fun x0 L self acc=>bif decide (acc.2.1 < (↑x0.4.length:Int)) then bT (getT x0.4 acc.2.1) fun y=>bT (QJ L m (y,())) fun y=>self (if y > acc.1 then y else acc.1,Go.IntKind.i64.wrap (acc.2.1 + 1),()) else some (Go.IntKind.i64.wrap (acc.1 + 1))
theorem Na (L m:Nat)(x0:Zi):QJ L (m + 1) (x0,())=loopT (Vj m x0 L) L (0,0,()):=by kernel_rfl
def Vw (L:Nat):Nat→List (Sum tT)
 | 0=>[⟨144,[.row 8],fun _=>.par _ none ((.one (.int .i64):RD).tv tT)⟩]
 | m + 1=>[⟨144,[.row 8],fun x=>.par _ (fnT tF tG (qOf tF (Vw L m ++ [])) 0 L Ji [.rnd [.slot 3 (.int .i64),.slot 9 (.int .i64)]] (.one (.int .i64)) (tvL tT [.row 8] x) []) ((.one (.int .i64):RD).tv tT)⟩]
theorem VT {C:Cfg}{L:Nat}(h:St C L):∀ m,∀ s ∈ Vw L m,SumOk C s
 | 0=>(Za (ZV _ _ _) Zn)
 | m + 1=>have ih:=VT h m
  (Za (sum_par Zv h.L h.G (qOf_ok Zv (Y4 ih Zn)) [.rnd [.slot 3 (.int .i64),.slot 9 (.int .i64)]] (h.T _ _ rfl) (by kernel_rfl) fun _=>rfl) Zn)
def QK (L m:Nat)(x:Zi×PUnit):Option (Int):=fnT tF tG (qOf tF (Vw L m ++ [])) 0 L Ji [.rnd [.slot 3 (.int .i64),.slot 9 (.int .i64)]] (.one (.int .i64)) (tvL tT [.row 8] x) []
def JP (L:Nat)(x:Zi×PUnit):Option (Int):=QK L L x
def I8 (L:Nat):Sum tT:=⟨144,[.row 8],fun x=>.par ((.one (.int .i64):RD).Ty tT) (JP L x) ((.one (.int .i64):RD).tv tT)⟩
theorem ND {C:Cfg}{L:Nat}(h:St C L):SumOk C (I8 L):=have ih:=VT h L
 sum_par Zv h.L h.G (qOf_ok Zv (Y4 ih Zn)) [.rnd [.slot 3 (.int .i64),.slot 9 (.int .i64)]] (h.T _ _ rfl) (by kernel_rfl) fun _=>rfl
def Vk:Nat→Zi→Nat→(Int×Int×PUnit→Option Int)→Int×Int×PUnit→Option Int:=fun (m:Nat)=>fun x0 L self acc=>bif decide (acc.2.1 < (↑x0.4.length:Int)) then bT (getT x0.4 acc.2.1) fun y=>bT (QK L m (y,())) fun y=>self (Go.IntKind.i64.wrap (acc.1 + y),Go.IntKind.i64.wrap (acc.2.1 + 1),()) else some acc.1
theorem Nb (L m:Nat)(x0:Zi):QK L (m + 1) (x0,())=loopT (Vk m x0 L) L (1,0,()):=by kernel_rfl
def YE (L:Nat)(x:Y6×Zi×PUnit):Option Int:=fT [Xi L,I7 L,I8 L] L QV [] (.one (.int .i64)) [.row 17,.row 8] x
def Xf (L:Nat):Sum tT:=mU 66 [.row 17,.row 8] (.one (.int .i64)) (YE L)
theorem UC:SX Xf:=fun h=>sT h (Za (UF h) (Za (NC h) (Za (ND h) Zn))) rfl (by kernel_rfl) fun _=>rfl
theorem U6 (L:Nat)(x0:Y6)(x1:Zi):YE L (x0,x1,())=bT (JP L (x1,())) fun y=>bif decide (y > 60) then some 6 else bT (JO L (x1,())) fun y=>bif decide (y > 12) then some 11 else bT (WA L (x0,x1,())) fun y=>some y:=by kernel_rfl
end Go.Proofs.YtbcfddaocfpckaaGreatDoor
end
noncomputable section
namespace Go.Proofs.YtbcfddaocfpckaaGreatDoor
open Go Go.Proofs.YtbcfddaocfpckaaGreatDoor.Abs Go.Proofs.YtbcfddaocfpckaaGreatDoor.Tl
set_option maxRecDepth 100000
set_option maxHeartbeats 0
def Qr (L:Nat)(x:Zi×PUnit):Option Int:=fT [Xf L] L Hz [] (.one (.int .i64)) [.row 8] x
def I5 (L:Nat):Sum tT:=mU 29 [.row 8] (.one (.int .i64)) (Qr L)
theorem N9:SX I5:=fun h=>sT h (Za (UC h) Zn) rfl (by kernel_rfl) fun _=>rfl
theorem PZ (L:Nat)(x0:Zi):Qr L (x0,())=bT (YE L (Y6.mk false,x0,())) fun y=>some y:=by kernel_rfl
def VK (L:Nat)(x:(List UInt8)×PUnit):Option ((List UInt8)×Int×PUnit):=fT [] L OE [] (.tup [.str,.int .i64]) [.str] x
def MG (L:Nat):Sum tT:=mU 37 [.str] (.tup [.str,.int .i64]) (VK L)
theorem ER:SX MG:=fun h=>sT h Zn rfl (by kernel_rfl) fun _=>rfl
theorem Ew (L:Nat)(x0:(List UInt8)):VK L (x0,())=bif decide ((↑x0.length:Int) > 20000) then some ([],6,()) else some (x0,0,()):=by kernel_rfl
def ZN (L:Nat)(x:Int×Int×Int×PUnit):Option Bool:=fT [] L KF [] (.one .bool) [.int .i64,.int .i64,.int .i64] x
def VA (L:Nat):Sum tT:=mU 299 [.int .i64,.int .i64,.int .i64] (.one .bool) (ZN L)
theorem Gl:SX VA:=fun h=>sT h Zn rfl (by kernel_rfl) fun _=>rfl
theorem BR (L:Nat)(x0:Int)(x1:Int)(x2:Int):ZN L (x0,x1,x2,())=some (decide (x0 ≥ x1) && decide (x0≤x2)):=by kernel_rfl
def VG (L:Nat)(x:ZF×PUnit):Option Int:=fT [VA L] L Ox [.rnd [.slot 3 (.int .i64)]] (.one (.int .i64)) [.row 2] x
def TR (L:Nat):Sum tT:=mU 300 [.row 2] (.one (.int .i64)) (VG L)
theorem EI:SX TR:=fun h=>sT h (Za (Gl h) Zn) rfl (by kernel_rfl) fun _=>rfl
def Jw:ZF→Nat→(Int×PUnit→Option Int)→Int×PUnit→Option Int:=fun x0 L self acc=>bif decide (acc.1 < (↑x0.5.length:Int)) then bT (getT x0.5 acc.1) fun y=>bT (ZN L (y,0,1000000000,())) fun y=>bT (bif (!y) == false then bT (getT x0.6 acc.1) fun y=>bT (ZN L (y,1,1000,())) fun y=>some !y else some true) fun y=>bif y then some 2 else self (Go.IntKind.i64.wrap (acc.1 + 1),()) else some 0
theorem Eb (L:Nat)(x0:ZF):VG L (x0,())=bif (↑x0.5.length:Int) != (↑x0.6.length:Int) then some 8 else bif (↑x0.5.length:Int) == 0 then some 7 else bif decide ((↑x0.5.length:Int) > 20) then some 6 else loopT (Jw x0 L) L (0,()):=by kernel_rfl
def X4 (L:Nat)(x:ZF×PUnit):Option Bool:=fT [] L H8 [] (.one .bool) [.row 2] x
def I9 (L:Nat):Sum tT:=mU 298 [.row 2] (.one .bool) (X4 L)
theorem NE:SX I9:=fun h=>sT h Zn rfl (by kernel_rfl) fun _=>rfl
theorem Nj (L:Nat)(x0:ZF):X4 L (x0,())=bif x0.1 == 1 then some (x0.3 == 0 && x0.4 == 0 && ((↑x0.5.length:Int) == 0 && (↑x0.6.length:Int) == 0)) else bif x0.1 == 2 then some (x0.4 == 0 && ((↑x0.5.length:Int) == 0 && (↑x0.6.length:Int) == 0)) else bif x0.1 == 5 then some (x0.4 == 0 && ((↑x0.5.length:Int) == 0 && (↑x0.6.length:Int) == 0)) else bif x0.1 == 3 then some (x0.2 == 0 && x0.3 == 0 && x0.4 == 0) else bif x0.1 == 4 then some ((↑x0.5.length:Int) == 0 && (↑x0.6.length:Int) == 0) else some false:=by kernel_rfl
def WB (L:Nat)(x:ZF×PUnit):Option Int:=fT [TR L,VA L,I9 L] L Ov [] (.one (.int .i64)) [.row 2] x
def V9 (L:Nat):Sum tT:=mU 250 [.row 2] (.one (.int .i64)) (WB L)
theorem TD:SX V9:=fun h=>sT h (Za (EI h) (Za (Gl h) (Za (NE h) Zn))) rfl (by kernel_rfl) fun _=>rfl
theorem Ea (L:Nat)(x0:ZF):WB L (x0,())=bT (X4 L (x0,())) fun y=>bif !y then some 1 else bif x0.1 == 1 then bT (ZN L (x0.2,0,1000000000,())) fun y=>bif !y then some 2 else some 0 else bif x0.1 == 2 then bT (ZN L (x0.2,0,x0.3,())) fun y=>bif !(y && decide (x0.3≤1000000000)) then some 2 else some 0 else bif x0.1 == 3 then bT (VG L (x0,())) fun y=>some y else bif x0.1 == 4 then bT (ZN L (x0.4,1,20,())) fun y=>bT (bif y == true then bT (ZN L (x0.2,0,x0.3,())) fun y=>some y else some false) fun y=>bif !(y && decide (x0.3≤1000000)) then some 2 else some 0 else bif x0.1 == 5 then bT (ZN L (x0.2,1,1000,())) fun y=>bT (bif y == true then bT (ZN L (x0.3,1,1000,())) fun y=>some y else some false) fun y=>bif !y then some 2 else some 0 else some 0:=by kernel_rfl
def QP (L:Nat)(x:ZF×PUnit):Option (List UInt8):=fT [XI,V9 L] L LJ [.rnd [.slot 3 .str,.slot 4 (.int .i64)]] (.one .str) [.row 2] x
def RF (L:Nat):Sum tT:=mU 159 [.row 2] (.one .str) (QP L)
theorem Zaj:SX RF:=fun h=>sT h (Za (UI h) (Za (TD h) Zn)) rfl (by kernel_rfl) fun _=>rfl
def Vo:ZF→(List UInt8×Int×PUnit→Option (List UInt8))→List UInt8×Int×PUnit→Option (List UInt8):=fun x0 self acc=>bif decide (acc.2.1 < (↑x0.5.length:Int)) then bT (catS acc.1 [32]) fun y=>bT (getT x0.5 acc.2.1) fun y_1=>bT (bT (XG y_1) fun y=>some y) fun y_2=>bT (catS y y_2) fun y=>bT (catS y [58]) fun y=>bT (getT x0.6 acc.2.1) fun y_3=>bT (bT (XG y_3) fun y=>some y) fun y_4=>bT (catS y y_4) fun y=>self (y,Go.IntKind.i64.wrap (acc.2.1 + 1),()) else some acc.1
theorem CV (L:Nat)(x0:ZF):QP L (x0,())=bT (WB L (x0,())) fun y=>bif y != 0 then some [] else bif x0.1 == 1 then bT (XG x0.2) fun y=>bT (catS [99,111,110,115,116,32] y) fun y=>some y else bif x0.1 == 2 then bT (bT (XG x0.2) fun y=>some y) fun y=>bT (catS [117,110,105,102,111,114,109,32] y) fun y=>bT (catS y [32]) fun y=>bT (bT (XG x0.3) fun y=>some y) fun y_1=>bT (catS y y_1) fun y=>some y else bif x0.1 == 4 then bT (bT (XG x0.4) fun y=>some y) fun y=>bT (catS [115,117,109,32] y) fun y=>bT (catS y [32]) fun y=>bT (bT (XG x0.2) fun y=>some y) fun y_1=>bT (catS y y_1) fun y=>bT (catS y [32]) fun y=>bT (bT (XG x0.3) fun y=>some y) fun y_2=>bT (catS y y_2) fun y=>some y else bif x0.1 == 5 then bT (bT (XG x0.2) fun y=>some y) fun y=>bT (catS [103,101,111,109,32] y) fun y=>bT (catS y [32]) fun y=>bT (bT (XG x0.3) fun y=>some y) fun y_1=>bT (catS y y_1) fun y=>some y else loopT (Vo x0) L ([116,97,98,108,101],0,()):=by kernel_rfl
def Zy (L:Nat)(x:Zd×PUnit):Option (List UInt8):=fT [RP L,RF L,JX L] L Ie [] (.one .str) [.row 9] x
def JL (L:Nat):Sum tT:=mU 85 [.row 9] (.one .str) (Zy L)
theorem Iz:SX JL:=fun h=>sT h (Za (Zap h) (Za (Zaj h) (Za (Hg h) Zn))) rfl (by kernel_rfl) fun _=>rfl
theorem Z7 (L:Nat)(x0:Zd):Zy L (x0,())=bif x0.E.1 != 0 then bT (YO L (x0.4,())) fun y=>bif x0.1 == 1 then bT (catS [115,101,116,32] x0.2) fun y_1=>bT (catS y_1 [32,61,32]) fun y_2=>bT (catS y_2 y) fun y=>some y else bif x0.1 == 2 then bT (catS [100,114,97,119,32] x0.2) fun y=>bT (catS y [32,102,114,111,109,32]) fun y=>bT (catS y x0.3) fun y=>bT (catS y [32]) fun y=>bT (bT (QP L (x0.7,())) fun y=>some y) fun y_1=>bT (catS y y_1) fun y=>some y else bif x0.1 == 5 then bT (catS [104,111,108,100,32] y) fun y=>some y else bif x0.1 == 6 then bT (catS [115,101,105,122,101,32] x0.2) fun y_1=>bT (catS y_1 [32]) fun y_2=>bT (catS y_2 y) fun y=>bT (catS y [32,112,114,105,111,32]) fun y=>bT (bT (YO L (x0.5,())) fun y=>some y) fun y_3=>bT (catS y y_3) fun y=>bif x0.8 then bT (catS y [32,112,114,101,101,109,112,116]) fun y=>some y else some y else bif x0.1 == 7 then bT (catS [114,101,108,101,97,115,101,32] x0.2) fun y_1=>bT (catS y_1 [32]) fun y_2=>bT (catS y_2 y) fun y=>some y else bif x0.1 == 8 then bT (catS [112,117,116,32] y) fun y=>bT (catS y [32,105,110,116,111,32]) fun y=>bT (catS y x0.2) fun y=>some y else bif x0.1 == 9 then bT (catS [103,101,116,32] x0.3) fun y=>bT (catS y [32,102,114,111,109,32]) fun y=>bT (catS y x0.2) fun y=>some y else bif x0.1 == 10 then bT (catS [114,105,100,101,32] x0.2) fun y=>some y else bif x0.1 == 11 then bT (catS [119,97,105,116,32] x0.2) fun y=>some y else bif x0.1 == 12 then bT (catS [115,105,103,110,97,108,32] x0.2) fun y_1=>bT (catS y_1 [32]) fun y_2=>bT (catS y_2 y) fun y=>some y else bif x0.1 == 13 then bT (catS [115,101,110,100,32] x0.3) fun y_1=>bT (catS y_1 [46]) fun y_2=>bT (catS y_2 x0.2) fun y_3=>bT (catS y_3 [32]) fun y_4=>bT (bT (QR L (x0.6,())) fun y=>some y) fun y_5=>bT (catS y_4 y_5) fun y_6=>bT (catS y_6 [32,97,102,116,101,114,32]) fun y_7=>bT (catS y_7 y) fun y=>some y else bif x0.1 == 14 then bT (catS [115,112,97,119,110,32] x0.2) fun y_1=>bT (catS y_1 [32]) fun y_2=>bT (bT (QR L (x0.6,())) fun y=>some y) fun y_3=>bT (catS y_2 y_3) fun y_4=>bT (catS y_4 [32,97,102,116,101,114,32]) fun y_5=>bT (catS y_5 y) fun y=>some y else bif x0.1 == 15 then bT (catS [111,98,115,101,114,118,101,32] x0.2) fun y_1=>bT (catS y_1 [32]) fun y_2=>bT (catS y_2 y) fun y=>some y else bif x0.1 == 16 then bT (catS [108,101,118,101,108,32] x0.2) fun y_1=>bT (catS y_1 [32]) fun y_2=>bT (catS y_2 y) fun y=>some y else bif x0.1 == 17 then bT (catS [97,100,100,32] x0.2) fun y_1=>bT (catS y_1 [32]) fun y_2=>bT (catS y_2 y) fun y=>some y else some [115,116,111,112] else bif x0.1 == 1 then bT (catS [115,101,116,32] x0.2) fun y=>bT (catS y [32,61,32]) fun y=>bT (catS y []) fun y=>some y else bif x0.1 == 2 then bT (catS [100,114,97,119,32] x0.2) fun y=>bT (catS y [32,102,114,111,109,32]) fun y=>bT (catS y x0.3) fun y=>bT (catS y [32]) fun y=>bT (bT (QP L (x0.7,())) fun y=>some y) fun y_1=>bT (catS y y_1) fun y=>some y else bif x0.1 == 5 then bT (catS [104,111,108,100,32] []) fun y=>some y else bif x0.1 == 6 then bT (catS [115,101,105,122,101,32] x0.2) fun y=>bT (catS y [32]) fun y=>bT (catS y []) fun y=>bT (catS y [32,112,114,105,111,32]) fun y=>bT (bT (YO L (x0.5,())) fun y=>some y) fun y_1=>bT (catS y y_1) fun y=>bif x0.8 then bT (catS y [32,112,114,101,101,109,112,116]) fun y=>some y else some y else bif x0.1 == 7 then bT (catS [114,101,108,101,97,115,101,32] x0.2) fun y=>bT (catS y [32]) fun y=>bT (catS y []) fun y=>some y else bif x0.1 == 8 then bT (catS [112,117,116,32] []) fun y=>bT (catS y [32,105,110,116,111,32]) fun y=>bT (catS y x0.2) fun y=>some y else bif x0.1 == 9 then bT (catS [103,101,116,32] x0.3) fun y=>bT (catS y [32,102,114,111,109,32]) fun y=>bT (catS y x0.2) fun y=>some y else bif x0.1 == 10 then bT (catS [114,105,100,101,32] x0.2) fun y=>some y else bif x0.1 == 11 then bT (catS [119,97,105,116,32] x0.2) fun y=>some y else bif x0.1 == 12 then bT (catS [115,105,103,110,97,108,32] x0.2) fun y=>bT (catS y [32]) fun y=>bT (catS y []) fun y=>some y else bif x0.1 == 13 then bT (catS [115,101,110,100,32] x0.3) fun y=>bT (catS y [46]) fun y=>bT (catS y x0.2) fun y=>bT (catS y [32]) fun y=>bT (bT (QR L (x0.6,())) fun y=>some y) fun y_1=>bT (catS y y_1) fun y=>bT (catS y [32,97,102,116,101,114,32]) fun y=>bT (catS y []) fun y=>some y else bif x0.1 == 14 then bT (catS [115,112,97,119,110,32] x0.2) fun y=>bT (catS y [32]) fun y=>bT (bT (QR L (x0.6,())) fun y=>some y) fun y_1=>bT (catS y y_1) fun y=>bT (catS y [32,97,102,116,101,114,32]) fun y=>bT (catS y []) fun y=>some y else bif x0.1 == 15 then bT (catS [111,98,115,101,114,118,101,32] x0.2) fun y=>bT (catS y [32]) fun y=>bT (catS y []) fun y=>some y else bif x0.1 == 16 then bT (catS [108,101,118,101,108,32] x0.2) fun y=>bT (catS y [32]) fun y=>bT (catS y []) fun y=>some y else bif x0.1 == 17 then bT (catS [97,100,100,32] x0.2) fun y=>bT (catS y [32]) fun y=>bT (catS y []) fun y=>some y else some [115,116,111,112]:=by kernel_rfl
def Yf (L:Nat)(x:Int×(List UInt8)×PUnit):Option (List UInt8):=fT [] L LW [.rnd [.slot 1 .str,.slot 5 (.int .i64)]] (.one .str) [.int .i64,.str] x
def Hq (L:Nat):Sum tT:=mU 47 [.int .i64,.str] (.one .str) (Yf L)
theorem Ry:SX Hq:=fun h=>sT h Zn rfl (by kernel_rfl) fun _=>rfl
def Vs:Int→(List UInt8×Int×PUnit→Option (List UInt8))→List UInt8×Int×PUnit→Option (List UInt8):=fun x0 self acc=>bif decide (acc.2.1 < x0) then bT (catS [32] acc.1) fun y=>self (y,Go.IntKind.i64.wrap (acc.2.1 + 1),()) else bT (catS acc.1 [10]) fun y=>some y
theorem Zaf (L:Nat)(x0:Int)(x1:(List UInt8)):Yf L (x0,x1,())=loopT (Vs x0) L (x1,0,()):=by kernel_rfl
def JG (L:Nat):Nat→List (Sum tT)
 | 0=>[⟨38,[.lst 21 (.row 9),.int .i64],fun _=>.par _ none ((.one (.str):RD).tv tT)⟩]
 | m + 1=>[⟨38,[.lst 21 (.row 9),.int .i64],fun x=>.par _ (fnT tF tG (qOf tF (JG L m ++ [JL L,Hq L,JX L])) 0 L U0 [.rnd [.slot 5 (.str),.slot 6 (.int .i64)]] (.one (.str)) (tvL tT [.lst 21 (.row 9),.int .i64] x) []) ((.one (.str):RD).tv tT)⟩]
theorem JH {C:Cfg}{L:Nat}(h:St C L):∀ m,∀ s ∈ JG L m,SumOk C s
 | 0=>(Za (ZV _ _ _) Zn)
 | m + 1=>have ih:=JH h m
  (Za (sum_par Zv h.L h.G (qOf_ok Zv (Y4 ih (Za (Iz h) (Za (Ry h) (Za (Hg h) Zn))))) [.rnd [.slot 5 (.str),.slot 6 (.int .i64)]] (h.T _ _ rfl) (by kernel_rfl) fun _=>rfl) Zn)
def Y9 (L m:Nat)(x:(List Zd)×Int×PUnit):Option ((List UInt8)):=fnT tF tG (qOf tF (JG L m ++ [JL L,Hq L,JX L])) 0 L U0 [.rnd [.slot 5 (.str),.slot 6 (.int .i64)]] (.one (.str)) (tvL tT [.lst 21 (.row 9),.int .i64] x) []
def UZ (L:Nat)(x:(List Zd)×Int×PUnit):Option ((List UInt8)):=Y9 L L x
def MH (L:Nat):Sum tT:=⟨38,[.lst 21 (.row 9),.int .i64],fun x=>.par ((.one (.str):RD).Ty tT) (UZ L x) ((.one (.str):RD).tv tT)⟩
theorem ES {C:Cfg}{L:Nat}(h:St C L):SumOk C (MH L):=have ih:=JH h L
 sum_par Zv h.L h.G (qOf_ok Zv (Y4 ih (Za (Iz h) (Za (Ry h) (Za (Hg h) Zn))))) [.rnd [.slot 5 (.str),.slot 6 (.int .i64)]] (h.T _ _ rfl) (by kernel_rfl) fun _=>rfl
def WG:Nat→List Zd→Int→Nat→(List UInt8×Int×PUnit→Option (List UInt8))→List UInt8×Int×PUnit→Option (List UInt8):=fun (m:Nat)=>fun x0 x1 L self acc=>bif decide (acc.2.1 < (↑x0.length:Int)) then bT (getT x0 acc.2.1) fun y=>bif y.1 == 3 then bT (bT (YO L (y.4,())) fun y=>some y) fun y_1=>bT (catS [105,102,32] y_1) fun y_2=>bT (bT (Yf L (x1,y_2,())) fun y=>some y) fun y_3=>bT (catS acc.1 y_3) fun y_4=>bT (bT (Y9 L m (y.9,Go.IntKind.i64.wrap (x1 + 1),())) fun y=>some y) fun y_5=>bT (catS y_4 y_5) fun y_6=>bif decide ((↑y.10.length:Int) > 0) then bT (bT (Yf L (x1,[101,108,115,101],())) fun y=>some y) fun y_7=>bT (catS y_6 y_7) fun y_8=>bT (bT (Y9 L m (y.10,Go.IntKind.i64.wrap (x1 + 1),())) fun y=>some y) fun y=>bT (catS y_8 y) fun y=>bT (Yf L (x1,[101,110,100],())) fun y_9=>bT (catS y y_9) fun y=>self (y,Go.IntKind.i64.wrap (acc.2.1 + 1),()) else bT (Yf L (x1,[101,110,100],())) fun y=>bT (catS y_6 y) fun y=>self (y,Go.IntKind.i64.wrap (acc.2.1 + 1),()) else bif y.1 == 4 then bT (bT (YO L (y.4,())) fun y=>some y) fun y_1=>bT (catS [119,104,105,108,101,32] y_1) fun y_2=>bT (bT (Yf L (x1,y_2,())) fun y=>some y) fun y_3=>bT (catS acc.1 y_3) fun y_4=>bT (bT (Y9 L m (y.9,Go.IntKind.i64.wrap (x1 + 1),())) fun y=>some y) fun y=>bT (catS y_4 y) fun y=>bT (bT (Yf L (x1,[101,110,100],())) fun y=>some y) fun y_5=>bT (catS y y_5) fun y=>self (y,Go.IntKind.i64.wrap (acc.2.1 + 1),()) else bT (Zy L (y,())) fun y=>bT (Yf L (x1,y,())) fun y=>bT (catS acc.1 y) fun y=>self (y,Go.IntKind.i64.wrap (acc.2.1 + 1),()) else some acc.1
theorem Ey (L m:Nat)(x0:(List Zd))(x1:Int):Y9 L (m + 1) (x0,x1,())=loopT (WG m x0 x1 L) L ([],0,()):=by kernel_rfl
end Go.Proofs.YtbcfddaocfpckaaGreatDoor
end
noncomputable section
namespace Go.Proofs.YtbcfddaocfpckaaGreatDoor
open Go Go.Proofs.YtbcfddaocfpckaaGreatDoor.Abs Go.Proofs.YtbcfddaocfpckaaGreatDoor.Tl
set_option maxRecDepth 100000
set_option maxHeartbeats 0
def VJ (L:Nat)(x:Zd×ZL×PUnit):Option Int:=fT [TS L] L O5 [.rnd [.slot 5 (.int .i64),.slot 6 (.int .i64)]] (.one (.int .i64)) [.row 9,.row 19] x
def Mc (L:Nat):Sum tT:=mU 249 [.row 9,.row 19] (.one (.int .i64)) (VJ L)
theorem EP:SX Mc:=fun h=>sT h (Za (EJ h) Zn) rfl (by kernel_rfl) fun _=>rfl
def ZZ:Zd→Nat→(Int×Int×PUnit→Option Int)→Int×Int×PUnit→Option Int:=fun x0 L self acc=>bif acc.1 == 0 && decide (acc.2.1 < (↑x0.6.length:Int)) then bT (getT x0.6 acc.2.1) fun y=>bT (ZO L (y,())) fun y=>self (y,Go.IntKind.i64.wrap (acc.2.1 + 1),()) else some acc.1
def Ik:Zd→Nat→(Int×Int×PUnit→Option Int)→Int×Int×PUnit→Option Int:=fun x0 L self acc=>bif acc.1 == 0 && decide (acc.2.1 < (↑x0.6.length:Int)) then bT (getT x0.6 acc.2.1) fun y=>bT (ZO L (y,())) fun y=>self (y,Go.IntKind.i64.wrap (acc.2.1 + 1),()) else some acc.1
def Il:Zd→Nat→(Int×Int×PUnit→Option Int)→Int×Int×PUnit→Option Int:=fun x0 L self acc=>bif acc.1 == 0 && decide (acc.2.1 < (↑x0.6.length:Int)) then bT (getT x0.6 acc.2.1) fun y=>bT (ZO L (y,())) fun y=>self (y,Go.IntKind.i64.wrap (acc.2.1 + 1),()) else some acc.1
def Io:Zd→Nat→(Int×Int×PUnit→Option Int)→Int×Int×PUnit→Option Int:=fun x0 L self acc=>bif acc.1 == 0 && decide (acc.2.1 < (↑x0.6.length:Int)) then bT (getT x0.6 acc.2.1) fun y=>bT (ZO L (y,())) fun y=>self (y,Go.IntKind.i64.wrap (acc.2.1 + 1),()) else some acc.1
def Ip:Zd→Nat→(Int×Int×PUnit→Option Int)→Int×Int×PUnit→Option Int:=fun x0 L self acc=>bif acc.1 == 0 && decide (acc.2.1 < (↑x0.6.length:Int)) then bT (getT x0.6 acc.2.1) fun y=>bT (ZO L (y,())) fun y=>self (y,Go.IntKind.i64.wrap (acc.2.1 + 1),()) else some acc.1
def Iq:Zd→Nat→(Int×Int×PUnit→Option Int)→Int×Int×PUnit→Option Int:=fun x0 L self acc=>bif acc.1 == 0 && decide (acc.2.1 < (↑x0.6.length:Int)) then bT (getT x0.6 acc.2.1) fun y=>bT (ZO L (y,())) fun y=>self (y,Go.IntKind.i64.wrap (acc.2.1 + 1),()) else some acc.1
def Ir:Zd→Nat→(Int×Int×PUnit→Option Int)→Int×Int×PUnit→Option Int:=fun x0 L self acc=>bif acc.1 == 0 && decide (acc.2.1 < (↑x0.6.length:Int)) then bT (getT x0.6 acc.2.1) fun y=>bT (ZO L (y,())) fun y=>self (y,Go.IntKind.i64.wrap (acc.2.1 + 1),()) else some acc.1
def Iu:Zd→Nat→(Int×Int×PUnit→Option Int)→Int×Int×PUnit→Option Int:=fun x0 L self acc=>bif acc.1 == 0 && decide (acc.2.1 < (↑x0.6.length:Int)) then bT (getT x0.6 acc.2.1) fun y=>bT (ZO L (y,())) fun y=>self (y,Go.IntKind.i64.wrap (acc.2.1 + 1),()) else some acc.1
theorem En (L:Nat)(x0:Zd)(x1:ZL):VJ L (x0,x1,())=bif x1.3 then bT (ZO L (x0.4,())) fun y=>bif y == 0 && x1.4 then bT (ZO L (x0.5,())) fun y=>bif y == 0 && decide ((↑x0.6.length:Int) > 6) then loopT (ZZ x0 L) L (6,0,()) else loopT (Ik x0 L) L (y,0,()) else bif y == 0 && decide ((↑x0.6.length:Int) > 6) then loopT (Il x0 L) L (6,0,()) else loopT (Io x0 L) L (y,0,()) else bif 0 == 0 && x1.4 then bT (ZO L (x0.5,())) fun y=>bif y == 0 && decide ((↑x0.6.length:Int) > 6) then loopT (Ip x0 L) L (6,0,()) else loopT (Iq x0 L) L (y,0,()) else bif 0 == 0 && decide ((↑x0.6.length:Int) > 6) then loopT (Ir x0 L) L (6,0,()) else loopT (Iu x0 L) L (0,0,()):=by kernel_rfl
def Wv (L:Nat)(x:(List Int)×(List Int)×PUnit):Option Bool:=fT [] L Ud [.rnd [.slot 5 (.int .i64)]] (.one .bool) [.lst 1 (.int .i64),.lst 1 (.int .i64)] x
def Ur (L:Nat):Sum tT:=mU 131 [.lst 1 (.int .i64),.lst 1 (.int .i64)] (.one .bool) (Wv L)
theorem L8:SX Ur:=fun h=>sT h Zn rfl (by kernel_rfl) fun _=>rfl
def Xc:List Int→List Int→(Int×PUnit→Option Bool)→Int×PUnit→Option Bool:=fun x0 x1 self acc=>bif decide (acc.1 < (↑x0.length:Int)) then bT (getT x0 acc.1) fun y=>bT (getT x1 acc.1) fun y_1=>bif y != y_1 then some false else self (Go.IntKind.i64.wrap (acc.1 + 1),()) else some true
theorem Lr (L:Nat)(x0:(List Int))(x1:(List Int)):Wv L (x0,x1,())=bif (↑x0.length:Int) != (↑x1.length:Int) then some false else loopT (Xc x0 x1) L (0,()):=by kernel_rfl
def QO (L:Nat)(x:ZF×ZF×PUnit):Option Bool:=fT [Ur L] L LH [] (.one .bool) [.row 2,.row 2] x
def Hm (L:Nat):Sum tT:=mU 61 [.row 2,.row 2] (.one .bool) (QO L)
theorem Zai:SX Hm:=fun h=>sT h (Za (L8 h) Zn) rfl (by kernel_rfl) fun _=>rfl
theorem CU (L:Nat)(x0:ZF)(x1:ZF):QO L (x0,x1,())=bT (bif (x0.1 == x1.1 && x0.2 == x1.2 && x0.3 == x1.3 && x0.4 == x1.4) == true then bT (Wv L (x0.5,x1.5,())) fun y=>some y else some false) fun y=>bT (bif y == true then bT (Wv L (x0.6,x1.6,())) fun y=>some y else some false) fun y=>some y:=by kernel_rfl
def XV (L:Nat)(x:Zi×PUnit):Option Bool:=fT [] L LP [] (.one .bool) [.row 8] x
def RJ (L:Nat):Sum tT:=mU 297 [.row 8] (.one .bool) (XV L)
theorem Zao:SX RJ:=fun h=>sT h Zn rfl (by kernel_rfl) fun _=>rfl
theorem Zac (L:Nat)(x0:Zi):XV L (x0,())=some (x0.1 == 0 && x0.2 == [] && x0.3 == 0 && (↑x0.4.length:Int) == 0):=by kernel_rfl
def G6 (L:Nat)(x:Int×PUnit):Option (ZL×Bool×PUnit):=fT [] L Ai [] (.tup [.row 19,.bool]) [.int .i64] x
def Dx (L:Nat):Sum tT:=mU 247 [.int .i64] (.tup [.row 19,.bool]) (G6 L)
theorem Ff:SX Dx:=fun h=>sT h Zn rfl (by kernel_rfl) fun _=>rfl
theorem ZbY (L:Nat)(x0:Int):G6 L (x0,())=bif x0 == 1 then some (ZL.mk true false true false false false false false false,true,()) else bif x0 == 7 then some (ZL.mk true false true false false false false false false,true,()) else bif x0 == 8 then some (ZL.mk true false true false false false false false false,true,()) else bif x0 == 12 then some (ZL.mk true false true false false false false false false,true,()) else bif x0 == 15 then some (ZL.mk true false true false false false false false false,true,()) else bif x0 == 16 then some (ZL.mk true false true false false false false false false,true,()) else bif x0 == 17 then some (ZL.mk true false true false false false false false false,true,()) else bif x0 == 2 then some (ZL.mk true true false false false true false false false,true,()) else bif x0 == 3 then some (ZL.mk false false true false false false false true true,true,()) else bif x0 == 4 then some (ZL.mk false false true false false false false true false,true,()) else bif x0 == 5 then some (ZL.mk false false true false false false false false false,true,()) else bif x0 == 6 then some (ZL.mk true false true true false false true false false,true,()) else bif x0 == 9 then some (ZL.mk true true false false false false false false false,true,()) else bif x0 == 10 then some (ZL.mk true false false false false false false false false,true,()) else bif x0 == 11 then some (ZL.mk true false false false false false false false false,true,()) else bif x0 == 13 then some (ZL.mk true true true false true false false false false,true,()) else bif x0 == 14 then some (ZL.mk true false true false true false false false false,true,()) else bif x0 == 18 then some (ZL.mk false false false false false false false false false,true,()) else some (ZL.mk false false false false false false false false false,false,()):=by kernel_rfl
def X5 (L:Nat)(x:Zd×PUnit):Option Bool:=fT [Hm L,RJ L,Dx L] L Ia [] (.one .bool) [.row 9] x
def IB (L:Nat):Sum tT:=mU 248 [.row 9] (.one .bool) (X5 L)
theorem NG:SX IB:=fun h=>sT h (Za (Zai h) (Za (Zao h) (Za (Ff h) Zn))) rfl (by kernel_rfl) fun _=>rfl
theorem Np (L:Nat)(x0:Zd):X5 L (x0,())=bT (G6 L (x0.1,())) fun y=>bT (bif y.1.3 == false then bT (XV L (x0.4,())) fun y=>some y else some true) fun y_1=>bT (bif y_1 == true then bif y.1.4 == false then bT (XV L (x0.5,())) fun y=>some y else some true else some false) fun y_2=>bT (bif (y.2.1 && ((y.1.1 || x0.2 == []) && (y.1.2 || x0.3 == [])) && (y_2 && (y.1.5 || (↑x0.6.length:Int) == 0)) && ((y.1.8 || (↑x0.9.length:Int) == 0) && (y.1.9 || (↑x0.10.length:Int) == 0))) == true then bif y.1.6 == false then bT (QO L (x0.7,ZF.mk 0 0 0 0 [] [],())) fun y=>some y else some true else some false) fun y_3=>some (y_3 && (y.1.7 || !x0.8)):=by kernel_rfl
def G7 (L:Nat)(x:Zd×PUnit):Option Int:=fT [V9 L,Mc L,Xj L,IB L,Dx L] L Pi [] (.one (.int .i64)) [.row 9] x
def Md (L:Nat):Sum tT:=mU 158 [.row 9] (.one (.int .i64)) (G7 L)
theorem NH:SX Md:=fun h=>sT h (Za (TD h) (Za (EP h) (Za (UG h) (Za (NG h) (Za (Ff h) Zn))))) rfl (by kernel_rfl) fun _=>rfl
theorem Zbg (L:Nat)(x0:Zd):G7 L (x0,())=bT (G6 L (x0.1,())) fun y=>bT (X5 L (x0,())) fun y_1=>bif !y_1 then some 1 else bT (bif y.1.1 == true then bT (YW L (x0.2,())) fun y=>some (y != 0) else some false) fun y_2=>bT (bif y_2 == false then bif y.1.2 == true then bT (YW L (x0.3,())) fun y=>some (y != 0) else some false else some true) fun y_3=>bif y_3 then some 3 else bT (VJ L (x0,y.1,())) fun y_4=>bif y_4 == 0 && y.1.6 then bT (WB L (x0.7,())) fun y=>some y else some y_4:=by kernel_rfl
def UL (L:Nat):Nat→List (Sum tT)
 | 0=>[⟨84,[.lst 21 (.row 9)],fun _=>.par _ none ((.one (.int .i64):RD).tv tT)⟩]
 | m + 1=>[⟨84,[.lst 21 (.row 9)],fun x=>.par _ (fnT tF tG (qOf tF (UL L m ++ [Md L])) 0 L GM [.rnd [.slot 3 (.int .i64)]] (.one (.int .i64)) (tvL tT [.lst 21 (.row 9)] x) []) ((.one (.int .i64):RD).tv tT)⟩]
theorem Un {C:Cfg}{L:Nat}(h:St C L):∀ m,∀ s ∈ UL L m,SumOk C s
 | 0=>(Za (ZV _ _ _) Zn)
 | m + 1=>have ih:=Un h m
  (Za (sum_par Zv h.L h.G (qOf_ok Zv (Y4 ih (Za (NH h) Zn))) [.rnd [.slot 3 (.int .i64)]] (h.T _ _ rfl) (by kernel_rfl) fun _=>rfl) Zn)
def Qc (L m:Nat)(x:(List Zd)×PUnit):Option (Int):=fnT tF tG (qOf tF (UL L m ++ [Md L])) 0 L GM [.rnd [.slot 3 (.int .i64)]] (.one (.int .i64)) (tvL tT [.lst 21 (.row 9)] x) []
def Hu (L:Nat)(x:(List Zd)×PUnit):Option (Int):=Qc L L x
def RI (L:Nat):Sum tT:=⟨84,[.lst 21 (.row 9)],fun x=>.par ((.one (.int .i64):RD).Ty tT) (Hu L x) ((.one (.int .i64):RD).tv tT)⟩
theorem Zan {C:Cfg}{L:Nat}(h:St C L):SumOk C (RI L):=have ih:=Un h L
 sum_par Zv h.L h.G (qOf_ok Zv (Y4 ih (Za (NH h) Zn))) [.rnd [.slot 3 (.int .i64)]] (h.T _ _ rfl) (by kernel_rfl) fun _=>rfl
def UB:Nat→List Zd→Nat→(Int×PUnit→Option Int)→Int×PUnit→Option Int:=fun (m:Nat)=>fun x0 L self acc=>bif decide (acc.1 < (↑x0.length:Int)) then bT (getT x0 acc.1) fun y=>bT (G7 L (y,())) fun y=>bif y == 0 then bT (getT x0 acc.1) fun y=>bT (Qc L m (y.9,())) fun y=>bif y == 0 then bT (getT x0 acc.1) fun y=>bT (Qc L m (y.10,())) fun y=>bif y != 0 then some y else self (Go.IntKind.i64.wrap (acc.1 + 1),()) else bif y != 0 then some y else self (Go.IntKind.i64.wrap (acc.1 + 1),()) else bif y == 0 then bT (getT x0 acc.1) fun y=>bT (Qc L m (y.10,())) fun y=>bif y != 0 then some y else self (Go.IntKind.i64.wrap (acc.1 + 1),()) else bif y != 0 then some y else self (Go.IntKind.i64.wrap (acc.1 + 1),()) else some 0
theorem Zab (L m:Nat)(x0:(List Zd)):Qc L (m + 1) (x0,())=loopT (UB m x0 L) L (0,()):=by kernel_rfl
def JE (L:Nat):Nat→List (Sum tT)
 | 0=>[⟨83,[.lst 21 (.row 9)],fun _=>.par _ none ((.one (.int .i64):RD).tv tT)⟩]
 | m + 1=>[⟨83,[.lst 21 (.row 9)],fun x=>.par _ (fnT tF tG (qOf tF (JE L m ++ [])) 0 L Uz [.rnd [.slot 3 (.int .i64),.slot 4 (.int .i64)]] (.one (.int .i64)) (tvL tT [.lst 21 (.row 9)] x) []) ((.one (.int .i64):RD).tv tT)⟩]
theorem JF {C:Cfg}{L:Nat}(h:St C L):∀ m,∀ s ∈ JE L m,SumOk C s
 | 0=>(Za (ZV _ _ _) Zn)
 | m + 1=>have ih:=JF h m
  (Za (sum_par Zv h.L h.G (qOf_ok Zv (Y4 ih Zn)) [.rnd [.slot 3 (.int .i64),.slot 4 (.int .i64)]] (h.T _ _ rfl) (by kernel_rfl) fun _=>rfl) Zn)
def Qx (L m:Nat)(x:(List Zd)×PUnit):Option (Int):=fnT tF tG (qOf tF (JE L m ++ [])) 0 L Uz [.rnd [.slot 3 (.int .i64),.slot 4 (.int .i64)]] (.one (.int .i64)) (tvL tT [.lst 21 (.row 9)] x) []
def UX (L:Nat)(x:(List Zd)×PUnit):Option (Int):=Qx L L x
def TZ (L:Nat):Sum tT:=⟨83,[.lst 21 (.row 9)],fun x=>.par ((.one (.int .i64):RD).Ty tT) (UX L x) ((.one (.int .i64):RD).tv tT)⟩
theorem EO {C:Cfg}{L:Nat}(h:St C L):SumOk C (TZ L):=have ih:=JF h L
 sum_par Zv h.L h.G (qOf_ok Zv (Y4 ih Zn)) [.rnd [.slot 3 (.int .i64),.slot 4 (.int .i64)]] (h.T _ _ rfl) (by kernel_rfl) fun _=>rfl
def J4:Nat→List Zd→Nat→(Int×Int×PUnit→Option Int)→Int×Int×PUnit→Option Int:=fun (m:Nat)=>fun x0 L self acc=>bif decide (acc.2.1 < (↑x0.length:Int)) then bT (getT x0 acc.2.1) fun y=>bT (bT (Qx L m (y.9,())) fun y=>some y) fun y=>bT (getT x0 acc.2.1) fun y_1=>bT (bT (Qx L m (y_1.10,())) fun y=>some y) fun y_2=>self (if Go.IntKind.i64.wrap (1 + y_2) > if Go.IntKind.i64.wrap (1 + y) > acc.1 then Go.IntKind.i64.wrap (1 + y) else acc.1 then Go.IntKind.i64.wrap (1 + y_2) else if Go.IntKind.i64.wrap (1 + y) > acc.1 then Go.IntKind.i64.wrap (1 + y) else acc.1,Go.IntKind.i64.wrap (acc.2.1 + 1),()) else some acc.1
theorem Em (L m:Nat)(x0:(List Zd)):Qx L (m + 1) (x0,())=loopT (J4 m x0 L) L (0,0,()):=by kernel_rfl
def JC (L:Nat):Nat→List (Sum tT)
 | 0=>[⟨82,[.lst 21 (.row 9)],fun _=>.par _ none ((.one (.int .i64):RD).tv tT)⟩]
 | m + 1=>[⟨82,[.lst 21 (.row 9)],fun x=>.par _ (fnT tF tG (qOf tF (JC L m ++ [])) 0 L Uy [.rnd [.slot 3 (.int .i64),.slot 4 (.int .i64)]] (.one (.int .i64)) (tvL tT [.lst 21 (.row 9)] x) []) ((.one (.int .i64):RD).tv tT)⟩]
theorem JD {C:Cfg}{L:Nat}(h:St C L):∀ m,∀ s ∈ JC L m,SumOk C s
 | 0=>(Za (ZV _ _ _) Zn)
 | m + 1=>have ih:=JD h m
  (Za (sum_par Zv h.L h.G (qOf_ok Zv (Y4 ih Zn)) [.rnd [.slot 3 (.int .i64),.slot 4 (.int .i64)]] (h.T _ _ rfl) (by kernel_rfl) fun _=>rfl) Zn)
def Qw (L m:Nat)(x:(List Zd)×PUnit):Option (Int):=fnT tF tG (qOf tF (JC L m ++ [])) 0 L Uy [.rnd [.slot 3 (.int .i64),.slot 4 (.int .i64)]] (.one (.int .i64)) (tvL tT [.lst 21 (.row 9)] x) []
def UW (L:Nat)(x:(List Zd)×PUnit):Option (Int):=Qw L L x
def TY (L:Nat):Sum tT:=⟨82,[.lst 21 (.row 9)],fun x=>.par ((.one (.int .i64):RD).Ty tT) (UW L x) ((.one (.int .i64):RD).tv tT)⟩
theorem EN {C:Cfg}{L:Nat}(h:St C L):SumOk C (TY L):=have ih:=JD h L
 sum_par Zv h.L h.G (qOf_ok Zv (Y4 ih Zn)) [.rnd [.slot 3 (.int .i64),.slot 4 (.int .i64)]] (h.T _ _ rfl) (by kernel_rfl) fun _=>rfl
def J3:Nat→List Zd→Nat→(Int×Int×PUnit→Option Int)→Int×Int×PUnit→Option Int:=fun (m:Nat)=>fun x0 L self acc=>bif decide (acc.2.1 < (↑x0.length:Int)) then bT (getT x0 acc.2.1) fun y=>bT (bT (Qw L m (y.9,())) fun y=>some y) fun y=>bT (getT x0 acc.2.1) fun y_1=>bT (bT (Qw L m (y_1.10,())) fun y=>some y) fun y_2=>self (Go.IntKind.i64.wrap (Go.IntKind.i64.wrap (Go.IntKind.i64.wrap (acc.1 + 1) + y) + y_2),Go.IntKind.i64.wrap (acc.2.1 + 1),()) else some acc.1
theorem Ej (L m:Nat)(x0:(List Zd)):Qw L (m + 1) (x0,())=loopT (J3 m x0 L) L (0,0,()):=by kernel_rfl
def Xm (L:Nat)(x:(List Zd)×PUnit):Option Int:=fT [RI L,TZ L,TY L] L O4 [] (.one (.int .i64)) [.lst 21 (.row 9)] x
def UO (L:Nat):Sum tT:=mU 36 [.lst 21 (.row 9)] (.one (.int .i64)) (Xm L)
theorem EM:SX UO:=fun h=>sT h (Za (Zan h) (Za (EO h) (Za (EN h) Zn))) rfl (by kernel_rfl) fun _=>rfl
theorem Ei (L:Nat)(x0:(List Zd)):Xm L (x0,())=bT (UW L (x0,())) fun y=>bif decide (y > 200) then some 6 else bT (UX L (x0,())) fun y=>bif decide (y > 12) then some 11 else bT (Hu L (x0,())) fun y=>some y:=by kernel_rfl
def UY (L:Nat)(x:(List Zd)×PUnit):Option ((List UInt8)×Int×PUnit):=fT [MG L,MH L,UO L] L OC [] (.tup [.str,.int .i64]) [.lst 21 (.row 9)] x
def MF (L:Nat):Sum tT:=mU 16 [.lst 21 (.row 9)] (.tup [.str,.int .i64]) (UY L)
theorem EQ:SX MF:=fun h=>sT h (Za (ER h) (Za (ES h) (Za (EM h) Zn))) rfl (by kernel_rfl) fun _=>rfl
theorem Eu (L:Nat)(x0:(List Zd)):UY L (x0,())=bT (Xm L (x0,())) fun y=>bif y != 0 then some ([],y,()) else bT (UZ L (x0,0,())) fun y=>bT (VK L (y,())) fun y=>some (y.1,y.2.1,()):=by kernel_rfl
def Bj:List (Inl tT):=[⟨147,YP,[.rnd [.slot 5 (.own 1 (.str)),.slot 10 (.int .i64)]],.one (.str),[]⟩]
end Go.Proofs.YtbcfddaocfpckaaGreatDoor
end
noncomputable section
namespace Go.Proofs.YtbcfddaocfpckaaGreatDoor
open Go Go.Proofs.YtbcfddaocfpckaaGreatDoor.Abs Go.Proofs.YtbcfddaocfpckaaGreatDoor.Tl
set_option maxRecDepth 100000
set_option maxHeartbeats 0
def Qs (L:Nat)(x:(List Zi)×PUnit):Option (List UInt8):=fI [Gt,Y7 L] L Bj H7 [] (.one .str) [.lst 4 (.row 8)] x
def YV (L:Nat):Sum tT:=mU 157 [.lst 4 (.row 8)] (.one .str) (Qs L)
theorem X3:SX YV:=fun h=>sI h (Za (Rw h) (Za (Qo h) Zn)) (Za ⟨h.T _ _ rfl,by kernel_rfl⟩ Zn) rfl (by kernel_rfl) fun _=>rfl
def KU:List Zi→Nat→(List (List UInt8)×Int×PUnit→Option (List UInt8))→List (List UInt8)×Int×PUnit→Option (List UInt8):=fun x0 L self acc=>bif decide (acc.2.1 < (↑x0.length:Int)) then bT (getT x0 acc.2.1) fun y=>bT (Zz L (y,())) fun y=>bT (apT 16 acc.1 [y]) fun y=>self (y,Go.IntKind.i64.wrap (acc.2.1 + 1),()) else bT (CG acc.1 [44,32]) fun y=>some y
theorem Nc (L:Nat)(x0:(List Zi)):Qs L (x0,())=bT (loopT (KU x0 L) L ([],0,())) fun y=>bT (catS [40] y) fun y=>bT (catS y [41]) fun y=>some y:=by kernel_rfl
def Zc (L:Nat)(x:(List (List UInt8))×PUnit)(c:(List UInt8×Int)):Option (PUnit×(List UInt8×Int)):=(fnE tF tG (orQ (bufQ 80 5 0 93 999998 81 999999) (orQ (bufQ 82 5 1 93 999998 81 80) (qOf tF [Gt,ZeF]))) L WL [] (.tup []) (OD.la (.cont (.bufi 82 5):OD)) (.loc 0 0 :: tvL tT [.lst 1 (.str)] x) [OD.to tT 82 0 (.cont (.bufi 82 5):OD) c]).map fun p=>(p.1,OD.un tT (.cont (.bufi 82 5):OD) p.2)
def Z8 (L:Nat):SumE tT:=⟨40,82,(.cont (.bufi 82 5):OD),[.lst 1 (.str)],.tup [],Zc L⟩
theorem Yc {C:Cfg}{L:Nat}(h:St C L):QS tF (evalCall C) (eQ tF [Z8 L]):=sumE_ok Zv h.L h.G (orQ_ok (bufQ_ok h.buf0) (orQ_ok (bufQ_ok h.buf1) (qOf_ok Zv (Za (Rw h) (Za (Zfx h) Zn))))) [] rfl (h.T _ _ rfl) (by kernel_rfl) fun _ _=>rfl
theorem Vm (L:Nat)(x0:(List (List UInt8)))(c:(List UInt8×Int)):Zc L (x0,()) c=bT (bT (bT (ZeL [32] c.2) fun y=>some y) fun y=>bT (bT (CG x0 [32]) fun y=>some y) fun y_1=>bT (catS y y_1) fun y=>bT (catS y [10]) fun y=>bT (catB c.1 y) fun y=>some ((),(y,c.2),())) fun y=>some (y.1,y.snd.1):=by kernel_rfl
def YG (L:Nat)(x:(List UInt8)×(List Int)×PUnit):Option (List UInt8):=fT [Gz] L Ku [.rnd [.slot 0 .str,.slot 9 (.int .i64)]] (.one .str) [.str,.lst 1 (.int .i64)] x
def Gp (L:Nat):Sum tT:=mU 244 [.str,.lst 1 (.int .i64)] (.one .str) (YG L)
theorem Di:SX Gp:=fun h=>sT h (Za (Rz h) Zn) rfl (by kernel_rfl) fun _=>rfl
def XE:List Int→(List UInt8×Int×PUnit→Option (List UInt8))→List UInt8×Int×PUnit→Option (List UInt8):=fun x1 self acc=>bif decide (acc.2.1 < (↑x1.length:Int)) then bT (getT x1 acc.2.1) fun y=>bT (XG y) fun y=>bT (catS [32] y) fun y=>bT (catS acc.1 y) fun y=>self (y,Go.IntKind.i64.wrap (acc.2.1 + 1),()) else some acc.1
theorem BI (L:Nat)(x0:(List UInt8))(x1:(List Int)):YG L (x0,x1,())=loopT (XE x1) L (x0,0,()):=by kernel_rfl
def Lj:List (Inl tT):=[⟨324,Y0,[],.one (.bool),[]⟩,⟨335,YQ,[.rnd [.slot 8 (.int .i64)]],.one (.int .i64),[]⟩,⟨325,Jg,[],.one (.bool),[]⟩]
def ZH (L:Nat)(x:Int×Int×(List Int)×PUnit):Option Bool:=fI [] L Lj Kw [] (.one .bool) [.int .i64,.int .i64,.lst 1 (.int .i64)] x
def Gs (L:Nat):Sum tT:=mU 296 [.int .i64,.int .i64,.lst 1 (.int .i64)] (.one .bool) (ZH L)
theorem Dk:SX Gs:=fun h=>sI h Zn (Za ⟨h.T _ _ rfl,by kernel_rfl⟩ (Za ⟨h.T _ _ rfl,by kernel_rfl⟩ (Za ⟨h.T _ _ rfl,by kernel_rfl⟩ Zn))) rfl (by kernel_rfl) fun _=>rfl
def Qd:Int→Int→List Int→(Int×PUnit→Option Int)→Int×PUnit→Option Int:=fun x0 x1 x2 self acc=>bif decide (acc.1 < (↑x2.length:Int)) then bT (getT x2 acc.1) fun y=>bif decide (y < x0) || decide (y > x1) then some acc.1 else self (Go.IntKind.i64.wrap (acc.1 + 1),()) else some (-1)
theorem BK (L:Nat)(x0:Int)(x1:Int)(x2:(List Int)):ZH L (x0,x1,x2,())=bT (bT (loopT (Qd x0 x1 x2) L (0,())) fun y=>some (decide (y ≥ 0))) fun y=>some !y:=by kernel_rfl
def QF (L:Nat)(x:ZF×PUnit):Option Bool:=fT [] L Kv [] (.one .bool) [.row 2] x
def Gq (L:Nat):Sum tT:=mU 295 [.row 2] (.one .bool) (QF L)
theorem Dj:SX Gq:=fun h=>sT h Zn rfl (by kernel_rfl) fun _=>rfl
theorem BJ (L:Nat)(x0:ZF):QF L (x0,())=bif x0.1 == 1 then some (Go.IntKind.i64.wrap ((↑x0.5.length:Int) + (↑x0.6.length:Int)) == 0 && x0.3 == 0 && x0.4 == 0) else bif x0.1 == 2 then some (Go.IntKind.i64.wrap ((↑x0.5.length:Int) + (↑x0.6.length:Int)) == 0 && x0.4 == 0) else bif x0.1 == 5 then some (Go.IntKind.i64.wrap ((↑x0.5.length:Int) + (↑x0.6.length:Int)) == 0 && x0.4 == 0) else bif x0.1 == 4 then some (Go.IntKind.i64.wrap ((↑x0.5.length:Int) + (↑x0.6.length:Int)) == 0) else bif x0.1 == 3 then some (x0.2 == 0 && x0.3 == 0 && x0.4 == 0) else some false:=by kernel_rfl
def Qq (L:Nat)(x:ZF×PUnit):Option Int:=fT [Gs L,Gq L] L Hy [] (.one (.int .i64)) [.row 2] x
def JI (L:Nat):Sum tT:=mU 243 [.row 2] (.one (.int .i64)) (Qq L)
theorem Iw:SX JI:=fun h=>sT h (Za (Dk h) (Za (Dj h) Zn)) rfl (by kernel_rfl) fun _=>rfl
theorem PY (L:Nat)(x0:ZF):Qq L (x0,())=bT (QF L (x0,())) fun y=>bif !y then some 1 else bif x0.1 == 1 then bT (ZH L (0,1000000000,[x0.2],())) fun y=>bif !y then some 2 else some 0 else bif x0.1 == 2 then bT (ZH L (0,1000000000,[x0.2,x0.3],())) fun y=>bif !(y && decide (x0.2≤x0.3)) then some 2 else some 0 else bif x0.1 == 4 then bT (ZH L (1,20,[x0.4],())) fun y=>bT (bif y == true then bT (ZH L (0,1000000,[x0.2,x0.3],())) fun y=>some y else some false) fun y=>bif !(y && decide (x0.2≤x0.3)) then some 2 else some 0 else bif x0.1 == 5 then bT (ZH L (1,1000,[x0.2,x0.3],())) fun y=>bif !y then some 2 else some 0 else bif x0.1 == 3 then bif (↑x0.5.length:Int) != (↑x0.6.length:Int) then some 8 else bif (↑x0.5.length:Int) == 0 then some 7 else bif decide ((↑x0.5.length:Int) > 20) then some 6 else bT (ZH L (0,1000000000,x0.5,())) fun y=>bT (bif y == true then bT (ZH L (1,1000,x0.6,())) fun y=>some y else some false) fun y=>bif !y then some 2 else some 0 else some 2:=by kernel_rfl
def Xk (L:Nat)(x:ZF×PUnit):Option ((List UInt8)):=fnT tF tG (orQ (bufQ 80 5 0 93 999998 81 999999) (orQ (bufQ 82 5 1 93 999998 81 80) (qOf tF [Gz,Gp L,JI L]))) 0 L Oe [.rnd [.slot 52 (.int .i64),.cont 1 (.buf 80 5)]] (.one (.str)) (tvL tT [.row 2] x) []
def W9 (L:Nat):Sum tT:=⟨155,[.row 2],fun x=>.par ((.one (.str):RD).Ty tT) (Xk L x) ((.one (.str):RD).tv tT)⟩
theorem Vt {C:Cfg}{L:Nat}(h:St C L):SumOk C (W9 L):=sum_par Zv h.L h.G (orQ_ok (bufQ_ok h.buf0) (orQ_ok (bufQ_ok h.buf1) (qOf_ok Zv (Za (Rz h) (Za (Di h) (Za (Iw h) Zn)))))) [.rnd [.slot 52 (.int .i64),.cont 1 (.buf 80 5)]] (h.T _ _ rfl) (by kernel_rfl) fun _=>rfl
def Xx:ZF→(Int×List UInt8×PUnit→Option (List UInt8))→Int×List UInt8×PUnit→Option (List UInt8):=fun x0 self acc=>bif decide (acc.1 < (↑x0.5.length:Int)) then bT (getT x0.5 acc.1) fun y=>bT (bT (XG y) fun y=>some y) fun y=>bT (catS [32] y) fun y=>bT (catS y [58]) fun y=>bT (getT x0.6 acc.1) fun y_1=>bT (bT (XG y_1) fun y=>some y) fun y_2=>bT (catS y y_2) fun y=>bT (catB acc.2.1 y) fun y=>self (Go.IntKind.i64.wrap (acc.1 + 1),y,()) else some acc.2.1
theorem SV (L:Nat)(x0:ZF):Xk L (x0,())=bT (Qq L (x0,())) fun y=>bif y != 0 then some [] else bif x0.1 == 1 then bT (YG L ([99,111,110,115,116],[x0.2],())) fun y=>some y else bif x0.1 == 2 then bT (YG L ([117,110,105,102,111,114,109],[x0.2,x0.3],())) fun y=>some y else bif x0.1 == 4 then bT (YG L ([115,117,109],[x0.4,x0.2,x0.3],())) fun y=>some y else bif x0.1 == 5 then bT (YG L ([103,101,111,109],[x0.2,x0.3],())) fun y=>some y else bT (catB [] [116,97,98,108,101]) fun y=>loopT (Xx x0) L (0,y,()):=by kernel_rfl
def Wq:List (Inl tT):=[⟨246,We,[],.tup [],[(3,[.cont 0 (.bufi 82 5)])]⟩,⟨41,Wp,[],.tup [],[(3,[.cont 0 (.bufi 82 5)])]⟩,⟨245,YZ,[],.tup [],[(3,[.cont 0 (.bufi 82 5)])]⟩]
def Zu (L:Nat):Nat→List (SumE tT)
 | 0=>[⟨156,82,(.cont (.bufi 82 5):OD),[.str,.row 9],.tup [],fun _ _=>none⟩,⟨79,82,(.cont (.bufi 82 5):OD),[.row 9],.tup [],fun _ _=>none⟩,⟨34,82,(.cont (.bufi 82 5):OD),[.lst 21 (.row 9)],.tup [],fun _ _=>none⟩]
 | m + 1=>[⟨156,82,(.cont (.bufi 82 5):OD),[.str,.row 9],.tup [],fun x c=>(fnE tF tG (stackQ tF tG (orQ (eQ tF [Z8 L]) (orQ (eQ tF (Zu L m)) (qOf tF [Y7 L,YV L,W9 L]))) L Wq 8) L Yy [] (.tup []) (OD.la (.cont (.bufi 82 5):OD)) (.loc 0 0 :: tvL tT [.str,.row 9] x) [OD.to tT 82 0 (.cont (.bufi 82 5):OD) c]).map fun p=>(p.1,OD.un tT (.cont (.bufi 82 5):OD) p.2)⟩,⟨79,82,(.cont (.bufi 82 5):OD),[.row 9],.tup [],fun x c=>(fnE tF tG (orQ (eQ tF [Z8 L]) (orQ (eQ tF (Zu L m)) (qOf tF [Y7 L,YV L,W9 L]))) L YA [] (.tup []) (OD.la (.cont (.bufi 82 5):OD)) (.loc 0 0 :: tvL tT [.row 9] x) [OD.to tT 82 0 (.cont (.bufi 82 5):OD) c]).map fun p=>(p.1,OD.un tT (.cont (.bufi 82 5):OD) p.2)⟩,⟨34,82,(.cont (.bufi 82 5):OD),[.lst 21 (.row 9)],.tup [],fun x c=>(fnE tF tG (orQ (eQ tF [Z8 L]) (orQ (eQ tF (Zu L m)) (qOf tF [Y7 L,YV L,W9 L]))) L Yz [.rnd [.slot 8 (.int .i64),.cont 0 (.bufi 82 5)]] (.tup []) (OD.la (.cont (.bufi 82 5):OD)) (.loc 0 0 :: tvL tT [.lst 21 (.row 9)] x) [OD.to tT 82 0 (.cont (.bufi 82 5):OD) c]).map fun p=>(p.1,OD.un tT (.cont (.bufi 82 5):OD) p.2)⟩]
theorem Yq {C:Cfg}{L:Nat}(h:St C L):∀ m,QS tF (evalCall C) (eQ tF (Zu L m))
 | 0=>(eQ_cons sumE_none (eQ_cons sumE_none (eQ_cons sumE_none eQ_nil)))
 | m + 1=>have ih:=Yq h m
  (eQ_cons (sumE_ok Zv h.L h.G (stackQ_ok Zv h.L h.G (orQ_ok (eQ_cons (Yc h) eQ_nil) (orQ_ok ih (qOf_ok Zv (Za (Qo h) (Za (X3 h) (Za (Vt h) Zn)))))) (Za ⟨h.T _ _ rfl,by kernel_rfl⟩ (Za ⟨h.T _ _ rfl,by kernel_rfl⟩ (Za ⟨h.T _ _ rfl,by kernel_rfl⟩ Zn))) 8) [] rfl (h.T _ _ rfl) (by kernel_rfl) fun _ _=>rfl) (eQ_cons (sumE_ok Zv h.L h.G (orQ_ok (eQ_cons (Yc h) eQ_nil) (orQ_ok ih (qOf_ok Zv (Za (Qo h) (Za (X3 h) (Za (Vt h) Zn)))))) [] rfl (h.T _ _ rfl) (by kernel_rfl) fun _ _=>rfl) (eQ_cons (sumE_ok Zv h.L h.G (orQ_ok (eQ_cons (Yc h) eQ_nil) (orQ_ok ih (qOf_ok Zv (Za (Qo h) (Za (X3 h) (Za (Vt h) Zn)))))) [.rnd [.slot 8 (.int .i64),.cont 0 (.bufi 82 5)]] rfl (h.T _ _ rfl) (by kernel_rfl) fun _ _=>rfl) eQ_nil)))
def ZG (L m:Nat)(x:(List UInt8)×Zd×PUnit)(c:(List UInt8×Int)):Option (PUnit×(List UInt8×Int)):=(fnE tF tG (stackQ tF tG (orQ (eQ tF [Z8 L]) (orQ (eQ tF (Zu L m)) (qOf tF [Y7 L,YV L,W9 L]))) L Wq 8) L Yy [] (.tup []) (OD.la (.cont (.bufi 82 5):OD)) (.loc 0 0 :: tvL tT [.str,.row 9] x) [OD.to tT 82 0 (.cont (.bufi 82 5):OD) c]).map fun p=>(p.1,OD.un tT (.cont (.bufi 82 5):OD) p.2)
def Ze (L m:Nat)(x:Zd×PUnit)(c:(List UInt8×Int)):Option (PUnit×(List UInt8×Int)):=(fnE tF tG (orQ (eQ tF [Z8 L]) (orQ (eQ tF (Zu L m)) (qOf tF [Y7 L,YV L,W9 L]))) L YA [] (.tup []) (OD.la (.cont (.bufi 82 5):OD)) (.loc 0 0 :: tvL tT [.row 9] x) [OD.to tT 82 0 (.cont (.bufi 82 5):OD) c]).map fun p=>(p.1,OD.un tT (.cont (.bufi 82 5):OD) p.2)
def Z5 (L m:Nat)(x:(List Zd)×PUnit)(c:(List UInt8×Int)):Option (PUnit×(List UInt8×Int)):=(fnE tF tG (orQ (eQ tF [Z8 L]) (orQ (eQ tF (Zu L m)) (qOf tF [Y7 L,YV L,W9 L]))) L Yz [.rnd [.slot 8 (.int .i64),.cont 0 (.bufi 82 5)]] (.tup []) (OD.la (.cont (.bufi 82 5):OD)) (.loc 0 0 :: tvL tT [.lst 21 (.row 9)] x) [OD.to tT 82 0 (.cont (.bufi 82 5):OD) c]).map fun p=>(p.1,OD.un tT (.cont (.bufi 82 5):OD) p.2)
def Y2 (L:Nat)(x:(List Zd)×PUnit)(c:(List UInt8×Int)):Option (PUnit×(List UInt8×Int)):=Z5 L L x c
def WH (L:Nat):SumE tT:=⟨34,82,(.cont (.bufi 82 5):OD),[.lst 21 (.row 9)],.tup [],Y2 L⟩
theorem XR {C:Cfg}{L:Nat}(h:St C L):QS tF (evalCall C) (eQ tF [WH L]):=have ih:=Yq h L
 sumE_ok Zv h.L h.G (orQ_ok (eQ_cons (Yc h) eQ_nil) (orQ_ok ih (qOf_ok Zv (Za (Qo h) (Za (X3 h) (Za (Vt h) Zn)))))) [.rnd [.slot 8 (.int .i64),.cont 0 (.bufi 82 5)]] rfl (h.T _ _ rfl) (by kernel_rfl) fun _ _=>rfl
theorem XO (L m:Nat)(x0:(List UInt8))(x1:Zd)(c:(List UInt8×Int)):ZG L (m + 1) (x0,x1,()) c=bT (bT (bT (Zz L (x1.4,())) fun y=>some y) fun y=>bT (Zc L ([x0,y],()) (c.1,c.2)) fun y=>bT (bT (bT (Z5 L m (x1.9,()) (y.snd.1,Go.IntKind.i64.wrap (y.snd.2 + 1))) fun y=>some ((),(y.snd.1,y.snd.2),())) fun y=>some ((),(y.2.1.1,Go.IntKind.i64.wrap (y.2.1.2 - 1)),())) fun y=>bif decide ((↑x1.10.length:Int) > 0) then bT (Zc L ([[101,108,115,101]],()) (y.2.1.1,y.2.1.2)) fun y=>bT (bT (bT (Z5 L m (x1.10,()) (y.snd.1,Go.IntKind.i64.wrap (y.snd.2 + 1))) fun y=>some ((),(y.snd.1,y.snd.2),())) fun y=>some ((),(y.2.1.1,Go.IntKind.i64.wrap (y.2.1.2 - 1)),())) fun y=>bT (Zc L ([[101,110,100]],()) (y.2.1.1,y.2.1.2)) fun y=>some ((),(y.snd.1,y.snd.2),()) else bT (Zc L ([[101,110,100]],()) (y.2.1.1,y.2.1.2)) fun y=>some ((),(y.snd.1,y.snd.2),())) fun y=>some (y.1,y.snd.1):=by kernel_rfl
theorem Zh (L m:Nat)(x0:Zd)(c:(List UInt8×Int)):Ze L (m + 1) (x0,()) c=bT (bif x0.1 == 1 then bT (bT (Zz L (x0.4,())) fun y=>some y) fun y=>bT (Zc L ([[115,101,116],x0.2,[61],y],()) (c.1,c.2)) fun y=>some ((),(y.snd.1,y.snd.2),()) else bif x0.1 == 2 then bT (bT (Xk L (x0.7,())) fun y=>some y) fun y=>bT (Zc L ([[100,114,97,119],x0.2,[102,114,111,109],x0.3,y],()) (c.1,c.2)) fun y=>some ((),(y.snd.1,y.snd.2),()) else bif x0.1 == 3 then bT (ZG L m ([105,102],x0,()) (c.1,c.2)) fun y=>some ((),(y.snd.1,y.snd.2),()) else bif x0.1 == 4 then bT (ZG L m ([119,104,105,108,101],x0,()) (c.1,c.2)) fun y=>some ((),(y.snd.1,y.snd.2),()) else bif x0.1 == 5 then bT (Zz L (x0.4,())) fun y=>bT (Zc L ([[104,111,108,100],y],()) (c.1,c.2)) fun y=>some ((),(y.snd.1,y.snd.2),()) else bif x0.1 == 6 then bT (bT (Zz L (x0.4,())) fun y=>some y) fun y=>bT (bT (Zz L (x0.5,())) fun y=>some y) fun y_1=>bif x0.8 then bT (apT 16 [[115,101,105,122,101],x0.2,y,[112,114,105,111],y_1] [[112,114,101,101,109,112,116]]) fun y=>bT (Zc L (y,()) (c.1,c.2)) fun y=>some ((),(y.snd.1,y.snd.2),()) else bT (Zc L ([[115,101,105,122,101],x0.2,y,[112,114,105,111],y_1],()) (c.1,c.2)) fun y=>some ((),(y.snd.1,y.snd.2),()) else bif x0.1 == 7 then bT (bT (Zz L (x0.4,())) fun y=>some y) fun y=>bT (Zc L ([[114,101,108,101,97,115,101],x0.2,y],()) (c.1,c.2)) fun y=>some ((),(y.snd.1,y.snd.2),()) else bif x0.1 == 8 then bT (bT (Zz L (x0.4,())) fun y=>some y) fun y=>bT (Zc L ([[112,117,116],y,[105,110,116,111],x0.2],()) (c.1,c.2)) fun y=>some ((),(y.snd.1,y.snd.2),()) else bif x0.1 == 9 then bT (Zc L ([[103,101,116],x0.3,[102,114,111,109],x0.2],()) (c.1,c.2)) fun y=>some ((),(y.snd.1,y.snd.2),()) else bif x0.1 == 10 then bT (Zc L ([[114,105,100,101],x0.2],()) (c.1,c.2)) fun y=>some ((),(y.snd.1,y.snd.2),()) else bif x0.1 == 11 then bT (Zc L ([[119,97,105,116],x0.2],()) (c.1,c.2)) fun y=>some ((),(y.snd.1,y.snd.2),()) else bif x0.1 == 12 then bT (bT (Zz L (x0.4,())) fun y=>some y) fun y=>bT (Zc L ([[115,105,103,110,97,108],x0.2,y],()) (c.1,c.2)) fun y=>some ((),(y.snd.1,y.snd.2),()) else bif x0.1 == 13 then bT (catS x0.3 [46]) fun y=>bT (catS y x0.2) fun y=>bT (bT (Qs L (x0.6,())) fun y=>some y) fun y_1=>bT (bT (Zz L (x0.4,())) fun y=>some y) fun y_2=>bT (Zc L ([[115,101,110,100],y,y_1,[97,102,116,101,114],y_2],()) (c.1,c.2)) fun y=>some ((),(y.snd.1,y.snd.2),()) else bif x0.1 == 14 then bT (bT (Qs L (x0.6,())) fun y=>some y) fun y=>bT (bT (Zz L (x0.4,())) fun y=>some y) fun y_1=>bT (Zc L ([[115,112,97,119,110],x0.2,y,[97,102,116,101,114],y_1],()) (c.1,c.2)) fun y=>some ((),(y.snd.1,y.snd.2),()) else bif x0.1 == 15 then bT (bT (Zz L (x0.4,())) fun y=>some y) fun y=>bT (Zc L ([[111,98,115,101,114,118,101],x0.2,y],()) (c.1,c.2)) fun y=>some ((),(y.snd.1,y.snd.2),()) else bif x0.1 == 16 then bT (bT (Zz L (x0.4,())) fun y=>some y) fun y=>bT (Zc L ([[108,101,118,101,108],x0.2,y],()) (c.1,c.2)) fun y=>some ((),(y.snd.1,y.snd.2),()) else bif x0.1 == 17 then bT (bT (Zz L (x0.4,())) fun y=>some y) fun y=>bT (Zc L ([[97,100,100],x0.2,y],()) (c.1,c.2)) fun y=>some ((),(y.snd.1,y.snd.2),()) else bif x0.1 == 18 then bT (Zc L ([[115,116,111,112]],()) (c.1,c.2)) fun y=>some ((),(y.snd.1,y.snd.2),()) else some ((),(c.1,c.2),())) fun y=>some (y.1,y.snd.1):=by kernel_rfl
def ZX:Nat→List Zd→Nat→(Int×(List UInt8×Int)×PUnit→Option (PUnit×(List UInt8×Int)×PUnit))→Int×(List UInt8×Int)×PUnit→Option (PUnit×(List UInt8×Int)×PUnit):=fun (m:Nat)=>fun x0 L self acc=>bif decide (acc.1 < (↑x0.length:Int)) then bT (getT x0 acc.1) fun y=>bT (Ze L m (y,()) (acc.2.1.1,acc.2.1.2)) fun y=>self (Go.IntKind.i64.wrap (acc.1 + 1),(y.snd.1,y.snd.2),()) else some ((),(acc.2.1.1,acc.2.1.2),())
theorem XP (L m:Nat)(x0:(List Zd))(c:(List UInt8×Int)):Z5 L (m + 1) (x0,()) c=bT (loopT (ZX m x0 L) L (0,(c.1,c.2),())) fun y=>some (y.1,y.snd.1):=by kernel_rfl
def X7 (L:Nat)(x:Zd×QL×PUnit):Option Int:=fT [JI L,I5 L,V8 L] L Ih [.rnd [.slot 4 (.int .i64),.slot 26 (.int .i64)],.rnd [.slot 4 (.int .i64),.slot 53 (.int .i64)],.rnd [.slot 74 (.int .i64)]] (.one (.int .i64)) [.row 9,.row 18] x
def JM (L:Nat):Sum tT:=mU 154 [.row 9,.row 18] (.one (.int .i64)) (X7 L)
theorem I4:SX JM:=fun h=>sT h (Za (Iw h) (Za (N9 h) (Za (Gj h) Zn))) rfl (by kernel_rfl) fun _=>rfl
def QE:Zd→QL→Nat→(Int×PUnit→Option Int)→Int×PUnit→Option Int:=fun x0 x1 L self acc=>bif decide (acc.1 < (↑x0.6.length:Int)) then bT (getT x0.6 acc.1) fun y=>bT (Qr L (y,())) fun y=>bif y != 0 then some y else self (Go.IntKind.i64.wrap (acc.1 + 1),()) else bif x1.6 then bT (Qq L (x0.7,())) fun y=>some y else some 0
def V6:Zd→QL→Nat→Int×Int×PUnit→(Int×Int×PUnit→Option Int)→Int×Int×PUnit→Option Int:=fun x0 x1 L acc self acc_1=>bif decide (acc_1.2.1 < (↑[XY.mk x1.3 x0.4,XY.mk x1.4 x0.5].length:Int)) then bT (getT [XY.mk x1.3 x0.4,XY.mk x1.4 x0.5] acc_1.2.1) fun y=>bif !y.1 then self (acc_1.1,Go.IntKind.i64.wrap (acc_1.2.1 + 1),()) else bT (Qr L (y.2,())) fun y=>bif y != 0 then some y else self (acc_1.1,Go.IntKind.i64.wrap (acc_1.2.1 + 1),()) else bif decide ((↑x0.6.length:Int) > 6) then some 6 else loopT (QE x0 x1 L) L (0,())
def Gn:Zd→QL→Nat→(Int×Int×PUnit→Option Int)→Int×Int×PUnit→Option Int:=fun x0 x1 L self acc=>bif decide (acc.2.1 < (↑[XZ.mk x1.1 x0.2,XZ.mk x1.2 x0.3].length:Int)) then bT (getT [XZ.mk x1.1 x0.2,XZ.mk x1.2 x0.3] acc.2.1) fun y=>bT (WS L (y.2,())) fun y_1=>bif y.1 && y_1 != 0 then some y_1 else self (acc.1,Go.IntKind.i64.wrap (acc.2.1 + 1),()) else loopT (V6 x0 x1 L acc) L (acc.1,0,())
theorem Ny (L:Nat)(x0:Zd)(x1:QL):X7 L (x0,x1,())=loopT (Gn x0 x1 L) L (0,0,()):=by kernel_rfl
def ZK (L:Nat)(x:(List Int)×(List Int)×PUnit):Option Bool:=fT [] L WF [.rnd [.slot 13 (.int .i64)]] (.one .bool) [.lst 1 (.int .i64),.lst 1 (.int .i64)] x
def WJ (L:Nat):Sum tT:=mU 294 [.lst 1 (.int .i64),.lst 1 (.int .i64)] (.one .bool) (ZK L)
theorem XT:SX WJ:=fun h=>sT h Zn rfl (by kernel_rfl) fun _=>rfl
def Yo:List Int→List Int→(Int×PUnit→Option Bool)→Int×PUnit→Option Bool:=fun x0 x1 self acc=>bif decide (acc.1 < (↑x0.length:Int)) then bT (getT x0 acc.1) fun y=>bT (getT x1 acc.1) fun y_1=>bif y != y_1 then some false else self (Go.IntKind.i64.wrap (acc.1 + 1),()) else some true
theorem XQ (L:Nat)(x0:(List Int))(x1:(List Int)):ZK L (x0,x1,())=bif (↑x0.length:Int) != (↑x1.length:Int) then some false else loopT (Yo x0 x1) L (0,()):=by kernel_rfl
def VD (L:Nat)(x:ZF×ZF×PUnit):Option Bool:=fT [WJ L] L Oc [] (.one .bool) [.row 2,.row 2] x
def TP (L:Nat):Sum tT:=mU 242 [.row 2,.row 2] (.one .bool) (VD L)
theorem EG:SX TP:=fun h=>sT h (Za (XT h) Zn) rfl (by kernel_rfl) fun _=>rfl
theorem SS (L:Nat)(x0:ZF)(x1:ZF):VD L (x0,x1,())=bT (bif (x0.1 == x1.1 && x0.2 == x1.2 && x0.3 == x1.3 && x0.4 == x1.4) == true then bT (ZK L (x0.5,x1.5,())) fun y=>some y else some false) fun y=>bT (bif y == true then bT (ZK L (x0.6,x1.6,())) fun y=>some y else some false) fun y=>some y:=by kernel_rfl
def J6 (L:Nat):Nat→List (Sum tT)
 | 0=>[⟨241,[.row 8,.row 8],fun _=>.par _ none ((.one (.bool):RD).tv tT)⟩]
 | m + 1=>[⟨241,[.row 8,.row 8],fun x=>.par _ (fnT tF tG (qOf tF (J6 L m ++ [])) 0 L Uu [.rnd [.slot 38 (.int .i64)]] (.one (.bool)) (tvL tT [.row 8,.row 8] x) []) ((.one (.bool):RD).tv tT)⟩]
theorem J7 {C:Cfg}{L:Nat}(h:St C L):∀ m,∀ s ∈ J6 L m,SumOk C s
 | 0=>(Za (ZV _ _ _) Zn)
 | m + 1=>have ih:=J7 h m
  (Za (sum_par Zv h.L h.G (qOf_ok Zv (Y4 ih Zn)) [.rnd [.slot 38 (.int .i64)]] (h.T _ _ rfl) (by kernel_rfl) fun _=>rfl) Zn)
def X8 (L m:Nat)(x:Zi×Zi×PUnit):Option (Bool):=fnT tF tG (qOf tF (J6 L m ++ [])) 0 L Uu [.rnd [.slot 38 (.int .i64)]] (.one (.bool)) (tvL tT [.row 8,.row 8] x) []
def UU (L:Nat)(x:Zi×Zi×PUnit):Option (Bool):=X8 L L x
def TQ (L:Nat):Sum tT:=⟨241,[.row 8,.row 8],fun x=>.par ((.one (.bool):RD).Ty tT) (UU L x) ((.one (.bool):RD).tv tT)⟩
theorem EH {C:Cfg}{L:Nat}(h:St C L):SumOk C (TQ L):=have ih:=J7 h L
 sum_par Zv h.L h.G (qOf_ok Zv (Y4 ih Zn)) [.rnd [.slot 38 (.int .i64)]] (h.T _ _ rfl) (by kernel_rfl) fun _=>rfl
def Xy:Nat→Zi→Zi→Nat→(Int×PUnit→Option Bool)→Int×PUnit→Option Bool:=fun (m:Nat)=>fun x0 x1 L self acc=>bif decide (acc.1 < (↑x0.4.length:Int)) then bT (getT x0.4 acc.1) fun y=>bT (getT x1.4 acc.1) fun y_1=>bT (bT (X8 L m (y,y_1,())) fun y=>some y) fun y=>bif !y then some false else self (Go.IntKind.i64.wrap (acc.1 + 1),()) else some true
theorem Tm (L m:Nat)(x0:Zi)(x1:Zi):X8 L (m + 1) (x0,x1,())=bif x0.1 != x1.1 || !x0.2 == x1.2 || x0.3 != x1.3 || (↑x0.4.length:Int) != (↑x1.4.length:Int) then some false else loopT (Xy m x0 x1 L) L (0,()):=by kernel_rfl
end Go.Proofs.YtbcfddaocfpckaaGreatDoor
end
noncomputable section
namespace Go.Proofs.YtbcfddaocfpckaaGreatDoor
open Go Go.Proofs.YtbcfddaocfpckaaGreatDoor.Abs Go.Proofs.YtbcfddaocfpckaaGreatDoor.Tl
set_option maxRecDepth 100000
set_option maxHeartbeats 0
def WU (L:Nat)(x:Zi×PUnit):Option Bool:=fT [TQ L] L KJ [] (.one .bool) [.row 8] x
def Gy (L:Nat):Sum tT:=mU 240 [.row 8] (.one .bool) (WU L)
theorem Dp:SX Gy:=fun h=>sT h (Za (EH h) Zn) rfl (by kernel_rfl) fun _=>rfl
theorem BZ (L:Nat)(x0:Zi):WU L (x0,())=bT (UU L (x0,Zi.mk 0 [] 0 [],())) fun y=>some y:=by kernel_rfl
def VL (L:Nat)(x:Zd×QL×PUnit):Option Bool:=fT [TP L,Gy L] L OG [] (.one .bool) [.row 9,.row 18] x
def UQ (L:Nat):Sum tT:=mU 153 [.row 9,.row 18] (.one .bool) (VL L)
theorem TK:SX UQ:=fun h=>sT h (Za (EG h) (Za (Dp h) Zn)) rfl (by kernel_rfl) fun _=>rfl
theorem Ez (L:Nat)(x0:Zd)(x1:QL):VL L (x0,x1,())=bT (bif ((x1.1 || x0.2 == []) && (x1.2 || x0.3 == [])) == true then bif x1.3 == false then bT (WU L (x0.4,())) fun y=>some y else some true else some false) fun y=>bT (bif y == true then bif x1.4 == false then bT (WU L (x0.5,())) fun y=>some y else some true else some false) fun y=>bT (bif (y && (x1.5 || (↑x0.6.length:Int) == 0)) == true then bif x1.6 == false then bT (VD L (x0.7,ZF.mk 0 0 0 0 [] [],())) fun y=>some y else some true else some false) fun y=>some (y && (x1.7 || !x0.8) && (x1.8 || (↑x0.9.length:Int) == 0) && (x1.9 || (↑x0.10.length:Int) == 0)):=by kernel_rfl
def VM (L:Nat)(x:Int×PUnit):Option (QL×Bool×PUnit):=fT [] L OH [] (.tup [.row 18,.bool]) [.int .i64] x
def UR (L:Nat):Sum tT:=mU 152 [.int .i64] (.tup [.row 18,.bool]) (VM L)
theorem TL:SX UR:=fun h=>sT h Zn rfl (by kernel_rfl) fun _=>rfl
theorem E5 (L:Nat)(x0:Int):VM L (x0,())=bif x0 == 1 then some (QL.mk true false true false false false false false false,true,()) else bif x0 == 7 then some (QL.mk true false true false false false false false false,true,()) else bif x0 == 8 then some (QL.mk true false true false false false false false false,true,()) else bif x0 == 12 then some (QL.mk true false true false false false false false false,true,()) else bif x0 == 15 then some (QL.mk true false true false false false false false false,true,()) else bif x0 == 16 then some (QL.mk true false true false false false false false false,true,()) else bif x0 == 17 then some (QL.mk true false true false false false false false false,true,()) else bif x0 == 2 then some (QL.mk true true false false false true false false false,true,()) else bif x0 == 3 then some (QL.mk false false true false false false false true true,true,()) else bif x0 == 4 then some (QL.mk false false true false false false false true false,true,()) else bif x0 == 5 then some (QL.mk false false true false false false false false false,true,()) else bif x0 == 6 then some (QL.mk true false true true false false true false false,true,()) else bif x0 == 9 then some (QL.mk true true false false false false false false false,true,()) else bif x0 == 10 then some (QL.mk true false false false false false false false false,true,()) else bif x0 == 11 then some (QL.mk true false false false false false false false false,true,()) else bif x0 == 13 then some (QL.mk true true true false true false false false false,true,()) else bif x0 == 14 then some (QL.mk true false true false true false false false false,true,()) else bif x0 == 18 then some (QL.mk false false false false false false false false false,true,()) else some (QL.mk false false false false false false false false false,false,()):=by kernel_rfl
def Vz (L:Nat):Nat→List (Sum tT)
 | 0=>[⟨78,[.lst 21 (.row 9)],fun _=>.par _ none ((.one (.int .i64):RD).tv tT)⟩]
 | m + 1=>[⟨78,[.lst 21 (.row 9)],fun x=>.par _ (fnT tF tG (qOf tF (Vz L m ++ [JM L,UQ L,UR L])) 0 L Jp [.rnd [.slot 12 (.int .i64)]] (.one (.int .i64)) (tvL tT [.lst 21 (.row 9)] x) []) ((.one (.int .i64):RD).tv tT)⟩]
theorem VW {C:Cfg}{L:Nat}(h:St C L):∀ m,∀ s ∈ Vz L m,SumOk C s
 | 0=>(Za (ZV _ _ _) Zn)
 | m + 1=>have ih:=VW h m
  (Za (sum_par Zv h.L h.G (qOf_ok Zv (Y4 ih (Za (I4 h) (Za (TK h) (Za (TL h) Zn))))) [.rnd [.slot 12 (.int .i64)]] (h.T _ _ rfl) (by kernel_rfl) fun _=>rfl) Zn)
def WX (L m:Nat)(x:(List Zd)×PUnit):Option (Int):=fnT tF tG (qOf tF (Vz L m ++ [JM L,UQ L,UR L])) 0 L Jp [.rnd [.slot 12 (.int .i64)]] (.one (.int .i64)) (tvL tT [.lst 21 (.row 9)] x) []
def JS (L:Nat)(x:(List Zd)×PUnit):Option (Int):=WX L L x
def II (L:Nat):Sum tT:=⟨78,[.lst 21 (.row 9)],fun x=>.par ((.one (.int .i64):RD).Ty tT) (JS L x) ((.one (.int .i64):RD).tv tT)⟩
theorem NL {C:Cfg}{L:Nat}(h:St C L):SumOk C (II L):=have ih:=VW h L
 sum_par Zv h.L h.G (qOf_ok Zv (Y4 ih (Za (I4 h) (Za (TK h) (Za (TL h) Zn))))) [.rnd [.slot 12 (.int .i64)]] (h.T _ _ rfl) (by kernel_rfl) fun _=>rfl
def V5:Nat→List Zd→Nat→(Int×PUnit→Option Int)→Int×PUnit→Option Int:=fun (m:Nat)=>fun x0 L self acc=>bif decide (acc.1 < (↑x0.length:Int)) then bT (getT x0 acc.1) fun y=>bT (VM L (y.1,())) fun y_1=>bT (bif (!y_1.2.1) == false then bT (VL L (y,y_1.1,())) fun y=>some !y else some true) fun y_2=>bif y_2 then some 1 else bT (X7 L (y,y_1.1,())) fun y_3=>bif y_3 != 0 then some y_3 else bT (WX L m (y.9,())) fun y_4=>bif y_4 != 0 then some y_4 else bT (WX L m (y.10,())) fun y=>bif y != 0 then some y else self (Go.IntKind.i64.wrap (acc.1 + 1),()) else some 0
theorem Nw (L m:Nat)(x0:(List Zd)):WX L (m + 1) (x0,())=loopT (V5 m x0 L) L (0,()):=by kernel_rfl
def Vy (L:Nat):Nat→List (Sum tT)
 | 0=>[⟨77,[.lst 21 (.row 9)],fun _=>.par _ none ((.one (.int .i64):RD).tv tT)⟩]
 | m + 1=>[⟨77,[.lst 21 (.row 9)],fun x=>.par _ (fnT tF tG (qOf tF (Vy L m ++ [])) 0 L Jo [.rnd [.slot 3 (.int .i64),.slot 8 (.int .i64)]] (.one (.int .i64)) (tvL tT [.lst 21 (.row 9)] x) []) ((.one (.int .i64):RD).tv tT)⟩]
theorem VV {C:Cfg}{L:Nat}(h:St C L):∀ m,∀ s ∈ Vy L m,SumOk C s
 | 0=>(Za (ZV _ _ _) Zn)
 | m + 1=>have ih:=VV h m
  (Za (sum_par Zv h.L h.G (qOf_ok Zv (Y4 ih Zn)) [.rnd [.slot 3 (.int .i64),.slot 8 (.int .i64)]] (h.T _ _ rfl) (by kernel_rfl) fun _=>rfl) Zn)
def WW (L m:Nat)(x:(List Zd)×PUnit):Option (Int):=fnT tF tG (qOf tF (Vy L m ++ [])) 0 L Jo [.rnd [.slot 3 (.int .i64),.slot 8 (.int .i64)]] (.one (.int .i64)) (tvL tT [.lst 21 (.row 9)] x) []
def JR (L:Nat)(x:(List Zd)×PUnit):Option (Int):=WW L L x
def IG (L:Nat):Sum tT:=⟨77,[.lst 21 (.row 9)],fun x=>.par ((.one (.int .i64):RD).Ty tT) (JR L x) ((.one (.int .i64):RD).tv tT)⟩
theorem NK {C:Cfg}{L:Nat}(h:St C L):SumOk C (IG L):=have ih:=VV h L
 sum_par Zv h.L h.G (qOf_ok Zv (Y4 ih Zn)) [.rnd [.slot 3 (.int .i64),.slot 8 (.int .i64)]] (h.T _ _ rfl) (by kernel_rfl) fun _=>rfl
def V4:Nat→List Zd→Nat→(Int×Int×PUnit→Option Int)→Int×Int×PUnit→Option Int:=fun (m:Nat)=>fun x0 L self acc=>bif decide (acc.2.1 < (↑x0.length:Int)) then bT (getT x0 acc.2.1) fun y=>bT (bT (WW L m (y.9,())) fun y=>some y) fun y_1=>bT (bT (WW L m (y.10,())) fun y=>some y) fun y=>self (if Go.IntKind.i64.wrap (1 + y) > if Go.IntKind.i64.wrap (1 + y_1) > acc.1 then Go.IntKind.i64.wrap (1 + y_1) else acc.1 then Go.IntKind.i64.wrap (1 + y) else if Go.IntKind.i64.wrap (1 + y_1) > acc.1 then Go.IntKind.i64.wrap (1 + y_1) else acc.1,Go.IntKind.i64.wrap (acc.2.1 + 1),()) else some acc.1
theorem Nv (L m:Nat)(x0:(List Zd)):WW L (m + 1) (x0,())=loopT (V4 m x0 L) L (0,0,()):=by kernel_rfl
def Vx (L:Nat):Nat→List (Sum tT)
 | 0=>[⟨76,[.lst 21 (.row 9)],fun _=>.par _ none ((.one (.int .i64):RD).tv tT)⟩]
 | m + 1=>[⟨76,[.lst 21 (.row 9)],fun x=>.par _ (fnT tF tG (qOf tF (Vx L m ++ [])) 0 L Jn [.rnd [.slot 3 (.int .i64),.slot 10 (.int .i64)]] (.one (.int .i64)) (tvL tT [.lst 21 (.row 9)] x) []) ((.one (.int .i64):RD).tv tT)⟩]
theorem VU {C:Cfg}{L:Nat}(h:St C L):∀ m,∀ s ∈ Vx L m,SumOk C s
 | 0=>(Za (ZV _ _ _) Zn)
 | m + 1=>have ih:=VU h m
  (Za (sum_par Zv h.L h.G (qOf_ok Zv (Y4 ih Zn)) [.rnd [.slot 3 (.int .i64),.slot 10 (.int .i64)]] (h.T _ _ rfl) (by kernel_rfl) fun _=>rfl) Zn)
def WV (L m:Nat)(x:(List Zd)×PUnit):Option (Int):=fnT tF tG (qOf tF (Vx L m ++ [])) 0 L Jn [.rnd [.slot 3 (.int .i64),.slot 10 (.int .i64)]] (.one (.int .i64)) (tvL tT [.lst 21 (.row 9)] x) []
def JQ (L:Nat)(x:(List Zd)×PUnit):Option (Int):=WV L L x
def IE (L:Nat):Sum tT:=⟨76,[.lst 21 (.row 9)],fun x=>.par ((.one (.int .i64):RD).Ty tT) (JQ L x) ((.one (.int .i64):RD).tv tT)⟩
theorem NJ {C:Cfg}{L:Nat}(h:St C L):SumOk C (IE L):=have ih:=VU h L
 sum_par Zv h.L h.G (qOf_ok Zv (Y4 ih Zn)) [.rnd [.slot 3 (.int .i64),.slot 10 (.int .i64)]] (h.T _ _ rfl) (by kernel_rfl) fun _=>rfl
def V3:Nat→List Zd→Nat→(Int×Int×PUnit→Option Int)→Int×Int×PUnit→Option Int:=fun (m:Nat)=>fun x0 L self acc=>bif decide (acc.2.1 < (↑x0.length:Int)) then bT (getT x0 acc.2.1) fun y=>bT (bT (WV L m (y.9,())) fun y=>some y) fun y_1=>bT (bT (WV L m (y.10,())) fun y=>some y) fun y=>self (Go.IntKind.i64.wrap (acc.1 + Go.IntKind.i64.wrap (y_1 + y)),Go.IntKind.i64.wrap (acc.2.1 + 1),()) else some acc.1
theorem Nu (L m:Nat)(x0:(List Zd)):WV L (m + 1) (x0,())=loopT (V3 m x0 L) L ((↑x0.length:Int),0,()):=by kernel_rfl
def X6 (L:Nat)(x:(List Zd)×PUnit):Option Int:=fT [II L,IG L,IE L] L Ig [] (.one (.int .i64)) [.lst 21 (.row 9)] x
def IC (L:Nat):Sum tT:=mU 33 [.lst 21 (.row 9)] (.one (.int .i64)) (X6 L)
theorem NI:SX IC:=fun h=>sT h (Za (NL h) (Za (NK h) (Za (NJ h) Zn))) rfl (by kernel_rfl) fun _=>rfl
theorem Ns (L:Nat)(x0:(List Zd)):X6 L (x0,())=bT (JQ L (x0,())) fun y=>bif decide (y > 200) then some 6 else bT (JR L (x0,())) fun y=>bif decide (y > 12) then some 11 else bT (JS L (x0,())) fun y=>some y:=by kernel_rfl
def Ll:List (Inl tT):=[⟨35,Wn,[],.tup [.str,.int .i64],[(1,[.cont 0 .lost])]⟩]
def VE (L:Nat)(x:(List Zd)×PUnit):Option ((List UInt8)×Int×PUnit):=fnT tF tG (stackQ tF tG (orQ (bufQ 80 5 0 93 999998 81 999999) (orQ (bufQ 82 5 1 93 999998 81 80) (orQ (eQ tF [WH L]) (qOf tF [IC L])))) L Ll 8) 0 L KC [] (.tup [.str,.int .i64]) (tvL tT [.lst 21 (.row 9)] x) []
def Gv (L:Nat):Sum tT:=⟨15,[.lst 21 (.row 9)],fun x=>.par ((.tup [.str,.int .i64]:RD).Ty tT) (VE L x) ((.tup [.str,.int .i64]:RD).tv tT)⟩
theorem Dl {C:Cfg}{L:Nat}(h:St C L):SumOk C (Gv L):=sum_par Zv h.L h.G (stackQ_ok Zv h.L h.G (orQ_ok (bufQ_ok h.buf0) (orQ_ok (bufQ_ok h.buf1) (orQ_ok (eQ_cons (XR h) eQ_nil) (qOf_ok Zv (Za (NI h) Zn))))) (Za ⟨h.T _ _ rfl,by kernel_rfl⟩ Zn) 8) [] (h.T _ _ rfl) (by kernel_rfl) fun _=>rfl
theorem BO (L:Nat)(x0:(List Zd)):VE L (x0,())=bT (X6 L (x0,())) fun y=>bif y != 0 then some ([],y,()) else bT (Y2 L (x0,()) ([],0)) fun y=>bT (bif decide ((↑y.snd.1.length:Int) > 20000) then some (([],6,()),(),()) else some ((y.snd.1,0,()),(),())) fun y=>some (y.1.1,y.1.2.1,()):=by kernel_rfl
def UK (L:Nat):Nat→List (Sum tT)
 | 0=>[⟨14,[.lst 21 (.row 9)],fun _=>.par _ none ((.one (.int .i64):RD).tv tT)⟩]
 | m + 1=>[⟨14,[.lst 21 (.row 9)],fun x=>.par _ (fnT tF tG (qOf tF (UK L m ++ [VB L])) 0 L GL [.rnd [.slot 3 (.int .i64),.slot 4 (.int .i64)],.rnd [.slot 3 (.int .i64),.slot 6 (.int .i64)]] (.one (.int .i64)) (tvL tT [.lst 21 (.row 9)] x) []) ((.one (.int .i64):RD).tv tT)⟩]
theorem Um {C:Cfg}{L:Nat}(h:St C L):∀ m,∀ s ∈ UK L m,SumOk C s
 | 0=>(Za (ZV _ _ _) Zn)
 | m + 1=>have ih:=Um h m
  (Za (sum_par Zv h.L h.G (qOf_ok Zv (Y4 ih (Za (UH h) Zn))) [.rnd [.slot 3 (.int .i64),.slot 4 (.int .i64)],.rnd [.slot 3 (.int .i64),.slot 6 (.int .i64)]] (h.T _ _ rfl) (by kernel_rfl) fun _=>rfl) Zn)
def Xq (L m:Nat)(x:(List Zd)×PUnit):Option (Int):=fnT tF tG (qOf tF (UK L m ++ [VB L])) 0 L GL [.rnd [.slot 3 (.int .i64),.slot 4 (.int .i64)],.rnd [.slot 3 (.int .i64),.slot 6 (.int .i64)]] (.one (.int .i64)) (tvL tT [.lst 21 (.row 9)] x) []
def Ht (L:Nat)(x:(List Zd)×PUnit):Option (Int):=Xq L L x
def RH (L:Nat):Sum tT:=⟨14,[.lst 21 (.row 9)],fun x=>.par ((.one (.int .i64):RD).Ty tT) (Ht L x) ((.one (.int .i64):RD).tv tT)⟩
theorem Zam {C:Cfg}{L:Nat}(h:St C L):SumOk C (RH L):=have ih:=Um h L
 sum_par Zv h.L h.G (qOf_ok Zv (Y4 ih (Za (UH h) Zn))) [.rnd [.slot 3 (.int .i64),.slot 4 (.int .i64)],.rnd [.slot 3 (.int .i64),.slot 6 (.int .i64)]] (h.T _ _ rfl) (by kernel_rfl) fun _=>rfl
def Vq:Nat→(Int×Int×PUnit→Option Int)→Int×Int×PUnit→Zd→(Int×Int×PUnit→Option Int)→Int×Int×PUnit→Option Int:=fun L self acc y self_1 acc_1=>bif decide (acc_1.2.1 < (↑y.6.length:Int)) then bT (getT y.6 acc_1.2.1) fun y=>bT (YH L (y,())) fun y=>self_1 (Go.IntKind.i64.wrap (acc_1.1 + y),Go.IntKind.i64.wrap (acc_1.2.1 + 1),()) else self (acc_1.1,Go.IntKind.i64.wrap (acc.2.1 + 1),())
def Vr:Nat→List Zd→Nat→(Int×Int×PUnit→Option Int)→Int×Int×PUnit→Option Int:=fun (m:Nat)=>fun x0 L self acc=>bif decide (acc.2.1 < (↑x0.length:Int)) then bT (getT x0 acc.2.1) fun y=>bT (bT (YH L (y.4,())) fun y=>some y) fun y_1=>bT (bT (YH L (y.5,())) fun y=>some y) fun y_2=>bT (bT (Xq L m (y.9,())) fun y=>some y) fun y_3=>bT (bT (Xq L m (y.10,())) fun y=>some y) fun y_4=>loopT (Vq L self acc y) L (Go.IntKind.i64.wrap (Go.IntKind.i64.wrap (Go.IntKind.i64.wrap (Go.IntKind.i64.wrap (Go.IntKind.i64.wrap (Go.IntKind.i64.wrap (Go.IntKind.i64.wrap (acc.1 + 1) + y_1) + y_2) + (↑y.Dist.5.length:Int)) + (↑y.Dist.6.length:Int)) + y_3) + y_4),0,()) else some acc.1
theorem Zaa (L m:Nat)(x0:(List Zd)):Xq L (m + 1) (x0,())=loopT (Vr m x0 L) L (0,0,()):=by kernel_rfl
def WR (L:Nat)(x:(List Zd)×PUnit):Option Bool:=fT [Zbr,MF L,Gv L,RH L] L Xw [] (.one .bool) [.lst 21 (.row 9)] x
def Gu (L:Nat):Sum tT:=mU 4 [.lst 21 (.row 9)] (.one .bool) (WR L)
theorem Gi:SX Gu:=fun h=>sT h (Za (Zds h) (Za (EQ h) (Za (Dl h) (Za (Zam h) Zn)))) rfl (by kernel_rfl) fun _=>rfl
theorem KY (L:Nat)(x0:(List Zd)):WR L (x0,())=bT (Ht L (x0,())) fun y=>bif decide (y > 3000) then some true else bT (VE L (x0,())) fun y=>bT (UY L (x0,())) fun y_1=>some (y.1 == y_1.1 && y.2.1 == y_1.2.1 && true):=by kernel_rfl
end Go.Proofs.YtbcfddaocfpckaaGreatDoor
end
noncomputable section
namespace Go.Proofs.YtbcfddaocfpckaaGreatDoor
open Go Go.Proofs.YtbcfddaocfpckaaGreatDoor.Abs Go.Proofs.YtbcfddaocfpckaaGreatDoor.Tl
set_option maxRecDepth 100000
set_option maxHeartbeats 0
def Ae (L:Nat)(x:Zq×PUnit):Option ((List (List (List UInt8)))):=fT [] L O6 [.rnd [.slot 4 (.int .i64),.cell 1 0 (.own 1 .str),.cell 1 1 (.own 1 .str),.cell 1 2 (.own 1 .str),.cell 1 3 (.own 1 .str),.cell 1 4 (.lst 1 .str),.cell 1 5 (.lst 1 .str),.cell 1 6 (.lst 1 .str),.cell 1 7 (.lst 1 .str),.cell 1 8 (.lst 1 .str),.cell 1 9 (.own 1 .str)],.rnd [.slot 5 (.int .i64),.cell 1 0 (.own 1 .str),.cell 1 1 (.own 1 .str),.cell 1 2 (.own 1 .str),.cell 1 3 (.own 1 .str),.cell 1 4 (.lst 1 .str),.cell 1 5 (.lst 1 .str),.cell 1 6 (.lst 1 .str),.cell 1 7 (.lst 1 .str),.cell 1 8 (.lst 1 .str),.cell 1 9 (.own 1 .str)],.rnd [.slot 6 (.int .i64),.cell 1 0 (.own 1 .str),.cell 1 1 (.own 1 .str),.cell 1 2 (.own 1 .str),.cell 1 3 (.own 1 .str),.cell 1 4 (.lst 1 .str),.cell 1 5 (.lst 1 .str),.cell 1 6 (.lst 1 .str),.cell 1 7 (.lst 1 .str),.cell 1 8 (.lst 1 .str),.cell 1 9 (.own 1 .str)],.rnd [.slot 7 (.int .i64),.cell 1 0 (.own 1 .str),.cell 1 1 (.own 1 .str),.cell 1 2 (.own 1 .str),.cell 1 3 (.own 1 .str),.cell 1 4 (.lst 1 .str),.cell 1 5 (.lst 1 .str),.cell 1 6 (.lst 1 .str),.cell 1 7 (.lst 1 .str),.cell 1 8 (.lst 1 .str),.cell 1 9 (.own 1 .str)],.rnd [.slot 8 (.int .i64),.cell 1 0 (.own 1 .str),.cell 1 1 (.own 1 .str),.cell 1 2 (.own 1 .str),.cell 1 3 (.own 1 .str),.cell 1 4 (.lst 1 .str),.cell 1 5 (.lst 1 .str),.cell 1 6 (.lst 1 .str),.cell 1 7 (.lst 1 .str),.cell 1 8 (.lst 1 .str),.cell 1 9 (.own 1 .str)]] (.one (.lst 1 (.lst 1 .str))) [.row 14] x
def Me (L:Nat):Sum tT:=mU 212 [.row 14] (.one (.lst 1 (.lst 1 .str))) (Ae L)
def DR (L:Nat)(x:Zq×(List UInt8)×PUnit):Option Int:=fT [QN L,Me L] L KH [] (.one (.int .i64)) [.row 14,.str] x
def Dy (L:Nat):Sum tT:=mU 218 [.row 14,.str] (.one (.int .i64)) (DR L)
def Ya (L:Nat)(x:Int×Int×Int×PUnit):Option Bool:=fT [] L Ic [] (.one .bool) [.int .i64,.int .i64,.int .i64] x
def WI (L:Nat):Sum tT:=mU 217 [.int .i64,.int .i64,.int .i64] (.one .bool) (Ya L)
theorem Nr (L:Nat)(x0:Int)(x1:Int)(x2:Int):Ya L (x0,x1,x2,())=some (decide (x0 ≥ x1) && decide (x0≤x2)):=by kernel_rfl
end Go.Proofs.YtbcfddaocfpckaaGreatDoor
end
noncomputable section
namespace Go.Proofs.YtbcfddaocfpckaaGreatDoor
open Go Go.Proofs.YtbcfddaocfpckaaGreatDoor.Abs Go.Proofs.YtbcfddaocfpckaaGreatDoor.Tl
set_option maxRecDepth 100000
set_option maxHeartbeats 0
def Yp (L:Nat)(x:Int×Int×PUnit):Option Int:=fT [] L O8 [] (.one (.int .i64)) [.int .i64,.int .i64] x
def Qb (L:Nat):Sum tT:=mU 106 [.int .i64,.int .i64] (.one (.int .i64)) (Yp L)
theorem Ep (L:Nat)(x0:Int)(x1:Int):Yp L (x0,x1,())=bif x0 != 0 then some x0 else some x1:=by kernel_rfl
def Zat (L:Nat)(x:Zq×(List UInt8)×PUnit):Option (List UInt8):=fT [QN L,Me L] L LU [.rnd [.slot 7 (.int .i64)]] (.one .str) [.row 14,.str] x
def Zar (L:Nat):Sum tT:=mU 311 [.row 14,.str] (.one .str) (Zat L)
def ZJ (L:Nat)(x:Bool×Int×PUnit):Option Int:=fT [] L Ib [] (.one (.int .i64)) [.bool,.int .i64] x
def Y8 (L:Nat):Sum tT:=mU 108 [.bool,.int .i64] (.one (.int .i64)) (ZJ L)
theorem Nq (L:Nat)(x0:Bool)(x1:Int):ZJ L (x0,x1,())=bif x0 then some 0 else some x1:=by kernel_rfl
def Zau (L:Nat)(x:Zq×DV×PUnit):Option Int:=fT [WI L,Qb L,Zar L,Y8 L] L LV [] (.one (.int .i64)) [.row 14,.row 12] x
def Zas (L:Nat):Sum tT:=mU 274 [.row 14,.row 12] (.one (.int .i64)) (Zau L)
def Xo (L:Nat)(x:(List UInt8)×(List (List UInt8))×PUnit):Option Int:=fT [Qb L,Y8 L,QN L,Xj L] L O9 [] (.one (.int .i64)) [.str,.lst 1 .str] x
def MC (L:Nat):Sum tT:=mU 110 [.str,.lst 1 .str] (.one (.int .i64)) (Xo L)
theorem Es (L:Nat)(x0:(List UInt8))(x1:(List (List UInt8))):Xo L (x0,x1,())=bT (YW L (x0,())) fun y=>bT (QQ L (x1,x0,())) fun y_1=>bT (ZJ L (decide (y_1 < 0),4,())) fun y_2=>bT (Yp L (y,y_2,())) fun y=>some y:=by kernel_rfl
def Zbz (L:Nat)(x:Zq×Zb4×(List (List UInt8))×PUnit):Option Int:=fT [Gw L,Zas L,Qb L,Y8 L,MC L] L Pj [.rnd [.slot 7 (.int .i64),.slot 8 (.int .i64)]] (.one (.int .i64)) [.row 14,.row 13,.lst 1 .str] x
def JZ (L:Nat)(x:Int×Int×PUnit):Option Bool:=fT [WI L,Gw L] L LQ [] (.one .bool) [.int .i64,.int .i64] x
def RN (L:Nat):Sum tT:=mU 210 [.int .i64,.int .i64] (.one .bool) (JZ L)
theorem Zad (L:Nat)(x0:Int)(x1:Int):JZ L (x0,x1,())=bif x0 == 1 then bT (G5 L (x1,())) fun y=>some y else bif x0 == 2 then some (x1 == 0 || x1 == 1) else bif x0 == 3 then bT (Ya L (x1,0,1000000000,())) fun y=>some y else some false:=by kernel_rfl
def Af (L:Nat)(x:Zq×Kt×PUnit):Option Int:=fT [Y8 L,WI L,RN L,Dy L] L OA [.rnd [.slot 7 (.int .i64)]] (.one (.int .i64)) [.row 14,.row 11] x
def Xn (L:Nat)(x:Int×PUnit):Option Bool:=fT [] L O7 [] (.one .bool) [.int .i64] x
def MB (L:Nat):Sum tT:=mU 209 [.int .i64] (.one .bool) (Xn L)
theorem Eo (L:Nat)(x0:Int):Xn L (x0,())=some (x0 == 1 || x0 == 2 || x0 == 3):=by kernel_rfl
def QI (L:Nat)(x:Yu×PUnit):Option Int:=fT [UO L,Qb L,Y8 L,MB L,MC L] L KI [.rnd [.slot 3 (.own 1 .str),.slot 5 (.int .i64)]] (.one (.int .i64)) [.row 10] x
def Dz (L:Nat):Sum tT:=mU 273 [.row 10] (.one (.int .i64)) (QI L)
def Qg:Yu→Nat→List Qk→(List (List UInt8)×Int×PUnit→Option Int)→List (List UInt8)×Int×PUnit→Option Int:=fun x0 L y self acc=>bif decide (acc.2.1 < (↑y.length:Int)) then bT (getT y acc.2.1) fun y_1=>bT (bT (Xo L (y_1.1,acc.1,())) fun y=>some y) fun y_2=>bT (getT y acc.2.1) fun y_3=>bT (bT (Xn L (y_3.2,())) fun y=>some y) fun y_4=>bT (bT (ZJ L (y_4,1,())) fun y=>some y) fun y_5=>bT (bT (Yp L (y_2,y_5,())) fun y=>some y) fun y_6=>bif y_6 != 0 then some y_6 else bT (getT y acc.2.1) fun y=>bT (apT 16 acc.1 [y.1]) fun y=>self (y,Go.IntKind.i64.wrap (acc.2.1 + 1),()) else bT (Xm L (x0.4,())) fun y=>some y
theorem BV (L:Nat)(x0:Yu):QI L (x0,())=bif decide ((↑x0.2.length:Int) > 6) || decide (Go.IntKind.i64.wrap ((↑x0.2.length:Int) + (↑x0.3.length:Int)) > 16) then some 6 else bT (apT 24 [] x0.2) fun y=>bT (apT 24 y x0.3) fun y=>loopT (Qg x0 L y) L ([],0,()):=by kernel_rfl
def Qi (L:Nat)(x:Zt×PUnit):Option Int:=fT [WI L,Y8 L] L Uf [.rnd [.slot 3 (.int .i64)]] (.one (.int .i64)) [.row 4] x
def LD (L:Nat):Sum tT:=mU 310 [.row 4] (.one (.int .i64)) (Qi L)
def YT:Zt→Nat→(Int×PUnit→Option Int)→Int×PUnit→Option Int:=fun x0 L self acc=>bif decide (acc.1 < (↑x0.3.length:Int)) then bT (getT x0.3 acc.1) fun y=>bT (Ya L (y.1,0,Go.IntKind.i64.wrap (x0.4 - 1),())) fun y_1=>bT (bif (!y_1) == false then bT (Ya L (y.2,0,1000,())) fun y=>some !y else some true) fun y_2=>bif y_2 then some 2 else bT (bif decide (acc.1 > 0) == true then bT (getT x0.3 (Go.IntKind.i64.wrap (acc.1 - 1))) fun y_3=>some (decide (y.1≤y_3.1)) else some false) fun y=>bif y then some 12 else self (Go.IntKind.i64.wrap (acc.1 + 1),()) else some 0
theorem Lt (L:Nat)(x0:Zt):Qi L (x0,())=bif (↑x0.3.length:Int) == 0 then bT (ZJ L (x0.4 == 0,1,())) fun y=>some y else bif decide ((↑x0.3.length:Int) > 20) then some 6 else bT (Ya L (x0.4,1,1000000000,())) fun y=>bif !y then some 2 else loopT (YT x0 L) L (0,()):=by kernel_rfl
end Go.Proofs.YtbcfddaocfpckaaGreatDoor
end
noncomputable section
namespace Go.Proofs.YtbcfddaocfpckaaGreatDoor
open Go Go.Proofs.YtbcfddaocfpckaaGreatDoor.Abs Go.Proofs.YtbcfddaocfpckaaGreatDoor.Tl
set_option maxRecDepth 100000
set_option maxHeartbeats 0
def Qj (L:Nat)(x:Zq×Zt×PUnit):Option Int:=fT [V9 L,QN L,Hm L,Qb L,LD L,Y8 L,WI L] L Uh [] (.one (.int .i64)) [.row 14,.row 4] x
def LG (L:Nat):Sum tT:=mU 272 [.row 14,.row 4] (.one (.int .i64)) (Qj L)
theorem Lu (L:Nat)(x0:Zq)(x1:Zt):Qj L (x0,x1,())=bT (bT (Ya L (x1.2,0,1000,())) fun y=>some y) fun y=>bT (bT (ZJ L (y,2,())) fun y=>some y) fun y=>bT (bT (Qi L (x1,())) fun y=>some y) fun y_1=>bT (bT (Yp L (y,y_1,())) fun y=>some y) fun y=>bif y != 0 then some y else bif x1.Fault.1 == [] then bT (QO L (x1.Fault.2,ZF.mk 0 0 0 0 [] [],())) fun y=>bT (bif y == true then bT (QO L (x1.Fault.3,ZF.mk 0 0 0 0 [] [],())) fun y=>some y else some false) fun y=>bT (ZJ L (y,1,())) fun y=>some y else bT (QQ L (x0.7,x1.Fault.1,())) fun y=>bif decide (y < 0) then some 5 else bT (bT (WB L (x1.Fault.2,())) fun y=>some y) fun y=>bT (bT (WB L (x1.Fault.3,())) fun y=>some y) fun y_2=>bT (bT (Yp L (y,y_2,())) fun y=>some y) fun y=>some y:=by kernel_rfl
def ZY (L:Nat)(x:Zq×Int×Int×PUnit):Option Int:=fT [Dz L,WI L,LG L,Qb L,RN L,Y8 L,MB L] L Ug [] (.one (.int .i64)) [.row 14,.int .i64,.int .i64] x
theorem YN (L:Nat)(x0:Zq)(x1:Int)(x2:Int):ZY L (x0,x1,x2,())=bif x1 == 0 then bT (getT x0.2 x2) fun y=>bT (bT (Xn L (y.2,())) fun y=>some y) fun y=>bT (bT (ZJ L (y,1,())) fun y=>some y) fun y=>bT (getT x0.2 x2) fun y_1=>bT (getT x0.2 x2) fun y_2=>bT (bT (JZ L (y_1.2,y_2.3,())) fun y=>some y) fun y_3=>bT (bT (ZJ L (y_3,2,())) fun y=>some y) fun y_4=>bT (bT (Yp L (y,y_4,())) fun y=>some y) fun y=>some y else bif x1 == 1 then bT (getT x0.3 x2) fun y=>bT (bT (Qj L (x0,y,())) fun y=>some y) fun y=>some y else bif x1 == 2 then bT (getT x0.4 x2) fun y=>bT (getT x0.4 x2) fun y_1=>bT (Ya L (y_1.2,1,1000,())) fun y_2=>bT (ZJ L (y_2,2,())) fun y_3=>bT (ZJ L (decide (y.3 ≥ 1) && decide (y.3≤3),1,())) fun y=>bT (Yp L (y_3,y,())) fun y=>some y else bif x1 == 3 then bT (getT x0.5 x2) fun y=>bT (Ya L (y.2,1,1000,())) fun y=>bT (bif y == true then bT (getT x0.5 x2) fun y=>bT (Ya L (y.3,1,1000,())) fun y=>some y else some false) fun y=>bT (ZJ L (y,2,())) fun y=>some y else bif x1 == 9 then bT (getT x0.11 x2) fun y=>bT (QI L (y,())) fun y=>some y else some 0:=by kernel_rfl
def Xd:Zq→Nat→List (List (List UInt8))→(Int×List (List UInt8)×Int×PUnit→Option Int)→Int×List (List UInt8)×Int×PUnit→(Int×List (List UInt8)×Int×PUnit→Option Int)→Int×List (List UInt8)×Int×PUnit→Option Int:=fun x0 L y self acc self_1 acc_1=>bT (getT y acc.2.2.1) fun y_1=>bif decide (acc_1.2.2.1 < (↑y_1.length:Int)) then bT (getT y acc.2.2.1) fun y_2=>bT (getT y_2 acc_1.2.2.1) fun y_3=>bT (bT (Xo L (y_3,acc_1.2.1,())) fun y=>some y) fun y_4=>bT (bT (ZY L (x0,acc.2.2.1,acc_1.2.2.1,())) fun y=>some y) fun y_5=>bT (bT (Yp L (y_4,y_5,())) fun y=>some y) fun y_6=>bif y_6 != 0 then some y_6 else bT (getT y acc.2.2.1) fun y=>bT (getT y acc_1.2.2.1) fun y=>bT (apT 16 acc_1.2.1 [y]) fun y=>self_1 (acc_1.1,y,Go.IntKind.i64.wrap (acc_1.2.2.1 + 1),()) else self (acc_1.1,acc_1.2.1,Go.IntKind.i64.wrap (acc.2.2.1 + 1),())
def E8:Zq→Nat→(List (List UInt8)×Int×PUnit→Option Int)→List (List UInt8)×Int×PUnit→Option Int:=fun x0 L self acc=>bif decide (acc.2.1 < (↑x0.13.length:Int)) then bT (getT x0.13 acc.2.1) fun y=>bT (bT (Zbz L (x0,y,acc.1,())) fun y=>some y) fun y=>bif y != 0 then some y else bT (getT x0.13 acc.2.1) fun y=>bT (apT 16 acc.1 [y.1]) fun y=>self (y,Go.IntKind.i64.wrap (acc.2.1 + 1),()) else some 0
def Tt:Zq→Nat→(Int×Int×PUnit→Option Int)→Int×Int×PUnit→Option Int:=fun x0 L self acc=>bif decide (acc.2.1 < (↑x0.12.length:Int)) then bT (getT x0.12 acc.2.1) fun y=>bT (bT (Af L (x0,y,())) fun y=>some y) fun y=>bif y != 0 then some y else self (acc.1,Go.IntKind.i64.wrap (acc.2.1 + 1),()) else bif decide ((↑x0.13.length:Int) > 32) then some 6 else loopT (E8 x0 L) L ([],0,())
def Xe:Zq→Nat→List (List (List UInt8))→(Int×List (List UInt8)×Int×PUnit→Option Int)→Int×List (List UInt8)×Int×PUnit→Option Int:=fun x0 L y self acc=>bif decide (acc.2.2.1 < (↑y.length:Int)) then bT (getT y acc.2.2.1) fun y_1=>bT (bif decide ((↑y_1.length:Int) > 32) == false then bif (acc.2.2.1 == 9) == true then bT (getT y acc.2.2.1) fun y=>some (decide ((↑y.length:Int) > 16)) else some false else some true) fun y_2=>bif y_2 then some 6 else loopT (Xd x0 L y self acc) L (acc.1,acc.2.1,0,()) else bif decide ((↑x0.12.length:Int) > 32) then some 6 else loopT (Tt x0 L) L (acc.1,0,())
end Go.Proofs.YtbcfddaocfpckaaGreatDoor
end
section
namespace Go.Proofs.YtbcfddaocfpckaaGreatDoor
open Go Go.Proofs.YtbcfddaocfpckaaGreatDoor.Abs Go.Proofs.YtbcfddaocfpckaaGreatDoor.Tl
set_option maxRecDepth 100000
theorem Zx {α:Type}(c:Bool)(a b:α):(bif c then some a else some b)=some (bif c then a else b):=by cases c <;> rfl
theorem Zw (c:Bool)(x:Option Bool):(bif c == true then x else some false)=bif c then x else some false:=by cases c <;> rfl
theorem condC (c:Bool)(x:Option Bool):(bif c == false then x else some true)=bif c then some true else x:=by cases c <;> rfl
theorem Zl (c x:Bool):(bif c == true then x else false)=(c && x):=by cases c <;> rfl
theorem Zm (c x:Bool):(bif c == false then x else true)=(c || x):=by cases c <;> rfl
theorem XF {α:Type}(c:Prop)[Decidable c](a b:α):(if c then some a else some b)=some (if c then a else b):=by split <;> rfl
theorem Yt {α:Type}(c:Bool)(a b:α):(bif c then a else b)=if c=true then a else b:=by cases c <;> rfl
theorem Zb {α:Type}(o:Option α):bT o (fun y=>some y)=o:=by cases o <;> rfl
theorem ZQ {α:Type}[DecidableEq α](a b:α):(a != b)=!decide (a=b):=by
 by_cases h:a=b <;> simp [bne,h]
theorem ZR (a b:Int):(a == b)=decide (a=b):=by
 by_cases h:a=b <;> simp [h]
theorem Yb (a b:List UInt8):(a == b)=decide (a=b):=by
 by_cases h:a=b <;> simp [h]
abbrev Len {α:Type}(l:List α):Prop:=l.length≤4611686018427387
theorem ZbH {τ ρ:Type}{f:(τ→Option ρ)→τ→Option ρ}(n:Nat)(pk:Int→τ)(R:Nat→Option ρ)
  (h1:∀ self (i:Nat),i < n→self (pk ((i:Int) + 1))=R (i + 1)→f self (pk i)=R i)
  (h2:∀ self,f self (pk n)=R n):∀ (m i:Nat),i≤n→n - i < m→loopT f m (pk i)=R i
 | 0,_,_,h=>absurd h (Nat.not_lt_zero _)
 | m + 1,i,hi,hm=>by
  show f (loopT f m) (pk i)=_
  rcases Nat.lt_or_ge i n with hlt | hge
  ·exact h1 _ i hlt (ZbH n pk R h1 h2 m (i + 1) hlt (by omega))
  ·have:i=n:=by omega
   subst this
   exact h2 _
theorem ZcY {τ α σ ρ:Type}{f:(τ→Option ρ)→τ→Option ρ}(l:List α)(pk:σ→Int→τ)(R:List α→σ→Option ρ)
  (h1:∀ self s (i:Nat) x r,l[i]? = some x→i < l.length→x ∈ l→(∀ s',self (pk s' ((i:Int) + 1))=R r s')→f self (pk s i)=R (x :: r) s)
  (h2:∀ self s,f self (pk s (l.length:Nat))=R [] s):∀ (m i:Nat) (s:σ),i≤l.length→l.length - i < m→loopT f m (pk s i)=R (l.drop i) s
 | 0,_,_,_,h=>absurd h (Nat.not_lt_zero _)
 | m + 1,i,s,hi,hm=>by
  show f (loopT f m) (pk s i)=_
  rcases Nat.lt_or_ge i l.length with hlt | hge
  ·have hx:=List.getElem?_eq_getElem hlt
   rw [List.drop_eq_getElem_cons hlt]
   exact h1 _ s i _ _ hx hlt (List.getElem_mem hlt) fun s'=>ZcY l pk R h1 h2 m (i + 1) s' hlt (by omega)
  ·have:i=l.length:=by omega
   subst this
   rw [h2,List.drop_length]
theorem SB {α ρ:Type}{f:(Int×PUnit→Option ρ)→Int×PUnit→Option ρ}(l:List α)(R:List α→Option ρ){m:Nat}(hm:l.length < m)
  (h1:∀ self (i:Nat) x r,l[i]? = some x→i < l.length→x ∈ l→self ((i:Int) + 1,())=R r→f self ((i:Int),())=R (x :: r))
  (h2:∀ self,f self ((l.length:Int),())=R []):loopT f m (0,())=R l :=
 ZcY (σ := Unit) l (fun _ i=>(i,())) (fun l _=>R l) (fun self _ i x r a b c d=>h1 self i x r a b c (d ())) (fun self _=>h2 self) m 0 () (Nat.zero_le _) (by omega)
theorem ZdR {α ρ:Type}{f:(Int×PUnit→Option ρ)→Int×PUnit→Option ρ}(l:List α)(R:List α→Int→Option ρ){m:Nat}(hm:l.length < m)
  (h1:∀ self (i:Nat) x r,l[i]? = some x→i < l.length→x ∈ l→self ((i:Int) + 1,())=R r ((i:Int) + 1)→f self ((i:Int),())=R (x :: r) i)
  (h2:∀ self,f self ((l.length:Int),())=R [] l.length):loopT f m (0,())=R l 0:=by
 have:=ZbH (f := f) l.length (fun i=>(i,())) (fun i=>R (l.drop i) i) (fun self i hi e=>by
  have hx:=List.getElem?_eq_getElem hi
  rw [List.drop_eq_getElem_cons hi]
  exact h1 self i _ _ hx hi (List.getElem_mem hi) e) (fun self=>by rw [List.drop_length]; exact h2 self) m 0 (Nat.zero_le _) (by omega)
 exact this
theorem Bq {α σ ρ:Type}{f:(σ×Int×PUnit→Option ρ)→σ×Int×PUnit→Option ρ}(l:List α)(R:List α→σ→Option ρ){m:Nat}(hm:l.length < m)(s:σ)
  (h1:∀ self s (i:Nat) x r,l[i]? = some x→i < l.length→x ∈ l→(∀ s',self (s',(i:Int) + 1,())=R r s')→f self (s,(i:Int),())=R (x :: r) s)
  (h2:∀ self s,f self (s,(l.length:Int),())=R [] s):loopT f m (s,0,())=R l s :=
 ZcY l (fun s i=>(s,i,())) R h1 h2 m 0 s (Nat.zero_le _) (by omega)
theorem ZbI {α β ρ:Type}{f:(Int×PUnit→Option ρ)→Int×PUnit→Option ρ}(l:List α)(l':List β)(hl:l.length=l'.length)(R:List α→List β→Option ρ){m:Nat}(hm:l.length < m)
  (h1:∀ self (i:Nat) x y r r',l[i]? = some x→l'[i]? = some y→i < l.length→x ∈ l→self ((i:Int) + 1,())=R r r'→f self ((i:Int),())=R (x :: r) (y :: r'))
  (h2:∀ self,f self ((l.length:Int),())=R [] []):loopT f m (0,())=R l l':=by
 have:=ZbH (f := f) l.length (fun i=>(i,())) (fun i=>R (l.drop i) (l'.drop i)) (fun self i hi e=>by
  have hx:=List.getElem?_eq_getElem hi
  have hy:=List.getElem?_eq_getElem (show i < l'.length by omega)
  rw [List.drop_eq_getElem_cons hi,List.drop_eq_getElem_cons (show i < l'.length by omega)]
  exact h1 self i _ _ _ _ hx hy hi (List.getElem_mem hi) e) (fun self=>by rw [List.drop_length,hl,List.drop_length]; rw [← hl]; exact h2 self) m 0 (Nat.zero_le _) (by omega)
 exact this
end Go.Proofs.YtbcfddaocfpckaaGreatDoor
end
section
namespace Go.Proofs.YtbcfddaocfpckaaGreatDoor
open Go Go.Proofs.YtbcfddaocfpckaaGreatDoor.Abs Go.Proofs.YtbcfddaocfpckaaGreatDoor.Tl
set_option maxRecDepth 100000
theorem AA (L:Nat)(n:Int):Wu L (n,())=some (Zcw n):=Lp L n
theorem Tc (L:Nat)(n:Int):Qu L (n,())=some (Zcw n):=Nk L n
theorem chainB (x:List UInt8):∀ l:List (List UInt8),(l.foldr (fun k r=>bif x == k then some true else r) (some false):Option Bool)=some (l.any fun k=>decide (x=k))
 | []=>rfl
 | k :: l=>by
  rw [List.foldr_cons,chainB x l,Yb,List.any_cons]
  cases decide (x=k) <;> rfl
theorem ZaW (L:Nat)(s:List UInt8):WT L (s,())=some (kwB s):=(Tn L s).trans (chainB s kws)
theorem ZaV (L:Nat)(l:List (List UInt8))(s:List UInt8)(hl:Len l)(hL:l.length < L):QQ L (l,s,())=some (DT (fun k=>decide (k=s)) l 0):=by
 rw [CX]
 refine ZdR l (fun l i=>some (DT (fun k=>decide (k=s)) l i)) hL (fun self i x r hx hi _ e=>?_) (fun self=>?_)
 ·rw [UA]; simp only [Zk,Zf,cond_true,cond_false,Zj,Zr,Zb,Zw,condC,Zl,Zm,Zx,ZR,Yb,ZQ,hi,hx,wrap_succ hi (by omega),e,DT]; simp only [Yt,XF,if_true,if_false,Bool.false_eq_true,ne_eq,decide_not,gt_iff_lt,ge_iff_le]
 ·rw [UA]; simp only [Zk,Zf,cond_true,cond_false,Zj,Zr,Zb,Zw,condC,Zl,Zm,Zx,ZR,Yb,ZQ,DT]
theorem PS (L:Nat)(s:List UInt8)(hL:100≤L):QH L (s,())=some (kwB s):=by
 rw [BU,show Qh L ()=some kws from Ls L,Zr,ZaV L kws s (by decide) (by have:kws.length=73:=rfl; omega),Zr]
 have:=Bi (fun k=>decide (k=s)) kws 0 (Int.le_refl _)
 rw [show decide (DT (fun k=>decide (k=s)) kws 0 ≥ 0)=_ from this]
 unfold kwB
 congr 2; funext k; exact decide_eq_decide.2 ⟨Eq.symm,Eq.symm⟩
theorem Aw (s:List UInt8):Xb s=bif (decide (s=[]) || decide ((s.length:Int) > 24)) || (!Zcw ((s.headD 0).toNat)) || kwB s then 3 else bif s.all (fun x=>Bf x.toNat) then 0 else 3:=by
 cases s with
 | nil=>simp [Xb]
 | cons c r =>
  simp only [Xb,List.headD_cons,reduceCtorEq,decide_false,Bool.false_or]
  rw [show (decide ((((c :: r).length:Nat):Int) > 24))=decide (24 < (c :: r).length) from decide_eq_decide.2 (by omega)]
  by_cases h1:24 < (c :: r).length <;> cases Zcw (c.toNat:Int) <;> cases kwB (c :: r) <;> cases (c :: r).all (fun x=>Bf x.toNat) <;> simp [h1]
theorem Zda (c:Bool)(x:UInt8):(!c && (decide ((x.toNat:Int) < 48) || decide ((x.toNat:Int) > 57)) && (!decide ((x.toNat:Int)=95)))=!(c || decide ((x.toNat:Int)=95) || (decide (48≤(x.toNat:Int)) && decide ((x.toNat:Int)≤57))):=by
 rw [show decide (48≤(x.toNat:Int))=!decide ((x.toNat:Int) < 48) by rw [← decide_not]; congr 1; exact propext Int.not_lt.symm,show decide ((x.toNat:Int)≤57)=!decide ((x.toNat:Int) > 57) by rw [← decide_not]; congr 1; exact propext Int.not_lt.symm]
 cases c <;> cases decide ((x.toNat:Int)=95) <;> cases decide ((x.toNat:Int) < 48) <;> cases decide ((x.toNat:Int) > 57) <;> rfl
theorem ZcZ (L:Nat)(s:List UInt8)(h:Len s)(hL:s.length < L):loopT (Qe s L) L (0,())=some (bif s.all (fun x=>Bf x.toNat) then 0 else 3):=by
 refine SB s (fun s=>some (bif s.all (fun x=>Bf x.toNat) then 0 else 3)) hL (fun self i x r hx hi _ e=>?_) (fun self=>?_)
 ·rw [Qe]
  simp only [Zk,Zf,cond_true,cond_false,Zj,Zr,Zb,Zw,condC,Zl,Zm,Zx,ZR,Yb,ZQ,hi,hx,AA,wrap_succ hi (by omega),e,ZQ,Zda,List.all_cons,Bf]
  cases (Zcw (x.toNat:Int) || decide ((x.toNat:Int)=95) || (decide (48≤(x.toNat:Int)) && decide ((x.toNat:Int)≤57))) <;> rfl
 ·rw [Qe]; simp only [Zk,Zf,cond_true,cond_false,Zj,Zr,Zb,Zw,condC,Zl,Zm,Zx,ZR,Yb,ZQ,List.all_nil]
theorem BB (L:Nat)(s:List UInt8)(h:Len s)(hL:s.length < L):WS L (s,())=some (Xb s):=by
 rw [BN,ZcZ L s h hL,Aw,OT]
 cases s with
 | nil=>rfl
 | cons c r =>
  simp only [Zk,Zf,cond_true,cond_false,Zj,Zr,Zb,Zw,condC,Zl,Zm,Zx,ZR,Yb,ZQ,List.getElem?_cons_zero,AA,ZaW,List.headD_cons,reduceCtorEq,decide_false,Bool.false_or,Bool.or_assoc]
theorem ZbZ (L:Nat)(s:List UInt8)(h:Len s)(hL:s.length < L):loopT (Xz s L) L (0,())=some (bif s.all (fun x=>Bf x.toNat) then 0 else 3):=by
 refine SB s (fun s=>some (bif s.all (fun x=>Bf x.toNat) then 0 else 3)) hL (fun self i x r hx hi _ e=>?_) (fun self=>?_)
 ·rw [Xz]
  simp only [Zk,Zf,cond_true,cond_false,Zj,Zr,Zb,Zw,condC,Zl,Zm,Zx,ZR,Yb,ZQ,hi,hx,Tc,wrap_succ hi (by omega),e,ZQ,List.all_cons,Bf,Zw,condC,Zx]
  rw [show decide (48≤(x.toNat:Int))=!decide ((x.toNat:Int) < 48) by rw [← decide_not]; congr 1; exact propext Int.not_lt.symm,show decide ((x.toNat:Int)≤57)=!decide ((x.toNat:Int) > 57) by rw [← decide_not]; congr 1; exact propext Int.not_lt.symm]
  cases Zcw (x.toNat:Int) <;> cases decide ((x.toNat:Int)=95) <;> cases decide ((x.toNat:Int) < 48) <;> cases decide ((x.toNat:Int) > 57) <;> rfl
 ·rw [Xz]; simp only [Zk,Zf,cond_true,cond_false,Zj,Zr,Zb,Zw,condC,Zl,Zm,Zx,ZR,Yb,ZQ,List.all_nil]
theorem JV (L:Nat)(s:List UInt8)(h:Len s)(hL:s.length < L)(h1:100≤L):YW L (s,())=some (Xb s):=by
 rw [Ec,ZbZ L s h hL,Aw,OT]
 cases s with
 | nil=>rfl
 | cons c r =>
  have:decide ((((c :: r).length:Nat):Int) < 1)=false:=by simp only [List.length_cons,decide_eq_false_iff_not]; omega
  simp only [Zk,Zf,cond_true,cond_false,Zj,Zr,Zb,Zw,condC,Zl,Zm,Zx,ZR,Yb,ZQ,List.getElem?_cons_zero,Tc,PS L _ h1,List.headD_cons,this,reduceCtorEq,decide_false,Bool.false_or,Bool.or_assoc]
theorem Z4 {α:Type}[SizeOf α]:∀ l:List α,l.length < SizeOf.sizeOf l
 | []=>by simp
 | x :: l=>by have:=Z4 l; simp only [List.length_cons,List.cons.sizeOf_spec]; omega
theorem Zck (d:ZF):SizeOf.sizeOf d.Values < SizeOf.sizeOf d∧SizeOf.sizeOf d.Weights < SizeOf.sizeOf d:=by cases d; simp; omega
theorem PP (L:Nat)(a b c:Int):ZN L (a,b,c,())=some (btw a b c):=BR L a b c
theorem IW (L:Nat)(lo hi:Int)(l:List Int)(h:Len l)(hL:l.length < L):ZH L (lo,hi,l,())=some (Yh lo hi l):=by
 have:=ZdR (f := Qd lo hi l) l (fun l i=>some (DT (Zc0 lo hi) l i)) hL (fun self i x r hx hi' _ e=>by
  rw [Qd]; simp only [Zk,Zf,cond_true,cond_false,Zj,Zr,Zb,Zw,condC,Zl,Zm,Zx,ZR,Yb,ZQ,hi',hx,wrap_succ hi' (by omega),e,DT]; simp only [Yt,XF,if_true,if_false,Bool.false_eq_true,ne_eq,decide_not,gt_iff_lt,ge_iff_le]; rfl) (fun self=>by rw [Qd]; simp only [Zk,Zf,cond_true,cond_false,Zj,Zr,Zb,Zw,condC,Zl,Zm,Zx,ZR,Yb,ZQ,DT])
 have h2:decide (DT (Zc0 lo hi) l 0 ≥ 0)=l.any (Zc0 lo hi):=Bi (Zc0 lo hi) l 0 (Int.le_refl _)
 simp only [BK,this,Zr,h2,Yh]
theorem Zbc (L:Nat)(h:2 < L)(lo hi a:Int):ZH L (lo,hi,[a],())=some (Yh lo hi [a]):=IW L lo hi [a] (by simp [Len]) (by simp; omega)
theorem Zbd (L:Nat)(h:2 < L)(lo hi a b:Int):ZH L (lo,hi,[a,b],())=some (Yh lo hi [a,b]):=IW L lo hi [a,b] (by simp [Len]) (by simpa using h)
theorem ZbV (L:Nat)(d:ZF)(h:WE d):QF L (d,())=some (UT d):=by
 simp only [Zk,Zf,cond_true,cond_false,Zj,Zr,Zb,Zw,condC,Zl,Zm,Zx,ZR,Yb,ZQ,BJ,h.wr,UT]; simp only [Yt,XF,if_true,if_false,Bool.false_eq_true,ne_eq,decide_not,gt_iff_lt,ge_iff_le]
theorem OZ (L:Nat)(d:ZF)(h:WE d)(hL:SizeOf.sizeOf d < L)(h1:100≤L):Qq L (d,())=some (Vh d):=by
 have hs:d.Values.length < L∧d.Weights.length < L:=by
  have:=Z4 d.Values; have:=Z4 d.Weights; have:=Zck d; omega
 simp only [Zk,Zf,cond_true,cond_false,Zj,Zr,Zb,Zw,condC,Zl,Zm,Zx,ZR,Yb,ZQ,PY,ZbV L d h,Vh,IW L _ _ _ h.v hs.1,IW L _ _ _ h.w hs.2,Zbc L (by omega),Zbd L (by omega)]
 simp only [Yt,XF,if_true,if_false,Bool.false_eq_true,ne_eq,decide_not,gt_iff_lt,ge_iff_le]
theorem SI (L:Nat)(d:ZF):X4 L (d,())=some (MI d):=by
 simp only [Zk,Zf,cond_true,cond_false,Zj,Zr,Zb,Zw,condC,Zl,Zm,Zx,ZR,Yb,ZQ,Nj,MI]; simp only [Yt,XF,if_true,if_false,Bool.false_eq_true,ne_eq,decide_not,gt_iff_lt,ge_iff_le]
theorem Zdo (L:Nat)(d:ZF)(h:WE d)(hL:SizeOf.sizeOf d < L):VG L (d,())=some (Fz d):=by
 have hs:d.Values.length < L∧d.Weights.length < L:=by
  have:=Z4 d.Values; have:=Z4 d.Weights; have:=Zck d; omega
 rw [Eb,Fz]
 by_cases hl:d.Values.length=d.Weights.length
 ·rw [ZbI d.Values d.Weights hl (fun l m=>some (Zc7 l m)) hs.1 (fun self i x y r r' hx hy hi _ e=>by
   have hv:=h.v
   rw [Jw]; simp only [Zk,Zf,cond_true,cond_false,Zj,Zr,Zb,Zw,condC,Zl,Zm,Zx,ZR,Yb,ZQ,hi,hx,hy,PP,wrap_succ hi (by omega),e,Zc7]; simp only [Yt,XF,if_true,if_false,Bool.false_eq_true,ne_eq,decide_not,gt_iff_lt,ge_iff_le]) (fun self=>by rw [Jw]; simp only [Zk,Zf,cond_true,cond_false,Zj,Zr,Zb,Zw,condC,Zl,Zm,Zx,ZR,Yb,ZQ,Zc7])]
  simp only [Zk,Zf,cond_true,cond_false,Zj,Zr,Zb,Zw,condC,Zl,Zm,Zx,ZR,Yb,ZQ]; simp only [Yt,XF,if_true,if_false,Bool.false_eq_true,ne_eq,decide_not,gt_iff_lt,ge_iff_le]
 ·simp only [Yt,XF,if_true,if_false,Bool.false_eq_true,ne_eq,decide_not,gt_iff_lt,ge_iff_le,ZR,ZQ,Bool.not_false,show decide ((d.Values.length:Int)=d.Weights.length)=false by simp only [decide_eq_false_iff_not]; omega]
theorem JU (L:Nat)(d:ZF)(h:WE d)(hL:SizeOf.sizeOf d < L):WB L (d,())=some (Vh d):=by
 rw [← Bg]
 simp only [Zk,Zf,cond_true,cond_false,Zj,Zr,Zb,Zw,condC,Zl,Zm,Zx,ZR,Yb,ZQ,Ea,SI,Zb9,PP,Zdo L d h hL]; simp only [Yt,XF,if_true,if_false,Bool.false_eq_true,ne_eq,decide_not,gt_iff_lt,ge_iff_le]
end Go.Proofs.YtbcfddaocfpckaaGreatDoor
end
section
namespace Go.Proofs.YtbcfddaocfpckaaGreatDoor
open Go Go.Proofs.YtbcfddaocfpckaaGreatDoor.Abs Go.Proofs.YtbcfddaocfpckaaGreatDoor.Tl
set_option maxRecDepth 100000
theorem Zb3 (e:Zi):SizeOf.sizeOf e.Kids < SizeOf.sizeOf e∧SizeOf.sizeOf e.Name < SizeOf.sizeOf e:=by cases e; simp; omega
theorem ZA.nl {e:Zi}(h:ZA e):Len e.Name:=by have:=h.n; unfold Len; omega
theorem PW (L:Nat):∀ (m:Nat) (e:Zi),ZA e→SizeOf.sizeOf e≤m→m≤L→QK L m (e,())=some (Zb0 e)
 | 0,e,h,hs,_=>absurd hs (by have:=VX e; omega)
 | m + 1,e,h,hs,hm=>by
  have hk:=Z4 e.Kids; have hz:=Zb3 e; have hl:=h.k
  rw [Nb,Za6]
  refine Bq e.Kids (fun l s=>some (sumW Zb0 l s)) (by omega) 1 (fun self s i x r hx hi mem e'=>?_) (fun self s=>?_)
  ·have ih:=PW L m x (h.Kids.2 x mem) (by have:=Uk mem; omega) (by omega)
   rw [Vk]; simp only [Zk,Zf,cond_true,cond_false,Zj,Zr,Zb,Zw,condC,Zl,Zm,Zx,ZR,Yb,ZQ,hi,hx,ih,wrap_succ hi (by omega),e',sumW]
  ·rw [Vk]; simp only [Zk,Zf,cond_true,cond_false,Zj,Zr,Zb,Zw,condC,Zl,Zm,Zx,ZR,Yb,ZQ,sumW]
theorem Ju (L:Nat):∀ (m:Nat) (e:Zi),ZA e→SizeOf.sizeOf e≤m→m≤L→XA L m (e,())=some (Zb0 e)
 | 0,e,h,hs,_=>absurd hs (by have:=VX e; omega)
 | m + 1,e,h,hs,hm=>by
  have hk:=Z4 e.Kids; have hz:=Zb3 e; have hl:=h.k
  rw [Eg,Za6]
  refine Bq e.Kids (fun l s=>some (sumW Zb0 l s)) (by omega) 1 (fun self s i x r hx hi mem e'=>?_) (fun self s=>?_)
  ·have ih:=Ju L m x (h.Kids.2 x mem) (by have:=Uk mem; omega) (by omega)
   rw [Jz]; simp only [Zk,Zf,cond_true,cond_false,Zj,Zr,Zb,Zw,condC,Zl,Zm,Zx,ZR,Yb,ZQ,hi,hx,ih,wrap_succ hi (by omega),e',sumW]
  ·rw [Jz]; simp only [Zk,Zf,cond_true,cond_false,Zj,Zr,Zb,Zw,condC,Zl,Zm,Zx,ZR,Yb,ZQ,sumW]
theorem PU (L:Nat):∀ (m:Nat) (e:Zi),ZA e→SizeOf.sizeOf e≤m→m≤L→QJ L m (e,())=some (Za9 e)
 | 0,e,h,hs,_=>absurd hs (by have:=VX e; omega)
 | m + 1,e,h,hs,hm=>by
  have hk:=Z4 e.Kids; have hz:=Zb3 e; have hl:=h.k
  rw [Na,ZaA]
  refine Bq e.Kids (fun l s=>some (IntKind.i64.wrap (ZbK Za9 l s + 1))) (by omega) 0 (fun self s i x r hx hi mem e'=>?_) (fun self s=>?_)
  ·have ih:=PU L m x (h.Kids.2 x mem) (by have:=Uk mem; omega) (by omega)
   rw [Vj]; simp only [Zk,Zf,cond_true,cond_false,Zj,Zr,Zb,Zw,condC,Zl,Zm,Zx,ZR,Yb,ZQ,hi,hx,ih,wrap_succ hi (by omega),e',ZbK]
  ·rw [Vj]; simp only [Zk,Zf,cond_true,cond_false,Zj,Zr,Zb,Zw,condC,Zl,Zm,Zx,ZR,Yb,ZQ,ZbK]
theorem PX (L:Nat):∀ (m:Nat) (e:Zi),ZA e→SizeOf.sizeOf e≤m→m≤L→X9 L m (e,())=some (Za9 e)
 | 0,e,h,hs,_=>absurd hs (by have:=VX e; omega)
 | m + 1,e,h,hs,hm=>by
  have hk:=Z4 e.Kids; have hz:=Zb3 e; have hl:=h.k
  rw [Ef,ZaA]
  refine Bq e.Kids (fun l s=>some (IntKind.i64.wrap (ZbK Za9 l s + 1))) (by omega) 0 (fun self s i x r hx hi mem e'=>?_) (fun self s=>?_)
  ·have ih:=PX L m x (h.Kids.2 x mem) (by have:=Uk mem; omega) (by omega)
   rw [Jy]; simp only [Zk,Zf,cond_true,cond_false,Zj,Zr,Zb,Zw,condC,Zl,Zm,Zx,ZR,Yb,ZQ,hi,hx,ih,wrap_succ hi (by omega),e',ZbK]
  ·rw [Jy]; simp only [Zk,Zf,cond_true,cond_false,Zj,Zr,Zb,Zw,condC,Zl,Zm,Zx,ZR,Yb,ZQ,ZbK]
theorem AB (L:Nat)(n:Int):WQ L (n,())=some (Zb2 n):=BM L n
theorem Zc1 (L:Nat)(n:Int):Xl L (n,())=some (U4 n):=by
 simp only [Zk,Zf,cond_true,cond_false,Zj,Zr,Zb,Zw,condC,Zl,Zm,Zx,ZR,Yb,ZQ,SY,U4]; simp only [Yt,XF,if_true,if_false,Bool.false_eq_true,ne_eq,decide_not,gt_iff_lt,ge_iff_le]
theorem Zdi (L:Nat)(k:Y6)(n:Int):YF L (k,n,())=some (OV k.1 n):=by
 simp only [Zk,Zf,cond_true,cond_false,Zj,Zr,Zb,Zw,condC,Zl,Zm,Zx,ZR,Yb,ZQ,U7,Zc1,OV]; simp only [Yt,XF,if_true,if_false,Bool.false_eq_true,ne_eq,decide_not,gt_iff_lt,ge_iff_le]
theorem Zdk (L:Nat)(k:Y6)(n:Int):Yi L (k,n,())=some (PM k.1 n):=by
 simp only [Zk,Zf,cond_true,cond_false,Zj,Zr,Zb,Zw,condC,Zl,Zm,Zx,ZR,Yb,ZQ,U8,AB,PM]
theorem ZaZ (L:Nat)(k:Y6)(n:Int):Yn L (k,n,())=some ((Zb1 k.1 n).1,(Zb1 k.1 n).2.1,(Zb1 k.1 n).2.2,()):=by
 simp only [Zk,Zf,cond_true,cond_false,Zj,Zr,Zb,Zw,condC,Zl,Zm,Zx,ZR,Yb,ZQ,Jv,AB,Zb1]
 cases decide (n=2) <;> cases decide (n=25) <;> cases decide (n=26) <;> cases Zb2 n <;> cases k.1 <;> rfl
theorem ZfC (L:Nat)(n:Int):Oa L (n,())=some (inB n):=ZbW L n
theorem Zej (L:Nat)(k:Y6)(e:Zi)(h:ZA e)(hL:SizeOf.sizeOf e≤L):YR L (k,e,())=some (KT k.1 e):=by
 have hn:=BB L e.Name h.nl (by have:=Z4 e.Name; have:=Zb3 e; omega)
 simp only [Zk,Zf,cond_true,cond_false,Zj,Zr,Zb,Zw,condC,Zl,Zm,Zx,ZR,Yb,ZQ,KX,Zdi,Zc1,Zdk,ZaZ,ZfC,hn,KT]; simp only [Yt,XF,if_true,if_false,Bool.false_eq_true,ne_eq,decide_not,gt_iff_lt,ge_iff_le,Bool.or_assoc]
theorem AU (L:Nat)(k:Y6):∀ (m:Nat) (e:Zi),ZA e→SizeOf.sizeOf e≤m→m≤L→Yw L m (k,e,())=some (Yj k.1 e)
 | 0,e,h,hs,_=>absurd hs (by have:=VX e; omega)
 | m + 1,e,h,hs,hm=>by
  have hk:=Z4 e.Kids; have hz:=Zb3 e; have hl:=h.k
  have lp:loopT (Yv m k e L) L (0,())=some (XM (Yj k.1) e.Kids):=by
   refine SB e.Kids (fun l=>some (XM (Yj k.1) l)) (by omega) (fun self i x r hx hi mem e'=>?_) (fun self=>?_)
   ·have ih:=AU L k m x (h.Kids.2 x mem) (by have:=Uk mem; omega) (by omega)
    rw [Yv]; simp only [Zk,Zf,cond_true,cond_false,Zj,Zr,Zb,Zw,condC,Zl,Zm,Zx,ZR,Yb,ZQ,hi,hx,ih,wrap_succ hi (by omega),e',XM]; simp only [Yt,XF,if_true,if_false,Bool.false_eq_true,ne_eq,decide_not,gt_iff_lt,ge_iff_le]
   ·rw [Yv]; simp only [Zk,Zf,cond_true,cond_false,Zj,Zr,Zb,Zw,condC,Zl,Zm,Zx,ZR,Yb,ZQ,XM]
  rw [U9,OW,lp,Zej L k e h (by omega)]
  simp only [Zk,Zf,cond_true,cond_false,Zj,Zr,Zb,Zw,condC,Zl,Zm,Zx,ZR,Yb,ZQ]; simp only [Yt,XF,if_true,if_false,Bool.false_eq_true,ne_eq,decide_not,gt_iff_lt,ge_iff_le]
theorem ZbP (L:Nat)(k:Y6)(e:Zi)(h:ZA e)(hL:SizeOf.sizeOf e≤L):YE L (k,e,())=some (Y1 k.1 e):=by
 simp only [Zk,Zf,cond_true,cond_false,Zj,Zr,Zb,Zw,condC,Zl,Zm,Zx,ZR,Yb,ZQ,U6,show JP L (e,())=_ from PW L L e h hL (Nat.le_refl _),show JO L (e,())=_ from PU L L e h hL (Nat.le_refl _),show WA L (k,e,())=_ from AU L k L e h hL (Nat.le_refl _),Y1]; simp only [Yt,XF,if_true,if_false,Bool.false_eq_true,ne_eq,decide_not,gt_iff_lt,ge_iff_le]
theorem Bz (L:Nat)(e:Zi)(h:ZA e)(hL:SizeOf.sizeOf e≤L):Qr L (e,())=some (Y1 false e):=by
 simp only [Zk,Zf,cond_true,cond_false,Zj,Zr,Zb,Zw,condC,Zl,Zm,Zx,ZR,Yb,ZQ,PZ,ZbP L _ e h hL]
theorem Zek (L:Nat)(n:Int):G5 L (n,())=some (inB n):=ZbX L n
theorem Zbb (L:Nat)(n:Int):Qv L (n,())=some (Zb2 n):=Nl L n
theorem Zdd (L:Nat)(n:Int):VH L (n,())=some (OI n):=by
 simp only [Zk,Zf,cond_true,cond_false,Zj,Zr,Zb,Zw,condC,Zl,Zm,Zx,ZR,Yb,ZQ,Ed,OI]; simp only [Yt,XF,if_true,if_false,Bool.false_eq_true,ne_eq,decide_not,gt_iff_lt,ge_iff_le]
theorem Zei (L:Nat)(n:Int):JY L (n,())=some (ZbL n):=by
 simp only [Zk,Zf,cond_true,cond_false,Zj,Zr,Zb,Zw,condC,Zl,Zm,Zx,ZR,Yb,ZQ,CY,ZbL]; simp only [Yt,XF,if_true,if_false,Bool.false_eq_true,ne_eq,decide_not,gt_iff_lt,ge_iff_le]
theorem ZdE (a b d:Bool)(n r:Int):(if a=true then 1 else if b=true then 2 else if (d && !decide (n=0))=true then n else r) =
  if (!decide ((if a=true then 1 else if b=true then 2 else if (d && !decide (n=0))=true then n else 0)=0))=true then (if a=true then 1 else if b=true then 2 else if (d && !decide (n=0))=true then n else 0) else r:=by
 cases a <;> cases b <;> cases d <;> by_cases h:n=0 <;> simp [h]
theorem AX (L:Nat)(c:Bool)(h1:100≤L):∀ (m:Nat) (e:Zi),ZA e→SizeOf.sizeOf e≤m→m≤L→VN L m (e,c,())=some (Yj c e)
 | 0,e,h,hs,_=>absurd hs (by have:=VX e; omega)
 | m + 1,e,h,hs,hm=>by
  have hk:=Z4 e.Kids; have hz:=Zb3 e; have hl:=h.k
  have lp:loopT (Vp m e c L) L (0,())=some (XM (Yj c) e.Kids):=by
   refine SB e.Kids (fun l=>some (XM (Yj c) l)) (by omega) (fun self i x r hx hi mem e'=>?_) (fun self=>?_)
   ·have ih:=AX L c h1 m x (h.Kids.2 x mem) (by have:=Uk mem; omega) (by omega)
    rw [Vp]; simp only [Zk,Zf,cond_true,cond_false,Zj,Zr,Zb,Zw,condC,Zl,Zm,Zx,ZR,Yb,ZQ,hi,hx,ih,wrap_succ hi (by omega),e',XM]; simp only [Yt,XF,if_true,if_false,Bool.false_eq_true,ne_eq,decide_not,gt_iff_lt,ge_iff_le]
   ·rw [Vp]; simp only [Zk,Zf,cond_true,cond_false,Zj,Zr,Zb,Zw,condC,Zl,Zm,Zx,ZR,Yb,ZQ,XM]
  have hn:=JV L e.Name h.nl (by have:=Z4 e.Name; omega) h1
  rw [← ZaR]
  simp only [Zk,Zf,cond_true,cond_false,Zj,Zr,Zb,Zw,condC,Zl,Zm,Zx,ZR,Yb,ZQ,CZ,lp,Zdd,Zbb,Zek,Zei,hn,C9]; simp only [Yt,XF,if_true,if_false,Bool.false_eq_true,ne_eq,decide_not,gt_iff_lt,ge_iff_le,Bool.or_assoc]
  exact congrArg some (ZdE _ _ _ _ _)
theorem ZbR (L:Nat)(c:Bool)(h1:100≤L)(e:Zi)(h:ZA e)(hL:SizeOf.sizeOf e≤L):VI L (e,c,())=some (Y1 c e):=by
 simp only [Zk,Zf,cond_true,cond_false,Zj,Zr,Zb,Zw,condC,Zl,Zm,Zx,ZR,Yb,ZQ,Eh,show YH L (e,())=_ from Ju L L e h hL (Nat.le_refl _),show UV L (e,())=_ from PX L L e h hL (Nat.le_refl _),show Hr L (e,c,())=_ from AX L c h1 L e h hL (Nat.le_refl _),Y1]; simp only [Yt,XF,if_true,if_false,Bool.false_eq_true,ne_eq,decide_not,gt_iff_lt,ge_iff_le]
theorem BC (L:Nat)(h1:100≤L)(e:Zi)(h:ZA e)(hL:SizeOf.sizeOf e≤L):ZO L (e,())=some (Y1 false e):=by
 simp only [Zk,Zf,cond_true,cond_false,Zj,Zr,Zb,Zw,condC,Zl,Zm,Zx,ZR,Yb,ZQ,Ee,ZbR L _ h1 e h hL]
theorem A8 (L:Nat)(a b:List Int)(h:Len a)(hL:a.length < L):ZK L (a,b,())=some (decide (a=b)):=by
 rw [XQ]
 by_cases hl:a.length=b.length
 ·rw [ZbI a b hl (fun l m=>some (decide (l=m))) hL (fun self i x y r r' hx hy hi _ e=>by
   rw [Yo]; simp only [Zk,Zf,cond_true,cond_false,Zj,Zr,Zb,Zw,condC,Zl,Zm,Zx,ZR,Yb,ZQ,hi,hx,hy,wrap_succ hi (by omega),e,List.cons.injEq,Bool.decide_and]; cases decide (x=y) <;> rfl) (fun self=>by rw [Yo]; simp only [Zk,Zf,cond_true,cond_false,Zj,Zr,Zb,Zw,condC,Zl,Zm,Zx,ZR,Yb,ZQ,decide_true])]
  rw [ZQ,show decide ((a.length:Int)=b.length)=true by simp only [decide_eq_true_eq]; omega]; rfl
 ·rw [ZQ,show decide ((a.length:Int)=b.length)=false by simp only [decide_eq_false_iff_not]; omega]
  have:a≠b:=fun e=>hl (by rw [e])
  simp [this]
theorem Rj (L:Nat)(a b:List Int)(h:Len a)(hL:a.length < L):Wv L (a,b,())=some (decide (a=b)):=by
 rw [Lr]
 by_cases hl:a.length=b.length
 ·rw [ZbI a b hl (fun l m=>some (decide (l=m))) hL (fun self i x y r r' hx hy hi _ e=>by
   rw [Xc]; simp only [Zk,Zf,cond_true,cond_false,Zj,Zr,Zb,Zw,condC,Zl,Zm,Zx,ZR,Yb,ZQ,hi,hx,hy,wrap_succ hi (by omega),e,List.cons.injEq,Bool.decide_and]; cases decide (x=y) <;> rfl) (fun self=>by rw [Xc]; simp only [Zk,Zf,cond_true,cond_false,Zj,Zr,Zb,Zw,condC,Zl,Zm,Zx,ZR,Yb,ZQ,decide_true])]
  rw [ZQ,show decide ((a.length:Int)=b.length)=true by simp only [decide_eq_true_eq]; omega]; rfl
 ·rw [ZQ,show decide ((a.length:Int)=b.length)=false by simp only [decide_eq_false_iff_not]; omega]
  have:a≠b:=fun e=>hl (by rw [e])
  simp [this]
theorem Zdf (L:Nat)(a b:ZF)(h:WE a)(hL:SizeOf.sizeOf a≤L):VD L (a,b,())=some (ZaC a b):=by
 have h1:=Z4 a.Values; have h2:=Z4 a.Weights; have h3:=Zck a
 simp only [Zk,Zf,cond_true,cond_false,Zj,Zr,Zb,Zw,condC,Zl,Zm,Zx,ZR,Yb,ZQ,SS,A8 L a.Values _ h.v (by omega),A8 L a.Weights _ h.w (by omega),ZaC]
theorem BD (L:Nat)(a b:ZF)(h:WE a)(hL:SizeOf.sizeOf a≤L):QO L (a,b,())=some (ZaC a b):=by
 have h1:=Z4 a.Values; have h2:=Z4 a.Weights; have h3:=Zck a
 simp only [Zk,Zf,cond_true,cond_false,Zj,Zr,Zb,Zw,condC,Zl,Zm,Zx,ZR,Yb,ZQ,CU,Rj L a.Values _ h.v (by omega),Rj L a.Weights _ h.w (by omega),ZaC]
theorem ZfA {α β:Type}(a:List α)(b:List β):(a.length=b.length∧decide ((a.length:Int)=(b.length:Int))=true)∨(a.length≠b.length∧decide ((a.length:Int)=(b.length:Int))=false):=by
 by_cases h:a.length=b.length
 ·exact .inl ⟨h,by simp only [decide_eq_true_eq]; omega⟩
 ·exact .inr ⟨h,by simp only [decide_eq_false_iff_not]; omega⟩
theorem AQ (L:Nat):∀ (m:Nat) (a b:Zi),ZA a→SizeOf.sizeOf a≤m→m≤L→X8 L m (a,b,())=some (LC a b)
 | 0,e,_,h,hs,_=>absurd hs (by have:=VX e; omega)
 | m + 1,e,b,h,hs,hm=>by
  have hk:=Z4 e.Kids; have hz:=Zb3 e; have hl:=h.k
  rw [Dq]
  rcases ZfA e.Kids b.Kids with ⟨hl1,hl2⟩ | ⟨hl1,hl2⟩
  ·have lp:loopT (Xy m e b L) L (0,())=some (all2 LC e.Kids b.Kids):=by
    refine ZbI e.Kids b.Kids hl1 (fun l l'=>some (all2 LC l l')) (by omega) (fun self i x y r r' hx hy hi mem e'=>?_) (fun self=>?_)
    ·have ih:=AQ L m x y (h.Kids.2 x mem) (by have:=Uk mem; omega) (by omega)
     rw [Xy]; simp only [Zk,Zf,cond_true,cond_false,Zj,Zr,Zb,Zw,condC,Zl,Zm,Zx,ZR,Yb,ZQ,hi,hx,hy,ih,wrap_succ hi (by omega),e',all2]; simp only [Yt,XF,if_true,if_false,Bool.false_eq_true,ne_eq,decide_not,gt_iff_lt,ge_iff_le]
    ·rw [Xy]; simp only [Zk,Zf,cond_true,cond_false,Zj,Zr,Zb,Zw,condC,Zl,Zm,Zx,ZR,Yb,ZQ,all2]
   simp only [Zk,Zf,cond_true,cond_false,Zj,Zr,Zb,Zw,condC,Zl,Zm,Zx,ZR,Yb,ZQ,Tm,lp,CB,hl2]; simp only [Yt,XF,if_true,if_false,Bool.false_eq_true,ne_eq,decide_not,gt_iff_lt,ge_iff_le,hl2]
  ·simp only [Zk,Zf,cond_true,cond_false,Zj,Zr,Zb,Zw,condC,Zl,Zm,Zx,ZR,Yb,ZQ,Tm,CB,hl2,Bool.not_false,Bool.or_true]; simp only [Yt,XF,if_true,if_false,Bool.false_eq_true,ne_eq,decide_not,gt_iff_lt,ge_iff_le,hl2,Bool.not_false,Bool.or_true]
theorem Zdg (L:Nat)(a b:Zi)(h:ZA a)(hL:SizeOf.sizeOf a≤L):UU L (a,b,())=some (LC a b):=AQ L L a b h hL (Nat.le_refl _)
end Go.Proofs.YtbcfddaocfpckaaGreatDoor
end
