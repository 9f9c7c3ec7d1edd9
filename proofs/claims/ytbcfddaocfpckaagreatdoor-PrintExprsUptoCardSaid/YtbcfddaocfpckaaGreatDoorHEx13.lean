import Derived.Test.YtbcfddaocfpckaaGreatDoorHEx12
set_option linter.all false
noncomputable section
namespace Go.Proofs.YtbcfddaocfpckaaGreatDoor
open Go Go.Proofs.YtbcfddaocfpckaaGreatDoor.Abs Go.Proofs.YtbcfddaocfpckaaGreatDoor.Tl
set_option maxRecDepth 100000
set_option maxHeartbeats 0
def QE (L:Nat)(x:Int×PUnit):Option (List UInt8):=fT [] L Hf [] (.one .str) [.int .i64] x
def Yu (L:Nat):Sum tT:=mU 75 [.int .i64] (.one .str) (QE L)
theorem QB:SX Yu:=fun h=>sT h Zp rfl (by kernel_rfl) fun _=>rfl
theorem BH (L:Nat)(x0:Int):QE L (x0,())=bif x0 == 19 then some [111,114] else bif x0 == 18 then some [97,110,100] else bif x0 == 14 then some [61] else bif x0 == 15 then some [33,61] else bif x0 == 16 then some [60] else bif x0 == 17 then some [60,61] else bif x0 == 9 then some [43] else bif x0 == 10 then some [45] else bif x0 == 11 then some [42] else bif x0 == 12 then some [47] else bif x0 == 13 then some [37] else some []:=by kernel_rfl
def Qb (L:Nat)(x:Zc×PUnit):Option Int:=fT [] L UO [] (.one (.int .i64)) [.row 8] x
def Yb (L:Nat):Sum tT:=mU 72 [.row 8] (.one (.int .i64)) (Qb L)
theorem WR:SX Yb:=fun h=>sT h Zp rfl (by kernel_rfl) fun _=>rfl
theorem Le (L:Nat)(x0:Zc):Qb L (x0,())=bif x0.1 == 19 then some 1 else bif x0.1 == 18 then some 2 else bif x0.1 == 6 then some 3 else bif x0.1 == 14 then some 4 else bif x0.1 == 15 then some 4 else bif x0.1 == 16 then some 4 else bif x0.1 == 17 then some 4 else bif x0.1 == 9 then some 5 else bif x0.1 == 10 then some 5 else bif x0.1 == 11 then some 6 else bif x0.1 == 12 then some 6 else bif x0.1 == 13 then some 6 else bif x0.1 == 5 then some 7 else some 8:=by kernel_rfl
def Zo (L:Nat):Nat→List (Sum tT)
 | 0=>[⟨74,[.row 8,.int .i64],fun _=>.par _ none ((.one (.str):RD).tv tT)⟩,⟨151,[.lst 4 (.row 8)],fun _=>.par _ none ((.one (.str):RD).tv tT)⟩,⟨73,[.row 8],fun _=>.par _ none ((.one (.str):RD).tv tT)⟩,⟨32,[.row 8],fun _=>.par _ none ((.one (.str):RD).tv tT)⟩]
 | m + 1=>[⟨74,[.row 8,.int .i64],fun x=>.par _ (fnT tF tG (qOf tF (Zo L m ++ [QX,Yb L,Yu L])) 0 L QM [] (.one (.str)) (tvL tT [.row 8,.int .i64] x) []) ((.one (.str):RD).tv tT)⟩,⟨151,[.lst 4 (.row 8)],fun x=>.par _ (fnT tF tG (qOf tF (Zo L m ++ [QX,Yb L,Yu L])) 0 L Ju [.rnd [.slot 3 (.str),.slot 4 (.int .i64)]] (.one (.str)) (tvL tT [.lst 4 (.row 8)] x) []) ((.one (.str):RD).tv tT)⟩,⟨73,[.row 8],fun x=>.par _ (fnT tF tG (qOf tF (Zo L m ++ [QX,Yb L,Yu L])) 0 L Jt [] (.one (.str)) (tvL tT [.row 8] x) []) ((.one (.str):RD).tv tT)⟩,⟨32,[.row 8],fun x=>.par _ (fnT tF tG (qOf tF (Zo L m ++ [QX,Yb L,Yu L])) 0 L Js [] (.one (.str)) (tvL tT [.row 8] x) []) ((.one (.str):RD).tv tT)⟩]
theorem YR {C:Cfg}{L:Nat}(h:St C L):∀ m,∀ s ∈ Zo L m,SumOk C s
 | 0=>(Zd (Yt _ _ _) (Zd (Yt _ _ _) (Zd (Yt _ _ _) (Zd (Yt _ _ _) Zp))))
 | m + 1=>have ih:=YR h m
  (Zd (sum_par ZH h.L h.G (qOf_ok ZH (Qx ih (Zd (KL h) (Zd (WR h) (Zd (QB h) Zp))))) [] (h.T _ _ rfl) (by kernel_rfl) fun _=>rfl) (Zd (sum_par ZH h.L h.G (qOf_ok ZH (Qx ih (Zd (KL h) (Zd (WR h) (Zd (QB h) Zp))))) [.rnd [.slot 3 (.str),.slot 4 (.int .i64)]] (h.T _ _ rfl) (by kernel_rfl) fun _=>rfl) (Zd (sum_par ZH h.L h.G (qOf_ok ZH (Qx ih (Zd (KL h) (Zd (WR h) (Zd (QB h) Zp))))) [] (h.T _ _ rfl) (by kernel_rfl) fun _=>rfl) (Zd (sum_par ZH h.L h.G (qOf_ok ZH (Qx ih (Zd (KL h) (Zd (WR h) (Zd (QB h) Zp))))) [] (h.T _ _ rfl) (by kernel_rfl) fun _=>rfl) Zp))))
def ZE (L m:Nat)(x:Zc×Int×PUnit):Option ((List UInt8)):=fnT tF tG (qOf tF (Zo L m ++ [QX,Yb L,Yu L])) 0 L QM [] (.one (.str)) (tvL tT [.row 8,.int .i64] x) []
def YH (L m:Nat)(x:(List Zc)×PUnit):Option ((List UInt8)):=fnT tF tG (qOf tF (Zo L m ++ [QX,Yb L,Yu L])) 0 L Ju [.rnd [.slot 3 (.str),.slot 4 (.int .i64)]] (.one (.str)) (tvL tT [.lst 4 (.row 8)] x) []
def Gg (L m:Nat)(x:Zc×PUnit):Option ((List UInt8)):=fnT tF tG (qOf tF (Zo L m ++ [QX,Yb L,Yu L])) 0 L Jt [] (.one (.str)) (tvL tT [.row 8] x) []
def Z7 (L m:Nat)(x:Zc×PUnit):Option ((List UInt8)):=fnT tF tG (qOf tF (Zo L m ++ [QX,Yb L,Yu L])) 0 L Js [] (.one (.str)) (tvL tT [.row 8] x) []
def JB (L:Nat)(x:Zc×PUnit):Option ((List UInt8)):=Z7 L L x
def H6 (L:Nat):Sum tT:=⟨32,[.row 8],fun x=>.par ((.one (.str):RD).Ty tT) (JB L x) ((.one (.str):RD).tv tT)⟩
theorem BM {C:Cfg}{L:Nat}(h:St C L):SumOk C (H6 L):=have ih:=YR h L
 sum_par ZH h.L h.G (qOf_ok ZH (Qx ih (Zd (KL h) (Zd (WR h) (Zd (QB h) Zp))))) [] (h.T _ _ rfl) (by kernel_rfl) fun _=>rfl
theorem IC (L m:Nat)(x0:Zc)(x1:Int):ZE L (m + 1) (x0,x1,())=bT (Qb L (x0,())) fun y=>bif decide (y < x1) then bT (Z7 L m (x0,())) fun y=>bT (catS [40] y) fun y=>bT (catS y [41]) fun y=>some y else bT (Z7 L m (x0,())) fun y=>some y:=by kernel_rfl
def KC:Nat→List Zc→Nat→(List UInt8×Int×PUnit→Option (List UInt8))→List UInt8×Int×PUnit→Option (List UInt8):=fun (m:Nat)=>fun x0 L self acc=>bif decide (acc.2.1 < (↑x0.length:Int)) then bif decide (acc.2.1 > 0) then bT (catS acc.1 [44,32]) fun y=>bT (getT x0 acc.2.1) fun y_1=>bT (Z7 L m (y_1,())) fun y_2=>bT (catS y y_2) fun y=>self (y,Go.IntKind.i64.wrap (acc.2.1 + 1),()) else bT (getT x0 acc.2.1) fun y=>bT (Z7 L m (y,())) fun y=>bT (catS acc.1 y) fun y=>self (y,Go.IntKind.i64.wrap (acc.2.1 + 1),()) else bT (catS [40] acc.1) fun y=>bT (catS y [41]) fun y=>some y
theorem BG (L m:Nat)(x0:(List Zc)):YH L (m + 1) (x0,())=loopT (KC m x0 L) L ([],0,()):=by kernel_rfl
theorem Yr (L m:Nat)(x0:Zc):Gg L (m + 1) (x0,())=bif x0.1 == 1 then bif decide (x0.3 < 0) then bT (O5 x0.3) fun y=>bT (catS [40] y) fun y=>bT (catS y [41]) fun y=>some y else bT (O5 x0.3) fun y=>some y else bif x0.1 == 2 then bif x0.3 == 1 then some [116,114,117,101] else some [102,97,108,115,101] else bif x0.1 == 3 then some x0.2 else bif x0.1 == 4 then some [110,111,119] else bif x0.1 == 7 then bT (YH L m (x0.4,())) fun y=>bT (catS [100,117,114] y) fun y=>some y else bif x0.1 == 8 then bT (YH L m (x0.4,())) fun y=>bT (catS [116,105,99,107,115] y) fun y=>some y else bif x0.1 == 20 then bT (YH L m (x0.4,())) fun y=>bT (catS [109,105,110] y) fun y=>some y else bif x0.1 == 21 then bT (YH L m (x0.4,())) fun y=>bT (catS [109,97,120] y) fun y=>some y else bif x0.1 == 22 then bT (catS [102,114,101,101,40] x0.2) fun y=>bT (catS y [41]) fun y=>some y else bif x0.1 == 23 then bT (catS [115,105,122,101,40] x0.2) fun y=>bT (catS y [41]) fun y=>some y else bT (catS [119,97,105,116,105,110,103,40] x0.2) fun y=>bT (catS y [41]) fun y=>some y:=by kernel_rfl
theorem BF (L m:Nat)(x0:Zc):Z7 L (m + 1) (x0,())=bT (Qb L (x0,())) fun y=>bif y == 8 then bT (Gg L m (x0,())) fun y=>some y else bif y == 7 then bT (getT x0.4 0) fun y=>bT (ZE L m (y,7,())) fun y=>bT (catS [45] y) fun y=>some y else bif y == 3 then bT (getT x0.4 0) fun y=>bT (ZE L m (y,3,())) fun y=>bT (catS [110,111,116,32] y) fun y=>some y else bif y == 4 then bT (getT x0.4 0) fun y=>bT (bT (ZE L m (y,5,())) fun y=>some y) fun y=>bT (catS y [32]) fun y=>bT (bT (QE L (x0.1,())) fun y=>some y) fun y_1=>bT (catS y y_1) fun y=>bT (catS y [32]) fun y=>bT (getT x0.4 1) fun y_2=>bT (bT (ZE L m (y_2,5,())) fun y=>some y) fun y_3=>bT (catS y y_3) fun y=>some y else bT (getT x0.4 0) fun y_1=>bT (bT (ZE L m (y_1,y,())) fun y=>some y) fun y_2=>bT (catS y_2 [32]) fun y_3=>bT (bT (QE L (x0.1,())) fun y=>some y) fun y_4=>bT (catS y_3 y_4) fun y_5=>bT (catS y_5 [32]) fun y_6=>bT (getT x0.4 1) fun y_7=>bT (bT (ZE L m (y_7,Go.IntKind.i64.wrap (y + 1),())) fun y=>some y) fun y=>bT (catS y_6 y) fun y=>some y:=by kernel_rfl
def WC (L:Nat)(x:(List (List UInt8))×(List UInt8)×PUnit):Option Int:=fT [] L GU [.rnd [.slot 5 (.int .i64)]] (.one (.int .i64)) [.lst 1 .str,.str] x
def WA (L:Nat):Sum tT:=mU 211 [.lst 1 .str,.str] (.one (.int .i64)) (WC L)
theorem BI:SX WA:=fun h=>sT h Zp rfl (by kernel_rfl) fun _=>rfl
def Vu:List (List UInt8)→List UInt8→(Int×PUnit→Option Int)→Int×PUnit→Option Int:=fun x0 x1 self acc=>bif decide (acc.1 < (↑x0.length:Int)) then bT (getT x0 acc.1) fun y=>bif y == x1 then some acc.1 else self (Go.IntKind.i64.wrap (acc.1 + 1),()) else some (-1)
theorem Bq (L:Nat)(x0:(List (List UInt8)))(x1:(List UInt8)):WC L (x0,x1,())=loopT (Vu x0 x1) L (0,()):=by kernel_rfl
def YK (L:Nat)(x:PUnit):Option ((List (List UInt8))):=fT [] L XX [] (.one (.lst 1 .str)) [] x
def Vg (L:Nat):Sum tT:=mU 271 [] (.one (.lst 1 .str)) (YK L)
theorem GI:SX Vg:=fun h=>sT h Zp rfl (by kernel_rfl) fun _=>rfl
theorem G7 (L:Nat)  : YK L ()=some [[97,100,100],[97,102,116,101,114],[97,110,100],[97,116],[98,101,108,116],[98,111,111,108],[99,111,110,115,101,114,118,101],[99,111,110,115,116],[99,111,117,110,116],[99,121,99,108,101],[100,111,119,110],[100,114,97,119],[100,117,114],[101,108,115,101],[101,110,100],[101,118,101,114,121],[102,97,108,115,101],[102,97,117,108,116],[102,105,102,111],[102,114,101,101],[102,114,111,109],[103,101,111,109],[103,101,116],[104,111,108,100],[105,102],[105,110,116],[105,110,116,111],[108,101,97,115,116],[108,101,118,101,108],[108,105,102,111],[108,105,110,107],[108,111,99,97,108],[109,97,120],[109,105,110],[109,111,100,101,108],[110,111,116],[110,111,119],[111,98,115,101,114,118,101],[111,114],[112,97,114,97,109],[112,114,101,101,109,112,116],[112,114,105,111],[112,117,116],[113,117,101,117,101],[114,101,108,101,97,115,101],[114,101,115,111,117,114,99,101],[114,105,100,101],[114,111,117,116,105,110,101],[115,101,105,122,101],[115,101,110,100],[115,101,116],[115,104,105,102,116],[115,105,103,110,97,108],[115,105,116,101],[115,105,122,101],[115,112,97,119,110],[115,116,97,114,116],[115,116,111,112],[115,116,111,114,101],[115,116,114,101,97,109],[115,117,109],[116,97,98,108,101],[116,97,108,108,121],[116,105,99,107,115],[116,105,109,101],[116,114,117,101],[117,110,105,102,111,114,109],[117,110,116,105,108],[117,112],[118,97,114],[119,97,105,116],[119,97,105,116,105,110,103],[119,104,105,108,101]]:=by kernel_rfl
def Wv (L:Nat)(x:(List UInt8)×PUnit):Option Bool:=fT [WA L,Vg L] L VM [] (.one .bool) [.str] x
def Ji (L:Nat):Sum tT:=mU 208 [.str] (.one .bool) (Wv L)
theorem IK:SX Ji:=fun h=>sT h (Zd (BI h) (Zd (GI h) Zp)) rfl (by kernel_rfl) fun _=>rfl
theorem IA (L:Nat)(x0:(List UInt8)):Wv L (x0,())=bT (YK L ()) fun y=>bT (WC L (y,x0,())) fun y=>some (decide (y ≥ 0)):=by kernel_rfl
def YT (L:Nat)(x:Int×PUnit):Option Bool:=fT [] L JI [] (.one .bool) [.int .u8] x
def Ug (L:Nat):Sum tT:=mU 207 [.int .u8] (.one .bool) (YT L)
theorem Tv:SX Ug:=fun h=>sT h Zp rfl (by kernel_rfl) fun _=>rfl
theorem OX (L:Nat)(x0:Int):YT L (x0,())=some (decide (x0 ≥ 97) && decide (x0≤122)):=by kernel_rfl
def Yq (L:Nat)(x:(List UInt8)×PUnit):Option Int:=fT [Ji L,Ug L] L UD [.rnd [.slot 3 (.int .i64)]] (.one (.int .i64)) [.str] x
def WW (L:Nat):Sum tT:=mU 107 [.str] (.one (.int .i64)) (Yq L)
theorem KH:SX WW:=fun h=>sT h (Zd (IK h) (Zd (Tv h) Zp)) rfl (by kernel_rfl) fun _=>rfl
def Qk:List UInt8→Nat→(Int×PUnit→Option Int)→Int×PUnit→Option Int:=fun x0 L self acc=>bif decide (acc.1 < (↑x0.length:Int)) then bT (getT x0 acc.1) fun y=>bT (YT L ((↑y.toNat:Int),())) fun y=>bT (bif (!y) == true then bT (getT x0 acc.1) fun y=>some ((↑y.toNat:Int) != 95) else some false) fun y=>bT (bif y == true then bT (getT x0 acc.1) fun y=>bif decide ((↑y.toNat:Int) < 48) == false then bT (getT x0 acc.1) fun y=>some (decide ((↑y.toNat:Int) > 57)) else some true else some false) fun y=>bif y then some 3 else self (Go.IntKind.i64.wrap (acc.1 + 1),()) else some 0
theorem MN (L:Nat)(x0:(List UInt8)):Yq L (x0,())=bT (bif (decide ((↑x0.length:Int) < 1) || decide ((↑x0.length:Int) > 24)) == false then bT (getT x0 0) fun y=>bT (YT L ((↑y.toNat:Int),())) fun y=>some !y else some true) fun y=>bT (bif y == false then bT (Wv L (x0,())) fun y=>some y else some true) fun y=>bif y then some 3 else loopT (Qk x0 L) L (0,()):=by kernel_rfl
def XQ (L:Nat)(x:Int×PUnit):Option Int:=fT [] L GV [] (.one (.int .i64)) [.int .i64] x
def J7 (L:Nat):Sum tT:=mU 239 [.int .i64] (.one (.int .i64)) (XQ L)
theorem Hu:SX J7:=fun h=>sT h Zp rfl (by kernel_rfl) fun _=>rfl
theorem Bv (L:Nat)(x0:Int):XQ L (x0,())=bif x0 == 25 then some 15 else bif x0 == 26 then some 31 else some 63:=by kernel_rfl
def Jj (L:Nat)(x:Int×PUnit):Option Bool:=fT [] L LM [] (.one .bool) [.int .i64] x
def Jg (L:Nat):Sum tT:=mU 238 [.int .i64] (.one .bool) (Jj L)
theorem Ry:SX Jg:=fun h=>sT h Zp rfl (by kernel_rfl) fun _=>rfl
theorem N9 (L:Nat)(x0:Int):Jj L (x0,())=some (decide (x0 ≥ (-1000000000000)) && decide (x0≤1000000000000)):=by kernel_rfl
def YU (L:Nat)(x:Int×PUnit):Option Bool:=fT [] L JJ [] (.one .bool) [.int .i64] x
def XI (L:Nat):Sum tT:=mU 237 [.int .i64] (.one .bool) (YU L)
theorem JY:SX XI:=fun h=>sT h Zp rfl (by kernel_rfl) fun _=>rfl
theorem OY (L:Nat)(x0:Int):YU L (x0,())=some (decide (x0 ≥ 22) && decide (x0≤24)):=by kernel_rfl
def Xb (L:Nat)(x:Int×PUnit):Option Int:=fT [] L UE [] (.one (.int .i64)) [.int .i64] x
def V6 (L:Nat):Sum tT:=mU 236 [.int .i64] (.one (.int .i64)) (Xb L)
theorem KI:SX V6:=fun h=>sT h Zp rfl (by kernel_rfl) fun _=>rfl
theorem MO (L:Nat)(x0:Int):Xb L (x0,())=bif decide (x0 < 1) || decide (x0 > 26) then some (-1) else bif decide (x0 ≥ 5) && decide (x0≤8) then some 1 else bif decide (x0 ≥ 9) && decide (x0≤21) then some 2 else some 0:=by kernel_rfl
end Go.Proofs.YtbcfddaocfpckaaGreatDoor
end
noncomputable section
namespace Go.Proofs.YtbcfddaocfpckaaGreatDoor
open Go Go.Proofs.YtbcfddaocfpckaaGreatDoor.Abs Go.Proofs.YtbcfddaocfpckaaGreatDoor.Tl
set_option maxRecDepth 100000
set_option maxHeartbeats 0
def V4 (L:Nat):Nat→List (Sum tT)
 | 0=>[⟨150,[.row 8,.bool],fun _=>.par _ none ((.one (.int .i64):RD).tv tT)⟩]
 | m + 1=>[⟨150,[.row 8,.bool],fun x=>.par _ (fnT tF tG (qOf tF (V4 L m ++ [WW L,J7 L,Jg L,XI L,V6 L])) 0 L Jq [.rnd [.slot 10 (.int .i64)]] (.one (.int .i64)) (tvL tT [.row 8,.bool] x) []) ((.one (.int .i64):RD).tv tT)⟩]
theorem Ve {C:Cfg}{L:Nat}(h:St C L):∀ m,∀ s ∈ V4 L m,SumOk C s
 | 0=>(Zd (Yt _ _ _) Zp)
 | m + 1=>have ih:=Ve h m
  (Zd (sum_par ZH h.L h.G (qOf_ok ZH (Qx ih (Zd (KH h) (Zd (Hu h) (Zd (Ry h) (Zd (JY h) (Zd (KI h) Zp))))))) [.rnd [.slot 10 (.int .i64)]] (h.T _ _ rfl) (by kernel_rfl) fun _=>rfl) Zp)
def Xf (L m:Nat)(x:Zc×Bool×PUnit):Option (Int):=fnT tF tG (qOf tF (V4 L m ++ [WW L,J7 L,Jg L,XI L,V6 L])) 0 L Jq [.rnd [.slot 10 (.int .i64)]] (.one (.int .i64)) (tvL tT [.row 8,.bool] x) []
def J8 (L:Nat)(x:Zc×Bool×PUnit):Option (Int):=Xf L L x
def Hy (L:Nat):Sum tT:=⟨150,[.row 8,.bool],fun x=>.par ((.one (.int .i64):RD).Ty tT) (J8 L x) ((.one (.int .i64):RD).tv tT)⟩
theorem BJ {C:Cfg}{L:Nat}(h:St C L):SumOk C (Hy L):=have ih:=Ve h L
 sum_par ZH h.L h.G (qOf_ok ZH (Qx ih (Zd (KH h) (Zd (Hu h) (Zd (Ry h) (Zd (JY h) (Zd (KI h) Zp))))))) [.rnd [.slot 10 (.int .i64)]] (h.T _ _ rfl) (by kernel_rfl) fun _=>rfl
def QR:Nat→Zc→Bool→Nat→(Int×PUnit→Option Int)→Int×PUnit→Option Int:=fun (m:Nat)=>fun x0 x1 L self acc=>bif decide (acc.1 < (↑x0.4.length:Int)) then bT (getT x0.4 acc.1) fun y=>bT (Xf L m (y,x1,())) fun y=>bif y != 0 then some y else self (Go.IntKind.i64.wrap (acc.1 + 1),()) else some 0
theorem Bz (L m:Nat)(x0:Zc)(x1:Bool):Xf L (m + 1) (x0,x1,())=bT (Xb L (x0.1,())) fun y=>bT (bif (!x1) == true then bif (x0.1 == 3) == false then bT (YU L (x0.1,())) fun y=>some y else some true else some false) fun y_1=>bT (bif x1 == true then bT (YU L (x0.1,())) fun y=>some (y || x0.1 == 25 || x0.1 == 26) else some false) fun y_2=>bif !(decide (y ≥ 0) && (x1 && x0.1 != 3 || !x1 && decide (x0.1≤24))) || !y_1 && !x0.2 == [] || !(x0.1 == 1 || x0.1 == 2 || y_2) && x0.3 != 0 || (↑x0.4.length:Int) != y then some 1 else bT (bif (x0.1 == 1) == true then bT (bT (Jj L (x0.3,())) fun y=>some y) fun y=>some !y else some false) fun y=>bT (bif (y || x0.1 == 2 && x0.3 != 0 && x0.3 != 1) == false then bif y_2 == true then bif decide (x0.3 < 0) == false then bT (bT (XQ L (x0.1,())) fun y=>some y) fun y=>some (decide (x0.3 > y)) else some true else some false else some true) fun y=>bif y then some 2 else bT (bif y_1 == true then bT (Yq L (x0.2,())) fun y=>some (y != 0) else some false) fun y=>bif y then bT (Yq L (x0.2,())) fun y=>some y else loopT (QR m x0 x1 L) L (0,()):=by kernel_rfl
def XC (L:Nat):Nat→List (Sum tT)
 | 0=>[⟨149,[.row 8],fun _=>.par _ none ((.one (.int .i64):RD).tv tT)⟩]
 | m + 1=>[⟨149,[.row 8],fun x=>.par _ (fnT tF tG (qOf tF (XC L m ++ [])) 0 L Vk [.rnd [.slot 3 (.int .i64),.slot 4 (.int .i64)]] (.one (.int .i64)) (tvL tT [.row 8] x) []) ((.one (.int .i64):RD).tv tT)⟩]
theorem XD {C:Cfg}{L:Nat}(h:St C L):∀ m,∀ s ∈ XC L m,SumOk C s
 | 0=>(Zd (Yt _ _ _) Zp)
 | m + 1=>have ih:=XD h m
  (Zd (sum_par ZH h.L h.G (qOf_ok ZH (Qx ih Zp)) [.rnd [.slot 3 (.int .i64),.slot 4 (.int .i64)]] (h.T _ _ rfl) (by kernel_rfl) fun _=>rfl) Zp)
def Qp (L m:Nat)(x:Zc×PUnit):Option (Int):=fnT tF tG (qOf tF (XC L m ++ [])) 0 L Vk [.rnd [.slot 3 (.int .i64),.slot 4 (.int .i64)]] (.one (.int .i64)) (tvL tT [.row 8] x) []
def V9 (L:Nat)(x:Zc×PUnit):Option (Int):=Qp L L x
def KQ (L:Nat):Sum tT:=⟨149,[.row 8],fun x=>.par ((.one (.int .i64):RD).Ty tT) (V9 L x) ((.one (.int .i64):RD).tv tT)⟩
theorem Lt {C:Cfg}{L:Nat}(h:St C L):SumOk C (KQ L):=have ih:=XD h L
 sum_par ZH h.L h.G (qOf_ok ZH (Qx ih Zp)) [.rnd [.slot 3 (.int .i64),.slot 4 (.int .i64)]] (h.T _ _ rfl) (by kernel_rfl) fun _=>rfl
def X7:Nat→Zc→Nat→(Int×Int×PUnit→Option Int)→Int×Int×PUnit→Option Int:=fun (m:Nat)=>fun x0 L self acc=>bif decide (acc.2.1 < (↑x0.4.length:Int)) then bT (getT x0.4 acc.2.1) fun y=>bT (Qp L m (y,())) fun y=>self (if y > acc.1 then y else acc.1,Go.IntKind.i64.wrap (acc.2.1 + 1),()) else some (Go.IntKind.i64.wrap (acc.1 + 1))
theorem MQ (L m:Nat)(x0:Zc):Qp L (m + 1) (x0,())=loopT (X7 m x0 L) L (0,0,()):=by kernel_rfl
def XE (L:Nat):Nat→List (Sum tT)
 | 0=>[⟨10,[.row 8],fun _=>.par _ none ((.one (.int .i64):RD).tv tT)⟩]
 | m + 1=>[⟨10,[.row 8],fun x=>.par _ (fnT tF tG (qOf tF (XE L m ++ [])) 0 L Vl [.rnd [.slot 3 (.int .i64),.slot 4 (.int .i64)]] (.one (.int .i64)) (tvL tT [.row 8] x) []) ((.one (.int .i64):RD).tv tT)⟩]
theorem XF {C:Cfg}{L:Nat}(h:St C L):∀ m,∀ s ∈ XE L m,SumOk C s
 | 0=>(Zd (Yt _ _ _) Zp)
 | m + 1=>have ih:=XF h m
  (Zd (sum_par ZH h.L h.G (qOf_ok ZH (Qx ih Zp)) [.rnd [.slot 3 (.int .i64),.slot 4 (.int .i64)]] (h.T _ _ rfl) (by kernel_rfl) fun _=>rfl) Zp)
def Qq (L m:Nat)(x:Zc×PUnit):Option (Int):=fnT tF tG (qOf tF (XE L m ++ [])) 0 L Vl [.rnd [.slot 3 (.int .i64),.slot 4 (.int .i64)]] (.one (.int .i64)) (tvL tT [.row 8] x) []
def WY (L:Nat)(x:Zc×PUnit):Option (Int):=Qq L L x
def V8 (L:Nat):Sum tT:=⟨10,[.row 8],fun x=>.par ((.one (.int .i64):RD).Ty tT) (WY L x) ((.one (.int .i64):RD).tv tT)⟩
theorem KJ {C:Cfg}{L:Nat}(h:St C L):SumOk C (V8 L):=have ih:=XF h L
 sum_par ZH h.L h.G (qOf_ok ZH (Qx ih Zp)) [.rnd [.slot 3 (.int .i64),.slot 4 (.int .i64)]] (h.T _ _ rfl) (by kernel_rfl) fun _=>rfl
def X8:Nat→Zc→Nat→(Int×Int×PUnit→Option Int)→Int×Int×PUnit→Option Int:=fun (m:Nat)=>fun x0 L self acc=>bif decide (acc.2.1 < (↑x0.4.length:Int)) then bT (getT x0.4 acc.2.1) fun y=>bT (Qq L m (y,())) fun y=>self (Go.IntKind.i64.wrap (acc.1 + y),Go.IntKind.i64.wrap (acc.2.1 + 1),()) else some acc.1
theorem MR (L m:Nat)(x0:Zc):Qq L (m + 1) (x0,())=loopT (X8 m x0 L) L (1,0,()):=by kernel_rfl
def Xc (L:Nat)(x:Zc×Bool×PUnit):Option Int:=fT [Hy L,KQ L,V8 L] L UG [] (.one (.int .i64)) [.row 8,.bool] x
def KT (L:Nat):Sum tT:=mU 71 [.row 8,.bool] (.one (.int .i64)) (Xc L)
theorem Lu:SX KT:=fun h=>sT h (Zd (BJ h) (Zd (Lt h) (Zd (KJ h) Zp))) rfl (by kernel_rfl) fun _=>rfl
theorem MS (L:Nat)(x0:Zc)(x1:Bool):Xc L (x0,x1,())=bT (WY L (x0,())) fun y=>bif decide (y > 60) then some 6 else bT (V9 L (x0,())) fun y=>bif decide (y > 12) then some 11 else bT (J8 L (x0,x1,())) fun y=>some y:=by kernel_rfl
def Zv (L:Nat)(x:Zc×PUnit):Option Int:=fT [KT L] L UF [] (.one (.int .i64)) [.row 8] x
def V7 (L:Nat):Sum tT:=mU 31 [.row 8] (.one (.int .i64)) (Zv L)
theorem Ls:SX V7:=fun h=>sT h (Zd (Lu h) Zp) rfl (by kernel_rfl) fun _=>rfl
theorem MP (L:Nat)(x0:Zc):Zv L (x0,())=bT (Xc L (x0,false,())) fun y=>some y:=by kernel_rfl
def JA (L:Nat)(x:Zc×PUnit):Option ((List UInt8)×Int×PUnit):=fT [H6 L,V7 L] L He [] (.tup [.str,.int .i64]) [.row 8] x
def H5 (L:Nat):Sum tT:=mU 13 [.row 8] (.tup [.str,.int .i64]) (JA L)
theorem BK:SX H5:=fun h=>sT h (Zd (BM h) (Zd (Ls h) Zp)) rfl (by kernel_rfl) fun _=>rfl
theorem BD (L:Nat)(x0:Zc):JA L (x0,())=bT (Zv L (x0,())) fun y=>bif y != 0 then some ([],y,()) else bT (JB L (x0,())) fun y=>some (y,0,()):=by kernel_rfl
def Yi (L:Nat)(x:Int×PUnit):Option ((List UInt8)×Int×Bool×PUnit):=fT [] L Xh [] (.tup [.str,.int .i64,.bool]) [.int .i64] x
def Z4 (L:Nat):Sum tT:=mU 70 [.int .i64] (.tup [.str,.int .i64,.bool]) (Yi L)
theorem Yh:SX Z4:=fun h=>sT h Zp rfl (by kernel_rfl) fun _=>rfl
theorem Ur (L:Nat)(x0:Int):Yi L (x0,())=bif x0 == 19 then some ([111,114],1,true,()) else bif x0 == 18 then some ([97,110,100],2,true,()) else bif x0 == 14 then some ([61],4,true,()) else bif x0 == 15 then some ([33,61],4,true,()) else bif x0 == 16 then some ([60],4,true,()) else bif x0 == 17 then some ([60,61],4,true,()) else bif x0 == 9 then some ([43],5,true,()) else bif x0 == 10 then some ([45],5,true,()) else bif x0 == 11 then some ([42],6,true,()) else bif x0 == 12 then some ([47],6,true,()) else bif x0 == 13 then some ([37],6,true,()) else some ([],8,false,()):=by kernel_rfl
def Wu (L:Nat)(x:Zc×PUnit):Option Int:=fT [Z4 L] L VJ [] (.one (.int .i64)) [.row 8] x
def ZZ (L:Nat):Sum tT:=mU 148 [.row 8] (.one (.int .i64)) (Wu L)
theorem Wp:SX ZZ:=fun h=>sT h (Zd (Yh h) Zp) rfl (by kernel_rfl) fun _=>rfl
theorem I7 (L:Nat)(x0:Zc):Wu L (x0,())=bif x0.1 == 6 then some 3 else bif x0.1 == 5 then some 7 else bT (Yi L (x0.1,())) fun y=>some y.2.1:=by kernel_rfl
def QZ (L:Nat)(x:Int×PUnit):Option (List UInt8):=fT [] L VK [] (.one .str) [.int .i64] x
def Ya (L:Nat):Sum tT:=mU 67 [.int .i64] (.one .str) (QZ L)
theorem Wq:SX Ya:=fun h=>sT h Zp rfl (by kernel_rfl) fun _=>rfl
theorem I8 (L:Nat)(x0:Int):QZ L (x0,())=bif x0 == 0 then some [102,97,108,115,101] else some [116,114,117,101]:=by kernel_rfl
def VS:List (Inl tT):=[⟨147,YB,[.rnd [.slot 5 (.own 1 (.str)),.slot 10 (.int .i64)]],.one (.str),[]⟩]
def Zr (L:Nat):Nat→List (Sum tT)
 | 0=>[⟨69,[.row 8,.int .i64],fun _=>.par _ none ((.one (.str):RD).tv tT)⟩,⟨68,[.str,.row 8],fun _=>.par _ none ((.one (.str):RD).tv tT)⟩,⟨30,[.row 8],fun _=>.par _ none ((.one (.str):RD).tv tT)⟩]
 | m + 1=>[⟨69,[.row 8,.int .i64],fun x=>.par _ (fnT tF tG (qOf tF (Zr L m ++ [KY,KO,ZZ L,Z4 L,Ya L])) 0 L WJ [] (.one (.str)) (tvL tT [.row 8,.int .i64] x) []) ((.one (.str):RD).tv tT)⟩,⟨68,[.str,.row 8],fun x=>.par _ (fnT tF tG (stackQ tF tG (qOf tF (Zr L m ++ [KY,KO,ZZ L,Z4 L,Ya L])) L VS 8) 0 L Xy [] (.one (.str)) (tvL tT [.str,.row 8] x) []) ((.one (.str):RD).tv tT)⟩,⟨30,[.row 8],fun x=>.par _ (fnT tF tG (qOf tF (Zr L m ++ [KY,KO,ZZ L,Z4 L,Ya L])) 0 L Xz [] (.one (.str)) (tvL tT [.row 8] x) []) ((.one (.str):RD).tv tT)⟩]
theorem Y6 {C:Cfg}{L:Nat}(h:St C L):∀ m,∀ s ∈ Zr L m,SumOk C s
 | 0=>(Zd (Yt _ _ _) (Zd (Yt _ _ _) (Zd (Yt _ _ _) Zp)))
 | m + 1=>have ih:=Y6 h m
  (Zd (sum_par ZH h.L h.G (qOf_ok ZH (Qx ih (Zd (Rz h) (Zd (Rx h) (Zd (Wp h) (Zd (Yh h) (Zd (Wq h) Zp))))))) [] (h.T _ _ rfl) (by kernel_rfl) fun _=>rfl) (Zd (sum_par ZH h.L h.G (stackQ_ok ZH h.L h.G (qOf_ok ZH (Qx ih (Zd (Rz h) (Zd (Rx h) (Zd (Wp h) (Zd (Yh h) (Zd (Wq h) Zp))))))) (Zd ⟨h.T _ _ rfl,by kernel_rfl⟩ Zp) 8) [] (h.T _ _ rfl) (by kernel_rfl) fun _=>rfl) (Zd (sum_par ZH h.L h.G (qOf_ok ZH (Qx ih (Zd (Rz h) (Zd (Rx h) (Zd (Wp h) (Zd (Yh h) (Zd (Wq h) Zp))))))) [] (h.T _ _ rfl) (by kernel_rfl) fun _=>rfl) Zp)))
def Z5 (L m:Nat)(x:Zc×Int×PUnit):Option ((List UInt8)):=fnT tF tG (qOf tF (Zr L m ++ [KY,KO,ZZ L,Z4 L,Ya L])) 0 L WJ [] (.one (.str)) (tvL tT [.row 8,.int .i64] x) []
def ZC (L m:Nat)(x:(List UInt8)×Zc×PUnit):Option ((List UInt8)):=fnT tF tG (stackQ tF tG (qOf tF (Zr L m ++ [KY,KO,ZZ L,Z4 L,Ya L])) L VS 8) 0 L Xy [] (.one (.str)) (tvL tT [.str,.row 8] x) []
def Zz (L m:Nat)(x:Zc×PUnit):Option ((List UInt8)):=fnT tF tG (qOf tF (Zr L m ++ [KY,KO,ZZ L,Z4 L,Ya L])) 0 L Xz [] (.one (.str)) (tvL tT [.row 8] x) []
def XM (L:Nat)(x:Zc×PUnit):Option ((List UInt8)):=Zz L L x
def Uf (L:Nat):Sum tT:=⟨30,[.row 8],fun x=>.par ((.one (.str):RD).Ty tT) (XM L x) ((.one (.str):RD).tv tT)⟩
theorem Tu {C:Cfg}{L:Nat}(h:St C L):SumOk C (Uf L):=have ih:=Y6 h L
 sum_par ZH h.L h.G (qOf_ok ZH (Qx ih (Zd (Rz h) (Zd (Rx h) (Zd (Wp h) (Zd (Yh h) (Zd (Wq h) Zp))))))) [] (h.T _ _ rfl) (by kernel_rfl) fun _=>rfl
theorem Kz (L m:Nat)(x0:Zc)(x1:Int):Z5 L (m + 1) (x0,x1,())=bT (Wu L (x0,())) fun y=>bif decide (y < x1) then bT (Zz L m (x0,())) fun y=>bT (catS [40] y) fun y=>bT (catS y [41]) fun y=>some y else bT (Zz L m (x0,())) fun y=>some y:=by kernel_rfl
def VW:Nat→Zc→Nat→(List (List UInt8)×Int×PUnit→Option (List UInt8))→List (List UInt8)×Int×PUnit→Option (List UInt8):=fun (m:Nat)=>fun x1 L self acc=>bif decide (acc.2.1 < (↑x1.4.length:Int)) then bT (getT x1.4 acc.2.1) fun y=>bT (Zz L m (y,())) fun y=>bT (apT 16 acc.1 [y]) fun y=>self (y,Go.IntKind.i64.wrap (acc.2.1 + 1),()) else bT (Nh acc.1 [44,32]) fun y=>some y
theorem JP (L m:Nat)(x0:(List UInt8))(x1:Zc):ZC L (m + 1) (x0,x1,())=bif (↑x1.4.length:Int) == 0 then bT (catS x0 [40]) fun y=>bT (catS y x1.2) fun y=>bT (catS y [41]) fun y=>some y else bT (catS x0 [40]) fun y=>bT (loopT (VW m x1 L) L ([],0,())) fun y_1=>bT (catS y y_1) fun y=>bT (catS y [41]) fun y=>some y:=by kernel_rfl
theorem OV (L m:Nat)(x0:Zc):Zz L (m + 1) (x0,())=bif x0.1 == 1 then bif decide (x0.3 < 0) then bT (O5 x0.3) fun y=>bT (catS [40] y) fun y=>bT (catS y [41]) fun y=>some y else bT (O5 x0.3) fun y=>some y else bif x0.1 == 2 then bT (QZ L (x0.3,())) fun y=>some y else bif x0.1 == 4 then some [110,111,119] else bif x0.1 == 3 then some x0.2 else bif x0.1 == 7 then bT (ZC L m ([100,117,114],x0,())) fun y=>some y else bif x0.1 == 8 then bT (ZC L m ([116,105,99,107,115],x0,())) fun y=>some y else bif x0.1 == 20 then bT (ZC L m ([109,105,110],x0,())) fun y=>some y else bif x0.1 == 21 then bT (ZC L m ([109,97,120],x0,())) fun y=>some y else bif x0.1 == 22 then bT (ZC L m ([102,114,101,101],x0,())) fun y=>some y else bif x0.1 == 23 then bT (ZC L m ([115,105,122,101],x0,())) fun y=>some y else bif x0.1 == 24 then bT (ZC L m ([119,97,105,116,105,110,103],x0,())) fun y=>some y else bif x0.1 == 6 then bT (getT x0.4 0) fun y=>bT (Z5 L m (y,3,())) fun y=>bT (catS [110,111,116,32] y) fun y=>some y else bif x0.1 == 5 then bT (getT x0.4 0) fun y=>bT (Z5 L m (y,7,())) fun y=>bT (catS [45] y) fun y=>some y else bT (Yi L (x0.1,())) fun y=>bif y.2.1 == 4 then bT (getT x0.4 0) fun y_1=>bT (bT (Z5 L m (y_1,Go.IntKind.i64.wrap (y.2.1 + 1),())) fun y=>some y) fun y_2=>bT (catS y_2 [32]) fun y_3=>bT (catS y_3 y.1) fun y_4=>bT (catS y_4 [32]) fun y_5=>bT (getT x0.4 1) fun y_6=>bT (bT (Z5 L m (y_6,Go.IntKind.i64.wrap (y.2.1 + 1),())) fun y=>some y) fun y=>bT (catS y_5 y) fun y=>some y else bT (getT x0.4 0) fun y_1=>bT (bT (Z5 L m (y_1,y.2.1,())) fun y=>some y) fun y_2=>bT (catS y_2 [32]) fun y_3=>bT (catS y_3 y.1) fun y_4=>bT (catS y_4 [32]) fun y_5=>bT (getT x0.4 1) fun y_6=>bT (bT (Z5 L m (y_6,Go.IntKind.i64.wrap (y.2.1 + 1),())) fun y=>some y) fun y=>bT (catS y_5 y) fun y=>some y:=by kernel_rfl
def YA (L:Nat)(x:(List UInt8)×PUnit):Option Bool:=fT [] L Xx [] (.one .bool) [.str] x
def XH (L:Nat):Sum tT:=mU 161 [.str] (.one .bool) (YA L)
theorem KG:SX XH:=fun h=>sT h Zp rfl (by kernel_rfl) fun _=>rfl
theorem Ky (L:Nat)(x0:(List UInt8)):YA L (x0,())=bif x0 == [97,100,100] then some true else bif x0 == [97,102,116,101,114] then some true else bif x0 == [97,110,100] then some true else bif x0 == [97,116] then some true else bif x0 == [98,101,108,116] then some true else bif x0 == [98,111,111,108] then some true else bif x0 == [99,111,110,115,101,114,118,101] then some true else bif x0 == [99,111,110,115,116] then some true else bif x0 == [99,111,117,110,116] then some true else bif x0 == [99,121,99,108,101] then some true else bif x0 == [100,111,119,110] then some true else bif x0 == [100,114,97,119] then some true else bif x0 == [100,117,114] then some true else bif x0 == [101,108,115,101] then some true else bif x0 == [101,110,100] then some true else bif x0 == [101,118,101,114,121] then some true else bif x0 == [102,97,108,115,101] then some true else bif x0 == [102,97,117,108,116] then some true else bif x0 == [102,105,102,111] then some true else bif x0 == [102,114,101,101] then some true else bif x0 == [102,114,111,109] then some true else bif x0 == [103,101,111,109] then some true else bif x0 == [103,101,116] then some true else bif x0 == [104,111,108,100] then some true else bif x0 == [105,102] then some true else bif x0 == [105,110,116] then some true else bif x0 == [105,110,116,111] then some true else bif x0 == [108,101,97,115,116] then some true else bif x0 == [108,101,118,101,108] then some true else bif x0 == [108,105,102,111] then some true else bif x0 == [108,105,110,107] then some true else bif x0 == [108,111,99,97,108] then some true else bif x0 == [109,97,120] then some true else bif x0 == [109,105,110] then some true else bif x0 == [109,111,100,101,108] then some true else bif x0 == [110,111,116] then some true else bif x0 == [110,111,119] then some true else bif x0 == [111,98,115,101,114,118,101] then some true else bif x0 == [111,114] then some true else bif x0 == [112,97,114,97,109] then some true else bif x0 == [112,114,101,101,109,112,116] then some true else bif x0 == [112,114,105,111] then some true else bif x0 == [112,117,116] then some true else bif x0 == [113,117,101,117,101] then some true else bif x0 == [114,101,108,101,97,115,101] then some true else bif x0 == [114,101,115,111,117,114,99,101] then some true else bif x0 == [114,105,100,101] then some true else bif x0 == [114,111,117,116,105,110,101] then some true else bif x0 == [115,101,105,122,101] then some true else bif x0 == [115,101,110,100] then some true else bif x0 == [115,101,116] then some true else bif x0 == [115,104,105,102,116] then some true else bif x0 == [115,105,103,110,97,108] then some true else bif x0 == [115,105,116,101] then some true else bif x0 == [115,105,122,101] then some true else bif x0 == [115,112,97,119,110] then some true else bif x0 == [115,116,97,114,116] then some true else bif x0 == [115,116,111,112] then some true else bif x0 == [115,116,111,114,101] then some true else bif x0 == [115,116,114,101,97,109] then some true else bif x0 == [115,117,109] then some true else bif x0 == [116,97,98,108,101] then some true else bif x0 == [116,97,108,108,121] then some true else bif x0 == [116,105,99,107,115] then some true else bif x0 == [116,105,109,101] then some true else bif x0 == [116,114,117,101] then some true else bif x0 == [117,110,105,102,111,114,109] then some true else bif x0 == [117,110,116,105,108] then some true else bif x0 == [117,112] then some true else bif x0 == [118,97,114] then some true else bif x0 == [119,97,105,116] then some true else bif x0 == [119,97,105,116,105,110,103] then some true else bif x0 == [119,104,105,108,101] then some true else some false:=by kernel_rfl
def Yy (L:Nat)(x:Int×PUnit):Option Bool:=fT [] L XV [] (.one .bool) [.int .u8] x
def Vf (L:Nat):Sum tT:=mU 160 [.int .u8] (.one .bool) (Yy L)
theorem GG:SX Vf:=fun h=>sT h Zp rfl (by kernel_rfl) fun _=>rfl
theorem G5 (L:Nat)(x0:Int):Yy L (x0,())=some (decide (x0 ≥ 97) && decide (x0≤122)):=by kernel_rfl
end Go.Proofs.YtbcfddaocfpckaaGreatDoor
end
noncomputable section
namespace Go.Proofs.YtbcfddaocfpckaaGreatDoor
open Go Go.Proofs.YtbcfddaocfpckaaGreatDoor.Abs Go.Proofs.YtbcfddaocfpckaaGreatDoor.Tl
set_option maxRecDepth 100000
set_option maxHeartbeats 0
def Ws (L:Nat)(x:(List UInt8)×PUnit):Option Int:=fT [XH L,Vf L] L VI [.rnd [.slot 24 (.int .i64)]] (.one (.int .i64)) [.str] x
def Jf (L:Nat):Sum tT:=mU 86 [.str] (.one (.int .i64)) (Ws L)
theorem IJ:SX Jf:=fun h=>sT h (Zd (KG h) (Zd (GG h) Zp)) rfl (by kernel_rfl) fun _=>rfl
def YI:List UInt8→Nat→(Int×PUnit→Option Int)→Int×PUnit→Option Int:=fun x0 L self acc=>bif decide (acc.1 < (↑x0.length:Int)) then bT (getT x0 acc.1) fun y=>bT (Yy L ((↑y.toNat:Int),())) fun y_1=>bif !y_1 && (decide ((↑y.toNat:Int) < 48) || decide ((↑y.toNat:Int) > 57)) && (↑y.toNat:Int) != 95 then some 3 else self (Go.IntKind.i64.wrap (acc.1 + 1),()) else some 0
theorem I5 (L:Nat)(x0:(List UInt8)):Ws L (x0,())=bT (bif (x0 == [] || decide ((↑x0.length:Int) > 24)) == false then bT (getT x0 0) fun y=>bT (Yy L ((↑y.toNat:Int),())) fun y=>some !y else some true) fun y=>bT (bif y == false then bT (YA L (x0,())) fun y=>some y else some true) fun y=>bif y then some 3 else loopT (YI x0 L) L (0,()):=by kernel_rfl
def Y8 (L:Nat)(x:Int×PUnit):Option Bool:=fT [] L VG [] (.one .bool) [.int .i64] x
def QW (L:Nat):Sum tT:=mU 323 [.int .i64] (.one .bool) (Y8 L)
theorem Jc:SX QW:=fun h=>sT h Zp rfl (by kernel_rfl) fun _=>rfl
theorem I4 (L:Nat)(x0:Int):Y8 L (x0,())=some (decide (x0 ≥ 22) && decide (x0≤24)):=by kernel_rfl
def ZL (L:Nat)(x:ZX×Int×PUnit):Option (Int×Int×Bool×PUnit):=fT [QW L] L YO [] (.tup [.int .i64,.int .i64,.bool]) [.row 17,.int .i64] x
def YS (L:Nat):Sum tT:=mU 293 [.row 17,.int .i64] (.tup [.int .i64,.int .i64,.bool]) (ZL L)
theorem XB:SX YS:=fun h=>sT h (Zd (Jc h) Zp) rfl (by kernel_rfl) fun _=>rfl
theorem X5 (L:Nat)(x0:ZX)(x1:Int):ZL L (x0,x1,())=bif x1 == 2 then some (0,1,true,()) else bif x1 == 25 then some (0,15,true,()) else bif x1 == 26 then some (0,31,true,()) else bT (Y8 L (x1,())) fun y=>bif y && x0.1 then some (0,63,true,()) else some (0,0,false,()):=by kernel_rfl
def Uw (L:Nat)(x:Int×PUnit):Option Bool:=fT [] L LK [] (.one .bool) [.int .i64] x
def RJ (L:Nat):Sum tT:=mU 260 [.int .i64] (.one .bool) (Uw L)
theorem NI:SX RJ:=fun h=>sT h Zp rfl (by kernel_rfl) fun _=>rfl
theorem N8 (L:Nat)(x0:Int):Uw L (x0,())=some (decide (x0 ≥ (-1000000000000)) && decide (x0≤1000000000000)):=by kernel_rfl
def ZG (L:Nat)(x:ZX×Int×PUnit):Option Bool:=fT [QW L] L WH [] (.one .bool) [.row 17,.int .i64] x
def WU (L:Nat):Sum tT:=mU 292 [.row 17,.int .i64] (.one .bool) (ZG L)
theorem Vz:SX WU:=fun h=>sT h (Zd (Jc h) Zp) rfl (by kernel_rfl) fun _=>rfl
theorem Vs (L:Nat)(x0:ZX)(x1:Int):ZG L (x0,x1,())=bT (bif (x1 == 3) == false then bT (Y8 L (x1,())) fun y=>some (y && !x0.1) else some true) fun y=>some y:=by kernel_rfl
def WX (L:Nat)(x:Int×PUnit):Option Int:=fT [] L U1 [] (.one (.int .i64)) [.int .i64] x
def V5 (L:Nat):Sum tT:=mU 291 [.int .i64] (.one (.int .i64)) (WX L)
theorem KF:SX V5:=fun h=>sT h Zp rfl (by kernel_rfl) fun _=>rfl
theorem MJ (L:Nat)(x0:Int):WX L (x0,())=bif x0 == 1 || x0 == 2 || x0 == 3 || x0 == 4 then some 0 else bif decide (x0 ≥ 5) && decide (x0≤8) then some 1 else bif decide (x0 ≥ 9) && decide (x0≤21) then some 2 else bif decide (x0 ≥ 22) && decide (x0≤26) then some 0 else some (-1):=by kernel_rfl
def Ye (L:Nat)(x:ZX×Int×PUnit):Option Bool:=fT [V5 L] L WG [] (.one .bool) [.row 17,.int .i64] x
def WT (L:Nat):Sum tT:=mU 290 [.row 17,.int .i64] (.one .bool) (Ye L)
theorem Vy:SX WT:=fun h=>sT h (Zd (KF h) Zp) rfl (by kernel_rfl) fun _=>rfl
theorem Vr (L:Nat)(x0:ZX)(x1:Int):Ye L (x0,x1,())=bif x1 == 3 then some !x0.1 else bif x1 == 25 then some x0.1 else bif x1 == 26 then some x0.1 else bT (WX L (x1,())) fun y=>some (decide (y ≥ 0)):=by kernel_rfl
def Ym (L:Nat)(x:ZX×Zc×PUnit):Option Int:=fT [Jf L,YS L,RJ L,WU L,V5 L,WT L] L Qi [] (.one (.int .i64)) [.row 17,.row 8] x
def Y7 (L:Nat):Sum tT:=mU 235 [.row 17,.row 8] (.one (.int .i64)) (Ym L)
theorem Ql:SX Y7:=fun h=>sT h (Zd (IJ h) (Zd (XB h) (Zd (NI h) (Zd (Vz h) (Zd (KF h) (Zd (Vy h) Zp)))))) rfl (by kernel_rfl) fun _=>rfl
theorem VX (L:Nat)(x0:ZX)(x1:Zc):Ym L (x0,x1,())=bT (bT (Ye L (x0,x1.1,())) fun y=>some y) fun y=>bT (bif (!y) == false then bT (bT (WX L (x1.1,())) fun y=>some y) fun y=>some ((↑x1.4.length:Int) != y) else some true) fun y=>bT (bif y == false then bif (!x1.2 == []) == true then bT (bT (ZG L (x0,x1.1,())) fun y=>some y) fun y=>some !y else some false else some true) fun y=>bif y then some 1 else bif x1.1 == 1 then bT (Uw L (x1.3,())) fun y=>bif !y then some 2 else some 0 else bT (ZL L (x0,x1.1,())) fun y=>bif !y.2.2.1 && x1.3 != 0 then some 1 else bif y.2.2.1 && (decide (x1.3 < y.1) || decide (x1.3 > y.2.1)) then some 2 else bT (ZG L (x0,x1.1,())) fun y=>bif y then bT (Ws L (x1.2,())) fun y=>some y else some 0:=by kernel_rfl
def Yx (L:Nat):Nat→List (Sum tT)
 | 0=>[⟨146,[.row 17,.row 8],fun _=>.par _ none ((.one (.int .i64):RD).tv tT)⟩]
 | m + 1=>[⟨146,[.row 17,.row 8],fun x=>.par _ (fnT tF tG (qOf tF (Yx L m ++ [Y7 L])) 0 L Y0 [.rnd [.slot 18 (.int .i64)]] (.one (.int .i64)) (tvL tT [.row 17,.row 8] x) []) ((.one (.int .i64):RD).tv tT)⟩]
theorem Y5 {C:Cfg}{L:Nat}(h:St C L):∀ m,∀ s ∈ Yx L m,SumOk C s
 | 0=>(Zd (Yt _ _ _) Zp)
 | m + 1=>have ih:=Y5 h m
  (Zd (sum_par ZH h.L h.G (qOf_ok ZH (Qx ih (Zd (Ql h) Zp))) [.rnd [.slot 18 (.int .i64)]] (h.T _ _ rfl) (by kernel_rfl) fun _=>rfl) Zp)
def ZQ (L m:Nat)(x:ZX×Zc×PUnit):Option (Int):=fnT tF tG (qOf tF (Yx L m ++ [Y7 L])) 0 L Y0 [.rnd [.slot 18 (.int .i64)]] (.one (.int .i64)) (tvL tT [.row 17,.row 8] x) []
def Y2 (L:Nat)(x:ZX×Zc×PUnit):Option (Int):=ZQ L L x
def WV (L:Nat):Sum tT:=⟨146,[.row 17,.row 8],fun x=>.par ((.one (.int .i64):RD).Ty tT) (Y2 L x) ((.one (.int .i64):RD).tv tT)⟩
theorem V3 {C:Cfg}{L:Nat}(h:St C L):SumOk C (WV L):=have ih:=Y5 h L
 sum_par ZH h.L h.G (qOf_ok ZH (Qx ih (Zd (Ql h) Zp))) [.rnd [.slot 18 (.int .i64)]] (h.T _ _ rfl) (by kernel_rfl) fun _=>rfl
def ZP:Nat→ZX→Zc→Nat→(Int×PUnit→Option Int)→Int×PUnit→Option Int:=fun (m:Nat)=>fun x0 x1 L self acc=>bif decide (acc.1 < (↑x1.4.length:Int)) then bT (getT x1.4 acc.1) fun y=>bT (ZQ L m (x0,y,())) fun y=>bif y != 0 then some y else self (Go.IntKind.i64.wrap (acc.1 + 1),()) else some 0
theorem Vt (L m:Nat)(x0:ZX)(x1:Zc):ZQ L (m + 1) (x0,x1,())=bT (Ym L (x0,x1,())) fun y=>bif y != 0 then some y else loopT (ZP m x0 x1 L) L (0,()):=by kernel_rfl
def QU (L:Nat):Nat→List (Sum tT)
 | 0=>[⟨145,[.row 8],fun _=>.par _ none ((.one (.int .i64):RD).tv tT)⟩]
 | m + 1=>[⟨145,[.row 8],fun x=>.par _ (fnT tF tG (qOf tF (QU L m ++ [])) 0 L Xu [.rnd [.slot 3 (.int .i64),.slot 9 (.int .i64)]] (.one (.int .i64)) (tvL tT [.row 8] x) []) ((.one (.int .i64):RD).tv tT)⟩]
theorem Xi {C:Cfg}{L:Nat}(h:St C L):∀ m,∀ s ∈ QU L m,SumOk C s
 | 0=>(Zd (Yt _ _ _) Zp)
 | m + 1=>have ih:=Xi h m
  (Zd (sum_par ZH h.L h.G (qOf_ok ZH (Qx ih Zp)) [.rnd [.slot 3 (.int .i64),.slot 9 (.int .i64)]] (h.T _ _ rfl) (by kernel_rfl) fun _=>rfl) Zp)
def Wy (L m:Nat)(x:Zc×PUnit):Option (Int):=fnT tF tG (qOf tF (QU L m ++ [])) 0 L Xu [.rnd [.slot 3 (.int .i64),.slot 9 (.int .i64)]] (.one (.int .i64)) (tvL tT [.row 8] x) []
def XJ (L:Nat)(x:Zc×PUnit):Option (Int):=Wy L L x
def Uc (L:Nat):Sum tT:=⟨145,[.row 8],fun x=>.par ((.one (.int .i64):RD).Ty tT) (XJ L x) ((.one (.int .i64):RD).tv tT)⟩
theorem Tn {C:Cfg}{L:Nat}(h:St C L):SumOk C (Uc L):=have ih:=Xi h L
 sum_par ZH h.L h.G (qOf_ok ZH (Qx ih Zp)) [.rnd [.slot 3 (.int .i64),.slot 9 (.int .i64)]] (h.T _ _ rfl) (by kernel_rfl) fun _=>rfl
def QO:Nat→Zc→Nat→(Int×Int×PUnit→Option Int)→Int×Int×PUnit→Option Int:=fun (m:Nat)=>fun x0 L self acc=>bif decide (acc.2.1 < (↑x0.4.length:Int)) then bT (getT x0.4 acc.2.1) fun y=>bT (Wy L m (y,())) fun y=>self (if y > acc.1 then y else acc.1,Go.IntKind.i64.wrap (acc.2.1 + 1),()) else some (Go.IntKind.i64.wrap (acc.1 + 1))
theorem OQ (L m:Nat)(x0:Zc):Wy L (m + 1) (x0,())=loopT (QO m x0 L) L (0,0,()):=by kernel_rfl
def QV (L:Nat):Nat→List (Sum tT)
 | 0=>[⟨144,[.row 8],fun _=>.par _ none ((.one (.int .i64):RD).tv tT)⟩]
 | m + 1=>[⟨144,[.row 8],fun x=>.par _ (fnT tF tG (qOf tF (QV L m ++ [])) 0 L Xv [.rnd [.slot 3 (.int .i64),.slot 9 (.int .i64)]] (.one (.int .i64)) (tvL tT [.row 8] x) []) ((.one (.int .i64):RD).tv tT)⟩]
theorem Xj {C:Cfg}{L:Nat}(h:St C L):∀ m,∀ s ∈ QV L m,SumOk C s
 | 0=>(Zd (Yt _ _ _) Zp)
 | m + 1=>have ih:=Xj h m
  (Zd (sum_par ZH h.L h.G (qOf_ok ZH (Qx ih Zp)) [.rnd [.slot 3 (.int .i64),.slot 9 (.int .i64)]] (h.T _ _ rfl) (by kernel_rfl) fun _=>rfl) Zp)
def W9 (L m:Nat)(x:Zc×PUnit):Option (Int):=fnT tF tG (qOf tF (QV L m ++ [])) 0 L Xv [.rnd [.slot 3 (.int .i64),.slot 9 (.int .i64)]] (.one (.int .i64)) (tvL tT [.row 8] x) []
def XK (L:Nat)(x:Zc×PUnit):Option (Int):=W9 L L x
def Ud (L:Nat):Sum tT:=⟨144,[.row 8],fun x=>.par ((.one (.int .i64):RD).Ty tT) (XK L x) ((.one (.int .i64):RD).tv tT)⟩
theorem Tq {C:Cfg}{L:Nat}(h:St C L):SumOk C (Ud L):=have ih:=Xj h L
 sum_par ZH h.L h.G (qOf_ok ZH (Qx ih Zp)) [.rnd [.slot 3 (.int .i64),.slot 9 (.int .i64)]] (h.T _ _ rfl) (by kernel_rfl) fun _=>rfl
def QP:Nat→Zc→Nat→(Int×Int×PUnit→Option Int)→Int×Int×PUnit→Option Int:=fun (m:Nat)=>fun x0 L self acc=>bif decide (acc.2.1 < (↑x0.4.length:Int)) then bT (getT x0.4 acc.2.1) fun y=>bT (W9 L m (y,())) fun y=>self (Go.IntKind.i64.wrap (acc.1 + y),Go.IntKind.i64.wrap (acc.2.1 + 1),()) else some acc.1
theorem OT (L m:Nat)(x0:Zc):W9 L (m + 1) (x0,())=loopT (QP m x0 L) L (1,0,()):=by kernel_rfl
def Yd (L:Nat)(x:ZX×Zc×PUnit):Option Int:=fT [WV L,Uc L,Ud L] L WF [] (.one (.int .i64)) [.row 17,.row 8] x
def WS (L:Nat):Sum tT:=mU 66 [.row 17,.row 8] (.one (.int .i64)) (Yd L)
theorem Vx:SX WS:=fun h=>sT h (Zd (V3 h) (Zd (Tn h) (Zd (Tq h) Zp))) rfl (by kernel_rfl) fun _=>rfl
theorem Vq (L:Nat)(x0:ZX)(x1:Zc):Yd L (x0,x1,())=bT (XK L (x1,())) fun y=>bif decide (y > 60) then some 6 else bT (XJ L (x1,())) fun y=>bif decide (y > 12) then some 11 else bT (Y2 L (x0,x1,())) fun y=>some y:=by kernel_rfl
end Go.Proofs.YtbcfddaocfpckaaGreatDoor
end
noncomputable section
namespace Go.Proofs.YtbcfddaocfpckaaGreatDoor
open Go Go.Proofs.YtbcfddaocfpckaaGreatDoor.Abs Go.Proofs.YtbcfddaocfpckaaGreatDoor.Tl
set_option maxRecDepth 100000
set_option maxHeartbeats 0
def Qm (L:Nat)(x:Zc×PUnit):Option Int:=fT [WS L] L JD [] (.one (.int .i64)) [.row 8] x
def Ub (L:Nat):Sum tT:=mU 29 [.row 8] (.one (.int .i64)) (Qm L)
theorem Tm:SX Ub:=fun h=>sT h (Zd (Vx h) Zp) rfl (by kernel_rfl) fun _=>rfl
theorem OO (L:Nat)(x0:Zc):Qm L (x0,())=bT (Yd L (ZX.mk false,x0,())) fun y=>some y:=by kernel_rfl
def XL (L:Nat)(x:Zc×PUnit):Option ((List UInt8)×Int×PUnit):=fT [Uf L,Ub L] L JG [] (.tup [.str,.int .i64]) [.row 8] x
def Ue (L:Nat):Sum tT:=mU 12 [.row 8] (.tup [.str,.int .i64]) (XL L)
theorem Tt:SX Ue:=fun h=>sT h (Zd (Tu h) (Zd (Tm h) Zp)) rfl (by kernel_rfl) fun _=>rfl
theorem OU (L:Nat)(x0:Zc):XL L (x0,())=bT (Qm L (x0,())) fun y=>bif y != 0 then some ([],y,()) else bT (XM L (x0,())) fun y=>some (y,0,()):=by kernel_rfl
def Y9 (L:Nat)(x:Zc×PUnit):Option Bool:=fT [P8,H5 L,Ue L,V8 L] L Qj [] (.one .bool) [.row 8] x
def Je (L:Nat):Sum tT:=mU 3 [.row 8] (.one .bool) (Y9 L)
theorem Jd:SX Je:=fun h=>sT h (Zd (EI h) (Zd (BK h) (Zd (Tt h) (Zd (KJ h) Zp)))) rfl (by kernel_rfl) fun _=>rfl
theorem VY (L:Nat)(x0:Zc):Y9 L (x0,())=bT (WY L (x0,())) fun y=>bif decide (y > 200) then some true else bT (XL L (x0,())) fun y=>bT (JA L (x0,())) fun y_1=>some (y.1 == y_1.1 && y.2.1 == y_1.2.1 && true):=by kernel_rfl
def Zy (L:Nat)(x:Int×Int×Int×PUnit):Option Bool:=fT [] L VL [] (.one .bool) [.int .i64,.int .i64,.int .i64] x
def Jh (L:Nat):Sum tT:=mU 299 [.int .i64,.int .i64,.int .i64] (.one .bool) (Zy L)
theorem I9 (L:Nat)(x0:Int)(x1:Int)(x2:Int):Zy L (x0,x1,x2,())=some (decide (x0 ≥ x1) && decide (x0≤x2)):=by kernel_rfl
def Xa (L:Nat)(x:ZU×PUnit):Option Int:=fT [Jh L] L UC [.rnd [.slot 3 (.int .i64)]] (.one (.int .i64)) [.row 2] x
def L6 (L:Nat):Sum tT:=mU 300 [.row 2] (.one (.int .i64)) (Xa L)
def X6:ZU→Nat→(Int×PUnit→Option Int)→Int×PUnit→Option Int:=fun x0 L self acc=>bif decide (acc.1 < (↑x0.5.length:Int)) then bT (getT x0.5 acc.1) fun y=>bT (Zy L (y,0,1000000000,())) fun y=>bT (bif (!y) == false then bT (getT x0.6 acc.1) fun y=>bT (Zy L (y,1,1000,())) fun y=>some !y else some true) fun y=>bif y then some 2 else self (Go.IntKind.i64.wrap (acc.1 + 1),()) else some 0
theorem MM (L:Nat)(x0:ZU):Xa L (x0,())=bif (↑x0.5.length:Int) != (↑x0.6.length:Int) then some 8 else bif (↑x0.5.length:Int) == 0 then some 7 else bif decide ((↑x0.5.length:Int) > 20) then some 6 else loopT (X6 x0 L) L (0,()):=by kernel_rfl
def Qn (L:Nat)(x:ZU×PUnit):Option Bool:=fT [] L JH [] (.one .bool) [.row 2] x
def TA (L:Nat):Sum tT:=mU 298 [.row 2] (.one .bool) (Qn L)
theorem OW (L:Nat)(x0:ZU):Qn L (x0,())=bif x0.1 == 1 then some (x0.3 == 0 && x0.4 == 0 && ((↑x0.5.length:Int) == 0 && (↑x0.6.length:Int) == 0)) else bif x0.1 == 2 then some (x0.4 == 0 && ((↑x0.5.length:Int) == 0 && (↑x0.6.length:Int) == 0)) else bif x0.1 == 5 then some (x0.4 == 0 && ((↑x0.5.length:Int) == 0 && (↑x0.6.length:Int) == 0)) else bif x0.1 == 3 then some (x0.2 == 0 && x0.3 == 0 && x0.4 == 0) else bif x0.1 == 4 then some ((↑x0.5.length:Int) == 0 && (↑x0.6.length:Int) == 0) else some false:=by kernel_rfl
def YF (L:Nat)(x:ZU×PUnit):Option Int:=fT [L6 L,Jh L,TA L] L UB [] (.one (.int .i64)) [.row 2] x
def KP (L:Nat):Sum tT:=mU 250 [.row 2] (.one (.int .i64)) (YF L)
theorem ML (L:Nat)(x0:ZU):YF L (x0,())=bT (Qn L (x0,())) fun y=>bif !y then some 1 else bif x0.1 == 1 then bT (Zy L (x0.2,0,1000000000,())) fun y=>bif !y then some 2 else some 0 else bif x0.1 == 2 then bT (Zy L (x0.2,0,x0.3,())) fun y=>bif !(y && decide (x0.3≤1000000000)) then some 2 else some 0 else bif x0.1 == 3 then bT (Xa L (x0,())) fun y=>some y else bif x0.1 == 4 then bT (Zy L (x0.4,1,20,())) fun y=>bT (bif y == true then bT (Zy L (x0.2,0,x0.3,())) fun y=>some y else some false) fun y=>bif !(y && decide (x0.3≤1000000)) then some 2 else some 0 else bif x0.1 == 5 then bT (Zy L (x0.2,1,1000,())) fun y=>bT (bif y == true then bT (Zy L (x0.3,1,1000,())) fun y=>some y else some false) fun y=>bif !y then some 2 else some 0 else some 0:=by kernel_rfl
end Go.Proofs.YtbcfddaocfpckaaGreatDoor
end
noncomputable section
namespace Go.Proofs.YtbcfddaocfpckaaGreatDoor
open Go Go.Proofs.YtbcfddaocfpckaaGreatDoor.Abs Go.Proofs.YtbcfddaocfpckaaGreatDoor.Tl
set_option maxRecDepth 100000
set_option maxHeartbeats 0
def Xe (L:Nat)(x:Zl×Zx×PUnit):Option Int:=fT [V7 L] L UI [.rnd [.slot 5 (.int .i64),.slot 6 (.int .i64)]] (.one (.int .i64)) [.row 9,.row 19] x
def LD (L:Nat):Sum tT:=mU 249 [.row 9,.row 19] (.one (.int .i64)) (Xe L)
def ZA:Zl→Nat→(Int×Int×PUnit→Option Int)→Int×Int×PUnit→Option Int:=fun x0 L self acc=>bif acc.1 == 0 && decide (acc.2.1 < (↑x0.6.length:Int)) then bT (getT x0.6 acc.2.1) fun y=>bT (Zv L (y,())) fun y=>self (y,Go.IntKind.i64.wrap (acc.2.1 + 1),()) else some acc.1
def JQ:Zl→Nat→(Int×Int×PUnit→Option Int)→Int×Int×PUnit→Option Int:=fun x0 L self acc=>bif acc.1 == 0 && decide (acc.2.1 < (↑x0.6.length:Int)) then bT (getT x0.6 acc.2.1) fun y=>bT (Zv L (y,())) fun y=>self (y,Go.IntKind.i64.wrap (acc.2.1 + 1),()) else some acc.1
def JR:Zl→Nat→(Int×Int×PUnit→Option Int)→Int×Int×PUnit→Option Int:=fun x0 L self acc=>bif acc.1 == 0 && decide (acc.2.1 < (↑x0.6.length:Int)) then bT (getT x0.6 acc.2.1) fun y=>bT (Zv L (y,())) fun y=>self (y,Go.IntKind.i64.wrap (acc.2.1 + 1),()) else some acc.1
def JS:Zl→Nat→(Int×Int×PUnit→Option Int)→Int×Int×PUnit→Option Int:=fun x0 L self acc=>bif acc.1 == 0 && decide (acc.2.1 < (↑x0.6.length:Int)) then bT (getT x0.6 acc.2.1) fun y=>bT (Zv L (y,())) fun y=>self (y,Go.IntKind.i64.wrap (acc.2.1 + 1),()) else some acc.1
def JU:Zl→Nat→(Int×Int×PUnit→Option Int)→Int×Int×PUnit→Option Int:=fun x0 L self acc=>bif acc.1 == 0 && decide (acc.2.1 < (↑x0.6.length:Int)) then bT (getT x0.6 acc.2.1) fun y=>bT (Zv L (y,())) fun y=>self (y,Go.IntKind.i64.wrap (acc.2.1 + 1),()) else some acc.1
def JV:Zl→Nat→(Int×Int×PUnit→Option Int)→Int×Int×PUnit→Option Int:=fun x0 L self acc=>bif acc.1 == 0 && decide (acc.2.1 < (↑x0.6.length:Int)) then bT (getT x0.6 acc.2.1) fun y=>bT (Zv L (y,())) fun y=>self (y,Go.IntKind.i64.wrap (acc.2.1 + 1),()) else some acc.1
def JW:Zl→Nat→(Int×Int×PUnit→Option Int)→Int×Int×PUnit→Option Int:=fun x0 L self acc=>bif acc.1 == 0 && decide (acc.2.1 < (↑x0.6.length:Int)) then bT (getT x0.6 acc.2.1) fun y=>bT (Zv L (y,())) fun y=>self (y,Go.IntKind.i64.wrap (acc.2.1 + 1),()) else some acc.1
def JX:Zl→Nat→(Int×Int×PUnit→Option Int)→Int×Int×PUnit→Option Int:=fun x0 L self acc=>bif acc.1 == 0 && decide (acc.2.1 < (↑x0.6.length:Int)) then bT (getT x0.6 acc.2.1) fun y=>bT (Zv L (y,())) fun y=>self (y,Go.IntKind.i64.wrap (acc.2.1 + 1),()) else some acc.1
theorem MZ (L:Nat)(x0:Zl)(x1:Zx):Xe L (x0,x1,())=bif x1.3 then bT (Zv L (x0.4,())) fun y=>bif y == 0 && x1.4 then bT (Zv L (x0.5,())) fun y=>bif y == 0 && decide ((↑x0.6.length:Int) > 6) then loopT (ZA x0 L) L (6,0,()) else loopT (JQ x0 L) L (y,0,()) else bif y == 0 && decide ((↑x0.6.length:Int) > 6) then loopT (JR x0 L) L (6,0,()) else loopT (JS x0 L) L (y,0,()) else bif 0 == 0 && x1.4 then bT (Zv L (x0.5,())) fun y=>bif y == 0 && decide ((↑x0.6.length:Int) > 6) then loopT (JU x0 L) L (6,0,()) else loopT (JV x0 L) L (y,0,()) else bif 0 == 0 && decide ((↑x0.6.length:Int) > 6) then loopT (JW x0 L) L (6,0,()) else loopT (JX x0 L) L (0,0,()):=by kernel_rfl
def Yz (L:Nat)(x:(List Int)×(List Int)×PUnit):Option Bool:=fT [] L XW [.rnd [.slot 5 (.int .i64)]] (.one .bool) [.lst 1 (.int .i64),.lst 1 (.int .i64)] x
def GK (L:Nat):Sum tT:=mU 131 [.lst 1 (.int .i64),.lst 1 (.int .i64)] (.one .bool) (Yz L)
def WN:List Int→List Int→(Int×PUnit→Option Bool)→Int×PUnit→Option Bool:=fun x0 x1 self acc=>bif decide (acc.1 < (↑x0.length:Int)) then bT (getT x0 acc.1) fun y=>bT (getT x1 acc.1) fun y_1=>bif y != y_1 then some false else self (Go.IntKind.i64.wrap (acc.1 + 1),()) else some true
theorem G6 (L:Nat)(x0:(List Int))(x1:(List Int)):Yz L (x0,x1,())=bif (↑x0.length:Int) != (↑x1.length:Int) then some false else loopT (WN x0 x1) L (0,()):=by kernel_rfl
def WB (L:Nat)(x:ZU×ZU×PUnit):Option Bool:=fT [GK L] L GN [] (.one .bool) [.row 2,.row 2] x
def Hw (L:Nat):Sum tT:=mU 61 [.row 2,.row 2] (.one .bool) (WB L)
theorem Bo (L:Nat)(x0:ZU)(x1:ZU):WB L (x0,x1,())=bT (bif (x0.1 == x1.1 && x0.2 == x1.2 && x0.3 == x1.3 && x0.4 == x1.4) == true then bT (Yz L (x0.5,x1.5,())) fun y=>some y else some false) fun y=>bT (bif y == true then bT (Yz L (x0.6,x1.6,())) fun y=>some y else some false) fun y=>some y:=by kernel_rfl
def QD (L:Nat)(x:Zc×PUnit):Option Bool:=fT [] L GX [] (.one .bool) [.row 8] x
def BO (L:Nat):Sum tT:=mU 297 [.row 8] (.one .bool) (QD L)
theorem BB (L:Nat)(x0:Zc):QD L (x0,())=some (x0.1 == 0 && x0.2 == [] && x0.3 == 0 && (↑x0.4.length:Int) == 0):=by kernel_rfl
def Jk (L:Nat)(x:Int×PUnit):Option (Zx×Bool×PUnit):=fT [] L LP [] (.tup [.row 19,.bool]) [.int .i64] x
def RN (L:Nat):Sum tT:=mU 247 [.int .i64] (.tup [.row 19,.bool]) (Jk L)
theorem NC (L:Nat)(x0:Int):Jk L (x0,())=bif x0 == 1 then some (Zx.mk true false true false false false false false false,true,()) else bif x0 == 7 then some (Zx.mk true false true false false false false false false,true,()) else bif x0 == 8 then some (Zx.mk true false true false false false false false false,true,()) else bif x0 == 12 then some (Zx.mk true false true false false false false false false,true,()) else bif x0 == 15 then some (Zx.mk true false true false false false false false false,true,()) else bif x0 == 16 then some (Zx.mk true false true false false false false false false,true,()) else bif x0 == 17 then some (Zx.mk true false true false false false false false false,true,()) else bif x0 == 2 then some (Zx.mk true true false false false true false false false,true,()) else bif x0 == 3 then some (Zx.mk false false true false false false false true true,true,()) else bif x0 == 4 then some (Zx.mk false false true false false false false true false,true,()) else bif x0 == 5 then some (Zx.mk false false true false false false false false false,true,()) else bif x0 == 6 then some (Zx.mk true false true true false false true false false,true,()) else bif x0 == 9 then some (Zx.mk true true false false false false false false false,true,()) else bif x0 == 10 then some (Zx.mk true false false false false false false false false,true,()) else bif x0 == 11 then some (Zx.mk true false false false false false false false false,true,()) else bif x0 == 13 then some (Zx.mk true true true false true false false false false,true,()) else bif x0 == 14 then some (Zx.mk true false true false true false false false false,true,()) else bif x0 == 18 then some (Zx.mk false false false false false false false false false,true,()) else some (Zx.mk false false false false false false false false false,false,()):=by kernel_rfl
def Qo (L:Nat)(x:Zl×PUnit):Option Bool:=fT [Hw L,BO L,RN L] L JK [] (.one .bool) [.row 9] x
def TB (L:Nat):Sum tT:=mU 248 [.row 9] (.one .bool) (Qo L)
theorem OZ (L:Nat)(x0:Zl):Qo L (x0,())=bT (Jk L (x0.1,())) fun y=>bT (bif y.1.3 == false then bT (QD L (x0.4,())) fun y=>some y else some true) fun y_1=>bT (bif y_1 == true then bif y.1.4 == false then bT (QD L (x0.5,())) fun y=>some y else some true else some false) fun y_2=>bT (bif (y.2.1 && ((y.1.1 || x0.2 == []) && (y.1.2 || x0.3 == [])) && (y_2 && (y.1.5 || (↑x0.6.length:Int) == 0)) && ((y.1.8 || (↑x0.9.length:Int) == 0) && (y.1.9 || (↑x0.10.length:Int) == 0))) == true then bif y.1.6 == false then bT (WB L (x0.7,ZU.mk 0 0 0 0 [] [],())) fun y=>some y else some true else some false) fun y_3=>some (y_3 && (y.1.7 || !x0.8)):=by kernel_rfl
def Jl (L:Nat)(x:Zl×PUnit):Option Int:=fT [KP L,LD L,WW L,TB L,RN L] L Og [] (.one (.int .i64)) [.row 9] x
def TC (L:Nat):Sum tT:=mU 158 [.row 9] (.one (.int .i64)) (Jl L)
theorem Po (L:Nat)(x0:Zl):Jl L (x0,())=bT (Jk L (x0.1,())) fun y=>bT (Qo L (x0,())) fun y_1=>bif !y_1 then some 1 else bT (bif y.1.1 == true then bT (Yq L (x0.2,())) fun y=>some (y != 0) else some false) fun y_2=>bT (bif y_2 == false then bif y.1.2 == true then bT (Yq L (x0.3,())) fun y=>some (y != 0) else some false else some true) fun y_3=>bif y_3 then some 3 else bT (Xe L (x0,y.1,())) fun y_4=>bif y_4 == 0 && y.1.6 then bT (YF L (x0.7,())) fun y=>some y else some y_4:=by kernel_rfl
def KN (L:Nat):Nat→List (Sum tT)
 | 0=>[⟨84,[.lst 21 (.row 9)],fun _=>.par _ none ((.one (.int .i64):RD).tv tT)⟩]
 | m + 1=>[⟨84,[.lst 21 (.row 9)],fun x=>.par _ (fnT tF tG (qOf tF (KN L m ++ [TC L])) 0 L Jr [.rnd [.slot 3 (.int .i64)]] (.one (.int .i64)) (tvL tT [.lst 21 (.row 9)] x) []) ((.one (.int .i64):RD).tv tT)⟩]
def YG (L m:Nat)(x:(List Zl)×PUnit):Option (Int):=fnT tF tG (qOf tF (KN L m ++ [TC L])) 0 L Jr [.rnd [.slot 3 (.int .i64)]] (.one (.int .i64)) (tvL tT [.lst 21 (.row 9)] x) []
def J9 (L:Nat)(x:(List Zl)×PUnit):Option (Int):=YG L L x
def BN (L:Nat):Sum tT:=⟨84,[.lst 21 (.row 9)],fun x=>.par ((.one (.int .i64):RD).Ty tT) (J9 L x) ((.one (.int .i64):RD).tv tT)⟩
def Vw:Nat→List Zl→Nat→(Int×PUnit→Option Int)→Int×PUnit→Option Int:=fun (m:Nat)=>fun x0 L self acc=>bif decide (acc.1 < (↑x0.length:Int)) then bT (getT x0 acc.1) fun y=>bT (Jl L (y,())) fun y=>bif y == 0 then bT (getT x0 acc.1) fun y=>bT (YG L m (y.9,())) fun y=>bif y == 0 then bT (getT x0 acc.1) fun y=>bT (YG L m (y.10,())) fun y=>bif y != 0 then some y else self (Go.IntKind.i64.wrap (acc.1 + 1),()) else bif y != 0 then some y else self (Go.IntKind.i64.wrap (acc.1 + 1),()) else bif y == 0 then bT (getT x0 acc.1) fun y=>bT (YG L m (y.10,())) fun y=>bif y != 0 then some y else self (Go.IntKind.i64.wrap (acc.1 + 1),()) else bif y != 0 then some y else self (Go.IntKind.i64.wrap (acc.1 + 1),()) else some 0
theorem BA (L m:Nat)(x0:(List Zl)):YG L (m + 1) (x0,())=loopT (Vw m x0 L) L (0,()):=by kernel_rfl
def Ua (L:Nat):Nat→List (Sum tT)
 | 0=>[⟨83,[.lst 21 (.row 9)],fun _=>.par _ none ((.one (.int .i64):RD).tv tT)⟩]
 | m + 1=>[⟨83,[.lst 21 (.row 9)],fun x=>.par _ (fnT tF tG (qOf tF (Ua L m ++ [])) 0 L Vo [.rnd [.slot 3 (.int .i64),.slot 4 (.int .i64)]] (.one (.int .i64)) (tvL tT [.lst 21 (.row 9)] x) []) ((.one (.int .i64):RD).tv tT)⟩]
def YW (L m:Nat)(x:(List Zl)×PUnit):Option (Int):=fnT tF tG (qOf tF (Ua L m ++ [])) 0 L Vo [.rnd [.slot 3 (.int .i64),.slot 4 (.int .i64)]] (.one (.int .i64)) (tvL tT [.lst 21 (.row 9)] x) []
def VB (L:Nat)(x:(List Zl)×PUnit):Option (Int):=YW L L x
def LC (L:Nat):Sum tT:=⟨83,[.lst 21 (.row 9)],fun x=>.par ((.one (.int .i64):RD).Ty tT) (VB L x) ((.one (.int .i64):RD).tv tT)⟩
def XA:Nat→List Zl→Nat→(Int×Int×PUnit→Option Int)→Int×Int×PUnit→Option Int:=fun (m:Nat)=>fun x0 L self acc=>bif decide (acc.2.1 < (↑x0.length:Int)) then bT (getT x0 acc.2.1) fun y=>bT (bT (YW L m (y.9,())) fun y=>some y) fun y=>bT (getT x0 acc.2.1) fun y_1=>bT (bT (YW L m (y_1.10,())) fun y=>some y) fun y_2=>self (if Go.IntKind.i64.wrap (1 + y_2) > if Go.IntKind.i64.wrap (1 + y) > acc.1 then Go.IntKind.i64.wrap (1 + y) else acc.1 then Go.IntKind.i64.wrap (1 + y_2) else if Go.IntKind.i64.wrap (1 + y) > acc.1 then Go.IntKind.i64.wrap (1 + y) else acc.1,Go.IntKind.i64.wrap (acc.2.1 + 1),()) else some acc.1
theorem MX (L m:Nat)(x0:(List Zl)):YW L (m + 1) (x0,())=loopT (XA m x0 L) L (0,0,()):=by kernel_rfl
def JZ (L:Nat):Nat→List (Sum tT)
 | 0=>[⟨82,[.lst 21 (.row 9)],fun _=>.par _ none ((.one (.int .i64):RD).tv tT)⟩]
 | m + 1=>[⟨82,[.lst 21 (.row 9)],fun x=>.par _ (fnT tF tG (qOf tF (JZ L m ++ [])) 0 L Vm [.rnd [.slot 3 (.int .i64),.slot 4 (.int .i64)]] (.one (.int .i64)) (tvL tT [.lst 21 (.row 9)] x) []) ((.one (.int .i64):RD).tv tT)⟩]
def YV (L m:Nat)(x:(List Zl)×PUnit):Option (Int):=fnT tF tG (qOf tF (JZ L m ++ [])) 0 L Vm [.rnd [.slot 3 (.int .i64),.slot 4 (.int .i64)]] (.one (.int .i64)) (tvL tT [.lst 21 (.row 9)] x) []
def VA (L:Nat)(x:(List Zl)×PUnit):Option (Int):=YV L L x
def L9 (L:Nat):Sum tT:=⟨82,[.lst 21 (.row 9)],fun x=>.par ((.one (.int .i64):RD).Ty tT) (VA L x) ((.one (.int .i64):RD).tv tT)⟩
def X9:Nat→List Zl→Nat→(Int×Int×PUnit→Option Int)→Int×Int×PUnit→Option Int:=fun (m:Nat)=>fun x0 L self acc=>bif decide (acc.2.1 < (↑x0.length:Int)) then bT (getT x0 acc.2.1) fun y=>bT (bT (YV L m (y.9,())) fun y=>some y) fun y=>bT (getT x0 acc.2.1) fun y_1=>bT (bT (YV L m (y_1.10,())) fun y=>some y) fun y_2=>self (Go.IntKind.i64.wrap (Go.IntKind.i64.wrap (Go.IntKind.i64.wrap (acc.1 + 1) + y) + y_2),Go.IntKind.i64.wrap (acc.2.1 + 1),()) else some acc.1
theorem MW (L m:Nat)(x0:(List Zl)):YV L (m + 1) (x0,())=loopT (X9 m x0 L) L (0,0,()):=by kernel_rfl
def Xd (L:Nat)(x:(List Zl)×PUnit):Option Int:=fT [BN L,LC L,L9 L] L UH [] (.one (.int .i64)) [.lst 21 (.row 9)] x
def L8 (L:Nat):Sum tT:=mU 36 [.lst 21 (.row 9)] (.one (.int .i64)) (Xd L)
theorem MV (L:Nat)(x0:(List Zl)):Xd L (x0,())=bT (VA L (x0,())) fun y=>bif decide (y > 200) then some 6 else bT (VB L (x0,())) fun y=>bif decide (y > 12) then some 11 else bT (J9 L (x0,())) fun y=>some y:=by kernel_rfl
end Go.Proofs.YtbcfddaocfpckaaGreatDoor
end
noncomputable section
namespace Go.Proofs.YtbcfddaocfpckaaGreatDoor
open Go Go.Proofs.YtbcfddaocfpckaaGreatDoor.Abs Go.Proofs.YtbcfddaocfpckaaGreatDoor.Tl
set_option maxRecDepth 100000
set_option maxHeartbeats 0
def LH (L:Nat)(x:Zg×PUnit):Option ((List (List (List UInt8)))):=fT [] L UJ [.rnd [.slot 4 (.int .i64),.cell 1 0 (.own 1 .str),.cell 1 1 (.own 1 .str),.cell 1 2 (.own 1 .str),.cell 1 3 (.own 1 .str),.cell 1 4 (.lst 1 .str),.cell 1 5 (.lst 1 .str),.cell 1 6 (.lst 1 .str),.cell 1 7 (.lst 1 .str),.cell 1 8 (.lst 1 .str),.cell 1 9 (.own 1 .str)],.rnd [.slot 5 (.int .i64),.cell 1 0 (.own 1 .str),.cell 1 1 (.own 1 .str),.cell 1 2 (.own 1 .str),.cell 1 3 (.own 1 .str),.cell 1 4 (.lst 1 .str),.cell 1 5 (.lst 1 .str),.cell 1 6 (.lst 1 .str),.cell 1 7 (.lst 1 .str),.cell 1 8 (.lst 1 .str),.cell 1 9 (.own 1 .str)],.rnd [.slot 6 (.int .i64),.cell 1 0 (.own 1 .str),.cell 1 1 (.own 1 .str),.cell 1 2 (.own 1 .str),.cell 1 3 (.own 1 .str),.cell 1 4 (.lst 1 .str),.cell 1 5 (.lst 1 .str),.cell 1 6 (.lst 1 .str),.cell 1 7 (.lst 1 .str),.cell 1 8 (.lst 1 .str),.cell 1 9 (.own 1 .str)],.rnd [.slot 7 (.int .i64),.cell 1 0 (.own 1 .str),.cell 1 1 (.own 1 .str),.cell 1 2 (.own 1 .str),.cell 1 3 (.own 1 .str),.cell 1 4 (.lst 1 .str),.cell 1 5 (.lst 1 .str),.cell 1 6 (.lst 1 .str),.cell 1 7 (.lst 1 .str),.cell 1 8 (.lst 1 .str),.cell 1 9 (.own 1 .str)],.rnd [.slot 8 (.int .i64),.cell 1 0 (.own 1 .str),.cell 1 1 (.own 1 .str),.cell 1 2 (.own 1 .str),.cell 1 3 (.own 1 .str),.cell 1 4 (.lst 1 .str),.cell 1 5 (.lst 1 .str),.cell 1 6 (.lst 1 .str),.cell 1 7 (.lst 1 .str),.cell 1 8 (.lst 1 .str),.cell 1 9 (.own 1 .str)]] (.one (.lst 1 (.lst 1 .str))) [.row 14] x
def KU (L:Nat):Sum tT:=mU 212 [.row 14] (.one (.lst 1 (.lst 1 .str))) (LH L)
def IR (L:Nat)(x:Zg×(List UInt8)×PUnit):Option Int:=fT [WA L,KU L] L VN [] (.one (.int .i64)) [.row 14,.str] x
def IM (L:Nat):Sum tT:=mU 218 [.row 14,.str] (.one (.int .i64)) (IR L)
def ZB (L:Nat)(x:Int×Int×Int×PUnit):Option Bool:=fT [] L JM [] (.one .bool) [.int .i64,.int .i64,.int .i64] x
def Y3 (L:Nat):Sum tT:=mU 217 [.int .i64,.int .i64,.int .i64] (.one .bool) (ZB L)
theorem Td (L:Nat)(x0:Int)(x1:Int)(x2:Int):ZB L (x0,x1,x2,())=some (decide (x0 ≥ x1) && decide (x0≤x2)):=by kernel_rfl
end Go.Proofs.YtbcfddaocfpckaaGreatDoor
end
noncomputable section
namespace Go.Proofs.YtbcfddaocfpckaaGreatDoor
open Go Go.Proofs.YtbcfddaocfpckaaGreatDoor.Abs Go.Proofs.YtbcfddaocfpckaaGreatDoor.Tl
set_option maxRecDepth 100000
set_option maxHeartbeats 0
def ZM (L:Nat)(x:Int×Int×PUnit):Option Int:=fT [] L UL [] (.one (.int .i64)) [.int .i64,.int .i64] x
def YE (L:Nat):Sum tT:=mU 106 [.int .i64,.int .i64] (.one (.int .i64)) (ZM L)
theorem Lc (L:Nat)(x0:Int)(x1:Int):ZM L (x0,x1,())=bif x0 != 0 then some x0 else some x1:=by kernel_rfl
def BR (L:Nat)(x:Zg×(List UInt8)×PUnit):Option (List UInt8):=fT [WA L,KU L] L GZ [.rnd [.slot 7 (.int .i64)]] (.one .str) [.row 14,.str] x
def BP (L:Nat):Sum tT:=mU 311 [.row 14,.str] (.one .str) (BR L)
def Zw (L:Nat)(x:Bool×Int×PUnit):Option Int:=fT [] L JL [] (.one (.int .i64)) [.bool,.int .i64] x
def ZY (L:Nat):Sum tT:=mU 108 [.bool,.int .i64] (.one (.int .i64)) (Zw L)
theorem Tc (L:Nat)(x0:Bool)(x1:Int):Zw L (x0,x1,())=bif x0 then some 0 else some x1:=by kernel_rfl
def BU (L:Nat)(x:Zg×IV×PUnit):Option Int:=fT [Y3 L,YE L,BP L,ZY L] L Ha [] (.one (.int .i64)) [.row 14,.row 12] x
def BQ (L:Nat):Sum tT:=mU 274 [.row 14,.row 12] (.one (.int .i64)) (BU L)
def Qa (L:Nat)(x:(List UInt8)×(List (List UInt8))×PUnit):Option Int:=fT [YE L,ZY L,WA L,WW L] L UM [] (.one (.int .i64)) [.str,.lst 1 .str] x
def KX (L:Nat):Sum tT:=mU 110 [.str,.lst 1 .str] (.one (.int .i64)) (Qa L)
theorem Ld (L:Nat)(x0:(List UInt8))(x1:(List (List UInt8))):Qa L (x0,x1,())=bT (Yq L (x0,())) fun y=>bT (WC L (x1,x0,())) fun y_1=>bT (Zw L (decide (y_1 < 0),4,())) fun y_2=>bT (ZM L (y,y_2,())) fun y=>some y:=by kernel_rfl
def PI (L:Nat)(x:Zg×PM×(List (List UInt8))×PUnit):Option Int:=fT [Jg L,BQ L,YE L,ZY L,KX L] L Oh [.rnd [.slot 7 (.int .i64),.slot 8 (.int .i64)]] (.one (.int .i64)) [.row 14,.row 13,.lst 1 .str] x
def XR (L:Nat)(x:Int×Int×PUnit):Option Bool:=fT [Y3 L,Jg L] L GY [] (.one .bool) [.int .i64,.int .i64] x
def Hz (L:Nat):Sum tT:=mU 210 [.int .i64,.int .i64] (.one .bool) (XR L)
theorem BC (L:Nat)(x0:Int)(x1:Int):XR L (x0,x1,())=bif x0 == 1 then bT (Jj L (x1,())) fun y=>some y else bif x0 == 2 then some (x1 == 0 || x1 == 1) else bif x0 == 3 then bT (ZB L (x1,0,1000000000,())) fun y=>some y else some false:=by kernel_rfl
def LJ (L:Nat)(x:Zg×VF×PUnit):Option Int:=fT [ZY L,Y3 L,Hz L,IM L] L UN [.rnd [.slot 7 (.int .i64)]] (.one (.int .i64)) [.row 14,.row 11] x
def WZ (L:Nat)(x:Int×PUnit):Option Bool:=fT [] L UK [] (.one .bool) [.int .i64] x
def KW (L:Nat):Sum tT:=mU 209 [.int .i64] (.one .bool) (WZ L)
theorem La (L:Nat)(x0:Int):WZ L (x0,())=some (x0 == 1 || x0 == 2 || x0 == 3):=by kernel_rfl
def Wx (L:Nat)(x:ZO×PUnit):Option Int:=fT [L8 L,YE L,ZY L,KW L,KX L] L VO [.rnd [.slot 3 (.own 1 .str),.slot 5 (.int .i64)]] (.one (.int .i64)) [.row 10] x
def IP (L:Nat):Sum tT:=mU 273 [.row 10] (.one (.int .i64)) (Wx L)
def YJ:ZO→Nat→List YN→(List (List UInt8)×Int×PUnit→Option Int)→List (List UInt8)×Int×PUnit→Option Int:=fun x0 L y self acc=>bif decide (acc.2.1 < (↑y.length:Int)) then bT (getT y acc.2.1) fun y_1=>bT (bT (Qa L (y_1.1,acc.1,())) fun y=>some y) fun y_2=>bT (getT y acc.2.1) fun y_3=>bT (bT (WZ L (y_3.2,())) fun y=>some y) fun y_4=>bT (bT (Zw L (y_4,1,())) fun y=>some y) fun y_5=>bT (bT (ZM L (y_2,y_5,())) fun y=>some y) fun y_6=>bif y_6 != 0 then some y_6 else bT (getT y acc.2.1) fun y=>bT (apT 16 acc.1 [y.1]) fun y=>self (y,Go.IntKind.i64.wrap (acc.2.1 + 1),()) else bT (Xd L (x0.4,())) fun y=>some y
theorem IB (L:Nat)(x0:ZO):Wx L (x0,())=bif decide ((↑x0.2.length:Int) > 6) || decide (Go.IntKind.i64.wrap ((↑x0.2.length:Int) + (↑x0.3.length:Int)) > 16) then some 6 else bT (apT 24 [] x0.2) fun y=>bT (apT 24 y x0.3) fun y=>loopT (YJ x0 L y) L ([],0,()):=by kernel_rfl
def YL (L:Nat)(x:Zk×PUnit):Option Int:=fT [Y3 L,ZY L] L XY [.rnd [.slot 3 (.int .i64)]] (.one (.int .i64)) [.row 4] x
def GL (L:Nat):Sum tT:=mU 310 [.row 4] (.one (.int .i64)) (YL L)
def Yp:Zk→Nat→(Int×PUnit→Option Int)→Int×PUnit→Option Int:=fun x0 L self acc=>bif decide (acc.1 < (↑x0.3.length:Int)) then bT (getT x0.3 acc.1) fun y=>bT (ZB L (y.1,0,Go.IntKind.i64.wrap (x0.4 - 1),())) fun y_1=>bT (bif (!y_1) == false then bT (ZB L (y.2,0,1000,())) fun y=>some !y else some true) fun y_2=>bif y_2 then some 2 else bT (bif decide (acc.1 > 0) == true then bT (getT x0.3 (Go.IntKind.i64.wrap (acc.1 - 1))) fun y_3=>some (decide (y.1≤y_3.1)) else some false) fun y=>bif y then some 12 else self (Go.IntKind.i64.wrap (acc.1 + 1),()) else some 0
theorem G8 (L:Nat)(x0:Zk):YL L (x0,())=bif (↑x0.3.length:Int) == 0 then bT (Zw L (x0.4 == 0,1,())) fun y=>some y else bif decide ((↑x0.3.length:Int) > 20) then some 6 else bT (ZB L (x0.4,1,1000000000,())) fun y=>bif !y then some 2 else loopT (Yp x0 L) L (0,()):=by kernel_rfl
end Go.Proofs.YtbcfddaocfpckaaGreatDoor
end
noncomputable section
namespace Go.Proofs.YtbcfddaocfpckaaGreatDoor
open Go Go.Proofs.YtbcfddaocfpckaaGreatDoor.Abs Go.Proofs.YtbcfddaocfpckaaGreatDoor.Tl
set_option maxRecDepth 100000
set_option maxHeartbeats 0
def YM (L:Nat)(x:Zg×Zk×PUnit):Option Int:=fT [KP L,WA L,Hw L,YE L,GL L,ZY L,Y3 L] L Va [] (.one (.int .i64)) [.row 14,.row 4] x
def GM (L:Nat):Sum tT:=mU 272 [.row 14,.row 4] (.one (.int .i64)) (YM L)
theorem G9 (L:Nat)(x0:Zg)(x1:Zk):YM L (x0,x1,())=bT (bT (ZB L (x1.2,0,1000,())) fun y=>some y) fun y=>bT (bT (Zw L (y,2,())) fun y=>some y) fun y=>bT (bT (YL L (x1,())) fun y=>some y) fun y_1=>bT (bT (ZM L (y,y_1,())) fun y=>some y) fun y=>bif y != 0 then some y else bif x1.Fault.1 == [] then bT (WB L (x1.Fault.2,ZU.mk 0 0 0 0 [] [],())) fun y=>bT (bif y == true then bT (WB L (x1.Fault.3,ZU.mk 0 0 0 0 [] [],())) fun y=>some y else some false) fun y=>bT (Zw L (y,1,())) fun y=>some y else bT (WC L (x0.7,x1.Fault.1,())) fun y=>bif decide (y < 0) then some 5 else bT (bT (YF L (x1.Fault.2,())) fun y=>some y) fun y=>bT (bT (YF L (x1.Fault.3,())) fun y=>some y) fun y_2=>bT (bT (ZM L (y,y_2,())) fun y=>some y) fun y=>some y:=by kernel_rfl
def Z9 (L:Nat)(x:Zg×Int×Int×PUnit):Option Int:=fT [IP L,Y3 L,GM L,YE L,Hz L,ZY L,KW L] L XZ [] (.one (.int .i64)) [.row 14,.int .i64,.int .i64] x
theorem Yl (L:Nat)(x0:Zg)(x1:Int)(x2:Int):Z9 L (x0,x1,x2,())=bif x1 == 0 then bT (getT x0.2 x2) fun y=>bT (bT (WZ L (y.2,())) fun y=>some y) fun y=>bT (bT (Zw L (y,1,())) fun y=>some y) fun y=>bT (getT x0.2 x2) fun y_1=>bT (getT x0.2 x2) fun y_2=>bT (bT (XR L (y_1.2,y_2.3,())) fun y=>some y) fun y_3=>bT (bT (Zw L (y_3,2,())) fun y=>some y) fun y_4=>bT (bT (ZM L (y,y_4,())) fun y=>some y) fun y=>some y else bif x1 == 1 then bT (getT x0.3 x2) fun y=>bT (bT (YM L (x0,y,())) fun y=>some y) fun y=>some y else bif x1 == 2 then bT (getT x0.4 x2) fun y=>bT (getT x0.4 x2) fun y_1=>bT (ZB L (y_1.2,1,1000,())) fun y_2=>bT (Zw L (y_2,2,())) fun y_3=>bT (Zw L (decide (y.3 ≥ 1) && decide (y.3≤3),1,())) fun y=>bT (ZM L (y_3,y,())) fun y=>some y else bif x1 == 3 then bT (getT x0.5 x2) fun y=>bT (ZB L (y.2,1,1000,())) fun y=>bT (bif y == true then bT (getT x0.5 x2) fun y=>bT (ZB L (y.3,1,1000,())) fun y=>some y else some false) fun y=>bT (Zw L (y,2,())) fun y=>some y else bif x1 == 9 then bT (getT x0.11 x2) fun y=>bT (Wx L (y,())) fun y=>some y else some 0:=by kernel_rfl
def WO:Zg→Nat→List (List (List UInt8))→(Int×List (List UInt8)×Int×PUnit→Option Int)→Int×List (List UInt8)×Int×PUnit→(Int×List (List UInt8)×Int×PUnit→Option Int)→Int×List (List UInt8)×Int×PUnit→Option Int:=fun x0 L y self acc self_1 acc_1=>bT (getT y acc.2.2.1) fun y_1=>bif decide (acc_1.2.2.1 < (↑y_1.length:Int)) then bT (getT y acc.2.2.1) fun y_2=>bT (getT y_2 acc_1.2.2.1) fun y_3=>bT (bT (Qa L (y_3,acc_1.2.1,())) fun y=>some y) fun y_4=>bT (bT (Z9 L (x0,acc.2.2.1,acc_1.2.2.1,())) fun y=>some y) fun y_5=>bT (bT (ZM L (y_4,y_5,())) fun y=>some y) fun y_6=>bif y_6 != 0 then some y_6 else bT (getT y acc.2.2.1) fun y=>bT (getT y acc_1.2.2.1) fun y=>bT (apT 16 acc_1.2.1 [y]) fun y=>self_1 (acc_1.1,y,Go.IntKind.i64.wrap (acc_1.2.2.1 + 1),()) else self (acc_1.1,acc_1.2.1,Go.IntKind.i64.wrap (acc.2.2.1 + 1),())
def Lh:Zg→Nat→(List (List UInt8)×Int×PUnit→Option Int)→List (List UInt8)×Int×PUnit→Option Int:=fun x0 L self acc=>bif decide (acc.2.1 < (↑x0.13.length:Int)) then bT (getT x0.13 acc.2.1) fun y=>bT (bT (PI L (x0,y,acc.1,())) fun y=>some y) fun y=>bif y != 0 then some y else bT (getT x0.13 acc.2.1) fun y=>bT (apT 16 acc.1 [y.1]) fun y=>self (y,Go.IntKind.i64.wrap (acc.2.1 + 1),()) else some 0
def KA:Zg→Nat→(Int×Int×PUnit→Option Int)→Int×Int×PUnit→Option Int:=fun x0 L self acc=>bif decide (acc.2.1 < (↑x0.12.length:Int)) then bT (getT x0.12 acc.2.1) fun y=>bT (bT (LJ L (x0,y,())) fun y=>some y) fun y=>bif y != 0 then some y else self (acc.1,Go.IntKind.i64.wrap (acc.2.1 + 1),()) else bif decide ((↑x0.13.length:Int) > 32) then some 6 else loopT (Lh x0 L) L ([],0,())
def WP:Zg→Nat→List (List (List UInt8))→(Int×List (List UInt8)×Int×PUnit→Option Int)→Int×List (List UInt8)×Int×PUnit→Option Int:=fun x0 L y self acc=>bif decide (acc.2.2.1 < (↑y.length:Int)) then bT (getT y acc.2.2.1) fun y_1=>bT (bif decide ((↑y_1.length:Int) > 32) == false then bif (acc.2.2.1 == 9) == true then bT (getT y acc.2.2.1) fun y=>some (decide ((↑y.length:Int) > 16)) else some false else some true) fun y_2=>bif y_2 then some 6 else loopT (WO x0 L y self acc) L (acc.1,acc.2.1,0,()) else bif decide ((↑x0.12.length:Int) > 32) then some 6 else loopT (KA x0 L) L (acc.1,0,())
end Go.Proofs.YtbcfddaocfpckaaGreatDoor
end
section
namespace Go.Proofs.YtbcfddaocfpckaaGreatDoor
open Go Go.Proofs.YtbcfddaocfpckaaGreatDoor.Abs Go.Proofs.YtbcfddaocfpckaaGreatDoor.Tl
set_option maxRecDepth 100000
theorem Zn {α:Type}(c:Bool)(a b:α):(bif c then some a else some b)=some (bif c then a else b):=by cases c <;> rfl
theorem Zm (c:Bool)(x:Option Bool):(bif c == true then x else some false)=bif c then x else some false:=by cases c <;> rfl
theorem condC (c:Bool)(x:Option Bool):(bif c == false then x else some true)=bif c then some true else x:=by cases c <;> rfl
theorem Zi (c x:Bool):(bif c == true then x else false)=(c && x):=by cases c <;> rfl
theorem Zj (c x:Bool):(bif c == false then x else true)=(c || x):=by cases c <;> rfl
theorem Vd {α:Type}(c:Prop)[Decidable c](a b:α):(if c then some a else some b)=some (if c then a else b):=by split <;> rfl
theorem Y1 {α:Type}(c:Bool)(a b:α):(bif c then a else b)=if c=true then a else b:=by cases c <;> rfl
theorem Zb {α:Type}(o:Option α):bT o (fun y=>some y)=o:=by cases o <;> rfl
theorem ZT {α:Type}[DecidableEq α](a b:α):(a != b)=!decide (a=b):=by
 by_cases h:a=b <;> simp [bne,h]
theorem ZW (a b:Int):(a == b)=decide (a=b):=by
 by_cases h:a=b <;> simp [h]
theorem Yf (a b:List UInt8):(a == b)=decide (a=b):=by
 by_cases h:a=b <;> simp [h]
abbrev Len {α:Type}(l:List α):Prop:=l.length≤4611686018427387
theorem Nj {τ ρ:Type}{f:(τ→Option ρ)→τ→Option ρ}(n:Nat)(pk:Int→τ)(R:Nat→Option ρ)
  (h1:∀ self (i:Nat),i < n→self (pk ((i:Int) + 1))=R (i + 1)→f self (pk i)=R i)
  (h2:∀ self,f self (pk n)=R n):∀ (m i:Nat),i≤n→n - i < m→loopT f m (pk i)=R i
 | 0,_,_,h=>absurd h (Nat.not_lt_zero _)
 | m + 1,i,hi,hm=>by
  show f (loopT f m) (pk i)=_
  rcases Nat.lt_or_ge i n with hlt | hge
  ·exact h1 _ i hlt (Nj n pk R h1 h2 m (i + 1) hlt (by omega))
  ·have:i=n:=by omega
   subst this
   exact h2 _
theorem En {τ α σ ρ:Type}{f:(τ→Option ρ)→τ→Option ρ}(l:List α)(pk:σ→Int→τ)(R:List α→σ→Option ρ)
  (h1:∀ self s (i:Nat) x r,l[i]? = some x→i < l.length→x ∈ l→(∀ s',self (pk s' ((i:Int) + 1))=R r s')→f self (pk s i)=R (x :: r) s)
  (h2:∀ self s,f self (pk s (l.length:Nat))=R [] s):∀ (m i:Nat) (s:σ),i≤l.length→l.length - i < m→loopT f m (pk s i)=R (l.drop i) s
 | 0,_,_,_,h=>absurd h (Nat.not_lt_zero _)
 | m + 1,i,s,hi,hm=>by
  show f (loopT f m) (pk s i)=_
  rcases Nat.lt_or_ge i l.length with hlt | hge
  ·have hx:=List.getElem?_eq_getElem hlt
   rw [List.drop_eq_getElem_cons hlt]
   exact h1 _ s i _ _ hx hlt (List.getElem_mem hlt) fun s'=>En l pk R h1 h2 m (i + 1) s' hlt (by omega)
  ·have:i=l.length:=by omega
   subst this
   rw [h2,List.drop_length]
theorem DN {α ρ:Type}{f:(Int×PUnit→Option ρ)→Int×PUnit→Option ρ}(l:List α)(R:List α→Option ρ){m:Nat}(hm:l.length < m)
  (h1:∀ self (i:Nat) x r,l[i]? = some x→i < l.length→x ∈ l→self ((i:Int) + 1,())=R r→f self ((i:Int),())=R (x :: r))
  (h2:∀ self,f self ((l.length:Int),())=R []):loopT f m (0,())=R l :=
 En (σ := Unit) l (fun _ i=>(i,())) (fun l _=>R l) (fun self _ i x r a b c d=>h1 self i x r a b c (d ())) (fun self _=>h2 self) m 0 () (Nat.zero_le _) (by omega)
theorem Zaf {α ρ:Type}{f:(Int×PUnit→Option ρ)→Int×PUnit→Option ρ}(l:List α)(R:List α→Int→Option ρ){m:Nat}(hm:l.length < m)
  (h1:∀ self (i:Nat) x r,l[i]? = some x→i < l.length→x ∈ l→self ((i:Int) + 1,())=R r ((i:Int) + 1)→f self ((i:Int),())=R (x :: r) i)
  (h2:∀ self,f self ((l.length:Int),())=R [] l.length):loopT f m (0,())=R l 0:=by
 have:=Nj (f := f) l.length (fun i=>(i,())) (fun i=>R (l.drop i) i) (fun self i hi e=>by
  have hx:=List.getElem?_eq_getElem hi
  rw [List.drop_eq_getElem_cons hi]
  exact h1 self i _ _ hx hi (List.getElem_mem hi) e) (fun self=>by rw [List.drop_length]; exact h2 self) m 0 (Nat.zero_le _) (by omega)
 exact this
theorem MC {α σ ρ:Type}{f:(σ×Int×PUnit→Option ρ)→σ×Int×PUnit→Option ρ}(l:List α)(R:List α→σ→Option ρ){m:Nat}(hm:l.length < m)(s:σ)
  (h1:∀ self s (i:Nat) x r,l[i]? = some x→i < l.length→x ∈ l→(∀ s',self (s',(i:Int) + 1,())=R r s')→f self (s,(i:Int),())=R (x :: r) s)
  (h2:∀ self s,f self (s,(l.length:Int),())=R [] s):loopT f m (s,0,())=R l s :=
 En l (fun s i=>(s,i,())) R h1 h2 m 0 s (Nat.zero_le _) (by omega)
theorem AB {α β ρ:Type}{f:(Int×PUnit→Option ρ)→Int×PUnit→Option ρ}(l:List α)(l':List β)(hl:l.length=l'.length)(R:List α→List β→Option ρ){m:Nat}(hm:l.length < m)
  (h1:∀ self (i:Nat) x y r r',l[i]? = some x→l'[i]? = some y→i < l.length→x ∈ l→self ((i:Int) + 1,())=R r r'→f self ((i:Int),())=R (x :: r) (y :: r'))
  (h2:∀ self,f self ((l.length:Int),())=R [] []):loopT f m (0,())=R l l':=by
 have:=Nj (f := f) l.length (fun i=>(i,())) (fun i=>R (l.drop i) (l'.drop i)) (fun self i hi e=>by
  have hx:=List.getElem?_eq_getElem hi
  have hy:=List.getElem?_eq_getElem (show i < l'.length by omega)
  rw [List.drop_eq_getElem_cons hi,List.drop_eq_getElem_cons (show i < l'.length by omega)]
  exact h1 self i _ _ _ _ hx hy hi (List.getElem_mem hi) e) (fun self=>by rw [List.drop_length,hl,List.drop_length]; rw [← hl]; exact h2 self) m 0 (Nat.zero_le _) (by omega)
 exact this
end Go.Proofs.YtbcfddaocfpckaaGreatDoor
end
section
namespace Go.Proofs.YtbcfddaocfpckaaGreatDoor
open Go Go.Proofs.YtbcfddaocfpckaaGreatDoor.Abs Go.Proofs.YtbcfddaocfpckaaGreatDoor.Tl
set_option maxRecDepth 100000
theorem Rh (L:Nat)(n:Int):Yy L (n,())=some (NY n):=G5 L n
theorem Ku (L:Nat)(n:Int):YT L (n,())=some (NY n):=OX L n
theorem chainB (x:List UInt8):∀ l:List (List UInt8),(l.foldr (fun k r=>bif x == k then some true else r) (some false):Option Bool)=some (l.any fun k=>decide (x=k))
 | []=>rfl
 | k :: l=>by
  rw [List.foldr_cons,chainB x l,Yf,List.any_cons]
  cases decide (x=k) <;> rfl
theorem DY (L:Nat)(s:List UInt8):YA L (s,())=some (kwB s):=(Ky L s).trans (chainB s kws)
theorem DX (L:Nat)(l:List (List UInt8))(s:List UInt8)(hl:Len l)(hL:l.length < L):WC L (l,s,())=some (LW (fun k=>decide (k=s)) l 0):=by
 rw [Bq]
 refine Zaf l (fun l i=>some (LW (fun k=>decide (k=s)) l i)) hL (fun self i x r hx hi _ e=>?_) (fun self=>?_)
 ·rw [Vu]; simp only [Zh,Ze,cond_true,cond_false,Zf,Zq,Zb,Zm,condC,Zi,Zj,Zn,ZW,Yf,ZT,hi,hx,wrap_succ hi (by omega),e,LW]; simp only [Y1,Vd,if_true,if_false,Bool.false_eq_true,ne_eq,decide_not,gt_iff_lt,ge_iff_le]
 ·rw [Vu]; simp only [Zh,Ze,cond_true,cond_false,Zf,Zq,Zb,Zm,condC,Zi,Zj,Zn,ZW,Yf,ZT,LW]
theorem OH (L:Nat)(s:List UInt8)(hL:100≤L):Wv L (s,())=some (kwB s):=by
 rw [IA,show YK L ()=some kws from G7 L,Zq,DX L kws s (by decide) (by have:kws.length=73:=rfl; omega),Zq]
 have:=Me (fun k=>decide (k=s)) kws 0 (Int.le_refl _)
 rw [show decide (LW (fun k=>decide (k=s)) kws 0 ≥ 0)=_ from this]
 unfold kwB
 congr 2; funext k; exact decide_eq_decide.2 ⟨Eq.symm,Eq.symm⟩
theorem LZ (s:List UInt8):WM s=bif (decide (s=[]) || decide ((s.length:Int) > 24)) || (!NY ((s.headD 0).toNat)) || kwB s then 3 else bif s.all (fun x=>Ip x.toNat) then 0 else 3:=by
 cases s with
 | nil=>simp [WM]
 | cons c r =>
  simp only [WM,List.headD_cons,reduceCtorEq,decide_false,Bool.false_or]
  rw [show (decide ((((c :: r).length:Nat):Int) > 24))=decide (24 < (c :: r).length) from decide_eq_decide.2 (by omega)]
  by_cases h1:24 < (c :: r).length <;> cases NY (c.toNat:Int) <;> cases kwB (c :: r) <;> cases (c :: r).all (fun x=>Ip x.toNat) <;> simp [h1]
theorem Ep (c:Bool)(x:UInt8):(!c && (decide ((x.toNat:Int) < 48) || decide ((x.toNat:Int) > 57)) && (!decide ((x.toNat:Int)=95)))=!(c || decide ((x.toNat:Int)=95) || (decide (48≤(x.toNat:Int)) && decide ((x.toNat:Int)≤57))):=by
 rw [show decide (48≤(x.toNat:Int))=!decide ((x.toNat:Int) < 48) by rw [← decide_not]; congr 1; exact propext Int.not_lt.symm,show decide ((x.toNat:Int)≤57)=!decide ((x.toNat:Int) > 57) by rw [← decide_not]; congr 1; exact propext Int.not_lt.symm]
 cases c <;> cases decide ((x.toNat:Int)=95) <;> cases decide ((x.toNat:Int) < 48) <;> cases decide ((x.toNat:Int) > 57) <;> rfl
theorem Eo (L:Nat)(s:List UInt8)(h:Len s)(hL:s.length < L):loopT (YI s L) L (0,())=some (bif s.all (fun x=>Ip x.toNat) then 0 else 3):=by
 refine DN s (fun s=>some (bif s.all (fun x=>Ip x.toNat) then 0 else 3)) hL (fun self i x r hx hi _ e=>?_) (fun self=>?_)
 ·rw [YI]
  simp only [Zh,Ze,cond_true,cond_false,Zf,Zq,Zb,Zm,condC,Zi,Zj,Zn,ZW,Yf,ZT,hi,hx,Rh,wrap_succ hi (by omega),e,ZT,Ep,List.all_cons,Ip]
  cases (NY (x.toNat:Int) || decide ((x.toNat:Int)=95) || (decide (48≤(x.toNat:Int)) && decide ((x.toNat:Int)≤57))) <;> rfl
 ·rw [YI]; simp only [Zh,Ze,cond_true,cond_false,Zf,Zq,Zb,Zm,condC,Zi,Zj,Zn,ZW,Yf,ZT,List.all_nil]
theorem Nw (L:Nat)(s:List UInt8)(h:Len s)(hL:s.length < L):Ws L (s,())=some (WM s):=by
 rw [I5,Eo L s h hL,LZ,UZ]
 cases s with
 | nil=>rfl
 | cons c r =>
  simp only [Zh,Ze,cond_true,cond_false,Zf,Zq,Zb,Zm,condC,Zi,Zj,Zn,ZW,Yf,ZT,List.getElem?_cons_zero,Rh,DY,List.headD_cons,reduceCtorEq,decide_false,Bool.false_or,Bool.or_assoc]
theorem ND (L:Nat)(s:List UInt8)(h:Len s)(hL:s.length < L):loopT (Qk s L) L (0,())=some (bif s.all (fun x=>Ip x.toNat) then 0 else 3):=by
 refine DN s (fun s=>some (bif s.all (fun x=>Ip x.toNat) then 0 else 3)) hL (fun self i x r hx hi _ e=>?_) (fun self=>?_)
 ·rw [Qk]
  simp only [Zh,Ze,cond_true,cond_false,Zf,Zq,Zb,Zm,condC,Zi,Zj,Zn,ZW,Yf,ZT,hi,hx,Ku,wrap_succ hi (by omega),e,ZT,List.all_cons,Ip,Zm,condC,Zn]
  rw [show decide (48≤(x.toNat:Int))=!decide ((x.toNat:Int) < 48) by rw [← decide_not]; congr 1; exact propext Int.not_lt.symm,show decide ((x.toNat:Int)≤57)=!decide ((x.toNat:Int) > 57) by rw [← decide_not]; congr 1; exact propext Int.not_lt.symm]
  cases NY (x.toNat:Int) <;> cases decide ((x.toNat:Int)=95) <;> cases decide ((x.toNat:Int) < 48) <;> cases decide ((x.toNat:Int) > 57) <;> rfl
 ·rw [Qk]; simp only [Zh,Ze,cond_true,cond_false,Zf,Zq,Zb,Zm,condC,Zi,Zj,Zn,ZW,Yf,ZT,List.all_nil]
theorem XO (L:Nat)(s:List UInt8)(h:Len s)(hL:s.length < L)(h1:100≤L):Yq L (s,())=some (WM s):=by
 rw [MN,ND L s h hL,LZ,UZ]
 cases s with
 | nil=>rfl
 | cons c r =>
  have:decide ((((c :: r).length:Nat):Int) < 1)=false:=by simp only [List.length_cons,decide_eq_false_iff_not]; omega
  simp only [Zh,Ze,cond_true,cond_false,Zf,Zq,Zb,Zm,condC,Zi,Zj,Zn,ZW,Yf,ZT,List.getElem?_cons_zero,Ku,OH L _ h1,List.headD_cons,this,reduceCtorEq,decide_false,Bool.false_or,Bool.or_assoc]
theorem Zu {α:Type}[SizeOf α]:∀ l:List α,l.length < SizeOf.sizeOf l
 | []=>by simp
 | x :: l=>by have:=Zu l; simp only [List.length_cons,List.cons.sizeOf_spec]; omega
theorem F6 (d:ZU):SizeOf.sizeOf d.Values < SizeOf.sizeOf d∧SizeOf.sizeOf d.Weights < SizeOf.sizeOf d:=by cases d; simp; omega
theorem OE (L:Nat)(a b c:Int):Zy L (a,b,c,())=some (btw a b c):=I9 L a b c
theorem MG (L:Nat)(d:ZU):Qn L (d,())=some (Gf d):=by
 simp only [Zh,Ze,cond_true,cond_false,Zf,Zq,Zb,Zm,condC,Zi,Zj,Zn,ZW,Yf,ZT,OW,Gf]; simp only [Y1,Vd,if_true,if_false,Bool.false_eq_true,ne_eq,decide_not,gt_iff_lt,ge_iff_le]
theorem EE (L:Nat)(d:ZU)(h:Xq d)(hL:SizeOf.sizeOf d < L):Xa L (d,())=some (RH d):=by
 have hs:d.Values.length < L∧d.Weights.length < L:=by
  have:=Zu d.Values; have:=Zu d.Weights; have:=F6 d; omega
 rw [MM,RH]
 by_cases hl:d.Values.length=d.Weights.length
 ·rw [AB d.Values d.Weights hl (fun l m=>some (SA l m)) hs.1 (fun self i x y r r' hx hy hi _ e=>by
   have hv:=h.v
   rw [X6]; simp only [Zh,Ze,cond_true,cond_false,Zf,Zq,Zb,Zm,condC,Zi,Zj,Zn,ZW,Yf,ZT,hi,hx,hy,OE,wrap_succ hi (by omega),e,SA]; simp only [Y1,Vd,if_true,if_false,Bool.false_eq_true,ne_eq,decide_not,gt_iff_lt,ge_iff_le]) (fun self=>by rw [X6]; simp only [Zh,Ze,cond_true,cond_false,Zf,Zq,Zb,Zm,condC,Zi,Zj,Zn,ZW,Yf,ZT,SA])]
  simp only [Zh,Ze,cond_true,cond_false,Zf,Zq,Zb,Zm,condC,Zi,Zj,Zn,ZW,Yf,ZT]; simp only [Y1,Vd,if_true,if_false,Bool.false_eq_true,ne_eq,decide_not,gt_iff_lt,ge_iff_le]
 ·simp only [Y1,Vd,if_true,if_false,Bool.false_eq_true,ne_eq,decide_not,gt_iff_lt,ge_iff_le,ZW,ZT,Bool.not_false,show decide ((d.Values.length:Int)=d.Weights.length)=false by simp only [decide_eq_false_iff_not]; omega]
theorem J4 (L:Nat)(d:ZU)(h:Xq d)(hL:SizeOf.sizeOf d < L):YF L (d,())=some (UV d):=by
 rw [← Iq]
 simp only [Zh,Ze,cond_true,cond_false,Zf,Zq,Zb,Zm,condC,Zi,Zj,Zn,ZW,Yf,ZT,ML,MG,PT,OE,EE L d h hL]; simp only [Y1,Vd,if_true,if_false,Bool.false_eq_true,ne_eq,decide_not,gt_iff_lt,ge_iff_le]
end Go.Proofs.YtbcfddaocfpckaaGreatDoor
end
section
namespace Go.Proofs.YtbcfddaocfpckaaGreatDoor
open Go Go.Proofs.YtbcfddaocfpckaaGreatDoor.Abs Go.Proofs.YtbcfddaocfpckaaGreatDoor.Tl
set_option maxRecDepth 100000
theorem NL (e:Zc):SizeOf.sizeOf e.Kids < SizeOf.sizeOf e∧SizeOf.sizeOf e.Name < SizeOf.sizeOf e:=by cases e; simp; omega
theorem Zt.nl {e:Zc}(h:Zt e):Len e.Name:=by have:=h.n; unfold Len; omega
theorem OJ (L:Nat):∀ (m:Nat) (e:Zc),Zt e→SizeOf.sizeOf e≤m→m≤L→W9 L m (e,())=some (Dp e)
 | 0,e,h,hs,_=>absurd hs (by have:=XG e; omega)
 | m + 1,e,h,hs,hm=>by
  have hk:=Zu e.Kids; have hz:=NL e; have hl:=h.k
  rw [OT,Dq]
  refine MC e.Kids (fun l s=>some (sumW Dp l s)) (by omega) 1 (fun self s i x r hx hi mem e'=>?_) (fun self s=>?_)
  ·have ih:=OJ L m x (h.Kids.2 x mem) (by have:=VU mem; omega) (by omega)
   rw [QP]; simp only [Zh,Ze,cond_true,cond_false,Zf,Zq,Zb,Zm,condC,Zi,Zj,Zn,ZW,Yf,ZT,hi,hx,ih,wrap_succ hi (by omega),e',sumW]
  ·rw [QP]; simp only [Zh,Ze,cond_true,cond_false,Zf,Zq,Zb,Zm,condC,Zi,Zj,Zn,ZW,Yf,ZT,sumW]
theorem Kw (L:Nat):∀ (m:Nat) (e:Zc),Zt e→SizeOf.sizeOf e≤m→m≤L→Qq L m (e,())=some (Dp e)
 | 0,e,h,hs,_=>absurd hs (by have:=XG e; omega)
 | m + 1,e,h,hs,hm=>by
  have hk:=Zu e.Kids; have hz:=NL e; have hl:=h.k
  rw [MR,Dq]
  refine MC e.Kids (fun l s=>some (sumW Dp l s)) (by omega) 1 (fun self s i x r hx hi mem e'=>?_) (fun self s=>?_)
  ·have ih:=Kw L m x (h.Kids.2 x mem) (by have:=VU mem; omega) (by omega)
   rw [X8]; simp only [Zh,Ze,cond_true,cond_false,Zf,Zq,Zb,Zm,condC,Zi,Zj,Zn,ZW,Yf,ZT,hi,hx,ih,wrap_succ hi (by omega),e',sumW]
  ·rw [X8]; simp only [Zh,Ze,cond_true,cond_false,Zf,Zq,Zb,Zm,condC,Zi,Zj,Zn,ZW,Yf,ZT,sumW]
theorem OI (L:Nat):∀ (m:Nat) (e:Zc),Zt e→SizeOf.sizeOf e≤m→m≤L→Wy L m (e,())=some (Du e)
 | 0,e,h,hs,_=>absurd hs (by have:=XG e; omega)
 | m + 1,e,h,hs,hm=>by
  have hk:=Zu e.Kids; have hz:=NL e; have hl:=h.k
  rw [OQ,Dv]
  refine MC e.Kids (fun l s=>some (IntKind.i64.wrap (Nk Du l s + 1))) (by omega) 0 (fun self s i x r hx hi mem e'=>?_) (fun self s=>?_)
  ·have ih:=OI L m x (h.Kids.2 x mem) (by have:=VU mem; omega) (by omega)
   rw [QO]; simp only [Zh,Ze,cond_true,cond_false,Zf,Zq,Zb,Zm,condC,Zi,Zj,Zn,ZW,Yf,ZT,hi,hx,ih,wrap_succ hi (by omega),e',Nk]
  ·rw [QO]; simp only [Zh,Ze,cond_true,cond_false,Zf,Zq,Zb,Zm,condC,Zi,Zj,Zn,ZW,Yf,ZT,Nk]
theorem OL (L:Nat):∀ (m:Nat) (e:Zc),Zt e→SizeOf.sizeOf e≤m→m≤L→Qp L m (e,())=some (Du e)
 | 0,e,h,hs,_=>absurd hs (by have:=XG e; omega)
 | m + 1,e,h,hs,hm=>by
  have hk:=Zu e.Kids; have hz:=NL e; have hl:=h.k
  rw [MQ,Dv]
  refine MC e.Kids (fun l s=>some (IntKind.i64.wrap (Nk Du l s + 1))) (by omega) 0 (fun self s i x r hx hi mem e'=>?_) (fun self s=>?_)
  ·have ih:=OL L m x (h.Kids.2 x mem) (by have:=VU mem; omega) (by omega)
   rw [X7]; simp only [Zh,Ze,cond_true,cond_false,Zf,Zq,Zb,Zm,condC,Zi,Zj,Zn,ZW,Yf,ZT,hi,hx,ih,wrap_succ hi (by omega),e',Nk]
  ·rw [X7]; simp only [Zh,Ze,cond_true,cond_false,Zf,Zq,Zb,Zm,condC,Zi,Zj,Zn,ZW,Yf,ZT,Nk]
theorem Ri (L:Nat)(n:Int):Y8 L (n,())=some (PL n):=I4 L n
theorem Sm (L:Nat)(n:Int):WX L (n,())=some (Vp n):=by
 simp only [Zh,Ze,cond_true,cond_false,Zf,Zq,Zb,Zm,condC,Zi,Zj,Zn,ZW,Yf,ZT,MJ,Vp]; simp only [Y1,Vd,if_true,if_false,Bool.false_eq_true,ne_eq,decide_not,gt_iff_lt,ge_iff_le]
theorem Ey (L:Nat)(k:ZX)(n:Int):Ye L (k,n,())=some (Ko k.1 n):=by
 simp only [Zh,Ze,cond_true,cond_false,Zf,Zq,Zb,Zm,condC,Zi,Zj,Zn,ZW,Yf,ZT,Vr,Sm,Ko]; simp only [Y1,Vd,if_true,if_false,Bool.false_eq_true,ne_eq,decide_not,gt_iff_lt,ge_iff_le]
theorem E5 (L:Nat)(k:ZX)(n:Int):ZG L (k,n,())=some (OB k.1 n):=by
 simp only [Zh,Ze,cond_true,cond_false,Zf,Zq,Zb,Zm,condC,Zi,Zj,Zn,ZW,Yf,ZT,Vs,Ri,OB]
theorem Pe (L:Nat)(k:ZX)(n:Int):ZL L (k,n,())=some ((PK k.1 n).1,(PK k.1 n).2.1,(PK k.1 n).2.2,()):=by
 simp only [Zh,Ze,cond_true,cond_false,Zf,Zq,Zb,Zm,condC,Zi,Zj,Zn,ZW,Yf,ZT,X5,Ri,PK]
 cases decide (n=2) <;> cases decide (n=25) <;> cases decide (n=26) <;> cases PL n <;> cases k.1 <;> rfl
theorem Za2 (L:Nat)(n:Int):Uw L (n,())=some (inB n):=N8 L n
theorem Fh (L:Nat)(k:ZX)(e:Zc)(h:Zt e)(hL:SizeOf.sizeOf e≤L):Ym L (k,e,())=some (VV k.1 e):=by
 have hn:=Nw L e.Name h.nl (by have:=Zu e.Name; have:=NL e; omega)
 simp only [Zh,Ze,cond_true,cond_false,Zf,Zq,Zb,Zm,condC,Zi,Zj,Zn,ZW,Yf,ZT,VX,Ey,Sm,E5,Pe,Za2,hn,VV]; simp only [Y1,Vd,if_true,if_false,Bool.false_eq_true,ne_eq,decide_not,gt_iff_lt,ge_iff_le,Bool.or_assoc]
theorem Rn (L:Nat)(k:ZX):∀ (m:Nat) (e:Zc),Zt e→SizeOf.sizeOf e≤m→m≤L→ZQ L m (k,e,())=some (Yo k.1 e)
 | 0,e,h,hs,_=>absurd hs (by have:=XG e; omega)
 | m + 1,e,h,hs,hm=>by
  have hk:=Zu e.Kids; have hz:=NL e; have hl:=h.k
  have lp:loopT (ZP m k e L) L (0,())=some (Q8 (Yo k.1) e.Kids):=by
   refine DN e.Kids (fun l=>some (Q8 (Yo k.1) l)) (by omega) (fun self i x r hx hi mem e'=>?_) (fun self=>?_)
   ·have ih:=Rn L k m x (h.Kids.2 x mem) (by have:=VU mem; omega) (by omega)
    rw [ZP]; simp only [Zh,Ze,cond_true,cond_false,Zf,Zq,Zb,Zm,condC,Zi,Zj,Zn,ZW,Yf,ZT,hi,hx,ih,wrap_succ hi (by omega),e',Q8]; simp only [Y1,Vd,if_true,if_false,Bool.false_eq_true,ne_eq,decide_not,gt_iff_lt,ge_iff_le]
   ·rw [ZP]; simp only [Zh,Ze,cond_true,cond_false,Zf,Zq,Zb,Zm,condC,Zi,Zj,Zn,ZW,Yf,ZT,Q8]
  rw [Vt,Kq,lp,Fh L k e h (by omega)]
  simp only [Zh,Ze,cond_true,cond_false,Zf,Zq,Zb,Zm,condC,Zi,Zj,Zn,ZW,Yf,ZT]; simp only [Y1,Vd,if_true,if_false,Bool.false_eq_true,ne_eq,decide_not,gt_iff_lt,ge_iff_le]
theorem Nv (L:Nat)(k:ZX)(e:Zc)(h:Zt e)(hL:SizeOf.sizeOf e≤L):Yd L (k,e,())=some (Yg k.1 e):=by
 simp only [Zh,Ze,cond_true,cond_false,Zf,Zq,Zb,Zm,condC,Zi,Zj,Zn,ZW,Yf,ZT,Vq,show XK L (e,())=_ from OJ L L e h hL (Nat.le_refl _),show XJ L (e,())=_ from OI L L e h hL (Nat.le_refl _),show Y2 L (k,e,())=_ from Rn L k L e h hL (Nat.le_refl _),Yg]; simp only [Y1,Vd,if_true,if_false,Bool.false_eq_true,ne_eq,decide_not,gt_iff_lt,ge_iff_le]
theorem Ns (L:Nat)(e:Zc)(h:Zt e)(hL:SizeOf.sizeOf e≤L):Qm L (e,())=some (Yg false e):=by
 simp only [Zh,Ze,cond_true,cond_false,Zf,Zq,Zb,Zm,condC,Zi,Zj,Zn,ZW,Yf,ZT,OO,Nv L _ e h hL]
theorem Fj (L:Nat)(n:Int):Jj L (n,())=some (inB n):=N9 L n
theorem Pg (L:Nat)(n:Int):YU L (n,())=some (PL n):=OY L n
theorem Et (L:Nat)(n:Int):Xb L (n,())=some (UQ n):=by
 simp only [Zh,Ze,cond_true,cond_false,Zf,Zq,Zb,Zm,condC,Zi,Zj,Zn,ZW,Yf,ZT,MO,UQ]; simp only [Y1,Vd,if_true,if_false,Bool.false_eq_true,ne_eq,decide_not,gt_iff_lt,ge_iff_le]
theorem Fg (L:Nat)(n:Int):XQ L (n,())=some (Nl n):=by
 simp only [Zh,Ze,cond_true,cond_false,Zf,Zq,Zb,Zm,condC,Zi,Zj,Zn,ZW,Yf,ZT,Bv,Nl]; simp only [Y1,Vd,if_true,if_false,Bool.false_eq_true,ne_eq,decide_not,gt_iff_lt,ge_iff_le]
theorem Ag (a b d:Bool)(n r:Int):(if a=true then 1 else if b=true then 2 else if (d && !decide (n=0))=true then n else r) =
  if (!decide ((if a=true then 1 else if b=true then 2 else if (d && !decide (n=0))=true then n else 0)=0))=true then (if a=true then 1 else if b=true then 2 else if (d && !decide (n=0))=true then n else 0) else r:=by
 cases a <;> cases b <;> cases d <;> by_cases h:n=0 <;> simp [h]
theorem Ro (L:Nat)(c:Bool)(h1:100≤L):∀ (m:Nat) (e:Zc),Zt e→SizeOf.sizeOf e≤m→m≤L→Xf L m (e,c,())=some (Yo c e)
 | 0,e,h,hs,_=>absurd hs (by have:=XG e; omega)
 | m + 1,e,h,hs,hm=>by
  have hk:=Zu e.Kids; have hz:=NL e; have hl:=h.k
  have lp:loopT (QR m e c L) L (0,())=some (Q8 (Yo c) e.Kids):=by
   refine DN e.Kids (fun l=>some (Q8 (Yo c) l)) (by omega) (fun self i x r hx hi mem e'=>?_) (fun self=>?_)
   ·have ih:=Ro L c h1 m x (h.Kids.2 x mem) (by have:=VU mem; omega) (by omega)
    rw [QR]; simp only [Zh,Ze,cond_true,cond_false,Zf,Zq,Zb,Zm,condC,Zi,Zj,Zn,ZW,Yf,ZT,hi,hx,ih,wrap_succ hi (by omega),e',Q8]; simp only [Y1,Vd,if_true,if_false,Bool.false_eq_true,ne_eq,decide_not,gt_iff_lt,ge_iff_le]
   ·rw [QR]; simp only [Zh,Ze,cond_true,cond_false,Zf,Zq,Zb,Zm,condC,Zi,Zj,Zn,ZW,Yf,ZT,Q8]
  have hn:=XO L e.Name h.nl (by have:=Zu e.Name; omega) h1
  rw [← DT]
  simp only [Zh,Ze,cond_true,cond_false,Zf,Zq,Zb,Zm,condC,Zi,Zj,Zn,ZW,Yf,ZT,Bz,lp,Et,Pg,Fj,Fg,hn,Be]; simp only [Y1,Vd,if_true,if_false,Bool.false_eq_true,ne_eq,decide_not,gt_iff_lt,ge_iff_le,Bool.or_assoc]
  exact congrArg some (Ag _ _ _ _ _)
theorem Nz (L:Nat)(c:Bool)(h1:100≤L)(e:Zc)(h:Zt e)(hL:SizeOf.sizeOf e≤L):Xc L (e,c,())=some (Yg c e):=by
 simp only [Zh,Ze,cond_true,cond_false,Zf,Zq,Zb,Zm,condC,Zi,Zj,Zn,ZW,Yf,ZT,MS,show WY L (e,())=_ from Kw L L e h hL (Nat.le_refl _),show V9 L (e,())=_ from OL L L e h hL (Nat.le_refl _),show J8 L (e,c,())=_ from Ro L c h1 L e h hL (Nat.le_refl _),Yg]; simp only [Y1,Vd,if_true,if_false,Bool.false_eq_true,ne_eq,decide_not,gt_iff_lt,ge_iff_le]
theorem Us (L:Nat)(h1:100≤L)(e:Zc)(h:Zt e)(hL:SizeOf.sizeOf e≤L):Zv L (e,())=some (Yg false e):=by
 simp only [Zh,Ze,cond_true,cond_false,Zf,Zq,Zb,Zm,condC,Zi,Zj,Zn,ZW,Yf,ZT,MP,Nz L _ h1 e h hL]
theorem Ho (L:Nat)(a b:List Int)(h:Len a)(hL:a.length < L):Yz L (a,b,())=some (decide (a=b)):=by
 rw [G6]
 by_cases hl:a.length=b.length
 ·rw [AB a b hl (fun l m=>some (decide (l=m))) hL (fun self i x y r r' hx hy hi _ e=>by
   rw [WN]; simp only [Zh,Ze,cond_true,cond_false,Zf,Zq,Zb,Zm,condC,Zi,Zj,Zn,ZW,Yf,ZT,hi,hx,hy,wrap_succ hi (by omega),e,List.cons.injEq,Bool.decide_and]; cases decide (x=y) <;> rfl) (fun self=>by rw [WN]; simp only [Zh,Ze,cond_true,cond_false,Zf,Zq,Zb,Zm,condC,Zi,Zj,Zn,ZW,Yf,ZT,decide_true])]
  rw [ZT,show decide ((a.length:Int)=b.length)=true by simp only [decide_eq_true_eq]; omega]; rfl
 ·rw [ZT,show decide ((a.length:Int)=b.length)=false by simp only [decide_eq_false_iff_not]; omega]
  have:a≠b:=fun e=>hl (by rw [e])
  simp [this]
theorem Iy (L:Nat)(a b:ZU)(h:Xq a)(hL:SizeOf.sizeOf a≤L):WB L (a,b,())=some (SY a b):=by
 have h1:=Zu a.Values; have h2:=Zu a.Weights; have h3:=F6 a
 simp only [Zh,Ze,cond_true,cond_false,Zf,Zq,Zb,Zm,condC,Zi,Zj,Zn,ZW,Yf,ZT,Bo,Ho L a.Values _ h.v (by omega),Ho L a.Weights _ h.w (by omega),SY]
end Go.Proofs.YtbcfddaocfpckaaGreatDoor
end
