import Derived.Test.YtbcfddaocfpckaaGreatDoorHMo12
set_option linter.all false
open Bool renaming false_eq_true→aK,false_or→fJ,or_assoc→jZ,not_false→ja,decide_and→jP
open List renaming getElem?_eq_getElem→bG,drop_eq_getElem_cons→jb,getElem_mem→bZ,drop_length→jc,headD_cons→jd,getElem?_cons_zero→aY,length_cons→dB
open Nat renaming zero_le→eG,le_refl→dI
noncomputable section
namespace Go.Proofs.YtbcfddaocfpckaaGreatDoor
open Go Abs Tl
set_option maxRecDepth 100000
set_option maxHeartbeats 0
def G5 (L:Nat)(x:Int×PUnit):Option (List UInt8):=fT [] L ZaU [] (.one .str) [.int .i64] x
def Xl (L:Nat):Sum tT:=mU 75 [.int .i64] (.one .str) (G5 L)
theorem Ur:SX Xl:=fun h=>sT h Zo rfl (by kernel_rfl) fun _=>rfl
theorem Zh7 (L:Nat)(x0:Int):G5 L (x0,())=bif x0==19 then some [111,114] else bif x0==18 then some [97,110,100] else bif x0==14 then some [61] else bif x0==15 then some [33,61] else bif x0==16 then some [60] else bif x0==17 then some [60,61] else bif x0==9 then some [43] else bif x0==10 then some [45] else bif x0==11 then some [42] else bif x0==12 then some [47] else bif x0==13 then some [37] else some []:=by kernel_rfl
def UO (L:Nat)(x:Zt×PUnit):Option Int:=fT [] L EX [] (.one (.int .i64)) [.row 8] x
def Qs (L:Nat):Sum tT:=mU 72 [.row 8] (.one (.int .i64)) (UO L)
theorem VV:SX Qs:=fun h=>sT h Zo rfl (by kernel_rfl) fun _=>rfl
theorem Zfz (L:Nat)(x0:Zt):UO L (x0,())=bif x0.1==19 then some 1 else bif x0.1==18 then some 2 else bif x0.1==6 then some 3 else bif x0.1==14 then some 4 else bif x0.1==15 then some 4 else bif x0.1==16 then some 4 else bif x0.1==17 then some 4 else bif x0.1==9 then some 5 else bif x0.1==10 then some 5 else bif x0.1==11 then some 6 else bif x0.1==12 then some 6 else bif x0.1==13 then some 6 else bif x0.1==5 then some 7 else some 8:=by kernel_rfl
def Yb (L:Nat):Nat→List (Sum tT)
 |0=>[⟨74,[.row 8,.int .i64],fun _=>.par _ none ((.one (.str):RD).tv tT)⟩,⟨151,[.lst 4 (.row 8)],fun _=>.par _ none ((.one (.str):RD).tv tT)⟩,⟨73,[.row 8],fun _=>.par _ none ((.one (.str):RD).tv tT)⟩,⟨32,[.row 8],fun _=>.par _ none ((.one (.str):RD).tv tT)⟩]
 |m+1=>[⟨74,[.row 8,.int .i64],fun x=>.par _ (fnT tF tG (qOf tF (Yb L m++[Xz,Qs L,Xl L])) 0 L GI [] (.one (.str)) (tvL tT [.row 8,.int .i64] x) []) ((.one (.str):RD).tv tT)⟩,⟨151,[.lst 4 (.row 8)],fun x=>.par _ (fnT tF tG (qOf tF (Yb L m++[Xz,Qs L,Xl L])) 0 L PO [.rnd [.slot 3 (.str),.slot 4 (.int .i64)]] (.one (.str)) (tvL tT [.lst 4 (.row 8)] x) []) ((.one (.str):RD).tv tT)⟩,⟨73,[.row 8],fun x=>.par _ (fnT tF tG (qOf tF (Yb L m++[Xz,Qs L,Xl L])) 0 L PN [] (.one (.str)) (tvL tT [.row 8] x) []) ((.one (.str):RD).tv tT)⟩,⟨32,[.row 8],fun x=>.par _ (fnT tF tG (qOf tF (Yb L m++[Xz,Qs L,Xl L])) 0 L PM [] (.one (.str)) (tvL tT [.row 8] x) []) ((.one (.str):RD).tv tT)⟩]
theorem QZ {C:Cfg}{L:Nat}(h:St C L):∀m,∀s∈Yb L m,SumOk C s
 |0=>(Zb (YP _ _ _) (Zb (YP _ _ _) (Zb (YP _ _ _) (Zb (YP _ _ _) Zo))))
 |m+1=>have ih:=QZ h m
  (Zb (sum_par ZE h.L h.G (qOf_ok ZE (Qb ih (Zb (VW h) (Zb (VV h) (Zb (Ur h) Zo))))) [] (h.T _ _ rfl) (by kernel_rfl) fun _=>rfl) (Zb (sum_par ZE h.L h.G (qOf_ok ZE (Qb ih (Zb (VW h) (Zb (VV h) (Zb (Ur h) Zo))))) [.rnd [.slot 3 (.str),.slot 4 (.int .i64)]] (h.T _ _ rfl) (by kernel_rfl) fun _=>rfl) (Zb (sum_par ZE h.L h.G (qOf_ok ZE (Qb ih (Zb (VW h) (Zb (VV h) (Zb (Ur h) Zo))))) [] (h.T _ _ rfl) (by kernel_rfl) fun _=>rfl) (Zb (sum_par ZE h.L h.G (qOf_ok ZE (Qb ih (Zb (VW h) (Zb (VV h) (Zb (Ur h) Zo))))) [] (h.T _ _ rfl) (by kernel_rfl) fun _=>rfl) Zo))))
def WB (L m:Nat)(x:Zt×Int×PUnit):Option ((List UInt8)):=fnT tF tG (qOf tF (Yb L m++[Xz,Qs L,Xl L])) 0 L GI [] (.one (.str)) (tvL tT [.row 8,.int .i64] x) []
def XV (L m:Nat)(x:(List Zt)×PUnit):Option ((List UInt8)):=fnT tF tG (qOf tF (Yb L m++[Xz,Qs L,Xl L])) 0 L PO [.rnd [.slot 3 (.str),.slot 4 (.int .i64)]] (.one (.str)) (tvL tT [.lst 4 (.row 8)] x) []
def Uw (L:Nat)(x:(List Zt)×PUnit):Option ((List UInt8)):=XV L L x
def Zbz (L:Nat):Sum tT:=⟨151,[.lst 4 (.row 8)],fun x=>.par ((.one (.str):RD).Ty tT) (Uw L x) ((.one (.str):RD).tv tT)⟩
theorem ZhI {C:Cfg}{L:Nat}(h:St C L):SumOk C (Zbz L):=have ih:=QZ h L
 sum_par ZE h.L h.G (qOf_ok ZE (Qb ih (Zb (VW h) (Zb (VV h) (Zb (Ur h) Zo))))) [.rnd [.slot 3 (.str),.slot 4 (.int .i64)]] (h.T _ _ rfl) (by kernel_rfl) fun _=>rfl
def Zap (L m:Nat)(x:Zt×PUnit):Option ((List UInt8)):=fnT tF tG (qOf tF (Yb L m++[Xz,Qs L,Xl L])) 0 L PN [] (.one (.str)) (tvL tT [.row 8] x) []
def YU (L m:Nat)(x:Zt×PUnit):Option ((List UInt8)):=fnT tF tG (qOf tF (Yb L m++[Xz,Qs L,Xl L])) 0 L PM [] (.one (.str)) (tvL tT [.row 8] x) []
def QG (L:Nat)(x:Zt×PUnit):Option ((List UInt8)):=YU L L x
def MJ (L:Nat):Sum tT:=⟨32,[.row 8],fun x=>.par ((.one (.str):RD).Ty tT) (QG L x) ((.one (.str):RD).tv tT)⟩
theorem Na {C:Cfg}{L:Nat}(h:St C L):SumOk C (MJ L):=have ih:=QZ h L
 sum_par ZE h.L h.G (qOf_ok ZE (Qb ih (Zb (VW h) (Zb (VV h) (Zb (Ur h) Zo))))) [] (h.T _ _ rfl) (by kernel_rfl) fun _=>rfl
theorem Zcq (L m:Nat)(x0:Zt)(x1:Int):WB L (m+1) (x0,x1,())=bT (UO L (x0,())) fun y=>bif decide (y<x1) then bT (YU L m (x0,())) fun y=>bT (catS [40] y) fun y=>bT (catS y [41]) fun y=>some y else bT (YU L m (x0,())) fun y=>some y:=by kernel_rfl
def F7:Nat→List Zt→Nat→(List UInt8×Int×PUnit→Option (List UInt8))→List UInt8×Int×PUnit→Option (List UInt8):=fun (m:Nat)=>fun x0 L self acc=>bif decide (acc.2.1<(↑x0.length:Int)) then bif decide (acc.2.1>0) then bT (catS acc.1 [44,32]) fun y=>bT (getT x0 acc.2.1) fun y_1=>bT (YU L m (y_1,())) fun y_2=>bT (catS y y_2) fun y=>self (y,Go.IntKind.i64.wrap (acc.2.1+1),()) else bT (getT x0 acc.2.1) fun y=>bT (YU L m (y,())) fun y=>bT (catS acc.1 y) fun y=>self (y,Go.IntKind.i64.wrap (acc.2.1+1),()) else bT (catS [40] acc.1) fun y=>bT (catS y [41]) fun y=>some y
theorem Zh6 (L m:Nat)(x0:(List Zt)):XV L (m+1) (x0,())=loopT (F7 m x0 L) L ([],0,()):=by kernel_rfl
theorem Xj (L m:Nat)(x0:Zt):Zap L (m+1) (x0,())=bif x0.1==1 then bif decide (x0.3<0) then bT (Yu x0.3) fun y=>bT (catS [40] y) fun y=>bT (catS y [41]) fun y=>some y else bT (Yu x0.3) fun y=>some y else bif x0.1==2 then bif x0.3==1 then some [116,114,117,101] else some [102,97,108,115,101] else bif x0.1==3 then some x0.2 else bif x0.1==4 then some [110,111,119] else bif x0.1==7 then bT (XV L m (x0.4,())) fun y=>bT (catS [100,117,114] y) fun y=>some y else bif x0.1==8 then bT (XV L m (x0.4,())) fun y=>bT (catS [116,105,99,107,115] y) fun y=>some y else bif x0.1==20 then bT (XV L m (x0.4,())) fun y=>bT (catS [109,105,110] y) fun y=>some y else bif x0.1==21 then bT (XV L m (x0.4,())) fun y=>bT (catS [109,97,120] y) fun y=>some y else bif x0.1==22 then bT (catS [102,114,101,101,40] x0.2) fun y=>bT (catS y [41]) fun y=>some y else bif x0.1==23 then bT (catS [115,105,122,101,40] x0.2) fun y=>bT (catS y [41]) fun y=>some y else bT (catS [119,97,105,116,105,110,103,40] x0.2) fun y=>bT (catS y [41]) fun y=>some y:=by kernel_rfl
theorem Zh4 (L m:Nat)(x0:Zt):YU L (m+1) (x0,())=bT (UO L (x0,())) fun y=>bif y==8 then bT (Zap L m (x0,())) fun y=>some y else bif y==7 then bT (getT x0.4 0) fun y=>bT (WB L m (y,7,())) fun y=>bT (catS [45] y) fun y=>some y else bif y==3 then bT (getT x0.4 0) fun y=>bT (WB L m (y,3,())) fun y=>bT (catS [110,111,116,32] y) fun y=>some y else bif y==4 then bT (getT x0.4 0) fun y=>bT (bT (WB L m (y,5,())) fun y=>some y) fun y=>bT (catS y [32]) fun y=>bT (bT (G5 L (x0.1,())) fun y=>some y) fun y_1=>bT (catS y y_1) fun y=>bT (catS y [32]) fun y=>bT (getT x0.4 1) fun y_2=>bT (bT (WB L m (y_2,5,())) fun y=>some y) fun y_3=>bT (catS y y_3) fun y=>some y else bT (getT x0.4 0) fun y_1=>bT (bT (WB L m (y_1,y,())) fun y=>some y) fun y_2=>bT (catS y_2 [32]) fun y_3=>bT (bT (G5 L (x0.1,())) fun y=>some y) fun y_4=>bT (catS y_3 y_4) fun y_5=>bT (catS y_5 [32]) fun y_6=>bT (getT x0.4 1) fun y_7=>bT (bT (WB L m (y_7,Go.IntKind.i64.wrap (y+1),())) fun y=>some y) fun y=>bT (catS y_6 y) fun y=>some y:=by kernel_rfl
def Vj (L:Nat)(x:(List (List UInt8))×(List UInt8)×PUnit):Option Int:=fT [] L ZaL [.rnd [.slot 5 (.int .i64)]] (.one (.int .i64)) [.lst 1 .str,.str] x
def Us (L:Nat):Sum tT:=mU 211 [.lst 1 .str,.str] (.one (.int .i64)) (Vj L)
theorem Gw:SX Us:=fun h=>sT h Zo rfl (by kernel_rfl) fun _=>rfl
def RI:List (List UInt8)→List UInt8→(Int×PUnit→Option Int)→Int×PUnit→Option Int:=fun x0 x1 self acc=>bif decide (acc.1<(↑x0.length:Int)) then bT (getT x0 acc.1) fun y=>bif y==x1 then some acc.1 else self (Go.IntKind.i64.wrap (acc.1+1),()) else some (-1)
theorem Zht (L:Nat)(x0:(List (List UInt8)))(x1:(List UInt8)):Vj L (x0,x1,())=loopT (RI x0 x1) L (0,()):=by kernel_rfl
def Jo (L:Nat)(x:PUnit):Option ((List (List UInt8))):=fT [] L Lt [] (.one (.lst 1 .str)) [] x
def LU (L:Nat):Sum tT:=mU 271 [] (.one (.lst 1 .str)) (Jo L)
theorem ZaA:SX LU:=fun h=>sT h Zo rfl (by kernel_rfl) fun _=>rfl
theorem Za3 (L:Nat)  : Jo L ()=some [[97,100,100],[97,102,116,101,114],[97,110,100],[97,116],[98,101,108,116],[98,111,111,108],[99,111,110,115,101,114,118,101],[99,111,110,115,116],[99,111,117,110,116],[99,121,99,108,101],[100,111,119,110],[100,114,97,119],[100,117,114],[101,108,115,101],[101,110,100],[101,118,101,114,121],[102,97,108,115,101],[102,97,117,108,116],[102,105,102,111],[102,114,101,101],[102,114,111,109],[103,101,111,109],[103,101,116],[104,111,108,100],[105,102],[105,110,116],[105,110,116,111],[108,101,97,115,116],[108,101,118,101,108],[108,105,102,111],[108,105,110,107],[108,111,99,97,108],[109,97,120],[109,105,110],[109,111,100,101,108],[110,111,116],[110,111,119],[111,98,115,101,114,118,101],[111,114],[112,97,114,97,109],[112,114,101,101,109,112,116],[112,114,105,111],[112,117,116],[113,117,101,117,101],[114,101,108,101,97,115,101],[114,101,115,111,117,114,99,101],[114,105,100,101],[114,111,117,116,105,110,101],[115,101,105,122,101],[115,101,110,100],[115,101,116],[115,104,105,102,116],[115,105,103,110,97,108],[115,105,116,101],[115,105,122,101],[115,112,97,119,110],[115,116,97,114,116],[115,116,111,112],[115,116,111,114,101],[115,116,114,101,97,109],[115,117,109],[116,97,98,108,101],[116,97,108,108,121],[116,105,99,107,115],[116,105,109,101],[116,114,117,101],[117,110,105,102,111,114,109],[117,110,116,105,108],[117,112],[118,97,114],[119,97,105,116],[119,97,105,116,105,110,103],[119,104,105,108,101]]:=by kernel_rfl
def Uj (L:Nat)(x:(List UInt8)×PUnit):Option Bool:=fT [Us L,LU L] L Di [] (.one .bool) [.str] x
def P6 (L:Nat):Sum tT:=mU 208 [.str] (.one .bool) (Uj L)
theorem Zc6:SX P6:=fun h=>sT h (Zb (Gw h) (Zb (ZaA h) Zo)) rfl (by kernel_rfl) fun _=>rfl
theorem Zcn (L:Nat)(x0:(List UInt8)):Uj L (x0,())=bT (Jo L ()) fun y=>bT (Vj L (y,x0,())) fun y=>some (decide (y≥0)):=by kernel_rfl
def J8 (L:Nat)(x:Int×PUnit):Option Bool:=fT [] L NF [] (.one .bool) [.int .u8] x
def SK (L:Nat):Sum tT:=mU 207 [.int .u8] (.one .bool) (J8 L)
theorem Zei:SX SK:=fun h=>sT h Zo rfl (by kernel_rfl) fun _=>rfl
theorem ZdM (L:Nat)(x0:Int):J8 L (x0,())=some (decide (x0≥97)&&decide (x0≤122)):=by kernel_rfl
def Qy (L:Nat)(x:(List UInt8)×PUnit):Option Int:=fT [P6 L,SK L] L EH [.rnd [.slot 3 (.int .i64)]] (.one (.int .i64)) [.str] x
def VX (L:Nat):Sum tT:=mU 107 [.str] (.one (.int .i64)) (Qy L)
theorem UE:SX VX:=fun h=>sT h (Zb (Zc6 h) (Zb (Zei h) Zo)) rfl (by kernel_rfl) fun _=>rfl
def UZ:List UInt8→Nat→(Int×PUnit→Option Int)→Int×PUnit→Option Int:=fun x0 L self acc=>bif decide (acc.1<(↑x0.length:Int)) then bT (getT x0 acc.1) fun y=>bT (J8 L ((↑y.toNat:Int),())) fun y=>bT (bif (!y)==true then bT (getT x0 acc.1) fun y=>some ((↑y.toNat:Int) != 95) else some false) fun y=>bT (bif y==true then bT (getT x0 acc.1) fun y=>bif decide ((↑y.toNat:Int)<48)==false then bT (getT x0 acc.1) fun y=>some (decide ((↑y.toNat:Int)>57)) else some true else some false) fun y=>bif y then some 3 else self (Go.IntKind.i64.wrap (acc.1+1),()) else some 0
theorem Zfh (L:Nat)(x0:(List UInt8)):Qy L (x0,())=bT (bif (decide ((↑x0.length:Int)<1)||decide ((↑x0.length:Int)>24))==false then bT (getT x0 0) fun y=>bT (J8 L ((↑y.toNat:Int),())) fun y=>some !y else some true) fun y=>bT (bif y==false then bT (Uj L (x0,())) fun y=>some y else some true) fun y=>bif y then some 3 else loopT (UZ x0 L) L (0,()):=by kernel_rfl
def MN (L:Nat)(x:Int×PUnit):Option Int:=fT [] L ZaM [] (.one (.int .i64)) [.int .i64] x
def Nj (L:Nat):Sum tT:=mU 239 [.int .i64] (.one (.int .i64)) (MN L)
theorem Zbq:SX Nj:=fun h=>sT h Zo rfl (by kernel_rfl) fun _=>rfl
theorem Zhu (L:Nat)(x0:Int):MN L (x0,())=bif x0==25 then some 15 else bif x0==26 then some 31 else some 63:=by kernel_rfl
def MM (L:Nat)(x:Int×PUnit):Option Bool:=fT [] L Zgh [] (.one .bool) [.int .i64] x
def P5 (L:Nat):Sum tT:=mU 238 [.int .i64] (.one .bool) (MM L)
theorem Ey:SX P5:=fun h=>sT h Zo rfl (by kernel_rfl) fun _=>rfl
theorem Zkw (L:Nat)(x0:Int):MM L (x0,())=some (decide (x0≥(-1000000000000))&&decide (x0≤1000000000000)):=by kernel_rfl
def J9 (L:Nat)(x:Int×PUnit):Option Bool:=fT [] L NG [] (.one .bool) [.int .i64] x
def TM (L:Nat):Sum tT:=mU 237 [.int .i64] (.one .bool) (J9 L)
theorem Sl:SX TM:=fun h=>sT h Zo rfl (by kernel_rfl) fun _=>rfl
theorem ZdN (L:Nat)(x0:Int):J9 L (x0,())=some (decide (x0≥22)&&decide (x0≤24)):=by kernel_rfl
def Ij (L:Nat)(x:Int×PUnit):Option Int:=fT [] L EI [] (.one (.int .i64)) [.int .i64] x
def Bl (L:Nat):Sum tT:=mU 236 [.int .i64] (.one (.int .i64)) (Ij L)
theorem C9:SX Bl:=fun h=>sT h Zo rfl (by kernel_rfl) fun _=>rfl
theorem Zfi (L:Nat)(x0:Int):Ij L (x0,())=bif decide (x0<1)||decide (x0>26) then some (-1) else bif decide (x0≥5)&&decide (x0≤8) then some 1 else bif decide (x0≥9)&&decide (x0≤21) then some 2 else some 0:=by kernel_rfl
def Be (L:Nat):Nat→List (Sum tT)
 |0=>[⟨150,[.row 8,.bool],fun _=>.par _ none ((.one (.int .i64):RD).tv tT)⟩]
 |m+1=>[⟨150,[.row 8,.bool],fun x=>.par _ (fnT tF tG (qOf tF (Be L m++[VX L,Nj L,P5 L,TM L,Bl L])) 0 L PI [.rnd [.slot 10 (.int .i64)]] (.one (.int .i64)) (tvL tT [.row 8,.bool] x) []) ((.one (.int .i64):RD).tv tT)⟩]
theorem LH {C:Cfg}{L:Nat}(h:St C L):∀m,∀s∈Be L m,SumOk C s
 |0=>(Zb (YP _ _ _) Zo)
 |m+1=>have ih:=LH h m
  (Zb (sum_par ZE h.L h.G (qOf_ok ZE (Qb ih (Zb (UE h) (Zb (Zbq h) (Zb (Ey h) (Zb (Sl h) (Zb (C9 h) Zo))))))) [.rnd [.slot 10 (.int .i64)]] (h.T _ _ rfl) (by kernel_rfl) fun _=>rfl) Zo)
def I4 (L m:Nat)(x:Zt×Bool×PUnit):Option (Int):=fnT tF tG (qOf tF (Be L m++[VX L,Nj L,P5 L,TM L,Bl L])) 0 L PI [.rnd [.slot 10 (.int .i64)]] (.one (.int .i64)) (tvL tT [.row 8,.bool] x) []
def Nl (L:Nat)(x:Zt×Bool×PUnit):Option (Int):=I4 L L x
def Zbr (L:Nat):Sum tT:=⟨150,[.row 8,.bool],fun x=>.par ((.one (.int .i64):RD).Ty tT) (Nl L x) ((.one (.int .i64):RD).tv tT)⟩
theorem ZhA {C:Cfg}{L:Nat}(h:St C L):SumOk C (Zbr L):=have ih:=LH h L
 sum_par ZE h.L h.G (qOf_ok ZE (Qb ih (Zb (UE h) (Zb (Zbq h) (Zb (Ey h) (Zb (Sl h) (Zb (C9 h) Zo))))))) [.rnd [.slot 10 (.int .i64)]] (h.T _ _ rfl) (by kernel_rfl) fun _=>rfl
def Ha:Nat→Zt→Bool→Nat→(Int×PUnit→Option Int)→Int×PUnit→Option Int:=fun (m:Nat)=>fun x0 x1 L self acc=>bif decide (acc.1<(↑x0.4.length:Int)) then bT (getT x0.4 acc.1) fun y=>bT (I4 L m (y,x1,())) fun y=>bif y != 0 then some y else self (Go.IntKind.i64.wrap (acc.1+1),()) else some 0
theorem Zhv (L m:Nat)(x0:Zt)(x1:Bool):I4 L (m+1) (x0,x1,())=bT (Ij L (x0.1,())) fun y=>bT (bif (!x1)==true then bif (x0.1==3)==false then bT (J9 L (x0.1,())) fun y=>some y else some true else some false) fun y_1=>bT (bif x1==true then bT (J9 L (x0.1,())) fun y=>some (y||x0.1==25||x0.1==26) else some false) fun y_2=>bif !(decide (y≥0)&&(x1&&x0.1 != 3||!x1&&decide (x0.1≤24)))||!y_1&&!x0.2==[]||!(x0.1==1||x0.1==2||y_2)&&x0.3 != 0||(↑x0.4.length:Int) != y then some 1 else bT (bif (x0.1==1)==true then bT (bT (MM L (x0.3,())) fun y=>some y) fun y=>some !y else some false) fun y=>bT (bif (y||x0.1==2&&x0.3 != 0&&x0.3 != 1)==false then bif y_2==true then bif decide (x0.3<0)==false then bT (bT (MN L (x0.1,())) fun y=>some y) fun y=>some (decide (x0.3>y)) else some true else some false else some true) fun y=>bif y then some 2 else bT (bif y_1==true then bT (Qy L (x0.2,())) fun y=>some (y != 0) else some false) fun y=>bif y then bT (Qy L (x0.2,())) fun y=>some y else loopT (Ha m x0 x1 L) L (0,()):=by kernel_rfl
def Tn (L:Nat):Nat→List (Sum tT)
 |0=>[⟨149,[.row 8],fun _=>.par _ none ((.one (.int .i64):RD).tv tT)⟩]
 |m+1=>[⟨149,[.row 8],fun x=>.par _ (fnT tF tG (qOf tF (Tn L m++[])) 0 L Rj [.rnd [.slot 3 (.int .i64),.slot 4 (.int .i64)]] (.one (.int .i64)) (tvL tT [.row 8] x) []) ((.one (.int .i64):RD).tv tT)⟩]
theorem Tq {C:Cfg}{L:Nat}(h:St C L):∀m,∀s∈Tn L m,SumOk C s
 |0=>(Zb (YP _ _ _) Zo)
 |m+1=>have ih:=Tq h m
  (Zb (sum_par ZE h.L h.G (qOf_ok ZE (Qb ih Zo)) [.rnd [.slot 3 (.int .i64),.slot 4 (.int .i64)]] (h.T _ _ rfl) (by kernel_rfl) fun _=>rfl) Zo)
def KJ (L m:Nat)(x:Zt×PUnit):Option (Int):=fnT tF tG (qOf tF (Tn L m++[])) 0 L Rj [.rnd [.slot 3 (.int .i64),.slot 4 (.int .i64)]] (.one (.int .i64)) (tvL tT [.row 8] x) []
def BC (L:Nat)(x:Zt×PUnit):Option (Int):=KJ L L x
def CY (L:Nat):Sum tT:=⟨149,[.row 8],fun x=>.par ((.one (.int .i64):RD).Ty tT) (BC L x) ((.one (.int .i64):RD).tv tT)⟩
theorem ZfF {C:Cfg}{L:Nat}(h:St C L):SumOk C (CY L):=have ih:=Tq h L
 sum_par ZE h.L h.G (qOf_ok ZE (Qb ih Zo)) [.rnd [.slot 3 (.int .i64),.slot 4 (.int .i64)]] (h.T _ _ rfl) (by kernel_rfl) fun _=>rfl
def OL:Nat→Zt→Nat→(Int×Int×PUnit→Option Int)→Int×Int×PUnit→Option Int:=fun (m:Nat)=>fun x0 L self acc=>bif decide (acc.2.1<(↑x0.4.length:Int)) then bT (getT x0.4 acc.2.1) fun y=>bT (KJ L m (y,())) fun y=>self (if y>acc.1 then y else acc.1,Go.IntKind.i64.wrap (acc.2.1+1),()) else some (Go.IntKind.i64.wrap (acc.1+1))
theorem Zfk (L m:Nat)(x0:Zt):KJ L (m+1) (x0,())=loopT (OL m x0 L) L (0,0,()):=by kernel_rfl
def Tt (L:Nat):Nat→List (Sum tT)
 |0=>[⟨10,[.row 8],fun _=>.par _ none ((.one (.int .i64):RD).tv tT)⟩]
 |m+1=>[⟨10,[.row 8],fun x=>.par _ (fnT tF tG (qOf tF (Tt L m++[])) 0 L Rk [.rnd [.slot 3 (.int .i64),.slot 4 (.int .i64)]] (.one (.int .i64)) (tvL tT [.row 8] x) []) ((.one (.int .i64):RD).tv tT)⟩]
theorem Tu {C:Cfg}{L:Nat}(h:St C L):∀m,∀s∈Tt L m,SumOk C s
 |0=>(Zb (YP _ _ _) Zo)
 |m+1=>have ih:=Tu h m
  (Zb (sum_par ZE h.L h.G (qOf_ok ZE (Qb ih Zo)) [.rnd [.slot 3 (.int .i64),.slot 4 (.int .i64)]] (h.T _ _ rfl) (by kernel_rfl) fun _=>rfl) Zo)
def KL (L m:Nat)(x:Zt×PUnit):Option (Int):=fnT tF tG (qOf tF (Tt L m++[])) 0 L Rk [.rnd [.slot 3 (.int .i64),.slot 4 (.int .i64)]] (.one (.int .i64)) (tvL tT [.row 8] x) []
def Qz (L:Nat)(x:Zt×PUnit):Option (Int):=KL L L x
def Ic (L:Nat):Sum tT:=⟨10,[.row 8],fun x=>.par ((.one (.int .i64):RD).Ty tT) (Qz L x) ((.one (.int .i64):RD).tv tT)⟩
theorem RY {C:Cfg}{L:Nat}(h:St C L):SumOk C (Ic L):=have ih:=Tu h L
 sum_par ZE h.L h.G (qOf_ok ZE (Qb ih Zo)) [.rnd [.slot 3 (.int .i64),.slot 4 (.int .i64)]] (h.T _ _ rfl) (by kernel_rfl) fun _=>rfl
def OO:Nat→Zt→Nat→(Int×Int×PUnit→Option Int)→Int×Int×PUnit→Option Int:=fun (m:Nat)=>fun x0 L self acc=>bif decide (acc.2.1<(↑x0.4.length:Int)) then bT (getT x0.4 acc.2.1) fun y=>bT (KL L m (y,())) fun y=>self (Go.IntKind.i64.wrap (acc.1+y),Go.IntKind.i64.wrap (acc.2.1+1),()) else some acc.1
theorem Zfl (L m:Nat)(x0:Zt):KL L (m+1) (x0,())=loopT (OO m x0 L) L (1,0,()):=by kernel_rfl
def Ik (L:Nat)(x:Zt×Bool×PUnit):Option Int:=fT [Zbr L,CY L,Ic L] L EK [] (.one (.int .i64)) [.row 8,.bool] x
def CZ (L:Nat):Sum tT:=mU 71 [.row 8,.bool] (.one (.int .i64)) (Ik L)
theorem ZfG:SX CZ:=fun h=>sT h (Zb (ZhA h) (Zb (ZfF h) (Zb (RY h) Zo))) rfl (by kernel_rfl) fun _=>rfl
theorem Zfm (L:Nat)(x0:Zt)(x1:Bool):Ik L (x0,x1,())=bT (Qz L (x0,())) fun y=>bif decide (y>60) then some 6 else bT (BC L (x0,())) fun y=>bif decide (y>12) then some 11 else bT (Nl L (x0,x1,())) fun y=>some y:=by kernel_rfl
def YI (L:Nat)(x:Zt×PUnit):Option Int:=fT [CZ L] L EJ [] (.one (.int .i64)) [.row 8] x
def CX (L:Nat):Sum tT:=mU 31 [.row 8] (.one (.int .i64)) (YI L)
theorem ZfE:SX CX:=fun h=>sT h (Zb (ZfG h) Zo) rfl (by kernel_rfl) fun _=>rfl
theorem Zfj (L:Nat)(x0:Zt):YI L (x0,())=bT (Ik L (x0,false,())) fun y=>some y:=by kernel_rfl
def Q5 (L:Nat)(x:Int×PUnit):Option ((List UInt8)×Int×Bool×PUnit):=fT [] L IC [] (.tup [.str,.int .i64,.bool]) [.int .i64] x
def YL (L:Nat):Sum tT:=mU 70 [.int .i64] (.tup [.str,.int .i64,.bool]) (Q5 L)
theorem Q4:SX YL:=fun h=>sT h Zo rfl (by kernel_rfl) fun _=>rfl
theorem Ei (L:Nat)(x0:Int):Q5 L (x0,())=bif x0==19 then some ([111,114],1,true,()) else bif x0==18 then some ([97,110,100],2,true,()) else bif x0==14 then some ([61],4,true,()) else bif x0==15 then some ([33,61],4,true,()) else bif x0==16 then some ([60],4,true,()) else bif x0==17 then some ([60,61],4,true,()) else bif x0==9 then some ([43],5,true,()) else bif x0==10 then some ([45],5,true,()) else bif x0==11 then some ([42],6,true,()) else bif x0==12 then some ([47],6,true,()) else bif x0==13 then some ([37],6,true,()) else some ([],8,false,()):=by kernel_rfl
def Uh (L:Nat)(x:Zt×PUnit):Option Int:=fT [YL L] L BZ [] (.one (.int .i64)) [.row 8] x
def Qr (L:Nat):Sum tT:=mU 148 [.row 8] (.one (.int .i64)) (Uh L)
theorem Ua:SX Qr:=fun h=>sT h (Zb (Q4 h) Zo) rfl (by kernel_rfl) fun _=>rfl
theorem Zck (L:Nat)(x0:Zt):Uh L (x0,())=bif x0.1==6 then some 3 else bif x0.1==5 then some 7 else bT (Q5 L (x0.1,())) fun y=>some y.2.1:=by kernel_rfl
def Ui (L:Nat)(x:Int×PUnit):Option (List UInt8):=fT [] L Dc [] (.one .str) [.int .i64] x
def WI (L:Nat):Sum tT:=mU 67 [.int .i64] (.one .str) (Ui L)
theorem Vz:SX WI:=fun h=>sT h Zo rfl (by kernel_rfl) fun _=>rfl
theorem DY (L:Nat)(x0:Int):Ui L (x0,())=bif x0==0 then some [102,97,108,115,101] else some [116,114,117,101]:=by kernel_rfl
def Dx:List (Inl tT):=[⟨147,QI,[.rnd [.slot 5 (.own 1 (.str)),.slot 10 (.int .i64)]],.one (.str),[]⟩]
def Yq (L:Nat):Nat→List (Sum tT)
 |0=>[⟨69,[.row 8,.int .i64],fun _=>.par _ none ((.one (.str):RD).tv tT)⟩,⟨68,[.str,.row 8],fun _=>.par _ none ((.one (.str):RD).tv tT)⟩,⟨30,[.row 8],fun _=>.par _ none ((.one (.str):RD).tv tT)⟩]
 |m+1=>[⟨69,[.row 8,.int .i64],fun x=>.par _ (fnT tF tG (qOf tF (Yq L m++[UL,TJ,Qr L,YL L,WI L])) 0 L U2 [] (.one (.str)) (tvL tT [.row 8,.int .i64] x) []) ((.one (.str):RD).tv tT)⟩,⟨68,[.str,.row 8],fun x=>.par _ (fnT tF tG (stackQ tF tG (qOf tF (Yq L m++[UL,TJ,Qr L,YL L,WI L])) L Dx 8) 0 L O5 [] (.one (.str)) (tvL tT [.str,.row 8] x) []) ((.one (.str):RD).tv tT)⟩,⟨30,[.row 8],fun x=>.par _ (fnT tF tG (qOf tF (Yq L m++[UL,TJ,Qr L,YL L,WI L])) 0 L O6 [] (.one (.str)) (tvL tT [.row 8] x) []) ((.one (.str):RD).tv tT)⟩]
theorem V4 {C:Cfg}{L:Nat}(h:St C L):∀m,∀s∈Yq L m,SumOk C s
 |0=>(Zb (YP _ _ _) (Zb (YP _ _ _) (Zb (YP _ _ _) Zo)))
 |m+1=>have ih:=V4 h m
  (Zb (sum_par ZE h.L h.G (qOf_ok ZE (Qb ih (Zb (IJ h) (Zb (Sj h) (Zb (Ua h) (Zb (Q4 h) (Zb (Vz h) Zo))))))) [] (h.T _ _ rfl) (by kernel_rfl) fun _=>rfl) (Zb (sum_par ZE h.L h.G (stackQ_ok ZE h.L h.G (qOf_ok ZE (Qb ih (Zb (IJ h) (Zb (Sj h) (Zb (Ua h) (Zb (Q4 h) (Zb (Vz h) Zo))))))) (Zb ⟨h.T _ _ rfl,by kernel_rfl⟩ Zo) 8) [] (h.T _ _ rfl) (by kernel_rfl) fun _=>rfl) (Zb (sum_par ZE h.L h.G (qOf_ok ZE (Qb ih (Zb (IJ h) (Zb (Sj h) (Zb (Ua h) (Zb (Q4 h) (Zb (Vz h) Zo))))))) [] (h.T _ _ rfl) (by kernel_rfl) fun _=>rfl) Zo)))
def YM (L m:Nat)(x:Zt×Int×PUnit):Option ((List UInt8)):=fnT tF tG (qOf tF (Yq L m++[UL,TJ,Qr L,YL L,WI L])) 0 L U2 [] (.one (.str)) (tvL tT [.row 8,.int .i64] x) []
def Wy (L m:Nat)(x:(List UInt8)×Zt×PUnit):Option ((List UInt8)):=fnT tF tG (stackQ tF tG (qOf tF (Yq L m++[UL,TJ,Qr L,YL L,WI L])) L Dx 8) 0 L O5 [] (.one (.str)) (tvL tT [.str,.row 8] x) []
def YJ (L m:Nat)(x:Zt×PUnit):Option ((List UInt8)):=fnT tF tG (qOf tF (Yq L m++[UL,TJ,Qr L,YL L,WI L])) 0 L O6 [] (.one (.str)) (tvL tT [.row 8] x) []
def ZP (L:Nat)(x:Zt×PUnit):Option ((List UInt8)):=YJ L L x
def Qh (L:Nat):Sum tT:=⟨30,[.row 8],fun x=>.par ((.one (.str):RD).Ty tT) (ZP L x) ((.one (.str):RD).tv tT)⟩
theorem Jz {C:Cfg}{L:Nat}(h:St C L):SumOk C (Qh L):=have ih:=V4 h L
 sum_par ZE h.L h.G (qOf_ok ZE (Qb ih (Zb (IJ h) (Zb (Sj h) (Zb (Ua h) (Zb (Q4 h) (Zb (Vz h) Zo))))))) [] (h.T _ _ rfl) (by kernel_rfl) fun _=>rfl
theorem F5 (L m:Nat)(x0:Zt)(x1:Int):YM L (m+1) (x0,x1,())=bT (Uh L (x0,())) fun y=>bif decide (y<x1) then bT (YJ L m (x0,())) fun y=>bT (catS [40] y) fun y=>bT (catS y [41]) fun y=>some y else bT (YJ L m (x0,())) fun y=>some y:=by kernel_rfl
def DV:Nat→Zt→Nat→(List (List UInt8)×Int×PUnit→Option (List UInt8))→List (List UInt8)×Int×PUnit→Option (List UInt8):=fun (m:Nat)=>fun x1 L self acc=>bif decide (acc.2.1<(↑x1.4.length:Int)) then bT (getT x1.4 acc.2.1) fun y=>bT (YJ L m (y,())) fun y=>bT (apT 16 acc.1 [y]) fun y=>self (y,Go.IntKind.i64.wrap (acc.2.1+1),()) else bT (ZbM acc.1 [44,32]) fun y=>some y
theorem NS (L m:Nat)(x0:(List UInt8))(x1:Zt):Wy L (m+1) (x0,x1,())=bif (↑x1.4.length:Int)==0 then bT (catS x0 [40]) fun y=>bT (catS y x1.2) fun y=>bT (catS y [41]) fun y=>some y else bT (catS x0 [40]) fun y=>bT (loopT (DV m x1 L) L ([],0,())) fun y_1=>bT (catS y y_1) fun y=>bT (catS y [41]) fun y=>some y:=by kernel_rfl
theorem ZdK (L m:Nat)(x0:Zt):YJ L (m+1) (x0,())=bif x0.1==1 then bif decide (x0.3<0) then bT (Yu x0.3) fun y=>bT (catS [40] y) fun y=>bT (catS y [41]) fun y=>some y else bT (Yu x0.3) fun y=>some y else bif x0.1==2 then bT (Ui L (x0.3,())) fun y=>some y else bif x0.1==4 then some [110,111,119] else bif x0.1==3 then some x0.2 else bif x0.1==7 then bT (Wy L m ([100,117,114],x0,())) fun y=>some y else bif x0.1==8 then bT (Wy L m ([116,105,99,107,115],x0,())) fun y=>some y else bif x0.1==20 then bT (Wy L m ([109,105,110],x0,())) fun y=>some y else bif x0.1==21 then bT (Wy L m ([109,97,120],x0,())) fun y=>some y else bif x0.1==22 then bT (Wy L m ([102,114,101,101],x0,())) fun y=>some y else bif x0.1==23 then bT (Wy L m ([115,105,122,101],x0,())) fun y=>some y else bif x0.1==24 then bT (Wy L m ([119,97,105,116,105,110,103],x0,())) fun y=>some y else bif x0.1==6 then bT (getT x0.4 0) fun y=>bT (YM L m (y,3,())) fun y=>bT (catS [110,111,116,32] y) fun y=>some y else bif x0.1==5 then bT (getT x0.4 0) fun y=>bT (YM L m (y,7,())) fun y=>bT (catS [45] y) fun y=>some y else bT (Q5 L (x0.1,())) fun y=>bif y.2.1==4 then bT (getT x0.4 0) fun y_1=>bT (bT (YM L m (y_1,Go.IntKind.i64.wrap (y.2.1+1),())) fun y=>some y) fun y_2=>bT (catS y_2 [32]) fun y_3=>bT (catS y_3 y.1) fun y_4=>bT (catS y_4 [32]) fun y_5=>bT (getT x0.4 1) fun y_6=>bT (bT (YM L m (y_6,Go.IntKind.i64.wrap (y.2.1+1),())) fun y=>some y) fun y=>bT (catS y_5 y) fun y=>some y else bT (getT x0.4 0) fun y_1=>bT (bT (YM L m (y_1,y.2.1,())) fun y=>some y) fun y_2=>bT (catS y_2 [32]) fun y_3=>bT (catS y_3 y.1) fun y_4=>bT (catS y_4 [32]) fun y_5=>bT (getT x0.4 1) fun y_6=>bT (bT (YM L m (y_6,Go.IntKind.i64.wrap (y.2.1+1),())) fun y=>some y) fun y=>bT (catS y_5 y) fun y=>some y:=by kernel_rfl
def VB (L:Nat)(x:(List UInt8)×PUnit):Option Bool:=fT [] L O1 [] (.one .bool) [.str] x
def TL (L:Nat):Sum tT:=mU 161 [.str] (.one .bool) (VB L)
theorem Cm:SX TL:=fun h=>sT h Zo rfl (by kernel_rfl) fun _=>rfl
theorem Fz (L:Nat)(x0:(List UInt8)):VB L (x0,())=bif x0==[97,100,100] then some true else bif x0==[97,102,116,101,114] then some true else bif x0==[97,110,100] then some true else bif x0==[97,116] then some true else bif x0==[98,101,108,116] then some true else bif x0==[98,111,111,108] then some true else bif x0==[99,111,110,115,101,114,118,101] then some true else bif x0==[99,111,110,115,116] then some true else bif x0==[99,111,117,110,116] then some true else bif x0==[99,121,99,108,101] then some true else bif x0==[100,111,119,110] then some true else bif x0==[100,114,97,119] then some true else bif x0==[100,117,114] then some true else bif x0==[101,108,115,101] then some true else bif x0==[101,110,100] then some true else bif x0==[101,118,101,114,121] then some true else bif x0==[102,97,108,115,101] then some true else bif x0==[102,97,117,108,116] then some true else bif x0==[102,105,102,111] then some true else bif x0==[102,114,101,101] then some true else bif x0==[102,114,111,109] then some true else bif x0==[103,101,111,109] then some true else bif x0==[103,101,116] then some true else bif x0==[104,111,108,100] then some true else bif x0==[105,102] then some true else bif x0==[105,110,116] then some true else bif x0==[105,110,116,111] then some true else bif x0==[108,101,97,115,116] then some true else bif x0==[108,101,118,101,108] then some true else bif x0==[108,105,102,111] then some true else bif x0==[108,105,110,107] then some true else bif x0==[108,111,99,97,108] then some true else bif x0==[109,97,120] then some true else bif x0==[109,105,110] then some true else bif x0==[109,111,100,101,108] then some true else bif x0==[110,111,116] then some true else bif x0==[110,111,119] then some true else bif x0==[111,98,115,101,114,118,101] then some true else bif x0==[111,114] then some true else bif x0==[112,97,114,97,109] then some true else bif x0==[112,114,101,101,109,112,116] then some true else bif x0==[112,114,105,111] then some true else bif x0==[112,117,116] then some true else bif x0==[113,117,101,117,101] then some true else bif x0==[114,101,108,101,97,115,101] then some true else bif x0==[114,101,115,111,117,114,99,101] then some true else bif x0==[114,105,100,101] then some true else bif x0==[114,111,117,116,105,110,101] then some true else bif x0==[115,101,105,122,101] then some true else bif x0==[115,101,110,100] then some true else bif x0==[115,101,116] then some true else bif x0==[115,104,105,102,116] then some true else bif x0==[115,105,103,110,97,108] then some true else bif x0==[115,105,116,101] then some true else bif x0==[115,105,122,101] then some true else bif x0==[115,112,97,119,110] then some true else bif x0==[115,116,97,114,116] then some true else bif x0==[115,116,111,112] then some true else bif x0==[115,116,111,114,101] then some true else bif x0==[115,116,114,101,97,109] then some true else bif x0==[115,117,109] then some true else bif x0==[116,97,98,108,101] then some true else bif x0==[116,97,108,108,121] then some true else bif x0==[116,105,99,107,115] then some true else bif x0==[116,105,109,101] then some true else bif x0==[116,114,117,101] then some true else bif x0==[117,110,105,102,111,114,109] then some true else bif x0==[117,110,116,105,108] then some true else bif x0==[117,112] then some true else bif x0==[118,97,114] then some true else bif x0==[119,97,105,116] then some true else bif x0==[119,97,105,116,105,110,103] then some true else bif x0==[119,104,105,108,101] then some true else some false:=by kernel_rfl
def XF (L:Nat)(x:Int×PUnit):Option Bool:=fT [] L Lp [] (.one .bool) [.int .u8] x
def LM (L:Nat):Sum tT:=mU 160 [.int .u8] (.one .bool) (XF L)
theorem Za7:SX LM:=fun h=>sT h Zo rfl (by kernel_rfl) fun _=>rfl
theorem Za0 (L:Nat)(x0:Int):XF L (x0,())=some (decide (x0≥97)&&decide (x0≤122)):=by kernel_rfl
def ZJ (L:Nat)(x:(List UInt8)×PUnit):Option Int:=fT [TL L,LM L] L BV [.rnd [.slot 24 (.int .i64)]] (.one (.int .i64)) [.str] x
def Qq (L:Nat):Sum tT:=mU 86 [.str] (.one (.int .i64)) (ZJ L)
theorem Xk:SX Qq:=fun h=>sT h (Zb (Cm h) (Zb (Za7 h) Zo)) rfl (by kernel_rfl) fun _=>rfl
def Jj:List UInt8→Nat→(Int×PUnit→Option Int)→Int×PUnit→Option Int:=fun x0 L self acc=>bif decide (acc.1<(↑x0.length:Int)) then bT (getT x0 acc.1) fun y=>bT (XF L ((↑y.toNat:Int),())) fun y_1=>bif !y_1&&(decide ((↑y.toNat:Int)<48)||decide ((↑y.toNat:Int)>57))&&(↑y.toNat:Int) != 95 then some 3 else self (Go.IntKind.i64.wrap (acc.1+1),()) else some 0
theorem Zcj (L:Nat)(x0:(List UInt8)):ZJ L (x0,())=bT (bif (x0==[]||decide ((↑x0.length:Int)>24))==false then bT (getT x0 0) fun y=>bT (XF L ((↑y.toNat:Int),())) fun y=>some !y else some true) fun y=>bT (bif y==false then bT (VB L (x0,())) fun y=>some y else some true) fun y=>bif y then some 3 else loopT (Jj x0 L) L (0,()):=by kernel_rfl
def V8 (L:Nat)(x:Int×PUnit):Option Bool:=fT [] L BM [] (.one .bool) [.int .i64] x
def H9 (L:Nat):Sum tT:=mU 323 [.int .i64] (.one .bool) (V8 L)
theorem DZ:SX H9:=fun h=>sT h Zo rfl (by kernel_rfl) fun _=>rfl
theorem Zce (L:Nat)(x0:Int):V8 L (x0,())=some (decide (x0≥22)&&decide (x0≤24)):=by kernel_rfl
def WJ (L:Nat)(x:Qd×Int×PUnit):Option (Int×Int×Bool×PUnit):=fT [H9 L] L Jr [] (.tup [.int .i64,.int .i64,.bool]) [.row 17,.int .i64] x
def J4 (L:Nat):Sum tT:=mU 293 [.row 17,.int .i64] (.tup [.int .i64,.int .i64,.bool]) (WJ L)
theorem OZ:SX J4:=fun h=>sT h (Zb (DZ h) Zo) rfl (by kernel_rfl) fun _=>rfl
theorem OI (L:Nat)(x0:Qd)(x1:Int):WJ L (x0,x1,())=bif x1==2 then some (0,1,true,()) else bif x1==25 then some (0,15,true,()) else bif x1==26 then some (0,31,true,()) else bT (V8 L (x1,())) fun y=>bif y&&x0.1 then some (0,63,true,()) else some (0,0,false,()):=by kernel_rfl
def ML (L:Nat)(x:Int×PUnit):Option Bool:=fT [] L Zgg [] (.one .bool) [.int .i64] x
def E5 (L:Nat):Sum tT:=mU 260 [.int .i64] (.one .bool) (ML L)
theorem Zc4:SX E5:=fun h=>sT h Zo rfl (by kernel_rfl) fun _=>rfl
theorem Zkv (L:Nat)(x0:Int):ML L (x0,())=some (decide (x0≥(-1000000000000))&&decide (x0≤1000000000000)):=by kernel_rfl
def WE (L:Nat)(x:Qd×Int×PUnit):Option Bool:=fT [H9 L] L U0 [] (.one .bool) [.row 17,.int .i64] x
def UJ (L:Nat):Sum tT:=mU 292 [.row 17,.int .i64] (.one .bool) (WE L)
theorem RS:SX UJ:=fun h=>sT h (Zb (DZ h) Zo) rfl (by kernel_rfl) fun _=>rfl
theorem RF (L:Nat)(x0:Qd)(x1:Int):WE L (x0,x1,())=bT (bif (x1==3)==false then bT (V8 L (x1,())) fun y=>some (y&&!x0.1) else some true) fun y=>some y:=by kernel_rfl
def UM (L:Nat)(x:Int×PUnit):Option Int:=fT [] L EE [] (.one (.int .i64)) [.int .i64] x
def Bi (L:Nat):Sum tT:=mU 291 [.int .i64] (.one (.int .i64)) (UM L)
theorem Ci:SX Bi:=fun h=>sT h Zo rfl (by kernel_rfl) fun _=>rfl
theorem Zfe (L:Nat)(x0:Int):UM L (x0,())=bif x0==1||x0==2||x0==3||x0==4 then some 0 else bif decide (x0≥5)&&decide (x0≤8) then some 1 else bif decide (x0≥9)&&decide (x0≤21) then some 2 else bif decide (x0≥22)&&decide (x0≤26) then some 0 else some (-1):=by kernel_rfl
def Qv (L:Nat)(x:Qd×Int×PUnit):Option Bool:=fT [Bi L] L Uz [] (.one .bool) [.row 17,.int .i64] x
def UI (L:Nat):Sum tT:=mU 290 [.row 17,.int .i64] (.one .bool) (Qv L)
theorem RQ:SX UI:=fun h=>sT h (Zb (Ci h) Zo) rfl (by kernel_rfl) fun _=>rfl
theorem Rz (L:Nat)(x0:Qd)(x1:Int):Qv L (x0,x1,())=bif x1==3 then some !x0.1 else bif x1==25 then some x0.1 else bif x1==26 then some x0.1 else bT (UM L (x1,())) fun y=>some (decide (y≥0)):=by kernel_rfl
def QQ (L:Nat)(x:Qd×Zt×PUnit):Option Int:=fT [Qq L,J4 L,E5 L,UJ L,Bi L,UI L] L UW [] (.one (.int .i64)) [.row 17,.row 8] x
def V6 (L:Nat):Sum tT:=mU 235 [.row 17,.row 8] (.one (.int .i64)) (QQ L)
theorem Kt:SX V6:=fun h=>sT h (Zb (Xk h) (Zb (OZ h) (Zb (Zc4 h) (Zb (RS h) (Zb (Ci h) (Zb (RQ h) Zo)))))) rfl (by kernel_rfl) fun _=>rfl
theorem DW (L:Nat)(x0:Qd)(x1:Zt):QQ L (x0,x1,())=bT (bT (Qv L (x0,x1.1,())) fun y=>some y) fun y=>bT (bif (!y)==false then bT (bT (UM L (x1.1,())) fun y=>some y) fun y=>some ((↑x1.4.length:Int) != y) else some true) fun y=>bT (bif y==false then bif (!x1.2==[])==true then bT (bT (WE L (x0,x1.1,())) fun y=>some y) fun y=>some !y else some false else some true) fun y=>bif y then some 1 else bif x1.1==1 then bT (ML L (x1.3,())) fun y=>bif !y then some 2 else some 0 else bT (WJ L (x0,x1.1,())) fun y=>bif !y.2.2.1&&x1.3 != 0 then some 1 else bif y.2.2.1&&(decide (x1.3<y.1)||decide (x1.3>y.2.1)) then some 2 else bT (WE L (x0,x1.1,())) fun y=>bif y then bT (ZJ L (x1.2,())) fun y=>some y else some 0:=by kernel_rfl
def Xy (L:Nat):Nat→List (Sum tT)
 |0=>[⟨146,[.row 17,.row 8],fun _=>.par _ none ((.one (.int .i64):RD).tv tT)⟩]
 |m+1=>[⟨146,[.row 17,.row 8],fun x=>.par _ (fnT tF tG (qOf tF (Xy L m++[V6 L])) 0 L XO [.rnd [.slot 18 (.int .i64)]] (.one (.int .i64)) (tvL tT [.row 17,.row 8] x) []) ((.one (.int .i64):RD).tv tT)⟩]
theorem V3 {C:Cfg}{L:Nat}(h:St C L):∀m,∀s∈Xy L m,SumOk C s
 |0=>(Zb (YP _ _ _) Zo)
 |m+1=>have ih:=V3 h m
  (Zb (sum_par ZE h.L h.G (qOf_ok ZE (Qb ih (Zb (Kt h) Zo))) [.rnd [.slot 18 (.int .i64)]] (h.T _ _ rfl) (by kernel_rfl) fun _=>rfl) Zo)
def WT (L m:Nat)(x:Qd×Zt×PUnit):Option (Int):=fnT tF tG (qOf tF (Xy L m++[V6 L])) 0 L XO [.rnd [.slot 18 (.int .i64)]] (.one (.int .i64)) (tvL tT [.row 17,.row 8] x) []
def XP (L:Nat)(x:Qd×Zt×PUnit):Option (Int):=WT L L x
def UK (L:Nat):Sum tT:=⟨146,[.row 17,.row 8],fun x=>.par ((.one (.int .i64):RD).Ty tT) (XP L x) ((.one (.int .i64):RD).tv tT)⟩
theorem RU {C:Cfg}{L:Nat}(h:St C L):SumOk C (UK L):=have ih:=V3 h L
 sum_par ZE h.L h.G (qOf_ok ZE (Qb ih (Zb (Kt h) Zo))) [.rnd [.slot 18 (.int .i64)]] (h.T _ _ rfl) (by kernel_rfl) fun _=>rfl
def WS:Nat→Qd→Zt→Nat→(Int×PUnit→Option Int)→Int×PUnit→Option Int:=fun (m:Nat)=>fun x0 x1 L self acc=>bif decide (acc.1<(↑x1.4.length:Int)) then bT (getT x1.4 acc.1) fun y=>bT (WT L m (x0,y,())) fun y=>bif y != 0 then some y else self (Go.IntKind.i64.wrap (acc.1+1),()) else some 0
theorem RG (L m:Nat)(x0:Qd)(x1:Zt):WT L (m+1) (x0,x1,())=bT (QQ L (x0,x1,())) fun y=>bif y != 0 then some y else loopT (WS m x0 x1 L) L (0,()):=by kernel_rfl
def Hr (L:Nat):Nat→List (Sum tT)
 |0=>[⟨145,[.row 8],fun _=>.par _ none ((.one (.int .i64):RD).tv tT)⟩]
 |m+1=>[⟨145,[.row 8],fun x=>.par _ (fnT tF tG (qOf tF (Hr L m++[])) 0 L Om [.rnd [.slot 3 (.int .i64),.slot 9 (.int .i64)]] (.one (.int .i64)) (tvL tT [.row 8] x) []) ((.one (.int .i64):RD).tv tT)⟩]
theorem IL {C:Cfg}{L:Nat}(h:St C L):∀m,∀s∈Hr L m,SumOk C s
 |0=>(Zb (YP _ _ _) Zo)
 |m+1=>have ih:=IL h m
  (Zb (sum_par ZE h.L h.G (qOf_ok ZE (Qb ih Zo)) [.rnd [.slot 3 (.int .i64),.slot 9 (.int .i64)]] (h.T _ _ rfl) (by kernel_rfl) fun _=>rfl) Zo)
def Um (L m:Nat)(x:Zt×PUnit):Option (Int):=fnT tF tG (qOf tF (Hr L m++[])) 0 L Om [.rnd [.slot 3 (.int .i64),.slot 9 (.int .i64)]] (.one (.int .i64)) (tvL tT [.row 8] x) []
def TU (L:Nat)(x:Zt×PUnit):Option (Int):=Um L L x
def Sz (L:Nat):Sum tT:=⟨145,[.row 8],fun x=>.par ((.one (.int .i64):RD).Ty tT) (TU L x) ((.one (.int .i64):RD).tv tT)⟩
theorem Zea {C:Cfg}{L:Nat}(h:St C L):SumOk C (Sz L):=have ih:=IL h L
 sum_par ZE h.L h.G (qOf_ok ZE (Qb ih Zo)) [.rnd [.slot 3 (.int .i64),.slot 9 (.int .i64)]] (h.T _ _ rfl) (by kernel_rfl) fun _=>rfl
def GM:Nat→Zt→Nat→(Int×Int×PUnit→Option Int)→Int×Int×PUnit→Option Int:=fun (m:Nat)=>fun x0 L self acc=>bif decide (acc.2.1<(↑x0.4.length:Int)) then bT (getT x0.4 acc.2.1) fun y=>bT (Um L m (y,())) fun y=>self (if y>acc.1 then y else acc.1,Go.IntKind.i64.wrap (acc.2.1+1),()) else some (Go.IntKind.i64.wrap (acc.1+1))
theorem ZdA (L m:Nat)(x0:Zt):Um L (m+1) (x0,())=loopT (GM m x0 L) L (0,0,()):=by kernel_rfl
def Ht (L:Nat):Nat→List (Sum tT)
 |0=>[⟨144,[.row 8],fun _=>.par _ none ((.one (.int .i64):RD).tv tT)⟩]
 |m+1=>[⟨144,[.row 8],fun x=>.par _ (fnT tF tG (qOf tF (Ht L m++[])) 0 L Oo [.rnd [.slot 3 (.int .i64),.slot 9 (.int .i64)]] (.one (.int .i64)) (tvL tT [.row 8] x) []) ((.one (.int .i64):RD).tv tT)⟩]
theorem IM {C:Cfg}{L:Nat}(h:St C L):∀m,∀s∈Ht L m,SumOk C s
 |0=>(Zb (YP _ _ _) Zo)
 |m+1=>have ih:=IM h m
  (Zb (sum_par ZE h.L h.G (qOf_ok ZE (Qb ih Zo)) [.rnd [.slot 3 (.int .i64),.slot 9 (.int .i64)]] (h.T _ _ rfl) (by kernel_rfl) fun _=>rfl) Zo)
def Un (L m:Nat)(x:Zt×PUnit):Option (Int):=fnT tF tG (qOf tF (Ht L m++[])) 0 L Oo [.rnd [.slot 3 (.int .i64),.slot 9 (.int .i64)]] (.one (.int .i64)) (tvL tT [.row 8] x) []
def TW (L:Nat)(x:Zt×PUnit):Option (Int):=Un L L x
def S9 (L:Nat):Sum tT:=⟨144,[.row 8],fun x=>.par ((.one (.int .i64):RD).Ty tT) (TW L x) ((.one (.int .i64):RD).tv tT)⟩
theorem Zeb {C:Cfg}{L:Nat}(h:St C L):SumOk C (S9 L):=have ih:=IM h L
 sum_par ZE h.L h.G (qOf_ok ZE (Qb ih Zo)) [.rnd [.slot 3 (.int .i64),.slot 9 (.int .i64)]] (h.T _ _ rfl) (by kernel_rfl) fun _=>rfl
def GN:Nat→Zt→Nat→(Int×Int×PUnit→Option Int)→Int×Int×PUnit→Option Int:=fun (m:Nat)=>fun x0 L self acc=>bif decide (acc.2.1<(↑x0.4.length:Int)) then bT (getT x0.4 acc.2.1) fun y=>bT (Un L m (y,())) fun y=>self (Go.IntKind.i64.wrap (acc.1+y),Go.IntKind.i64.wrap (acc.2.1+1),()) else some acc.1
theorem ZdB (L m:Nat)(x0:Zt):Un L (m+1) (x0,())=loopT (GN m x0 L) L (1,0,()):=by kernel_rfl
def Qu (L:Nat)(x:Qd×Zt×PUnit):Option Int:=fT [UK L,Sz L,S9 L] L Uy [] (.one (.int .i64)) [.row 17,.row 8] x
def UH (L:Nat):Sum tT:=mU 66 [.row 17,.row 8] (.one (.int .i64)) (Qu L)
theorem RP:SX UH:=fun h=>sT h (Zb (RU h) (Zb (Zea h) (Zb (Zeb h) Zo))) rfl (by kernel_rfl) fun _=>rfl
theorem Ry (L:Nat)(x0:Qd)(x1:Zt):Qu L (x0,x1,())=bT (TW L (x1,())) fun y=>bif decide (y>60) then some 6 else bT (TU L (x1,())) fun y=>bif decide (y>12) then some 11 else bT (XP L (x0,x1,())) fun y=>some y:=by kernel_rfl
def J5 (L:Nat)(x:Zt×PUnit):Option Int:=fT [UH L] L Ns [] (.one (.int .i64)) [.row 8] x
def Sv (L:Nat):Sum tT:=mU 29 [.row 8] (.one (.int .i64)) (J5 L)
theorem ZdZ:SX Sv:=fun h=>sT h (Zb (RP h) Zo) rfl (by kernel_rfl) fun _=>rfl
theorem Zd9 (L:Nat)(x0:Zt):J5 L (x0,())=bT (Qu L (Qd.mk false,x0,())) fun y=>some y:=by kernel_rfl
def XT (L:Nat)(x:(List UInt8)×PUnit):Option ((List UInt8)×Int×PUnit):=fT [] L Aa [] (.tup [.str,.int .i64]) [.str] x
def Zal (L:Nat):Sum tT:=mU 37 [.str] (.tup [.str,.int .i64]) (XT L)
theorem ZfR:SX Zal:=fun h=>sT h Zo rfl (by kernel_rfl) fun _=>rfl
theorem Zf1 (L:Nat)(x0:(List UInt8)):XT L (x0,())=bif decide ((↑x0.length:Int)>20000) then some ([],6,()) else some (x0,0,()):=by kernel_rfl
def YH (L:Nat)(x:Int×Int×Int×PUnit):Option Bool:=fT [] L Dh [] (.one .bool) [.int .i64,.int .i64,.int .i64] x
def Ib (L:Nat):Sum tT:=mU 299 [.int .i64,.int .i64,.int .i64] (.one .bool) (YH L)
theorem Pg:SX Ib:=fun h=>sT h Zo rfl (by kernel_rfl) fun _=>rfl
theorem Zcm (L:Nat)(x0:Int)(x1:Int)(x2:Int):YH L (x0,x1,x2,())=some (decide (x0≥x1)&&decide (x0≤x2)):=by kernel_rfl
def Ii (L:Nat)(x:Yo×PUnit):Option Int:=fT [Ib L] L EG [.rnd [.slot 3 (.int .i64)]] (.one (.int .i64)) [.row 2] x
def CV (L:Nat):Sum tT:=mU 300 [.row 2] (.one (.int .i64)) (Ii L)
theorem ZfD:SX CV:=fun h=>sT h (Zb (Pg h) Zo) rfl (by kernel_rfl) fun _=>rfl
def OJ:Yo→Nat→(Int×PUnit→Option Int)→Int×PUnit→Option Int:=fun x0 L self acc=>bif decide (acc.1<(↑x0.5.length:Int)) then bT (getT x0.5 acc.1) fun y=>bT (YH L (y,0,1000000000,())) fun y=>bT (bif (!y)==false then bT (getT x0.6 acc.1) fun y=>bT (YH L (y,1,1000,())) fun y=>some !y else some true) fun y=>bif y then some 2 else self (Go.IntKind.i64.wrap (acc.1+1),()) else some 0
theorem Zfg (L:Nat)(x0:Yo):Ii L (x0,())=bif (↑x0.5.length:Int) != (↑x0.6.length:Int) then some 8 else bif (↑x0.5.length:Int)==0 then some 7 else bif decide ((↑x0.5.length:Int)>20) then some 6 else loopT (OJ x0 L) L (0,()):=by kernel_rfl
def KE (L:Nat)(x:Yo×PUnit):Option Bool:=fT [] L NE [] (.one .bool) [.row 2] x
def SI (L:Nat):Sum tT:=mU 298 [.row 2] (.one .bool) (KE L)
theorem Zeh:SX SI:=fun h=>sT h Zo rfl (by kernel_rfl) fun _=>rfl
theorem ZdL (L:Nat)(x0:Yo):KE L (x0,())=bif x0.1==1 then some (x0.3==0&&x0.4==0&&((↑x0.5.length:Int)==0&&(↑x0.6.length:Int)==0)) else bif x0.1==2 then some (x0.4==0&&((↑x0.5.length:Int)==0&&(↑x0.6.length:Int)==0)) else bif x0.1==5 then some (x0.4==0&&((↑x0.5.length:Int)==0&&(↑x0.6.length:Int)==0)) else bif x0.1==3 then some (x0.2==0&&x0.3==0&&x0.4==0) else bif x0.1==4 then some ((↑x0.5.length:Int)==0&&(↑x0.6.length:Int)==0) else some false:=by kernel_rfl
def XR (L:Nat)(x:Yo×PUnit):Option Int:=fT [CV L,Ib L,SI L] L EF [] (.one (.int .i64)) [.row 2] x
def Ia (L:Nat):Sum tT:=mU 250 [.row 2] (.one (.int .i64)) (XR L)
theorem RX:SX Ia:=fun h=>sT h (Zb (ZfD h) (Zb (Pg h) (Zb (Zeh h) Zo))) rfl (by kernel_rfl) fun _=>rfl
theorem Zff (L:Nat)(x0:Yo):XR L (x0,())=bT (KE L (x0,())) fun y=>bif !y then some 1 else bif x0.1==1 then bT (YH L (x0.2,0,1000000000,())) fun y=>bif !y then some 2 else some 0 else bif x0.1==2 then bT (YH L (x0.2,0,x0.3,())) fun y=>bif !(y&&decide (x0.3≤1000000000)) then some 2 else some 0 else bif x0.1==3 then bT (Ii L (x0,())) fun y=>some y else bif x0.1==4 then bT (YH L (x0.4,1,20,())) fun y=>bT (bif y==true then bT (YH L (x0.2,0,x0.3,())) fun y=>some y else some false) fun y=>bif !(y&&decide (x0.3≤1000000)) then some 2 else some 0 else bif x0.1==5 then bT (YH L (x0.2,1,1000,())) fun y=>bT (bif y==true then bT (YH L (x0.3,1,1000,())) fun y=>some y else some false) fun y=>bif !y then some 2 else some 0 else some 0:=by kernel_rfl
def Wp (L:Nat)(x:Yo×PUnit):Option (List UInt8):=fT [Xz,Ia L] L ZaK [.rnd [.slot 3 .str,.slot 4 (.int .i64)]] (.one .str) [.row 2] x
def Nh (L:Nat):Sum tT:=mU 159 [.row 2] (.one .str) (Wp L)
theorem Zbp:SX Nh:=fun h=>sT h (Zb (VW h) (Zb (RX h) Zo)) rfl (by kernel_rfl) fun _=>rfl
def GZ:Yo→(List UInt8×Int×PUnit→Option (List UInt8))→List UInt8×Int×PUnit→Option (List UInt8):=fun x0 self acc=>bif decide (acc.2.1<(↑x0.5.length:Int)) then bT (catS acc.1 [32]) fun y=>bT (getT x0.5 acc.2.1) fun y_1=>bT (bT (Yu y_1) fun y=>some y) fun y_2=>bT (catS y y_2) fun y=>bT (catS y [58]) fun y=>bT (getT x0.6 acc.2.1) fun y_3=>bT (bT (Yu y_3) fun y=>some y) fun y_4=>bT (catS y y_4) fun y=>self (y,Go.IntKind.i64.wrap (acc.2.1+1),()) else some acc.1
theorem Zhs (L:Nat)(x0:Yo):Wp L (x0,())=bT (XR L (x0,())) fun y=>bif y != 0 then some [] else bif x0.1==1 then bT (Yu x0.2) fun y=>bT (catS [99,111,110,115,116,32] y) fun y=>some y else bif x0.1==2 then bT (bT (Yu x0.2) fun y=>some y) fun y=>bT (catS [117,110,105,102,111,114,109,32] y) fun y=>bT (catS y [32]) fun y=>bT (bT (Yu x0.3) fun y=>some y) fun y_1=>bT (catS y y_1) fun y=>some y else bif x0.1==4 then bT (bT (Yu x0.4) fun y=>some y) fun y=>bT (catS [115,117,109,32] y) fun y=>bT (catS y [32]) fun y=>bT (bT (Yu x0.2) fun y=>some y) fun y_1=>bT (catS y y_1) fun y=>bT (catS y [32]) fun y=>bT (bT (Yu x0.3) fun y=>some y) fun y_2=>bT (catS y y_2) fun y=>some y else bif x0.1==5 then bT (bT (Yu x0.2) fun y=>some y) fun y=>bT (catS [103,101,111,109,32] y) fun y=>bT (catS y [32]) fun y=>bT (bT (Yu x0.3) fun y=>some y) fun y_1=>bT (catS y y_1) fun y=>some y else loopT (GZ x0) L ([116,97,98,108,101],0,()):=by kernel_rfl
def ZM (L:Nat)(x:Zl×PUnit):Option (List UInt8):=fT [Zbz L,Nh L,MJ L] L NL [] (.one .str) [.row 9] x
def TN (L:Nat):Sum tT:=mU 85 [.row 9] (.one .str) (ZM L)
theorem Sm:SX TN:=fun h=>sT h (Zb (ZhI h) (Zb (Zbp h) (Zb (Na h) Zo))) rfl (by kernel_rfl) fun _=>rfl
theorem ZY (L:Nat)(x0:Zl):ZM L (x0,())=bif x0.E.1 != 0 then bT (QG L (x0.4,())) fun y=>bif x0.1==1 then bT (catS [115,101,116,32] x0.2) fun y_1=>bT (catS y_1 [32,61,32]) fun y_2=>bT (catS y_2 y) fun y=>some y else bif x0.1==2 then bT (catS [100,114,97,119,32] x0.2) fun y=>bT (catS y [32,102,114,111,109,32]) fun y=>bT (catS y x0.3) fun y=>bT (catS y [32]) fun y=>bT (bT (Wp L (x0.7,())) fun y=>some y) fun y_1=>bT (catS y y_1) fun y=>some y else bif x0.1==5 then bT (catS [104,111,108,100,32] y) fun y=>some y else bif x0.1==6 then bT (catS [115,101,105,122,101,32] x0.2) fun y_1=>bT (catS y_1 [32]) fun y_2=>bT (catS y_2 y) fun y=>bT (catS y [32,112,114,105,111,32]) fun y=>bT (bT (QG L (x0.5,())) fun y=>some y) fun y_3=>bT (catS y y_3) fun y=>bif x0.8 then bT (catS y [32,112,114,101,101,109,112,116]) fun y=>some y else some y else bif x0.1==7 then bT (catS [114,101,108,101,97,115,101,32] x0.2) fun y_1=>bT (catS y_1 [32]) fun y_2=>bT (catS y_2 y) fun y=>some y else bif x0.1==8 then bT (catS [112,117,116,32] y) fun y=>bT (catS y [32,105,110,116,111,32]) fun y=>bT (catS y x0.2) fun y=>some y else bif x0.1==9 then bT (catS [103,101,116,32] x0.3) fun y=>bT (catS y [32,102,114,111,109,32]) fun y=>bT (catS y x0.2) fun y=>some y else bif x0.1==10 then bT (catS [114,105,100,101,32] x0.2) fun y=>some y else bif x0.1==11 then bT (catS [119,97,105,116,32] x0.2) fun y=>some y else bif x0.1==12 then bT (catS [115,105,103,110,97,108,32] x0.2) fun y_1=>bT (catS y_1 [32]) fun y_2=>bT (catS y_2 y) fun y=>some y else bif x0.1==13 then bT (catS [115,101,110,100,32] x0.3) fun y_1=>bT (catS y_1 [46]) fun y_2=>bT (catS y_2 x0.2) fun y_3=>bT (catS y_3 [32]) fun y_4=>bT (bT (Uw L (x0.6,())) fun y=>some y) fun y_5=>bT (catS y_4 y_5) fun y_6=>bT (catS y_6 [32,97,102,116,101,114,32]) fun y_7=>bT (catS y_7 y) fun y=>some y else bif x0.1==14 then bT (catS [115,112,97,119,110,32] x0.2) fun y_1=>bT (catS y_1 [32]) fun y_2=>bT (bT (Uw L (x0.6,())) fun y=>some y) fun y_3=>bT (catS y_2 y_3) fun y_4=>bT (catS y_4 [32,97,102,116,101,114,32]) fun y_5=>bT (catS y_5 y) fun y=>some y else bif x0.1==15 then bT (catS [111,98,115,101,114,118,101,32] x0.2) fun y_1=>bT (catS y_1 [32]) fun y_2=>bT (catS y_2 y) fun y=>some y else bif x0.1==16 then bT (catS [108,101,118,101,108,32] x0.2) fun y_1=>bT (catS y_1 [32]) fun y_2=>bT (catS y_2 y) fun y=>some y else bif x0.1==17 then bT (catS [97,100,100,32] x0.2) fun y_1=>bT (catS y_1 [32]) fun y_2=>bT (catS y_2 y) fun y=>some y else some [115,116,111,112] else bif x0.1==1 then bT (catS [115,101,116,32] x0.2) fun y=>bT (catS y [32,61,32]) fun y=>bT (catS y []) fun y=>some y else bif x0.1==2 then bT (catS [100,114,97,119,32] x0.2) fun y=>bT (catS y [32,102,114,111,109,32]) fun y=>bT (catS y x0.3) fun y=>bT (catS y [32]) fun y=>bT (bT (Wp L (x0.7,())) fun y=>some y) fun y_1=>bT (catS y y_1) fun y=>some y else bif x0.1==5 then bT (catS [104,111,108,100,32] []) fun y=>some y else bif x0.1==6 then bT (catS [115,101,105,122,101,32] x0.2) fun y=>bT (catS y [32]) fun y=>bT (catS y []) fun y=>bT (catS y [32,112,114,105,111,32]) fun y=>bT (bT (QG L (x0.5,())) fun y=>some y) fun y_1=>bT (catS y y_1) fun y=>bif x0.8 then bT (catS y [32,112,114,101,101,109,112,116]) fun y=>some y else some y else bif x0.1==7 then bT (catS [114,101,108,101,97,115,101,32] x0.2) fun y=>bT (catS y [32]) fun y=>bT (catS y []) fun y=>some y else bif x0.1==8 then bT (catS [112,117,116,32] []) fun y=>bT (catS y [32,105,110,116,111,32]) fun y=>bT (catS y x0.2) fun y=>some y else bif x0.1==9 then bT (catS [103,101,116,32] x0.3) fun y=>bT (catS y [32,102,114,111,109,32]) fun y=>bT (catS y x0.2) fun y=>some y else bif x0.1==10 then bT (catS [114,105,100,101,32] x0.2) fun y=>some y else bif x0.1==11 then bT (catS [119,97,105,116,32] x0.2) fun y=>some y else bif x0.1==12 then bT (catS [115,105,103,110,97,108,32] x0.2) fun y=>bT (catS y [32]) fun y=>bT (catS y []) fun y=>some y else bif x0.1==13 then bT (catS [115,101,110,100,32] x0.3) fun y=>bT (catS y [46]) fun y=>bT (catS y x0.2) fun y=>bT (catS y [32]) fun y=>bT (bT (Uw L (x0.6,())) fun y=>some y) fun y_1=>bT (catS y y_1) fun y=>bT (catS y [32,97,102,116,101,114,32]) fun y=>bT (catS y []) fun y=>some y else bif x0.1==14 then bT (catS [115,112,97,119,110,32] x0.2) fun y=>bT (catS y [32]) fun y=>bT (bT (Uw L (x0.6,())) fun y=>some y) fun y_1=>bT (catS y y_1) fun y=>bT (catS y [32,97,102,116,101,114,32]) fun y=>bT (catS y []) fun y=>some y else bif x0.1==15 then bT (catS [111,98,115,101,114,118,101,32] x0.2) fun y=>bT (catS y [32]) fun y=>bT (catS y []) fun y=>some y else bif x0.1==16 then bT (catS [108,101,118,101,108,32] x0.2) fun y=>bT (catS y [32]) fun y=>bT (catS y []) fun y=>some y else bif x0.1==17 then bT (catS [97,100,100,32] x0.2) fun y=>bT (catS y [32]) fun y=>bT (catS y []) fun y=>some y else some [115,116,111,112]:=by kernel_rfl
def Zu (L:Nat)(x:Int×(List UInt8)×PUnit):Option (List UInt8):=fT [] L ZaT [.rnd [.slot 1 .str,.slot 5 (.int .i64)]] (.one .str) [.int .i64,.str] x
def WZ (L:Nat):Sum tT:=mU 47 [.int .i64,.str] (.one .str) (Zu L)
theorem QF:SX WZ:=fun h=>sT h Zo rfl (by kernel_rfl) fun _=>rfl
def Hl:Int→(List UInt8×Int×PUnit→Option (List UInt8))→List UInt8×Int×PUnit→Option (List UInt8):=fun x0 self acc=>bif decide (acc.2.1<x0) then bT (catS [32] acc.1) fun y=>self (y,Go.IntKind.i64.wrap (acc.2.1+1),()) else bT (catS acc.1 [10]) fun y=>some y
theorem Zh5 (L:Nat)(x0:Int)(x1:(List UInt8)):Zu L (x0,x1,())=loopT (Hl x0) L (x1,0,()):=by kernel_rfl
def TC (L:Nat):Nat→List (Sum tT)
 |0=>[⟨38,[.lst 21 (.row 9),.int .i64],fun _=>.par _ none ((.one (.str):RD).tv tT)⟩]
 |m+1=>[⟨38,[.lst 21 (.row 9),.int .i64],fun x=>.par _ (fnT tF tG (qOf tF (TC L m++[TN L,WZ L,MJ L])) 0 L Ro [.rnd [.slot 5 (.str),.slot 6 (.int .i64)]] (.one (.str)) (tvL tT [.lst 21 (.row 9),.int .i64] x) []) ((.one (.str):RD).tv tT)⟩]
theorem TD {C:Cfg}{L:Nat}(h:St C L):∀m,∀s∈TC L m,SumOk C s
 |0=>(Zb (YP _ _ _) Zo)
 |m+1=>have ih:=TD h m
  (Zb (sum_par ZE h.L h.G (qOf_ok ZE (Qb ih (Zb (Sm h) (Zb (QF h) (Zb (Na h) Zo))))) [.rnd [.slot 5 (.str),.slot 6 (.int .i64)]] (h.T _ _ rfl) (by kernel_rfl) fun _=>rfl) Zo)
def Qk (L m:Nat)(x:(List Zl)×Int×PUnit):Option ((List UInt8)):=fnT tF tG (qOf tF (TC L m++[TN L,WZ L,MJ L])) 0 L Ro [.rnd [.slot 5 (.str),.slot 6 (.int .i64)]] (.one (.str)) (tvL tT [.lst 21 (.row 9),.int .i64] x) []
def Iw (L:Nat)(x:(List Zl)×Int×PUnit):Option ((List UInt8)):=Qk L L x
def Zan (L:Nat):Sum tT:=⟨38,[.lst 21 (.row 9),.int .i64],fun x=>.par ((.one (.str):RD).Ty tT) (Iw L x) ((.one (.str):RD).tv tT)⟩
theorem ZfT {C:Cfg}{L:Nat}(h:St C L):SumOk C (Zan L):=have ih:=TD h L
 sum_par ZE h.L h.G (qOf_ok ZE (Qb ih (Zb (Sm h) (Zb (QF h) (Zb (Na h) Zo))))) [.rnd [.slot 5 (.str),.slot 6 (.int .i64)]] (h.T _ _ rfl) (by kernel_rfl) fun _=>rfl
def Va:Nat→List Zl→Int→Nat→(List UInt8×Int×PUnit→Option (List UInt8))→List UInt8×Int×PUnit→Option (List UInt8):=fun (m:Nat)=>fun x0 x1 L self acc=>bif decide (acc.2.1<(↑x0.length:Int)) then bT (getT x0 acc.2.1) fun y=>bif y.1==3 then bT (bT (QG L (y.4,())) fun y=>some y) fun y_1=>bT (catS [105,102,32] y_1) fun y_2=>bT (bT (Zu L (x1,y_2,())) fun y=>some y) fun y_3=>bT (catS acc.1 y_3) fun y_4=>bT (bT (Qk L m (y.9,Go.IntKind.i64.wrap (x1+1),())) fun y=>some y) fun y_5=>bT (catS y_4 y_5) fun y_6=>bif decide ((↑y.10.length:Int)>0) then bT (bT (Zu L (x1,[101,108,115,101],())) fun y=>some y) fun y_7=>bT (catS y_6 y_7) fun y_8=>bT (bT (Qk L m (y.10,Go.IntKind.i64.wrap (x1+1),())) fun y=>some y) fun y=>bT (catS y_8 y) fun y=>bT (Zu L (x1,[101,110,100],())) fun y_9=>bT (catS y y_9) fun y=>self (y,Go.IntKind.i64.wrap (acc.2.1+1),()) else bT (Zu L (x1,[101,110,100],())) fun y=>bT (catS y_6 y) fun y=>self (y,Go.IntKind.i64.wrap (acc.2.1+1),()) else bif y.1==4 then bT (bT (QG L (y.4,())) fun y=>some y) fun y_1=>bT (catS [119,104,105,108,101,32] y_1) fun y_2=>bT (bT (Zu L (x1,y_2,())) fun y=>some y) fun y_3=>bT (catS acc.1 y_3) fun y_4=>bT (bT (Qk L m (y.9,Go.IntKind.i64.wrap (x1+1),())) fun y=>some y) fun y=>bT (catS y_4 y) fun y=>bT (bT (Zu L (x1,[101,110,100],())) fun y=>some y) fun y_5=>bT (catS y y_5) fun y=>self (y,Go.IntKind.i64.wrap (acc.2.1+1),()) else bT (ZM L (y,())) fun y=>bT (Zu L (x1,y,())) fun y=>bT (catS acc.1 y) fun y=>self (y,Go.IntKind.i64.wrap (acc.2.1+1),()) else some acc.1
theorem Zf3 (L m:Nat)(x0:(List Zl))(x1:Int):Qk L (m+1) (x0,x1,())=loopT (Va m x0 x1 L) L ([],0,()):=by kernel_rfl
def Io (L:Nat)(x:Zl×YD×PUnit):Option Int:=fT [CX L] L EM [.rnd [.slot 5 (.int .i64),.slot 6 (.int .i64)]] (.one (.int .i64)) [.row 9,.row 19] x
def Zad (L:Nat):Sum tT:=mU 249 [.row 9,.row 19] (.one (.int .i64)) (Io L)
theorem ZfK:SX Zad:=fun h=>sT h (Zb (ZfE h) Zo) rfl (by kernel_rfl) fun _=>rfl
def We:Zl→Nat→(Int×Int×PUnit→Option Int)→Int×Int×PUnit→Option Int:=fun x0 L self acc=>bif acc.1==0&&decide (acc.2.1<(↑x0.6.length:Int)) then bT (getT x0.6 acc.2.1) fun y=>bT (YI L (y,())) fun y=>self (y,Go.IntKind.i64.wrap (acc.2.1+1),()) else some acc.1
def NT:Zl→Nat→(Int×Int×PUnit→Option Int)→Int×Int×PUnit→Option Int:=fun x0 L self acc=>bif acc.1==0&&decide (acc.2.1<(↑x0.6.length:Int)) then bT (getT x0.6 acc.2.1) fun y=>bT (YI L (y,())) fun y=>self (y,Go.IntKind.i64.wrap (acc.2.1+1),()) else some acc.1
def NU:Zl→Nat→(Int×Int×PUnit→Option Int)→Int×Int×PUnit→Option Int:=fun x0 L self acc=>bif acc.1==0&&decide (acc.2.1<(↑x0.6.length:Int)) then bT (getT x0.6 acc.2.1) fun y=>bT (YI L (y,())) fun y=>self (y,Go.IntKind.i64.wrap (acc.2.1+1),()) else some acc.1
def NV:Zl→Nat→(Int×Int×PUnit→Option Int)→Int×Int×PUnit→Option Int:=fun x0 L self acc=>bif acc.1==0&&decide (acc.2.1<(↑x0.6.length:Int)) then bT (getT x0.6 acc.2.1) fun y=>bT (YI L (y,())) fun y=>self (y,Go.IntKind.i64.wrap (acc.2.1+1),()) else some acc.1
def NW:Zl→Nat→(Int×Int×PUnit→Option Int)→Int×Int×PUnit→Option Int:=fun x0 L self acc=>bif acc.1==0&&decide (acc.2.1<(↑x0.6.length:Int)) then bT (getT x0.6 acc.2.1) fun y=>bT (YI L (y,())) fun y=>self (y,Go.IntKind.i64.wrap (acc.2.1+1),()) else some acc.1
def NY:Zl→Nat→(Int×Int×PUnit→Option Int)→Int×Int×PUnit→Option Int:=fun x0 L self acc=>bif acc.1==0&&decide (acc.2.1<(↑x0.6.length:Int)) then bT (getT x0.6 acc.2.1) fun y=>bT (YI L (y,())) fun y=>self (y,Go.IntKind.i64.wrap (acc.2.1+1),()) else some acc.1
def NZ:Zl→Nat→(Int×Int×PUnit→Option Int)→Int×Int×PUnit→Option Int:=fun x0 L self acc=>bif acc.1==0&&decide (acc.2.1<(↑x0.6.length:Int)) then bT (getT x0.6 acc.2.1) fun y=>bT (YI L (y,())) fun y=>self (y,Go.IntKind.i64.wrap (acc.2.1+1),()) else some acc.1
def Si:Zl→Nat→(Int×Int×PUnit→Option Int)→Int×Int×PUnit→Option Int:=fun x0 L self acc=>bif acc.1==0&&decide (acc.2.1<(↑x0.6.length:Int)) then bT (getT x0.6 acc.2.1) fun y=>bT (YI L (y,())) fun y=>self (y,Go.IntKind.i64.wrap (acc.2.1+1),()) else some acc.1
theorem Zfq (L:Nat)(x0:Zl)(x1:YD):Io L (x0,x1,())=bif x1.3 then bT (YI L (x0.4,())) fun y=>bif y==0&&x1.4 then bT (YI L (x0.5,())) fun y=>bif y==0&&decide ((↑x0.6.length:Int)>6) then loopT (We x0 L) L (6,0,()) else loopT (NT x0 L) L (y,0,()) else bif y==0&&decide ((↑x0.6.length:Int)>6) then loopT (NU x0 L) L (6,0,()) else loopT (NV x0 L) L (y,0,()) else bif 0==0&&x1.4 then bT (YI L (x0.5,())) fun y=>bif y==0&&decide ((↑x0.6.length:Int)>6) then loopT (NW x0 L) L (6,0,()) else loopT (NY x0 L) L (y,0,()) else bif 0==0&&decide ((↑x0.6.length:Int)>6) then loopT (NZ x0 L) L (6,0,()) else loopT (Si x0 L) L (0,0,()):=by kernel_rfl
def XG (L:Nat)(x:(List Int)×(List Int)×PUnit):Option Bool:=fT [] L Ls [.rnd [.slot 5 (.int .i64)]] (.one .bool) [.lst 1 (.int .i64),.lst 1 (.int .i64)] x
def LQ (L:Nat):Sum tT:=mU 131 [.lst 1 (.int .i64),.lst 1 (.int .i64)] (.one .bool) (XG L)
theorem Za9:SX LQ:=fun h=>sT h Zo rfl (by kernel_rfl) fun _=>rfl
def U6:List Int→List Int→(Int×PUnit→Option Bool)→Int×PUnit→Option Bool:=fun x0 x1 self acc=>bif decide (acc.1<(↑x0.length:Int)) then bT (getT x0 acc.1) fun y=>bT (getT x1 acc.1) fun y_1=>bif y != y_1 then some false else self (Go.IntKind.i64.wrap (acc.1+1),()) else some true
theorem Za2 (L:Nat)(x0:(List Int))(x1:(List Int)):XG L (x0,x1,())=bif (↑x0.length:Int) != (↑x1.length:Int) then some false else loopT (U6 x0 x1) L (0,()):=by kernel_rfl
def Ut (L:Nat)(x:Yo×Yo×PUnit):Option Bool:=fT [LQ L] L ZaJ [] (.one .bool) [.row 2,.row 2] x
def Nc (L:Nat):Sum tT:=mU 61 [.row 2,.row 2] (.one .bool) (Ut L)
theorem Zbo:SX Nc:=fun h=>sT h (Zb (Za9 h) Zo) rfl (by kernel_rfl) fun _=>rfl
theorem Zhr (L:Nat)(x0:Yo)(x1:Yo):Ut L (x0,x1,())=bT (bif (x0.1==x1.1&&x0.2==x1.2&&x0.3==x1.3&&x0.4==x1.4)==true then bT (XG L (x0.5,x1.5,())) fun y=>some y else some false) fun y=>bT (bif y==true then bT (XG L (x0.6,x1.6,())) fun y=>some y else some false) fun y=>some y:=by kernel_rfl
def Gy (L:Nat)(x:Zt×PUnit):Option Bool:=fT [] L ZaN [] (.one .bool) [.row 8] x
def Zbu (L:Nat):Sum tT:=mU 297 [.row 8] (.one .bool) (Gy L)
theorem ZhD:SX Zbu:=fun h=>sT h Zo rfl (by kernel_rfl) fun _=>rfl
theorem Zhy (L:Nat)(x0:Zt):Gy L (x0,())=some (x0.1==0&&x0.2==[]&&x0.3==0&&(↑x0.4.length:Int)==0):=by kernel_rfl
def PD (L:Nat)(x:Int×PUnit):Option (YD×Bool×PUnit):=fT [] L Zgi [] (.tup [.row 19,.bool]) [.int .i64] x
def ZcH (L:Nat):Sum tT:=mU 247 [.int .i64] (.tup [.row 19,.bool]) (PD L)
theorem ZgE:SX ZcH:=fun h=>sT h Zo rfl (by kernel_rfl) fun _=>rfl
theorem Zkx (L:Nat)(x0:Int):PD L (x0,())=bif x0==1 then some (YD.mk true false true false false false false false false,true,()) else bif x0==7 then some (YD.mk true false true false false false false false false,true,()) else bif x0==8 then some (YD.mk true false true false false false false false false,true,()) else bif x0==12 then some (YD.mk true false true false false false false false false,true,()) else bif x0==15 then some (YD.mk true false true false false false false false false,true,()) else bif x0==16 then some (YD.mk true false true false false false false false false,true,()) else bif x0==17 then some (YD.mk true false true false false false false false false,true,()) else bif x0==2 then some (YD.mk true true false false false true false false false,true,()) else bif x0==3 then some (YD.mk false false true false false false false true true,true,()) else bif x0==4 then some (YD.mk false false true false false false false true false,true,()) else bif x0==5 then some (YD.mk false false true false false false false false false,true,()) else bif x0==6 then some (YD.mk true false true true false false true false false,true,()) else bif x0==9 then some (YD.mk true true false false false false false false false,true,()) else bif x0==10 then some (YD.mk true false false false false false false false false,true,()) else bif x0==11 then some (YD.mk true false false false false false false false false,true,()) else bif x0==13 then some (YD.mk true true true false true false false false false,true,()) else bif x0==14 then some (YD.mk true false true false true false false false false,true,()) else bif x0==18 then some (YD.mk false false false false false false false false false,true,()) else some (YD.mk false false false false false false false false false,false,()):=by kernel_rfl
def KF (L:Nat)(x:Zl×PUnit):Option Bool:=fT [Nc L,Zbu L,ZcH L] L NH [] (.one .bool) [.row 9] x
def SL (L:Nat):Sum tT:=mU 248 [.row 9] (.one .bool) (KF L)
theorem Zej:SX SL:=fun h=>sT h (Zb (Zbo h) (Zb (ZhD h) (Zb (ZgE h) Zo))) rfl (by kernel_rfl) fun _=>rfl
theorem ZdO (L:Nat)(x0:Zl):KF L (x0,())=bT (PD L (x0.1,())) fun y=>bT (bif y.1.3==false then bT (Gy L (x0.4,())) fun y=>some y else some true) fun y_1=>bT (bif y_1==true then bif y.1.4==false then bT (Gy L (x0.5,())) fun y=>some y else some true else some false) fun y_2=>bT (bif (y.2.1&&((y.1.1||x0.2==[])&&(y.1.2||x0.3==[]))&&(y_2&&(y.1.5||(↑x0.6.length:Int)==0))&&((y.1.8||(↑x0.9.length:Int)==0)&&(y.1.9||(↑x0.10.length:Int)==0)))==true then bif y.1.6==false then bT (Ut L (x0.7,Yo.mk 0 0 0 0 [] [],())) fun y=>some y else some true else some false) fun y_3=>some (y_3&&(y.1.7||!x0.8)):=by kernel_rfl
def PE (L:Nat)(x:Zl×PUnit):Option Int:=fT [Ia L,Zad L,VX L,SL L,ZcH L] L ZcY [] (.one (.int .i64)) [.row 9] x
def Zae (L:Nat):Sum tT:=mU 158 [.row 9] (.one (.int .i64)) (PE L)
theorem Zek:SX Zae:=fun h=>sT h (Zb (RX h) (Zb (ZfK h) (Zb (UE h) (Zb (Zej h) (Zb (ZgE h) Zo))))) rfl (by kernel_rfl) fun _=>rfl
theorem ZiX (L:Nat)(x0:Zl):PE L (x0,())=bT (PD L (x0.1,())) fun y=>bT (KF L (x0,())) fun y_1=>bif !y_1 then some 1 else bT (bif y.1.1==true then bT (Qy L (x0.2,())) fun y=>some (y != 0) else some false) fun y_2=>bT (bif y_2==false then bif y.1.2==true then bT (Qy L (x0.3,())) fun y=>some (y != 0) else some false else some true) fun y_3=>bif y_3 then some 3 else bT (Io L (x0,y.1,())) fun y_4=>bif y_4==0&&y.1.6 then bT (XR L (x0.7,())) fun y=>some y else some y_4:=by kernel_rfl
def Bg (L:Nat):Nat→List (Sum tT)
 |0=>[⟨84,[.lst 21 (.row 9)],fun _=>.par _ none ((.one (.int .i64):RD).tv tT)⟩]
 |m+1=>[⟨84,[.lst 21 (.row 9)],fun x=>.par _ (fnT tF tG (qOf tF (Bg L m++[Zae L])) 0 L PL [.rnd [.slot 3 (.int .i64)]] (.one (.int .i64)) (tvL tT [.lst 21 (.row 9)] x) []) ((.one (.int .i64):RD).tv tT)⟩]
theorem LK {C:Cfg}{L:Nat}(h:St C L):∀m,∀s∈Bg L m,SumOk C s
 |0=>(Zb (YP _ _ _) Zo)
 |m+1=>have ih:=LK h m
  (Zb (sum_par ZE h.L h.G (qOf_ok ZE (Qb ih (Zb (Zek h) Zo))) [.rnd [.slot 3 (.int .i64)]] (h.T _ _ rfl) (by kernel_rfl) fun _=>rfl) Zo)
def Jd (L m:Nat)(x:(List Zl)×PUnit):Option (Int):=fnT tF tG (qOf tF (Bg L m++[Zae L])) 0 L PL [.rnd [.slot 3 (.int .i64)]] (.one (.int .i64)) (tvL tT [.lst 21 (.row 9)] x) []
def Nq (L:Nat)(x:(List Zl)×PUnit):Option (Int):=Jd L L x
def Zbt (L:Nat):Sum tT:=⟨84,[.lst 21 (.row 9)],fun x=>.par ((.one (.int .i64):RD).Ty tT) (Nq L x) ((.one (.int .i64):RD).tv tT)⟩
theorem ZhC {C:Cfg}{L:Nat}(h:St C L):SumOk C (Zbt L):=have ih:=LK h L
 sum_par ZE h.L h.G (qOf_ok ZE (Qb ih (Zb (Zek h) Zo))) [.rnd [.slot 3 (.int .i64)]] (h.T _ _ rfl) (by kernel_rfl) fun _=>rfl
def RJ:Nat→List Zl→Nat→(Int×PUnit→Option Int)→Int×PUnit→Option Int:=fun (m:Nat)=>fun x0 L self acc=>bif decide (acc.1<(↑x0.length:Int)) then bT (getT x0 acc.1) fun y=>bT (PE L (y,())) fun y=>bif y==0 then bT (getT x0 acc.1) fun y=>bT (Jd L m (y.9,())) fun y=>bif y==0 then bT (getT x0 acc.1) fun y=>bT (Jd L m (y.10,())) fun y=>bif y != 0 then some y else self (Go.IntKind.i64.wrap (acc.1+1),()) else bif y != 0 then some y else self (Go.IntKind.i64.wrap (acc.1+1),()) else bif y==0 then bT (getT x0 acc.1) fun y=>bT (Jd L m (y.10,())) fun y=>bif y != 0 then some y else self (Go.IntKind.i64.wrap (acc.1+1),()) else bif y != 0 then some y else self (Go.IntKind.i64.wrap (acc.1+1),()) else some 0
theorem Zhx (L m:Nat)(x0:(List Zl)):Jd L (m+1) (x0,())=loopT (RJ m x0 L) L (0,()):=by kernel_rfl
def TA (L:Nat):Nat→List (Sum tT)
 |0=>[⟨83,[.lst 21 (.row 9)],fun _=>.par _ none ((.one (.int .i64):RD).tv tT)⟩]
 |m+1=>[⟨83,[.lst 21 (.row 9)],fun x=>.par _ (fnT tF tG (qOf tF (TA L m++[])) 0 L Rn [.rnd [.slot 3 (.int .i64),.slot 4 (.int .i64)]] (.one (.int .i64)) (tvL tT [.lst 21 (.row 9)] x) []) ((.one (.int .i64):RD).tv tT)⟩]
theorem TB {C:Cfg}{L:Nat}(h:St C L):∀m,∀s∈TA L m,SumOk C s
 |0=>(Zb (YP _ _ _) Zo)
 |m+1=>have ih:=TB h m
  (Zb (sum_par ZE h.L h.G (qOf_ok ZE (Qb ih Zo)) [.rnd [.slot 3 (.int .i64),.slot 4 (.int .i64)]] (h.T _ _ rfl) (by kernel_rfl) fun _=>rfl) Zo)
def JC (L m:Nat)(x:(List Zl)×PUnit):Option (Int):=fnT tF tG (qOf tF (TA L m++[])) 0 L Rn [.rnd [.slot 3 (.int .i64),.slot 4 (.int .i64)]] (.one (.int .i64)) (tvL tT [.lst 21 (.row 9)] x) []
def BF (L:Nat)(x:(List Zl)×PUnit):Option (Int):=JC L L x
def Zac (L:Nat):Sum tT:=⟨83,[.lst 21 (.row 9)],fun x=>.par ((.one (.int .i64):RD).Ty tT) (BF L x) ((.one (.int .i64):RD).tv tT)⟩
theorem ZfJ {C:Cfg}{L:Nat}(h:St C L):SumOk C (Zac L):=have ih:=TB h L
 sum_par ZE h.L h.G (qOf_ok ZE (Qb ih Zo)) [.rnd [.slot 3 (.int .i64),.slot 4 (.int .i64)]] (h.T _ _ rfl) (by kernel_rfl) fun _=>rfl
def OT:Nat→List Zl→Nat→(Int×Int×PUnit→Option Int)→Int×Int×PUnit→Option Int:=fun (m:Nat)=>fun x0 L self acc=>bif decide (acc.2.1<(↑x0.length:Int)) then bT (getT x0 acc.2.1) fun y=>bT (bT (JC L m (y.9,())) fun y=>some y) fun y=>bT (getT x0 acc.2.1) fun y_1=>bT (bT (JC L m (y_1.10,())) fun y=>some y) fun y_2=>self (if Go.IntKind.i64.wrap (1+y_2)>if Go.IntKind.i64.wrap (1+y)>acc.1 then Go.IntKind.i64.wrap (1+y) else acc.1 then Go.IntKind.i64.wrap (1+y_2) else if Go.IntKind.i64.wrap (1+y)>acc.1 then Go.IntKind.i64.wrap (1+y) else acc.1,Go.IntKind.i64.wrap (acc.2.1+1),()) else some acc.1
theorem Zfp (L m:Nat)(x0:(List Zl)):JC L (m+1) (x0,())=loopT (OT m x0 L) L (0,0,()):=by kernel_rfl
def Tv (L:Nat):Nat→List (Sum tT)
 |0=>[⟨82,[.lst 21 (.row 9)],fun _=>.par _ none ((.one (.int .i64):RD).tv tT)⟩]
 |m+1=>[⟨82,[.lst 21 (.row 9)],fun x=>.par _ (fnT tF tG (qOf tF (Tv L m++[])) 0 L Rl [.rnd [.slot 3 (.int .i64),.slot 4 (.int .i64)]] (.one (.int .i64)) (tvL tT [.lst 21 (.row 9)] x) []) ((.one (.int .i64):RD).tv tT)⟩]
theorem Tz {C:Cfg}{L:Nat}(h:St C L):∀m,∀s∈Tv L m,SumOk C s
 |0=>(Zb (YP _ _ _) Zo)
 |m+1=>have ih:=Tz h m
  (Zb (sum_par ZE h.L h.G (qOf_ok ZE (Qb ih Zo)) [.rnd [.slot 3 (.int .i64),.slot 4 (.int .i64)]] (h.T _ _ rfl) (by kernel_rfl) fun _=>rfl) Zo)
def JB (L m:Nat)(x:(List Zl)×PUnit):Option (Int):=fnT tF tG (qOf tF (Tv L m++[])) 0 L Rl [.rnd [.slot 3 (.int .i64),.slot 4 (.int .i64)]] (.one (.int .i64)) (tvL tT [.lst 21 (.row 9)] x) []
def BD (L:Nat)(x:(List Zl)×PUnit):Option (Int):=JB L L x
def Zab (L:Nat):Sum tT:=⟨82,[.lst 21 (.row 9)],fun x=>.par ((.one (.int .i64):RD).Ty tT) (BD L x) ((.one (.int .i64):RD).tv tT)⟩
theorem ZfI {C:Cfg}{L:Nat}(h:St C L):SumOk C (Zab L):=have ih:=Tz h L
 sum_par ZE h.L h.G (qOf_ok ZE (Qb ih Zo)) [.rnd [.slot 3 (.int .i64),.slot 4 (.int .i64)]] (h.T _ _ rfl) (by kernel_rfl) fun _=>rfl
def OQ:Nat→List Zl→Nat→(Int×Int×PUnit→Option Int)→Int×Int×PUnit→Option Int:=fun (m:Nat)=>fun x0 L self acc=>bif decide (acc.2.1<(↑x0.length:Int)) then bT (getT x0 acc.2.1) fun y=>bT (bT (JB L m (y.9,())) fun y=>some y) fun y=>bT (getT x0 acc.2.1) fun y_1=>bT (bT (JB L m (y_1.10,())) fun y=>some y) fun y_2=>self (Go.IntKind.i64.wrap (Go.IntKind.i64.wrap (Go.IntKind.i64.wrap (acc.1+1)+y)+y_2),Go.IntKind.i64.wrap (acc.2.1+1),()) else some acc.1
theorem Zfo (L m:Nat)(x0:(List Zl)):JB L (m+1) (x0,())=loopT (OQ m x0 L) L (0,0,()):=by kernel_rfl
def Il (L:Nat)(x:(List Zl)×PUnit):Option Int:=fT [Zbt L,Zac L,Zab L] L EL [] (.one (.int .i64)) [.lst 21 (.row 9)] x
def Zaa (L:Nat):Sum tT:=mU 36 [.lst 21 (.row 9)] (.one (.int .i64)) (Il L)
theorem ZfH:SX Zaa:=fun h=>sT h (Zb (ZhC h) (Zb (ZfJ h) (Zb (ZfI h) Zo))) rfl (by kernel_rfl) fun _=>rfl
theorem Zfn (L:Nat)(x0:(List Zl)):Il L (x0,())=bT (BD L (x0,())) fun y=>bif decide (y>200) then some 6 else bT (BF L (x0,())) fun y=>bif decide (y>12) then some 11 else bT (Nq L (x0,())) fun y=>some y:=by kernel_rfl
def ZbK:List (Inl tT):=[⟨147,QI,[.rnd [.slot 5 (.own 1 (.str)),.slot 10 (.int .i64)]],.one (.str),[]⟩]
def J7 (L:Nat)(x:(List Zt)×PUnit):Option (List UInt8):=fI [TJ,Qh L] L ZbK NC [] (.one .str) [.lst 4 (.row 8)] x
def Xc (L:Nat):Sum tT:=mU 157 [.lst 4 (.row 8)] (.one .str) (J7 L)
theorem Ku:SX Xc:=fun h=>sI h (Zb (Sj h) (Zb (Jz h) Zo)) (Zb ⟨h.T _ _ rfl,by kernel_rfl⟩ Zo) rfl (by kernel_rfl) fun _=>rfl
def DU:List Zt→Nat→(List (List UInt8)×Int×PUnit→Option (List UInt8))→List (List UInt8)×Int×PUnit→Option (List UInt8):=fun x0 L self acc=>bif decide (acc.2.1<(↑x0.length:Int)) then bT (getT x0 acc.2.1) fun y=>bT (ZP L (y,())) fun y=>bT (apT 16 acc.1 [y]) fun y=>self (y,Go.IntKind.i64.wrap (acc.2.1+1),()) else bT (ZbM acc.1 [44,32]) fun y=>some y
theorem ZdI (L:Nat)(x0:(List Zt)):J7 L (x0,())=bT (loopT (DU x0 L) L ([],0,())) fun y=>bT (catS [40] y) fun y=>bT (catS y [41]) fun y=>some y:=by kernel_rfl
def Zc (L:Nat)(x:(List (List UInt8))×PUnit)(c:(List UInt8×Int)):Option (PUnit×(List UInt8×Int)):=(fnE tF tG (orQ (bufQ 80 5 0 93 999998 81 999999) (orQ (bufQ 82 5 1 93 999998 81 80) (qOf tF [TJ,Zn7]))) L Vm [] (.tup []) (OD.la (.cont (.bufi 82 5):OD)) (.loc 0 0::tvL tT [.lst 1 (.str)] x) [OD.to tT 82 0 (.cont (.bufi 82 5):OD) c]).map fun p=>(p.1,OD.un tT (.cont (.bufi 82 5):OD) p.2)
def Zy (L:Nat):SumE tT:=⟨40,82,(.cont (.bufi 82 5):OD),[.lst 1 (.str)],.tup [],Zc L⟩
theorem ZA {C:Cfg}{L:Nat}(h:St C L):QS tF (evalCall C) (eQ tF [Zy L]):=sumE_ok ZE h.L h.G (orQ_ok (bufQ_ok h.buf0) (orQ_ok (bufQ_ok h.buf1) (qOf_ok ZE (Zb (Sj h) (Zb (Zo4 h) Zo))))) [] rfl (h.T _ _ rfl) (by kernel_rfl) fun _ _=>rfl
theorem GX (L:Nat)(x0:(List (List UInt8)))(c:(List UInt8×Int)):Zc L (x0,()) c=bT (bT (bT (ZnC [32] c.2) fun y=>some y) fun y=>bT (bT (ZbM x0 [32]) fun y=>some y) fun y_1=>bT (catS y y_1) fun y=>bT (catS y [10]) fun y=>bT (catB c.1 y) fun y=>some ((),(y,c.2),())) fun y=>some (y.1,y.snd.1):=by kernel_rfl
def Qw (L:Nat)(x:(List UInt8)×(List Int)×PUnit):Option (List UInt8):=fT [UL] L BI [.rnd [.slot 0 .str,.slot 9 (.int .i64)]] (.one .str) [.str,.lst 1 (.int .i64)] x
def Pn (L:Nat):Sum tT:=mU 244 [.str,.lst 1 (.int .i64)] (.one .str) (Qw L)
theorem Zcy:SX Pn:=fun h=>sT h (Zb (IJ h) Zo) rfl (by kernel_rfl) fun _=>rfl
def KO:List Int→(List UInt8×Int×PUnit→Option (List UInt8))→List UInt8×Int×PUnit→Option (List UInt8):=fun x1 self acc=>bif decide (acc.2.1<(↑x1.length:Int)) then bT (getT x1 acc.2.1) fun y=>bT (Yu y) fun y=>bT (catS [32] y) fun y=>bT (catS acc.1 y) fun y=>self (y,Go.IntKind.i64.wrap (acc.2.1+1),()) else some acc.1
theorem Zcb (L:Nat)(x0:(List UInt8))(x1:(List Int)):Qw L (x0,x1,())=loopT (KO x1) L (x0,0,()):=by kernel_rfl
def Zau:List (Inl tT):=[⟨324,WW,[],.one (.bool),[]⟩,⟨335,QM,[.rnd [.slot 8 (.int .i64)]],.one (.int .i64),[]⟩,⟨325,Ol,[],.one (.bool),[]⟩]
def Y0 (L:Nat)(x:Int×Int×(List Int)×PUnit):Option Bool:=fI [] L Zau BK [] (.one .bool) [.int .i64,.int .i64,.lst 1 (.int .i64)] x
def Pq (L:Nat):Sum tT:=mU 296 [.int .i64,.int .i64,.lst 1 (.int .i64)] (.one .bool) (Y0 L)
theorem Zc0:SX Pq:=fun h=>sI h Zo (Zb ⟨h.T _ _ rfl,by kernel_rfl⟩ (Zb ⟨h.T _ _ rfl,by kernel_rfl⟩ (Zb ⟨h.T _ _ rfl,by kernel_rfl⟩ Zo))) rfl (by kernel_rfl) fun _=>rfl
def Je:Int→Int→List Int→(Int×PUnit→Option Int)→Int×PUnit→Option Int:=fun x0 x1 x2 self acc=>bif decide (acc.1<(↑x2.length:Int)) then bT (getT x2 acc.1) fun y=>bif decide (y<x0)||decide (y>x1) then some acc.1 else self (Go.IntKind.i64.wrap (acc.1+1),()) else some (-1)
theorem Zcd (L:Nat)(x0:Int)(x1:Int)(x2:(List Int)):Y0 L (x0,x1,x2,())=bT (bT (loopT (Je x0 x1 x2) L (0,())) fun y=>some (decide (y≥0))) fun y=>some !y:=by kernel_rfl
def Ud (L:Nat)(x:Yo×PUnit):Option Bool:=fT [] L BJ [] (.one .bool) [.row 2] x
def Po (L:Nat):Sum tT:=mU 295 [.row 2] (.one .bool) (Ud L)
theorem Zcz:SX Po:=fun h=>sT h Zo rfl (by kernel_rfl) fun _=>rfl
theorem Zcc (L:Nat)(x0:Yo):Ud L (x0,())=bif x0.1==1 then some (Go.IntKind.i64.wrap ((↑x0.5.length:Int)+(↑x0.6.length:Int))==0&&x0.3==0&&x0.4==0) else bif x0.1==2 then some (Go.IntKind.i64.wrap ((↑x0.5.length:Int)+(↑x0.6.length:Int))==0&&x0.4==0) else bif x0.1==5 then some (Go.IntKind.i64.wrap ((↑x0.5.length:Int)+(↑x0.6.length:Int))==0&&x0.4==0) else bif x0.1==4 then some (Go.IntKind.i64.wrap ((↑x0.5.length:Int)+(↑x0.6.length:Int))==0) else bif x0.1==3 then some (x0.2==0&&x0.3==0&&x0.4==0) else some false:=by kernel_rfl
def Xe (L:Nat)(x:Yo×PUnit):Option Int:=fT [Pq L,Po L] L Nr [] (.one (.int .i64)) [.row 2] x
def Kv (L:Nat):Sum tT:=mU 243 [.row 2] (.one (.int .i64)) (Xe L)
theorem Tc:SX Kv:=fun h=>sT h (Zb (Zc0 h) (Zb (Zcz h) Zo)) rfl (by kernel_rfl) fun _=>rfl
theorem Zd8 (L:Nat)(x0:Yo):Xe L (x0,())=bT (Ud L (x0,())) fun y=>bif !y then some 1 else bif x0.1==1 then bT (Y0 L (0,1000000000,[x0.2],())) fun y=>bif !y then some 2 else some 0 else bif x0.1==2 then bT (Y0 L (0,1000000000,[x0.2,x0.3],())) fun y=>bif !(y&&decide (x0.2≤x0.3)) then some 2 else some 0 else bif x0.1==4 then bT (Y0 L (1,20,[x0.4],())) fun y=>bT (bif y==true then bT (Y0 L (0,1000000,[x0.2,x0.3],())) fun y=>some y else some false) fun y=>bif !(y&&decide (x0.2≤x0.3)) then some 2 else some 0 else bif x0.1==5 then bT (Y0 L (1,1000,[x0.2,x0.3],())) fun y=>bif !y then some 2 else some 0 else bif x0.1==3 then bif (↑x0.5.length:Int) != (↑x0.6.length:Int) then some 8 else bif (↑x0.5.length:Int)==0 then some 7 else bif decide ((↑x0.5.length:Int)>20) then some 6 else bT (Y0 L (0,1000000000,x0.5,())) fun y=>bT (bif y==true then bT (Y0 L (1,1000,x0.6,())) fun y=>some y else some false) fun y=>bif !y then some 2 else some 0 else some 2:=by kernel_rfl
def YT (L:Nat)(x:Yo×PUnit):Option ((List UInt8)):=fnT tF tG (orQ (bufQ 80 5 0 93 999998 81 999999) (orQ (bufQ 82 5 1 93 999998 81 80) (qOf tF [UL,Pn L,Kv L]))) 0 L ED [.rnd [.slot 52 (.int .i64),.cont 1 (.buf 80 5)]] (.one (.str)) (tvL tT [.row 2] x) []
def Xb (L:Nat):Sum tT:=⟨155,[.row 2],fun x=>.par ((.one (.str):RD).Ty tT) (YT L x) ((.one (.str):RD).tv tT)⟩
theorem UC {C:Cfg}{L:Nat}(h:St C L):SumOk C (Xb L):=sum_par ZE h.L h.G (orQ_ok (bufQ_ok h.buf0) (orQ_ok (bufQ_ok h.buf1) (qOf_ok ZE (Zb (IJ h) (Zb (Zcy h) (Zb (Tc h) Zo)))))) [.rnd [.slot 52 (.int .i64),.cont 1 (.buf 80 5)]] (h.T _ _ rfl) (by kernel_rfl) fun _=>rfl
def UX:Yo→(Int×List UInt8×PUnit→Option (List UInt8))→Int×List UInt8×PUnit→Option (List UInt8):=fun x0 self acc=>bif decide (acc.1<(↑x0.5.length:Int)) then bT (getT x0.5 acc.1) fun y=>bT (bT (Yu y) fun y=>some y) fun y=>bT (catS [32] y) fun y=>bT (catS y [58]) fun y=>bT (getT x0.6 acc.1) fun y_1=>bT (bT (Yu y_1) fun y=>some y) fun y_2=>bT (catS y y_2) fun y=>bT (catB acc.2.1 y) fun y=>self (Go.IntKind.i64.wrap (acc.1+1),y,()) else some acc.2.1
theorem Zfd (L:Nat)(x0:Yo):YT L (x0,())=bT (Xe L (x0,())) fun y=>bif y != 0 then some [] else bif x0.1==1 then bT (Qw L ([99,111,110,115,116],[x0.2],())) fun y=>some y else bif x0.1==2 then bT (Qw L ([117,110,105,102,111,114,109],[x0.2,x0.3],())) fun y=>some y else bif x0.1==4 then bT (Qw L ([115,117,109],[x0.4,x0.2,x0.3],())) fun y=>some y else bif x0.1==5 then bT (Qw L ([103,101,111,109],[x0.2,x0.3],())) fun y=>some y else bT (catB [] [116,97,98,108,101]) fun y=>loopT (UX x0) L (0,y,()):=by kernel_rfl
def X8:List (Inl tT):=[⟨246,Xo,[],.tup [],[(3,[.cont 0 (.bufi 82 5)])]⟩,⟨41,Yx,[],.tup [],[(3,[.cont 0 (.bufi 82 5)])]⟩,⟨245,Xn,[],.tup [],[(3,[.cont 0 (.bufi 82 5)])]⟩]
def ZK (L:Nat):Nat→List (SumE tT)
 |0=>[⟨156,82,(.cont (.bufi 82 5):OD),[.str,.row 9],.tup [],fun _ _=>none⟩,⟨79,82,(.cont (.bufi 82 5):OD),[.row 9],.tup [],fun _ _=>none⟩,⟨34,82,(.cont (.bufi 82 5):OD),[.lst 21 (.row 9)],.tup [],fun _ _=>none⟩]
 |m+1=>[⟨156,82,(.cont (.bufi 82 5):OD),[.str,.row 9],.tup [],fun x c=>(fnE tF tG (stackQ tF tG (orQ (eQ tF [Zy L]) (orQ (eQ tF (ZK L m)) (qOf tF [Qh L,Xc L,Xb L]))) L X8 8) L WU [] (.tup []) (OD.la (.cont (.bufi 82 5):OD)) (.loc 0 0::tvL tT [.str,.row 9] x) [OD.to tT 82 0 (.cont (.bufi 82 5):OD) c]).map fun p=>(p.1,OD.un tT (.cont (.bufi 82 5):OD) p.2)⟩,⟨79,82,(.cont (.bufi 82 5):OD),[.row 9],.tup [],fun x c=>(fnE tF tG (orQ (eQ tF [Zy L]) (orQ (eQ tF (ZK L m)) (qOf tF [Qh L,Xc L,Xb L]))) L Ql [] (.tup []) (OD.la (.cont (.bufi 82 5):OD)) (.loc 0 0::tvL tT [.row 9] x) [OD.to tT 82 0 (.cont (.bufi 82 5):OD) c]).map fun p=>(p.1,OD.un tT (.cont (.bufi 82 5):OD) p.2)⟩,⟨34,82,(.cont (.bufi 82 5):OD),[.lst 21 (.row 9)],.tup [],fun x c=>(fnE tF tG (orQ (eQ tF [Zy L]) (orQ (eQ tF (ZK L m)) (qOf tF [Qh L,Xc L,Xb L]))) L WV [.rnd [.slot 8 (.int .i64),.cont 0 (.bufi 82 5)]] (.tup []) (OD.la (.cont (.bufi 82 5):OD)) (.loc 0 0::tvL tT [.lst 21 (.row 9)] x) [OD.to tT 82 0 (.cont (.bufi 82 5):OD) c]).map fun p=>(p.1,OD.un tT (.cont (.bufi 82 5):OD) p.2)⟩]
theorem WP {C:Cfg}{L:Nat}(h:St C L):∀m,QS tF (evalCall C) (eQ tF (ZK L m))
 |0=>(eQ_cons sumE_none (eQ_cons sumE_none (eQ_cons sumE_none eQ_nil)))
 |m+1=>have ih:=WP h m
  (eQ_cons (sumE_ok ZE h.L h.G (stackQ_ok ZE h.L h.G (orQ_ok (eQ_cons (ZA h) eQ_nil) (orQ_ok ih (qOf_ok ZE (Zb (Jz h) (Zb (Ku h) (Zb (UC h) Zo)))))) (Zb ⟨h.T _ _ rfl,by kernel_rfl⟩ (Zb ⟨h.T _ _ rfl,by kernel_rfl⟩ (Zb ⟨h.T _ _ rfl,by kernel_rfl⟩ Zo))) 8) [] rfl (h.T _ _ rfl) (by kernel_rfl) fun _ _=>rfl) (eQ_cons (sumE_ok ZE h.L h.G (orQ_ok (eQ_cons (ZA h) eQ_nil) (orQ_ok ih (qOf_ok ZE (Zb (Jz h) (Zb (Ku h) (Zb (UC h) Zo)))))) [] rfl (h.T _ _ rfl) (by kernel_rfl) fun _ _=>rfl) (eQ_cons (sumE_ok ZE h.L h.G (orQ_ok (eQ_cons (ZA h) eQ_nil) (orQ_ok ih (qOf_ok ZE (Zb (Jz h) (Zb (Ku h) (Zb (UC h) Zo)))))) [.rnd [.slot 8 (.int .i64),.cont 0 (.bufi 82 5)]] rfl (h.T _ _ rfl) (by kernel_rfl) fun _ _=>rfl) eQ_nil)))
def Yz (L m:Nat)(x:(List UInt8)×Zl×PUnit)(c:(List UInt8×Int)):Option (PUnit×(List UInt8×Int)):=(fnE tF tG (stackQ tF tG (orQ (eQ tF [Zy L]) (orQ (eQ tF (ZK L m)) (qOf tF [Qh L,Xc L,Xb L]))) L X8 8) L WU [] (.tup []) (OD.la (.cont (.bufi 82 5):OD)) (.loc 0 0::tvL tT [.str,.row 9] x) [OD.to tT 82 0 (.cont (.bufi 82 5):OD) c]).map fun p=>(p.1,OD.un tT (.cont (.bufi 82 5):OD) p.2)
def Zm (L m:Nat)(x:Zl×PUnit)(c:(List UInt8×Int)):Option (PUnit×(List UInt8×Int)):=(fnE tF tG (orQ (eQ tF [Zy L]) (orQ (eQ tF (ZK L m)) (qOf tF [Qh L,Xc L,Xb L]))) L Ql [] (.tup []) (OD.la (.cont (.bufi 82 5):OD)) (.loc 0 0::tvL tT [.row 9] x) [OD.to tT 82 0 (.cont (.bufi 82 5):OD) c]).map fun p=>(p.1,OD.un tT (.cont (.bufi 82 5):OD) p.2)
def ZU (L m:Nat)(x:(List Zl)×PUnit)(c:(List UInt8×Int)):Option (PUnit×(List UInt8×Int)):=(fnE tF tG (orQ (eQ tF [Zy L]) (orQ (eQ tF (ZK L m)) (qOf tF [Qh L,Xc L,Xb L]))) L WV [.rnd [.slot 8 (.int .i64),.cont 0 (.bufi 82 5)]] (.tup []) (OD.la (.cont (.bufi 82 5):OD)) (.loc 0 0::tvL tT [.lst 21 (.row 9)] x) [OD.to tT 82 0 (.cont (.bufi 82 5):OD) c]).map fun p=>(p.1,OD.un tT (.cont (.bufi 82 5):OD) p.2)
def Y7 (L:Nat)(x:(List Zl)×PUnit)(c:(List UInt8×Int)):Option (PUnit×(List UInt8×Int)):=ZU L L x c
def Ve (L:Nat):SumE tT:=⟨34,82,(.cont (.bufi 82 5):OD),[.lst 21 (.row 9)],.tup [],Y7 L⟩
theorem Gv {C:Cfg}{L:Nat}(h:St C L):QS tF (evalCall C) (eQ tF [Ve L]):=have ih:=WP h L
 sumE_ok ZE h.L h.G (orQ_ok (eQ_cons (ZA h) eQ_nil) (orQ_ok ih (qOf_ok ZE (Zb (Jz h) (Zb (Ku h) (Zb (UC h) Zo)))))) [.rnd [.slot 8 (.int .i64),.cont 0 (.bufi 82 5)]] rfl (h.T _ _ rfl) (by kernel_rfl) fun _ _=>rfl
theorem Gl (L m:Nat)(x0:(List UInt8))(x1:Zl)(c:(List UInt8×Int)):Yz L (m+1) (x0,x1,()) c=bT (bT (bT (ZP L (x1.4,())) fun y=>some y) fun y=>bT (Zc L ([x0,y],()) (c.1,c.2)) fun y=>bT (bT (bT (ZU L m (x1.9,()) (y.snd.1,Go.IntKind.i64.wrap (y.snd.2+1))) fun y=>some ((),(y.snd.1,y.snd.2),())) fun y=>some ((),(y.2.1.1,Go.IntKind.i64.wrap (y.2.1.2 - 1)),())) fun y=>bif decide ((↑x1.10.length:Int)>0) then bT (Zc L ([[101,108,115,101]],()) (y.2.1.1,y.2.1.2)) fun y=>bT (bT (bT (ZU L m (x1.10,()) (y.snd.1,Go.IntKind.i64.wrap (y.snd.2+1))) fun y=>some ((),(y.snd.1,y.snd.2),())) fun y=>some ((),(y.2.1.1,Go.IntKind.i64.wrap (y.2.1.2 - 1)),())) fun y=>bT (Zc L ([[101,110,100]],()) (y.2.1.1,y.2.1.2)) fun y=>some ((),(y.snd.1,y.snd.2),()) else bT (Zc L ([[101,110,100]],()) (y.2.1.1,y.2.1.2)) fun y=>some ((),(y.snd.1,y.snd.2),())) fun y=>some (y.1,y.snd.1):=by kernel_rfl
theorem Zr (L m:Nat)(x0:Zl)(c:(List UInt8×Int)):Zm L (m+1) (x0,()) c=bT (bif x0.1==1 then bT (bT (ZP L (x0.4,())) fun y=>some y) fun y=>bT (Zc L ([[115,101,116],x0.2,[61],y],()) (c.1,c.2)) fun y=>some ((),(y.snd.1,y.snd.2),()) else bif x0.1==2 then bT (bT (YT L (x0.7,())) fun y=>some y) fun y=>bT (Zc L ([[100,114,97,119],x0.2,[102,114,111,109],x0.3,y],()) (c.1,c.2)) fun y=>some ((),(y.snd.1,y.snd.2),()) else bif x0.1==3 then bT (Yz L m ([105,102],x0,()) (c.1,c.2)) fun y=>some ((),(y.snd.1,y.snd.2),()) else bif x0.1==4 then bT (Yz L m ([119,104,105,108,101],x0,()) (c.1,c.2)) fun y=>some ((),(y.snd.1,y.snd.2),()) else bif x0.1==5 then bT (ZP L (x0.4,())) fun y=>bT (Zc L ([[104,111,108,100],y],()) (c.1,c.2)) fun y=>some ((),(y.snd.1,y.snd.2),()) else bif x0.1==6 then bT (bT (ZP L (x0.4,())) fun y=>some y) fun y=>bT (bT (ZP L (x0.5,())) fun y=>some y) fun y_1=>bif x0.8 then bT (apT 16 [[115,101,105,122,101],x0.2,y,[112,114,105,111],y_1] [[112,114,101,101,109,112,116]]) fun y=>bT (Zc L (y,()) (c.1,c.2)) fun y=>some ((),(y.snd.1,y.snd.2),()) else bT (Zc L ([[115,101,105,122,101],x0.2,y,[112,114,105,111],y_1],()) (c.1,c.2)) fun y=>some ((),(y.snd.1,y.snd.2),()) else bif x0.1==7 then bT (bT (ZP L (x0.4,())) fun y=>some y) fun y=>bT (Zc L ([[114,101,108,101,97,115,101],x0.2,y],()) (c.1,c.2)) fun y=>some ((),(y.snd.1,y.snd.2),()) else bif x0.1==8 then bT (bT (ZP L (x0.4,())) fun y=>some y) fun y=>bT (Zc L ([[112,117,116],y,[105,110,116,111],x0.2],()) (c.1,c.2)) fun y=>some ((),(y.snd.1,y.snd.2),()) else bif x0.1==9 then bT (Zc L ([[103,101,116],x0.3,[102,114,111,109],x0.2],()) (c.1,c.2)) fun y=>some ((),(y.snd.1,y.snd.2),()) else bif x0.1==10 then bT (Zc L ([[114,105,100,101],x0.2],()) (c.1,c.2)) fun y=>some ((),(y.snd.1,y.snd.2),()) else bif x0.1==11 then bT (Zc L ([[119,97,105,116],x0.2],()) (c.1,c.2)) fun y=>some ((),(y.snd.1,y.snd.2),()) else bif x0.1==12 then bT (bT (ZP L (x0.4,())) fun y=>some y) fun y=>bT (Zc L ([[115,105,103,110,97,108],x0.2,y],()) (c.1,c.2)) fun y=>some ((),(y.snd.1,y.snd.2),()) else bif x0.1==13 then bT (catS x0.3 [46]) fun y=>bT (catS y x0.2) fun y=>bT (bT (J7 L (x0.6,())) fun y=>some y) fun y_1=>bT (bT (ZP L (x0.4,())) fun y=>some y) fun y_2=>bT (Zc L ([[115,101,110,100],y,y_1,[97,102,116,101,114],y_2],()) (c.1,c.2)) fun y=>some ((),(y.snd.1,y.snd.2),()) else bif x0.1==14 then bT (bT (J7 L (x0.6,())) fun y=>some y) fun y=>bT (bT (ZP L (x0.4,())) fun y=>some y) fun y_1=>bT (Zc L ([[115,112,97,119,110],x0.2,y,[97,102,116,101,114],y_1],()) (c.1,c.2)) fun y=>some ((),(y.snd.1,y.snd.2),()) else bif x0.1==15 then bT (bT (ZP L (x0.4,())) fun y=>some y) fun y=>bT (Zc L ([[111,98,115,101,114,118,101],x0.2,y],()) (c.1,c.2)) fun y=>some ((),(y.snd.1,y.snd.2),()) else bif x0.1==16 then bT (bT (ZP L (x0.4,())) fun y=>some y) fun y=>bT (Zc L ([[108,101,118,101,108],x0.2,y],()) (c.1,c.2)) fun y=>some ((),(y.snd.1,y.snd.2),()) else bif x0.1==17 then bT (bT (ZP L (x0.4,())) fun y=>some y) fun y=>bT (Zc L ([[97,100,100],x0.2,y],()) (c.1,c.2)) fun y=>some ((),(y.snd.1,y.snd.2),()) else bif x0.1==18 then bT (Zc L ([[115,116,111,112]],()) (c.1,c.2)) fun y=>some ((),(y.snd.1,y.snd.2),()) else some ((),(c.1,c.2),())) fun y=>some (y.1,y.snd.1):=by kernel_rfl
def YX:Nat→List Zl→Nat→(Int×(List UInt8×Int)×PUnit→Option (PUnit×(List UInt8×Int)×PUnit))→Int×(List UInt8×Int)×PUnit→Option (PUnit×(List UInt8×Int)×PUnit):=fun (m:Nat)=>fun x0 L self acc=>bif decide (acc.1<(↑x0.length:Int)) then bT (getT x0 acc.1) fun y=>bT (Zm L m (y,()) (acc.2.1.1,acc.2.1.2)) fun y=>self (Go.IntKind.i64.wrap (acc.1+1),(y.snd.1,y.snd.2),()) else some ((),(acc.2.1.1,acc.2.1.2),())
theorem Gp (L m:Nat)(x0:(List Zl))(c:(List UInt8×Int)):ZU L (m+1) (x0,()) c=bT (loopT (YX m x0 L) L (0,(c.1,c.2),())) fun y=>some (y.1,y.snd.1):=by kernel_rfl
def KH (L:Nat)(x:Zl×Uo×PUnit):Option Int:=fT [Kv L,Sv L,Qq L] L NQ [.rnd [.slot 4 (.int .i64),.slot 26 (.int .i64)],.rnd [.slot 4 (.int .i64),.slot 53 (.int .i64)],.rnd [.slot 74 (.int .i64)]] (.one (.int .i64)) [.row 9,.row 18] x
def TQ (L:Nat):Sum tT:=mU 154 [.row 9,.row 18] (.one (.int .i64)) (KH L)
theorem Su:SX TQ:=fun h=>sT h (Zb (Tc h) (Zb (ZdZ h) (Zb (Xk h) Zo))) rfl (by kernel_rfl) fun _=>rfl
def Ub:Zl→Uo→Nat→(Int×PUnit→Option Int)→Int×PUnit→Option Int:=fun x0 x1 L self acc=>bif decide (acc.1<(↑x0.6.length:Int)) then bT (getT x0.6 acc.1) fun y=>bT (J5 L (y,())) fun y=>bif y != 0 then some y else self (Go.IntKind.i64.wrap (acc.1+1),()) else bif x1.6 then bT (Xe L (x0.7,())) fun y=>some y else some 0
def H7:Zl→Uo→Nat→Int×Int×PUnit→(Int×Int×PUnit→Option Int)→Int×Int×PUnit→Option Int:=fun x0 x1 L acc self acc_1=>bif decide (acc_1.2.1<(↑[G8.mk x1.3 x0.4,G8.mk x1.4 x0.5].length:Int)) then bT (getT [G8.mk x1.3 x0.4,G8.mk x1.4 x0.5] acc_1.2.1) fun y=>bif !y.1 then self (acc_1.1,Go.IntKind.i64.wrap (acc_1.2.1+1),()) else bT (J5 L (y.2,())) fun y=>bif y != 0 then some y else self (acc_1.1,Go.IntKind.i64.wrap (acc_1.2.1+1),()) else bif decide ((↑x0.6.length:Int)>6) then some 6 else loopT (Ub x0 x1 L) L (0,())
def Pm:Zl→Uo→Nat→(Int×Int×PUnit→Option Int)→Int×Int×PUnit→Option Int:=fun x0 x1 L self acc=>bif decide (acc.2.1<(↑[G9.mk x1.1 x0.2,G9.mk x1.2 x0.3].length:Int)) then bT (getT [G9.mk x1.1 x0.2,G9.mk x1.2 x0.3] acc.2.1) fun y=>bT (ZJ L (y.2,())) fun y_1=>bif y.1&&y_1 != 0 then some y_1 else self (acc.1,Go.IntKind.i64.wrap (acc.2.1+1),()) else loopT (H7 x0 x1 L acc) L (acc.1,0,())
theorem ZdX (L:Nat)(x0:Zl)(x1:Uo):KH L (x0,x1,())=loopT (Pm x0 x1 L) L (0,0,()):=by kernel_rfl
def Y8 (L:Nat)(x:(List Int)×(List Int)×PUnit):Option Bool:=fT [] L XY [.rnd [.slot 13 (.int .i64)]] (.one .bool) [.lst 1 (.int .i64),.lst 1 (.int .i64)] x
def Vf (L:Nat):Sum tT:=mU 294 [.lst 1 (.int .i64),.lst 1 (.int .i64)] (.one .bool) (Y8 L)
theorem Gx:SX Vf:=fun h=>sT h Zo rfl (by kernel_rfl) fun _=>rfl
def WL:List Int→List Int→(Int×PUnit→Option Bool)→Int×PUnit→Option Bool:=fun x0 x1 self acc=>bif decide (acc.1<(↑x0.length:Int)) then bT (getT x0 acc.1) fun y=>bT (getT x1 acc.1) fun y_1=>bif y != y_1 then some false else self (Go.IntKind.i64.wrap (acc.1+1),()) else some true
theorem Gq (L:Nat)(x0:(List Int))(x1:(List Int)):Y8 L (x0,x1,())=bif (↑x0.length:Int) != (↑x1.length:Int) then some false else loopT (WL x0 x1) L (0,()):=by kernel_rfl
def VZ (L:Nat)(x:Yo×Yo×PUnit):Option Bool:=fT [Vf L] L EC [] (.one .bool) [.row 2,.row 2] x
def Bh (L:Nat):Sum tT:=mU 242 [.row 2,.row 2] (.one .bool) (VZ L)
theorem Cf:SX Bh:=fun h=>sT h (Zb (Gx h) Zo) rfl (by kernel_rfl) fun _=>rfl
theorem Zfc (L:Nat)(x0:Yo)(x1:Yo):VZ L (x0,x1,())=bT (bif (x0.1==x1.1&&x0.2==x1.2&&x0.3==x1.3&&x0.4==x1.4)==true then bT (Y8 L (x0.5,x1.5,())) fun y=>some y else some false) fun y=>bT (bif y==true then bT (Y8 L (x0.6,x1.6,())) fun y=>some y else some false) fun y=>some y:=by kernel_rfl
def Tj (L:Nat):Nat→List (Sum tT)
 |0=>[⟨241,[.row 8,.row 8],fun _=>.par _ none ((.one (.bool):RD).tv tT)⟩]
 |m+1=>[⟨241,[.row 8,.row 8],fun x=>.par _ (fnT tF tG (qOf tF (Tj L m++[])) 0 L Ri [.rnd [.slot 38 (.int .i64)]] (.one (.bool)) (tvL tT [.row 8,.row 8] x) []) ((.one (.bool):RD).tv tT)⟩]
theorem Tm {C:Cfg}{L:Nat}(h:St C L):∀m,∀s∈Tj L m,SumOk C s
 |0=>(Zb (YP _ _ _) Zo)
 |m+1=>have ih:=Tm h m
  (Zb (sum_par ZE h.L h.G (qOf_ok ZE (Qb ih Zo)) [.rnd [.slot 38 (.int .i64)]] (h.T _ _ rfl) (by kernel_rfl) fun _=>rfl) Zo)
def KI (L m:Nat)(x:Zt×Zt×PUnit):Option (Bool):=fnT tF tG (qOf tF (Tj L m++[])) 0 L Ri [.rnd [.slot 38 (.int .i64)]] (.one (.bool)) (tvL tT [.row 8,.row 8] x) []
def BB (L:Nat)(x:Zt×Zt×PUnit):Option (Bool):=KI L L x
def CU (L:Nat):Sum tT:=⟨241,[.row 8,.row 8],fun x=>.par ((.one (.bool):RD).Ty tT) (BB L x) ((.one (.bool):RD).tv tT)⟩
theorem ZfC {C:Cfg}{L:Nat}(h:St C L):SumOk C (CU L):=have ih:=Tm h L
 sum_par ZE h.L h.G (qOf_ok ZE (Qb ih Zo)) [.rnd [.slot 38 (.int .i64)]] (h.T _ _ rfl) (by kernel_rfl) fun _=>rfl
def UY:Nat→Zt→Zt→Nat→(Int×PUnit→Option Bool)→Int×PUnit→Option Bool:=fun (m:Nat)=>fun x0 x1 L self acc=>bif decide (acc.1<(↑x0.4.length:Int)) then bT (getT x0.4 acc.1) fun y=>bT (getT x1.4 acc.1) fun y_1=>bT (bT (KI L m (y,y_1,())) fun y=>some y) fun y=>bif !y then some false else self (Go.IntKind.i64.wrap (acc.1+1),()) else some true
theorem Fp (L m:Nat)(x0:Zt)(x1:Zt):KI L (m+1) (x0,x1,())=bif x0.1 != x1.1||!x0.2==x1.2||x0.3 != x1.3||(↑x0.4.length:Int) != (↑x1.4.length:Int) then some false else loopT (UY m x0 x1 L) L (0,()):=by kernel_rfl
def VD (L:Nat)(x:Zt×PUnit):Option Bool:=fT [CU L] L Dn [] (.one .bool) [.row 8] x
def P9 (L:Nat):Sum tT:=mU 240 [.row 8] (.one .bool) (VD L)
theorem Zc9:SX P9:=fun h=>sT h (Zb (ZfC h) Zo) rfl (by kernel_rfl) fun _=>rfl
theorem Zcs (L:Nat)(x0:Zt):VD L (x0,())=bT (BB L (x0,Zt.mk 0 [] 0 [],())) fun y=>some y:=by kernel_rfl
def Iy (L:Nat)(x:Zl×Uo×PUnit):Option Bool:=fT [Bh L,P9 L] L Af [] (.one .bool) [.row 9,.row 18] x
def Bv (L:Nat):Sum tT:=mU 153 [.row 9,.row 18] (.one .bool) (Iy L)
theorem CG:SX Bv:=fun h=>sT h (Zb (Cf h) (Zb (Zc9 h) Zo)) rfl (by kernel_rfl) fun _=>rfl
theorem Zf6 (L:Nat)(x0:Zl)(x1:Uo):Iy L (x0,x1,())=bT (bif ((x1.1||x0.2==[])&&(x1.2||x0.3==[]))==true then bif x1.3==false then bT (VD L (x0.4,())) fun y=>some y else some true else some false) fun y=>bT (bif y==true then bif x1.4==false then bT (VD L (x0.5,())) fun y=>some y else some true else some false) fun y=>bT (bif (y&&(x1.5||(↑x0.6.length:Int)==0))==true then bif x1.6==false then bT (VZ L (x0.7,Yo.mk 0 0 0 0 [] [],())) fun y=>some y else some true else some false) fun y=>some (y&&(x1.7||!x0.8)&&(x1.8||(↑x0.9.length:Int)==0)&&(x1.9||(↑x0.10.length:Int)==0)):=by kernel_rfl
def Iz (L:Nat)(x:Int×PUnit):Option (Uo×Bool×PUnit):=fT [] L Ag [] (.tup [.row 18,.bool]) [.int .i64] x
def Bz (L:Nat):Sum tT:=mU 152 [.int .i64] (.tup [.row 18,.bool]) (Iz L)
theorem CJ:SX Bz:=fun h=>sT h Zo rfl (by kernel_rfl) fun _=>rfl
theorem Zf7 (L:Nat)(x0:Int):Iz L (x0,())=bif x0==1 then some (Uo.mk true false true false false false false false false,true,()) else bif x0==7 then some (Uo.mk true false true false false false false false false,true,()) else bif x0==8 then some (Uo.mk true false true false false false false false false,true,()) else bif x0==12 then some (Uo.mk true false true false false false false false false,true,()) else bif x0==15 then some (Uo.mk true false true false false false false false false,true,()) else bif x0==16 then some (Uo.mk true false true false false false false false false,true,()) else bif x0==17 then some (Uo.mk true false true false false false false false false,true,()) else bif x0==2 then some (Uo.mk true true false false false true false false false,true,()) else bif x0==3 then some (Uo.mk false false true false false false false true true,true,()) else bif x0==4 then some (Uo.mk false false true false false false false true false,true,()) else bif x0==5 then some (Uo.mk false false true false false false false false false,true,()) else bif x0==6 then some (Uo.mk true false true true false false true false false,true,()) else bif x0==9 then some (Uo.mk true true false false false false false false false,true,()) else bif x0==10 then some (Uo.mk true false false false false false false false false,true,()) else bif x0==11 then some (Uo.mk true false false false false false false false false,true,()) else bif x0==13 then some (Uo.mk true true true false true false false false false,true,()) else bif x0==14 then some (Uo.mk true false true false true false false false false,true,()) else bif x0==18 then some (Uo.mk false false false false false false false false false,true,()) else some (Uo.mk false false false false false false false false false,false,()):=by kernel_rfl
def Hy (L:Nat):Nat→List (Sum tT)
 |0=>[⟨78,[.lst 21 (.row 9)],fun _=>.par _ none ((.one (.int .i64):RD).tv tT)⟩]
 |m+1=>[⟨78,[.lst 21 (.row 9)],fun x=>.par _ (fnT tF tG (qOf tF (Hy L m++[TQ L,Bv L,Bz L])) 0 L O9 [.rnd [.slot 12 (.int .i64)]] (.one (.int .i64)) (tvL tT [.lst 21 (.row 9)] x) []) ((.one (.int .i64):RD).tv tT)⟩]
theorem IR {C:Cfg}{L:Nat}(h:St C L):∀m,∀s∈Hy L m,SumOk C s
 |0=>(Zb (YP _ _ _) Zo)
 |m+1=>have ih:=IR h m
  (Zb (sum_par ZE h.L h.G (qOf_ok ZE (Qb ih (Zb (Su h) (Zb (CG h) (Zb (CJ h) Zo))))) [.rnd [.slot 12 (.int .i64)]] (h.T _ _ rfl) (by kernel_rfl) fun _=>rfl) Zo)
def VG (L m:Nat)(x:(List Zl)×PUnit):Option (Int):=fnT tF tG (qOf tF (Hy L m++[TQ L,Bv L,Bz L])) 0 L O9 [.rnd [.slot 12 (.int .i64)]] (.one (.int .i64)) (tvL tT [.lst 21 (.row 9)] x) []
def Md (L:Nat)(x:(List Zl)×PUnit):Option (Int):=VG L L x
def SY (L:Nat):Sum tT:=⟨78,[.lst 21 (.row 9)],fun x=>.par ((.one (.int .i64):RD).Ty tT) (Md L x) ((.one (.int .i64):RD).tv tT)⟩
theorem Zep {C:Cfg}{L:Nat}(h:St C L):SumOk C (SY L):=have ih:=IR h L
 sum_par ZE h.L h.G (qOf_ok ZE (Qb ih (Zb (Su h) (Zb (CG h) (Zb (CJ h) Zo))))) [.rnd [.slot 12 (.int .i64)]] (h.T _ _ rfl) (by kernel_rfl) fun _=>rfl
def H6:Nat→List Zl→Nat→(Int×PUnit→Option Int)→Int×PUnit→Option Int:=fun (m:Nat)=>fun x0 L self acc=>bif decide (acc.1<(↑x0.length:Int)) then bT (getT x0 acc.1) fun y=>bT (Iz L (y.1,())) fun y_1=>bT (bif (!y_1.2.1)==false then bT (Iy L (y,y_1.1,())) fun y=>some !y else some true) fun y_2=>bif y_2 then some 1 else bT (KH L (y,y_1.1,())) fun y_3=>bif y_3 != 0 then some y_3 else bT (VG L m (y.9,())) fun y_4=>bif y_4 != 0 then some y_4 else bT (VG L m (y.10,())) fun y=>bif y != 0 then some y else self (Go.IntKind.i64.wrap (acc.1+1),()) else some 0
theorem ZdW (L m:Nat)(x0:(List Zl)):VG L (m+1) (x0,())=loopT (H6 m x0 L) L (0,()):=by kernel_rfl
def Hw (L:Nat):Nat→List (Sum tT)
 |0=>[⟨77,[.lst 21 (.row 9)],fun _=>.par _ none ((.one (.int .i64):RD).tv tT)⟩]
 |m+1=>[⟨77,[.lst 21 (.row 9)],fun x=>.par _ (fnT tF tG (qOf tF (Hw L m++[])) 0 L O8 [.rnd [.slot 3 (.int .i64),.slot 8 (.int .i64)]] (.one (.int .i64)) (tvL tT [.lst 21 (.row 9)] x) []) ((.one (.int .i64):RD).tv tT)⟩]
theorem IQ {C:Cfg}{L:Nat}(h:St C L):∀m,∀s∈Hw L m,SumOk C s
 |0=>(Zb (YP _ _ _) Zo)
 |m+1=>have ih:=IQ h m
  (Zb (sum_par ZE h.L h.G (qOf_ok ZE (Qb ih Zo)) [.rnd [.slot 3 (.int .i64),.slot 8 (.int .i64)]] (h.T _ _ rfl) (by kernel_rfl) fun _=>rfl) Zo)
def VF (L m:Nat)(x:(List Zl)×PUnit):Option (Int):=fnT tF tG (qOf tF (Hw L m++[])) 0 L O8 [.rnd [.slot 3 (.int .i64),.slot 8 (.int .i64)]] (.one (.int .i64)) (tvL tT [.lst 21 (.row 9)] x) []
def Mc (L:Nat)(x:(List Zl)×PUnit):Option (Int):=VF L L x
def SV (L:Nat):Sum tT:=⟨77,[.lst 21 (.row 9)],fun x=>.par ((.one (.int .i64):RD).Ty tT) (Mc L x) ((.one (.int .i64):RD).tv tT)⟩
theorem Zeo {C:Cfg}{L:Nat}(h:St C L):SumOk C (SV L):=have ih:=IQ h L
 sum_par ZE h.L h.G (qOf_ok ZE (Qb ih Zo)) [.rnd [.slot 3 (.int .i64),.slot 8 (.int .i64)]] (h.T _ _ rfl) (by kernel_rfl) fun _=>rfl
def H5:Nat→List Zl→Nat→(Int×Int×PUnit→Option Int)→Int×Int×PUnit→Option Int:=fun (m:Nat)=>fun x0 L self acc=>bif decide (acc.2.1<(↑x0.length:Int)) then bT (getT x0 acc.2.1) fun y=>bT (bT (VF L m (y.9,())) fun y=>some y) fun y_1=>bT (bT (VF L m (y.10,())) fun y=>some y) fun y=>self (if Go.IntKind.i64.wrap (1+y)>if Go.IntKind.i64.wrap (1+y_1)>acc.1 then Go.IntKind.i64.wrap (1+y_1) else acc.1 then Go.IntKind.i64.wrap (1+y) else if Go.IntKind.i64.wrap (1+y_1)>acc.1 then Go.IntKind.i64.wrap (1+y_1) else acc.1,Go.IntKind.i64.wrap (acc.2.1+1),()) else some acc.1
theorem ZdV (L m:Nat)(x0:(List Zl)):VF L (m+1) (x0,())=loopT (H5 m x0 L) L (0,0,()):=by kernel_rfl
def Hu (L:Nat):Nat→List (Sum tT)
 |0=>[⟨76,[.lst 21 (.row 9)],fun _=>.par _ none ((.one (.int .i64):RD).tv tT)⟩]
 |m+1=>[⟨76,[.lst 21 (.row 9)],fun x=>.par _ (fnT tF tG (qOf tF (Hu L m++[])) 0 L O7 [.rnd [.slot 3 (.int .i64),.slot 10 (.int .i64)]] (.one (.int .i64)) (tvL tT [.lst 21 (.row 9)] x) []) ((.one (.int .i64):RD).tv tT)⟩]
theorem IP {C:Cfg}{L:Nat}(h:St C L):∀m,∀s∈Hu L m,SumOk C s
 |0=>(Zb (YP _ _ _) Zo)
 |m+1=>have ih:=IP h m
  (Zb (sum_par ZE h.L h.G (qOf_ok ZE (Qb ih Zo)) [.rnd [.slot 3 (.int .i64),.slot 10 (.int .i64)]] (h.T _ _ rfl) (by kernel_rfl) fun _=>rfl) Zo)
def VE (L m:Nat)(x:(List Zl)×PUnit):Option (Int):=fnT tF tG (qOf tF (Hu L m++[])) 0 L O7 [.rnd [.slot 3 (.int .i64),.slot 10 (.int .i64)]] (.one (.int .i64)) (tvL tT [.lst 21 (.row 9)] x) []
def TZ (L:Nat)(x:(List Zl)×PUnit):Option (Int):=VE L L x
def SS (L:Nat):Sum tT:=⟨76,[.lst 21 (.row 9)],fun x=>.par ((.one (.int .i64):RD).Ty tT) (TZ L x) ((.one (.int .i64):RD).tv tT)⟩
theorem Zen {C:Cfg}{L:Nat}(h:St C L):SumOk C (SS L):=have ih:=IP h L
 sum_par ZE h.L h.G (qOf_ok ZE (Qb ih Zo)) [.rnd [.slot 3 (.int .i64),.slot 10 (.int .i64)]] (h.T _ _ rfl) (by kernel_rfl) fun _=>rfl
def Hz:Nat→List Zl→Nat→(Int×Int×PUnit→Option Int)→Int×Int×PUnit→Option Int:=fun (m:Nat)=>fun x0 L self acc=>bif decide (acc.2.1<(↑x0.length:Int)) then bT (getT x0 acc.2.1) fun y=>bT (bT (VE L m (y.9,())) fun y=>some y) fun y_1=>bT (bT (VE L m (y.10,())) fun y=>some y) fun y=>self (Go.IntKind.i64.wrap (acc.1+Go.IntKind.i64.wrap (y_1+y)),Go.IntKind.i64.wrap (acc.2.1+1),()) else some acc.1
theorem ZdU (L m:Nat)(x0:(List Zl)):VE L (m+1) (x0,())=loopT (Hz m x0 L) L ((↑x0.length:Int),0,()):=by kernel_rfl
def KG (L:Nat)(x:(List Zl)×PUnit):Option Int:=fT [SY L,SV L,SS L] L NP [] (.one (.int .i64)) [.lst 21 (.row 9)] x
def SQ (L:Nat):Sum tT:=mU 33 [.lst 21 (.row 9)] (.one (.int .i64)) (KG L)
theorem Zem:SX SQ:=fun h=>sT h (Zb (Zep h) (Zb (Zeo h) (Zb (Zen h) Zo))) rfl (by kernel_rfl) fun _=>rfl
theorem ZdT (L:Nat)(x0:(List Zl)):KG L (x0,())=bT (TZ L (x0,())) fun y=>bif decide (y>200) then some 6 else bT (Mc L (x0,())) fun y=>bif decide (y>12) then some 11 else bT (Md L (x0,())) fun y=>some y:=by kernel_rfl
def Bf (L:Nat):Nat→List (Sum tT)
 |0=>[⟨14,[.lst 21 (.row 9)],fun _=>.par _ none ((.one (.int .i64):RD).tv tT)⟩]
 |m+1=>[⟨14,[.lst 21 (.row 9)],fun x=>.par _ (fnT tF tG (qOf tF (Bf L m++[Ic L])) 0 L PK [.rnd [.slot 3 (.int .i64),.slot 4 (.int .i64)],.rnd [.slot 3 (.int .i64),.slot 6 (.int .i64)]] (.one (.int .i64)) (tvL tT [.lst 21 (.row 9)] x) []) ((.one (.int .i64):RD).tv tT)⟩]
theorem LJ {C:Cfg}{L:Nat}(h:St C L):∀m,∀s∈Bf L m,SumOk C s
 |0=>(Zb (YP _ _ _) Zo)
 |m+1=>have ih:=LJ h m
  (Zb (sum_par ZE h.L h.G (qOf_ok ZE (Qb ih (Zb (RY h) Zo))) [.rnd [.slot 3 (.int .i64),.slot 4 (.int .i64)],.rnd [.slot 3 (.int .i64),.slot 6 (.int .i64)]] (h.T _ _ rfl) (by kernel_rfl) fun _=>rfl) Zo)
def UR (L m:Nat)(x:(List Zl)×PUnit):Option (Int):=fnT tF tG (qOf tF (Bf L m++[Ic L])) 0 L PK [.rnd [.slot 3 (.int .i64),.slot 4 (.int .i64)],.rnd [.slot 3 (.int .i64),.slot 6 (.int .i64)]] (.one (.int .i64)) (tvL tT [.lst 21 (.row 9)] x) []
def Np (L:Nat)(x:(List Zl)×PUnit):Option (Int):=UR L L x
def Zbs (L:Nat):Sum tT:=⟨14,[.lst 21 (.row 9)],fun x=>.par ((.one (.int .i64):RD).Ty tT) (Np L x) ((.one (.int .i64):RD).tv tT)⟩
theorem ZhB {C:Cfg}{L:Nat}(h:St C L):SumOk C (Zbs L):=have ih:=LJ h L
 sum_par ZE h.L h.G (qOf_ok ZE (Qb ih (Zb (RY h) Zo))) [.rnd [.slot 3 (.int .i64),.slot 4 (.int .i64)],.rnd [.slot 3 (.int .i64),.slot 6 (.int .i64)]] (h.T _ _ rfl) (by kernel_rfl) fun _=>rfl
def He:Nat→(Int×Int×PUnit→Option Int)→Int×Int×PUnit→Zl→(Int×Int×PUnit→Option Int)→Int×Int×PUnit→Option Int:=fun L self acc y self_1 acc_1=>bif decide (acc_1.2.1<(↑y.6.length:Int)) then bT (getT y.6 acc_1.2.1) fun y=>bT (Qz L (y,())) fun y=>self_1 (Go.IntKind.i64.wrap (acc_1.1+y),Go.IntKind.i64.wrap (acc_1.2.1+1),()) else self (acc_1.1,Go.IntKind.i64.wrap (acc.2.1+1),())
def Hf:Nat→List Zl→Nat→(Int×Int×PUnit→Option Int)→Int×Int×PUnit→Option Int:=fun (m:Nat)=>fun x0 L self acc=>bif decide (acc.2.1<(↑x0.length:Int)) then bT (getT x0 acc.2.1) fun y=>bT (bT (Qz L (y.4,())) fun y=>some y) fun y_1=>bT (bT (Qz L (y.5,())) fun y=>some y) fun y_2=>bT (bT (UR L m (y.9,())) fun y=>some y) fun y_3=>bT (bT (UR L m (y.10,())) fun y=>some y) fun y_4=>loopT (He L self acc y) L (Go.IntKind.i64.wrap (Go.IntKind.i64.wrap (Go.IntKind.i64.wrap (Go.IntKind.i64.wrap (Go.IntKind.i64.wrap (Go.IntKind.i64.wrap (Go.IntKind.i64.wrap (acc.1+1)+y_1)+y_2)+(↑y.Dist.5.length:Int))+(↑y.Dist.6.length:Int))+y_3)+y_4),0,()) else some acc.1
theorem Zhw (L m:Nat)(x0:(List Zl)):UR L (m+1) (x0,())=loopT (Hf m x0 L) L (0,0,()):=by kernel_rfl
def TY (L:Nat)(x:Oj×PUnit):Option (List UInt8):=fT [Xz,WZ L] L Zda [.rnd [.slot 3 .str,.slot 4 (.int .i64)]] (.one .str) [.row 13] x
def Zew (L:Nat):Sum tT:=mU 120 [.row 13] (.one .str) (TY L)
theorem Zje:SX Zew:=fun h=>sT h (Zb (VW h) (Zb (QF h) Zo)) rfl (by kernel_rfl) fun _=>rfl
def MH:Oj→Nat→(List UInt8×Int×PUnit→Option (List UInt8))→List UInt8×Int×PUnit→Option (List UInt8):=fun x0 L self acc=>bif decide (acc.2.1<(↑x0.2.length:Int)) then bT (getT x0.2 acc.2.1) fun y=>bif decide (y.1<0)&&acc.2.1==0 then bT (catS acc.1 [32,45]) fun y_1=>bif decide (y.1<0) then bif Go.IntKind.i64.wrap (0 - y.1) != 1 then bT (Yu (Go.IntKind.i64.wrap (0 - y.1))) fun y_2=>bT (catS y_1 y_2) fun y_3=>bT (catS y_3 [32,42,32]) fun y_4=>bT (catS y_4 y.2) fun y_5=>bT (catS y_5 [32]) fun y_6=>bT (catS y_6 y.3) fun y=>self (y,Go.IntKind.i64.wrap (acc.2.1+1),()) else bT (catS y_1 y.2) fun y_2=>bT (catS y_2 [32]) fun y_3=>bT (catS y_3 y.3) fun y=>self (y,Go.IntKind.i64.wrap (acc.2.1+1),()) else bif y.1 != 1 then bT (Yu y.1) fun y_2=>bT (catS y_1 y_2) fun y_3=>bT (catS y_3 [32,42,32]) fun y_4=>bT (catS y_4 y.2) fun y_5=>bT (catS y_5 [32]) fun y_6=>bT (catS y_6 y.3) fun y=>self (y,Go.IntKind.i64.wrap (acc.2.1+1),()) else bT (catS y_1 y.2) fun y_2=>bT (catS y_2 [32]) fun y_3=>bT (catS y_3 y.3) fun y=>self (y,Go.IntKind.i64.wrap (acc.2.1+1),()) else bif decide (y.1<0) then bT (catS acc.1 [32,45,32]) fun y_1=>bif decide (y.1<0) then bif Go.IntKind.i64.wrap (0 - y.1) != 1 then bT (Yu (Go.IntKind.i64.wrap (0 - y.1))) fun y_2=>bT (catS y_1 y_2) fun y_3=>bT (catS y_3 [32,42,32]) fun y_4=>bT (catS y_4 y.2) fun y_5=>bT (catS y_5 [32]) fun y_6=>bT (catS y_6 y.3) fun y=>self (y,Go.IntKind.i64.wrap (acc.2.1+1),()) else bT (catS y_1 y.2) fun y_2=>bT (catS y_2 [32]) fun y_3=>bT (catS y_3 y.3) fun y=>self (y,Go.IntKind.i64.wrap (acc.2.1+1),()) else bif y.1 != 1 then bT (Yu y.1) fun y_2=>bT (catS y_1 y_2) fun y_3=>bT (catS y_3 [32,42,32]) fun y_4=>bT (catS y_4 y.2) fun y_5=>bT (catS y_5 [32]) fun y_6=>bT (catS y_6 y.3) fun y=>self (y,Go.IntKind.i64.wrap (acc.2.1+1),()) else bT (catS y_1 y.2) fun y_2=>bT (catS y_2 [32]) fun y_3=>bT (catS y_3 y.3) fun y=>self (y,Go.IntKind.i64.wrap (acc.2.1+1),()) else bif acc.2.1==0 then bT (catS acc.1 [32]) fun y_1=>bif decide (y.1<0) then bif Go.IntKind.i64.wrap (0 - y.1) != 1 then bT (Yu (Go.IntKind.i64.wrap (0 - y.1))) fun y_2=>bT (catS y_1 y_2) fun y_3=>bT (catS y_3 [32,42,32]) fun y_4=>bT (catS y_4 y.2) fun y_5=>bT (catS y_5 [32]) fun y_6=>bT (catS y_6 y.3) fun y=>self (y,Go.IntKind.i64.wrap (acc.2.1+1),()) else bT (catS y_1 y.2) fun y_2=>bT (catS y_2 [32]) fun y_3=>bT (catS y_3 y.3) fun y=>self (y,Go.IntKind.i64.wrap (acc.2.1+1),()) else bif y.1 != 1 then bT (Yu y.1) fun y_2=>bT (catS y_1 y_2) fun y_3=>bT (catS y_3 [32,42,32]) fun y_4=>bT (catS y_4 y.2) fun y_5=>bT (catS y_5 [32]) fun y_6=>bT (catS y_6 y.3) fun y=>self (y,Go.IntKind.i64.wrap (acc.2.1+1),()) else bT (catS y_1 y.2) fun y_2=>bT (catS y_2 [32]) fun y_3=>bT (catS y_3 y.3) fun y=>self (y,Go.IntKind.i64.wrap (acc.2.1+1),()) else bT (catS acc.1 [32,43,32]) fun y_1=>bif decide (y.1<0) then bif Go.IntKind.i64.wrap (0 - y.1) != 1 then bT (Yu (Go.IntKind.i64.wrap (0 - y.1))) fun y_2=>bT (catS y_1 y_2) fun y_3=>bT (catS y_3 [32,42,32]) fun y_4=>bT (catS y_4 y.2) fun y_5=>bT (catS y_5 [32]) fun y_6=>bT (catS y_6 y.3) fun y=>self (y,Go.IntKind.i64.wrap (acc.2.1+1),()) else bT (catS y_1 y.2) fun y_2=>bT (catS y_2 [32]) fun y_3=>bT (catS y_3 y.3) fun y=>self (y,Go.IntKind.i64.wrap (acc.2.1+1),()) else bif y.1 != 1 then bT (Yu y.1) fun y_2=>bT (catS y_1 y_2) fun y_3=>bT (catS y_3 [32,42,32]) fun y_4=>bT (catS y_4 y.2) fun y_5=>bT (catS y_5 [32]) fun y_6=>bT (catS y_6 y.3) fun y=>self (y,Go.IntKind.i64.wrap (acc.2.1+1),()) else bT (catS y_1 y.2) fun y_2=>bT (catS y_2 [32]) fun y_3=>bT (catS y_3 y.3) fun y=>self (y,Go.IntKind.i64.wrap (acc.2.1+1),()) else bT (catS acc.1 [32,61,32]) fun y=>bT (Yu x0.3) fun y_1=>bT (catS y y_1) fun y=>bT (Zu L (2,y,())) fun y=>some y
theorem ZiZ (L:Nat)(x0:Oj):TY L (x0,())=bT (catS [99,111,110,115,101,114,118,101,32] x0.1) fun y=>bT (catS y [32,58]) fun y=>loopT (MH x0 L) L (y,0,()):=by kernel_rfl
def Jc (L:Nat)(x:Int×Int×PUnit):Option (List UInt8):=fT [Xz] L Ae [] (.one .str) [.int .i64,.int .i64] x
def Bq (L:Nat):Sum tT:=mU 114 [.int .i64,.int .i64] (.one .str) (Jc L)
theorem CE:SX Bq:=fun h=>sT h (Zb (VW h) Zo) rfl (by kernel_rfl) fun _=>rfl
theorem Zf5 (L:Nat)(x0:Int)(x1:Int):Jc L (x0,x1,())=bif x0 != 2 then bT (Yu x1) fun y=>some y else bif x1==1 then some [116,114,117,101] else some [102,97,108,115,101]:=by kernel_rfl
def Ja (L:Nat)(x:Za×PUnit):Option ((List (List (List UInt8)))):=fT [] L EO [.rnd [.slot 4 (.int .i64),.cell 1 0 (.own 1 .str),.cell 1 1 (.own 1 .str),.cell 1 2 (.own 1 .str),.cell 1 3 (.own 1 .str),.cell 1 4 (.lst 1 .str),.cell 1 5 (.lst 1 .str),.cell 1 6 (.lst 1 .str),.cell 1 7 (.lst 1 .str),.cell 1 8 (.lst 1 .str),.cell 1 9 (.own 1 .str)],.rnd [.slot 5 (.int .i64),.cell 1 0 (.own 1 .str),.cell 1 1 (.own 1 .str),.cell 1 2 (.own 1 .str),.cell 1 3 (.own 1 .str),.cell 1 4 (.lst 1 .str),.cell 1 5 (.lst 1 .str),.cell 1 6 (.lst 1 .str),.cell 1 7 (.lst 1 .str),.cell 1 8 (.lst 1 .str),.cell 1 9 (.own 1 .str)],.rnd [.slot 6 (.int .i64),.cell 1 0 (.own 1 .str),.cell 1 1 (.own 1 .str),.cell 1 2 (.own 1 .str),.cell 1 3 (.own 1 .str),.cell 1 4 (.lst 1 .str),.cell 1 5 (.lst 1 .str),.cell 1 6 (.lst 1 .str),.cell 1 7 (.lst 1 .str),.cell 1 8 (.lst 1 .str),.cell 1 9 (.own 1 .str)],.rnd [.slot 7 (.int .i64),.cell 1 0 (.own 1 .str),.cell 1 1 (.own 1 .str),.cell 1 2 (.own 1 .str),.cell 1 3 (.own 1 .str),.cell 1 4 (.lst 1 .str),.cell 1 5 (.lst 1 .str),.cell 1 6 (.lst 1 .str),.cell 1 7 (.lst 1 .str),.cell 1 8 (.lst 1 .str),.cell 1 9 (.own 1 .str)],.rnd [.slot 8 (.int .i64),.cell 1 0 (.own 1 .str),.cell 1 1 (.own 1 .str),.cell 1 2 (.own 1 .str),.cell 1 3 (.own 1 .str),.cell 1 4 (.lst 1 .str),.cell 1 5 (.lst 1 .str),.cell 1 6 (.lst 1 .str),.cell 1 7 (.lst 1 .str),.cell 1 8 (.lst 1 .str),.cell 1 9 (.own 1 .str)]] (.one (.lst 1 (.lst 1 .str))) [.row 14] x
def Ie (L:Nat):Sum tT:=mU 212 [.row 14] (.one (.lst 1 (.lst 1 .str))) (Ja L)
theorem RZ:SX Ie:=fun h=>sT h Zo rfl (by kernel_rfl) fun _=>rfl
def OU:Za→(Int×List (List UInt8)×List (List UInt8)×List (List UInt8)×List (List UInt8)×List (List UInt8)×List (List UInt8)×List (List UInt8)×List (List UInt8)×List (List UInt8)×List (List UInt8)×PUnit→Option (List (List (List UInt8))))→Int×List (List UInt8)×List (List UInt8)×List (List UInt8)×List (List UInt8)×List (List UInt8)×List (List UInt8)×List (List UInt8)×List (List UInt8)×List (List UInt8)×List (List UInt8)×PUnit→Option (List (List (List UInt8))):=fun (x0:Za) (self:Int×List (List UInt8)×List (List UInt8)×List (List UInt8)×List (List UInt8)×List (List UInt8)×List (List UInt8)×List (List UInt8)×List (List UInt8)×List (List UInt8)×List (List UInt8)×PUnit→Option (List (List (List UInt8)))) (acc:Int×List (List UInt8)×List (List UInt8)×List (List UInt8)×List (List UInt8)×List (List UInt8)×List (List UInt8)×List (List UInt8)×List (List UInt8)×List (List UInt8)×List (List UInt8)×PUnit)=>bif decide (acc.1<(↑x0.11.length:Int)) then bT (getT x0.11 acc.1) fun y=>bT (apT 16 acc.2.2.2.2.2.2.2.2.2.2.1 [y.1]) fun y=>self (Go.IntKind.i64.wrap (acc.1+1),acc.2.1,acc.2.2.1,acc.2.2.2.1,acc.2.2.2.2.1,acc.2.2.2.2.2.1,acc.2.2.2.2.2.2.1,acc.2.2.2.2.2.2.2.1,acc.2.2.2.2.2.2.2.2.1,acc.2.2.2.2.2.2.2.2.2.1,y,()) else some [acc.2.1,acc.2.2.1,acc.2.2.2.1,acc.2.2.2.2.1,acc.2.2.2.2.2.1,acc.2.2.2.2.2.2.1,acc.2.2.2.2.2.2.2.1,acc.2.2.2.2.2.2.2.2.1,acc.2.2.2.2.2.2.2.2.2.1,acc.2.2.2.2.2.2.2.2.2.2.1]
def OV:Za→Nat→(Int×List (List UInt8)×List (List UInt8)×List (List UInt8)×List (List UInt8)×List (List UInt8)×List (List UInt8)×List (List UInt8)×List (List UInt8)×List (List UInt8)×List (List UInt8)×PUnit→Option (List (List (List UInt8))))→Int×List (List UInt8)×List (List UInt8)×List (List UInt8)×List (List UInt8)×List (List UInt8)×List (List UInt8)×List (List UInt8)×List (List UInt8)×List (List UInt8)×List (List UInt8)×PUnit→Option (List (List (List UInt8))):=fun (x0:Za) (L:Nat) (self:Int×List (List UInt8)×List (List UInt8)×List (List UInt8)×List (List UInt8)×List (List UInt8)×List (List UInt8)×List (List UInt8)×List (List UInt8)×List (List UInt8)×List (List UInt8)×PUnit→Option (List (List (List UInt8)))) (acc:Int×List (List UInt8)×List (List UInt8)×List (List UInt8)×List (List UInt8)×List (List UInt8)×List (List UInt8)×List (List UInt8)×List (List UInt8)×List (List UInt8)×List (List UInt8)×PUnit)=>bif decide (acc.1<(↑x0.5.length:Int)) then bT (getT x0.5 acc.1) fun y=>bT (apT 16 acc.2.2.2.2.1 [y.1]) fun y=>self (Go.IntKind.i64.wrap (acc.1+1),acc.2.1,acc.2.2.1,acc.2.2.2.1,y,acc.2.2.2.2.2.1,acc.2.2.2.2.2.2.1,acc.2.2.2.2.2.2.2.1,acc.2.2.2.2.2.2.2.2.1,acc.2.2.2.2.2.2.2.2.2.1,acc.2.2.2.2.2.2.2.2.2.2.1,()) else loopT (OU x0) L (0,acc.2.1,acc.2.2.1,acc.2.2.2.1,acc.2.2.2.2.1,x0.6,x0.7,x0.8,x0.9,x0.10,acc.2.2.2.2.2.2.2.2.2.2.1,())
def OW:Za→Nat→(Int×List (List UInt8)×List (List UInt8)×List (List UInt8)×List (List UInt8)×List (List UInt8)×List (List UInt8)×List (List UInt8)×List (List UInt8)×List (List UInt8)×List (List UInt8)×PUnit→Option (List (List (List UInt8))))→Int×List (List UInt8)×List (List UInt8)×List (List UInt8)×List (List UInt8)×List (List UInt8)×List (List UInt8)×List (List UInt8)×List (List UInt8)×List (List UInt8)×List (List UInt8)×PUnit→Option (List (List (List UInt8))):=fun (x0:Za) (L:Nat) (self:Int×List (List UInt8)×List (List UInt8)×List (List UInt8)×List (List UInt8)×List (List UInt8)×List (List UInt8)×List (List UInt8)×List (List UInt8)×List (List UInt8)×List (List UInt8)×PUnit→Option (List (List (List UInt8)))) (acc:Int×List (List UInt8)×List (List UInt8)×List (List UInt8)×List (List UInt8)×List (List UInt8)×List (List UInt8)×List (List UInt8)×List (List UInt8)×List (List UInt8)×List (List UInt8)×PUnit)=>bif decide (acc.1<(↑x0.4.length:Int)) then bT (getT x0.4 acc.1) fun y=>bT (apT 16 acc.2.2.2.1 [y.1]) fun y=>self (Go.IntKind.i64.wrap (acc.1+1),acc.2.1,acc.2.2.1,y,acc.2.2.2.2.1,acc.2.2.2.2.2.1,acc.2.2.2.2.2.2.1,acc.2.2.2.2.2.2.2.1,acc.2.2.2.2.2.2.2.2.1,acc.2.2.2.2.2.2.2.2.2.1,acc.2.2.2.2.2.2.2.2.2.2.1,()) else loopT (OV x0 L) L (0,acc.2.1,acc.2.2.1,acc.2.2.2.1,acc.2.2.2.2.1,acc.2.2.2.2.2.1,acc.2.2.2.2.2.2.1,acc.2.2.2.2.2.2.2.1,acc.2.2.2.2.2.2.2.2.1,acc.2.2.2.2.2.2.2.2.2.1,acc.2.2.2.2.2.2.2.2.2.2.1,())
def OX:Za→Nat→(Int×List (List UInt8)×List (List UInt8)×List (List UInt8)×List (List UInt8)×List (List UInt8)×List (List UInt8)×List (List UInt8)×List (List UInt8)×List (List UInt8)×List (List UInt8)×PUnit→Option (List (List (List UInt8))))→Int×List (List UInt8)×List (List UInt8)×List (List UInt8)×List (List UInt8)×List (List UInt8)×List (List UInt8)×List (List UInt8)×List (List UInt8)×List (List UInt8)×List (List UInt8)×PUnit→Option (List (List (List UInt8))):=fun (x0:Za) (L:Nat) (self:Int×List (List UInt8)×List (List UInt8)×List (List UInt8)×List (List UInt8)×List (List UInt8)×List (List UInt8)×List (List UInt8)×List (List UInt8)×List (List UInt8)×List (List UInt8)×PUnit→Option (List (List (List UInt8)))) (acc:Int×List (List UInt8)×List (List UInt8)×List (List UInt8)×List (List UInt8)×List (List UInt8)×List (List UInt8)×List (List UInt8)×List (List UInt8)×List (List UInt8)×List (List UInt8)×PUnit)=>bif decide (acc.1<(↑x0.3.length:Int)) then bT (getT x0.3 acc.1) fun y=>bT (apT 16 acc.2.2.1 [y.1]) fun y=>self (Go.IntKind.i64.wrap (acc.1+1),acc.2.1,y,acc.2.2.2.1,acc.2.2.2.2.1,acc.2.2.2.2.2.1,acc.2.2.2.2.2.2.1,acc.2.2.2.2.2.2.2.1,acc.2.2.2.2.2.2.2.2.1,acc.2.2.2.2.2.2.2.2.2.1,acc.2.2.2.2.2.2.2.2.2.2.1,()) else loopT (OW x0 L) L (0,acc.2.1,acc.2.2.1,acc.2.2.2.1,acc.2.2.2.2.1,acc.2.2.2.2.2.1,acc.2.2.2.2.2.2.1,acc.2.2.2.2.2.2.2.1,acc.2.2.2.2.2.2.2.2.1,acc.2.2.2.2.2.2.2.2.2.1,acc.2.2.2.2.2.2.2.2.2.2.1,())
def OY:Za→Nat→(Int×List (List UInt8)×List (List UInt8)×List (List UInt8)×List (List UInt8)×List (List UInt8)×List (List UInt8)×List (List UInt8)×List (List UInt8)×List (List UInt8)×List (List UInt8)×PUnit→Option (List (List (List UInt8))))→Int×List (List UInt8)×List (List UInt8)×List (List UInt8)×List (List UInt8)×List (List UInt8)×List (List UInt8)×List (List UInt8)×List (List UInt8)×List (List UInt8)×List (List UInt8)×PUnit→Option (List (List (List UInt8))):=fun (x0:Za) (L:Nat) (self:Int×List (List UInt8)×List (List UInt8)×List (List UInt8)×List (List UInt8)×List (List UInt8)×List (List UInt8)×List (List UInt8)×List (List UInt8)×List (List UInt8)×List (List UInt8)×PUnit→Option (List (List (List UInt8)))) (acc:Int×List (List UInt8)×List (List UInt8)×List (List UInt8)×List (List UInt8)×List (List UInt8)×List (List UInt8)×List (List UInt8)×List (List UInt8)×List (List UInt8)×List (List UInt8)×PUnit)=>bif decide (acc.1<(↑x0.2.length:Int)) then bT (getT x0.2 acc.1) fun y=>bT (apT 16 acc.2.1 [y.1]) fun y=>self (Go.IntKind.i64.wrap (acc.1+1),y,acc.2.2.1,acc.2.2.2.1,acc.2.2.2.2.1,acc.2.2.2.2.2.1,acc.2.2.2.2.2.2.1,acc.2.2.2.2.2.2.2.1,acc.2.2.2.2.2.2.2.2.1,acc.2.2.2.2.2.2.2.2.2.1,acc.2.2.2.2.2.2.2.2.2.2.1,()) else loopT (OX x0 L) L (0,acc.2.1,acc.2.2.1,acc.2.2.2.1,acc.2.2.2.2.1,acc.2.2.2.2.2.1,acc.2.2.2.2.2.2.1,acc.2.2.2.2.2.2.2.1,acc.2.2.2.2.2.2.2.2.1,acc.2.2.2.2.2.2.2.2.2.1,acc.2.2.2.2.2.2.2.2.2.2.1,())
theorem Zfs (L:Nat)(x0:Za):Ja L (x0,())=loopT (OY x0 L) L (0,[],[],[],[],[],[],[],[],[],[],()):=by kernel_rfl
def VC (L:Nat)(x:Za×(List UInt8)×PUnit):Option Int:=fT [Us L,Ie L] L Dj [] (.one (.int .i64)) [.row 14,.str] x
def Ig (L:Nat):Sum tT:=mU 218 [.row 14,.str] (.one (.int .i64)) (VC L)
theorem Ph:SX Ig:=fun h=>sT h (Zb (Gw h) (Zb (RZ h) Zo)) rfl (by kernel_rfl) fun _=>rfl
theorem Zco (L:Nat)(x0:Za)(x1:(List UInt8)):VC L (x0,x1,())=bT (Ja L (x0,())) fun (y:List (List (List UInt8)))=>bT (getT y 9) fun y=>bT (Vj L (y,x1,())) fun y=>some y:=by kernel_rfl
def UQ (L:Nat)(x:Za×Y1×PUnit):Option (List UInt8):=fT [Xz,WZ L,Bq L,Ig L] L Ac [.rnd [.slot 5 .str,.slot 7 (.int .i64)]] (.one .str) [.row 14,.row 11] x
def Zam (L:Nat):Sum tT:=mU 119 [.row 14,.row 11] (.one .str) (UQ L)
theorem ZfS:SX Zam:=fun h=>sT h (Zb (VW h) (Zb (QF h) (Zb (CE h) (Zb (Ph h) Zo)))) rfl (by kernel_rfl) fun _=>rfl
def Kr:Y1→Nat→Zx→(List UInt8×Int×PUnit→Option (List UInt8))→List UInt8×Int×PUnit→Option (List UInt8):=fun x1 L y self acc=>bif decide (acc.2.1<(↑x1.2.length:Int)) then bif decide (acc.2.1>0) then bT (catS acc.1 [44,32]) fun y_1=>bT (getT y.2 acc.2.1) fun y=>bT (getT x1.2 acc.2.1) fun y_2=>bT (bT (Jc L (y.2,y_2,())) fun y=>some y) fun y=>bT (catS y_1 y) fun y=>self (y,Go.IntKind.i64.wrap (acc.2.1+1),()) else bT (getT y.2 acc.2.1) fun y=>bT (getT x1.2 acc.2.1) fun y_1=>bT (bT (Jc L (y.2,y_1,())) fun y=>some y) fun y=>bT (catS acc.1 y) fun y=>self (y,Go.IntKind.i64.wrap (acc.2.1+1),()) else bT (catS acc.1 [41,32,97,116,32]) fun y=>bT (Yu x1.3) fun y_1=>bT (catS y y_1) fun y=>bif x1.4 != 0 then bT (catS y [32,101,118,101,114,121,32]) fun y=>bT (bT (Yu x1.4) fun y=>some y) fun y_2=>bT (catS y y_2) fun y=>bT (catS y [32,117,110,116,105,108,32]) fun y=>bT (bT (Yu x1.5) fun y=>some y) fun y_3=>bT (catS y y_3) fun y=>bT (Zu L (2,y,())) fun y=>some y else bT (Zu L (2,y,())) fun y=>some y
theorem Zf2 (L:Nat)(x0:Za)(x1:Y1):UQ L (x0,x1,())=bT (catS [115,116,97,114,116,32] x1.1) fun y=>bT (catS y [32,40]) fun y=>bT (bT (VC L (x0,x1.1,())) fun y=>some y) fun y_1=>bT (getT x0.11 y_1) fun y_2=>loopT (Kr x1 L y_2) L (y,0,()):=by kernel_rfl
def XU (L:Nat)(x:Int×PUnit):Option (List UInt8):=fT [] L Ad [] (.one .str) [.int .i64] x
def Bo (L:Nat):Sum tT:=mU 113 [.int .i64] (.one .str) (XU L)
theorem CB:SX Bo:=fun h=>sT h Zo rfl (by kernel_rfl) fun _=>rfl
theorem Zf4 (L:Nat)(x0:Int):XU L (x0,())=bif x0==1 then some [105,110,116] else bif x0==2 then some [98,111,111,108] else some [116,105,109,101]:=by kernel_rfl
def Ul (L:Nat)(x:Zx×PUnit):Option (List UInt8):=fT [Zan L,WZ L,Bo L] L Dl [.rnd [.slot 3 .str,.slot 4 (.int .i64)],.rnd [.slot 3 .str,.slot 5 (.int .i64)]] (.one .str) [.row 10] x
def P8 (L:Nat):Sum tT:=mU 118 [.row 10] (.one .str) (Ul L)
theorem Zc8:SX P8:=fun h=>sT h (Zb (ZfT h) (Zb (QF h) (Zb (CB h) Zo))) rfl (by kernel_rfl) fun _=>rfl
def XB:Zx→Nat→(List UInt8×Int×PUnit→Option (List UInt8))→List UInt8×Int×PUnit→Option (List UInt8):=fun x0 L self acc=>bif decide (acc.2.1<(↑x0.3.length:Int)) then bT (getT x0.3 acc.2.1) fun y=>bT (catS [108,111,99,97,108,32] y.1) fun y=>bT (catS y [32]) fun y=>bT (getT x0.3 acc.2.1) fun y_1=>bT (bT (XU L (y_1.2,())) fun y=>some y) fun y_2=>bT (catS y y_2) fun y=>bT (bT (Zu L (3,y,())) fun y=>some y) fun y=>bT (catS acc.1 y) fun y=>self (y,Go.IntKind.i64.wrap (acc.2.1+1),()) else bT (Iw L (x0.4,3,())) fun y=>bT (catS acc.1 y) fun y=>bT (Zu L (2,[101,110,100],())) fun y_1=>bT (catS y y_1) fun y=>some y
def Jl:Zx→Nat→(List UInt8×Int×PUnit→Option (List UInt8))→List UInt8×Int×PUnit→Option (List UInt8):=fun x0 L self acc=>bif decide (acc.2.1<(↑x0.2.length:Int)) then bif decide (acc.2.1>0) then bT (catS acc.1 [44,32]) fun y=>bT (getT x0.2 acc.2.1) fun y_1=>bT (catS y y_1.1) fun y=>bT (catS y [32]) fun y=>bT (getT x0.2 acc.2.1) fun y_2=>bT (bT (XU L (y_2.2,())) fun y=>some y) fun y_3=>bT (catS y y_3) fun y=>self (y,Go.IntKind.i64.wrap (acc.2.1+1),()) else bT (getT x0.2 acc.2.1) fun y=>bT (catS acc.1 y.1) fun y=>bT (catS y [32]) fun y=>bT (getT x0.2 acc.2.1) fun y_1=>bT (bT (XU L (y_1.2,())) fun y=>some y) fun y_2=>bT (catS y y_2) fun y=>self (y,Go.IntKind.i64.wrap (acc.2.1+1),()) else bT (catS acc.1 [41]) fun y=>bT (Zu L (2,y,())) fun y=>loopT (XB x0 L) L (y,0,())
theorem Zcr (L:Nat)(x0:Zx):Ul L (x0,())=bT (catS [114,111,117,116,105,110,101,32] x0.1) fun y=>bT (catS y [32,40]) fun y=>loopT (Jl x0 L) L (y,0,()):=by kernel_rfl
def Xg (L:Nat)(x:(List UInt8)×(List (List UInt8))×PUnit):Option (List UInt8):=fT [WZ L] L EZ [.rnd [.slot 5 .str,.slot 6 (.int .i64)]] (.one .str) [.str,.lst 1 .str] x
def Zak (L:Nat):Sum tT:=mU 117 [.str,.lst 1 .str] (.one .str) (Xg L)
theorem ZfQ:SX Zak:=fun h=>sT h (Zb (QF h) Zo) rfl (by kernel_rfl) fun _=>rfl
def Kq:List UInt8→List (List UInt8)→Nat→(List UInt8×Int×PUnit→Option (List UInt8))→List UInt8×Int×PUnit→Option (List UInt8):=fun x0 x1 L self acc=>bif decide (acc.2.1<(↑x1.length:Int)) then bT (catS x0 [32]) fun y=>bT (getT x1 acc.2.1) fun y_1=>bT (catS y y_1) fun y=>bT (Zu L (2,y,())) fun y=>bT (catS acc.1 y) fun y=>self (y,Go.IntKind.i64.wrap (acc.2.1+1),()) else some acc.1
theorem Zf0 (L:Nat)(x0:(List UInt8))(x1:(List (List UInt8))):Xg L (x0,x1,())=loopT (Kq x0 x1 L) L ([],0,()):=by kernel_rfl
def JA (L:Nat)(x:Int×PUnit):Option (List UInt8):=fT [] L NK [] (.one .str) [.int .i64] x
def SN (L:Nat):Sum tT:=mU 116 [.int .i64] (.one .str) (JA L)
theorem Zel:SX SN:=fun h=>sT h Zo rfl (by kernel_rfl) fun _=>rfl
theorem ZdR (L:Nat)(x0:Int):JA L (x0,())=bif x0==1 then some [102,105,102,111] else bif x0==2 then some [108,105,102,111] else some [108,101,97,115,116]:=by kernel_rfl
def XH (L:Nat)(x:Zi×PUnit):Option (List UInt8):=fT [Xz,WZ L,Nh L] L L9 [.rnd [.slot 3 .str,.slot 4 (.int .i64)]] (.one .str) [.row 4] x
def LY (L:Nat):Sum tT:=mU 115 [.row 4] (.one .str) (XH L)
theorem ZaE:SX LY:=fun h=>sT h (Zb (VW h) (Zb (QF h) (Zb (Zbp h) Zo))) rfl (by kernel_rfl) fun _=>rfl
def Vy:Zi→Nat→(List UInt8×Int×PUnit→Option (List UInt8))→List UInt8×Int×PUnit→Option (List UInt8):=fun x0 L self acc=>bif decide (acc.2.1<(↑x0.3.length:Int)) then bT (catS acc.1 [32]) fun y=>bT (getT x0.3 acc.2.1) fun y_1=>bT (bT (Yu y_1.1) fun y=>some y) fun y_2=>bT (catS y y_2) fun y=>bT (catS y [58]) fun y=>bT (getT x0.3 acc.2.1) fun y_3=>bT (bT (Yu y_3.2) fun y=>some y) fun y_4=>bT (catS y y_4) fun y=>self (y,Go.IntKind.i64.wrap (acc.2.1+1),()) else bT (catS acc.1 [32,99,121,99,108,101,32]) fun y=>bT (Yu x0.4) fun y_1=>bT (catS y y_1) fun y=>bif !x0.Fault.1==[] then bT (catS y [32,102,97,117,108,116,32]) fun y=>bT (catS y x0.Fault.1) fun y=>bT (catS y [32,117,112,32]) fun y=>bT (bT (Wp L (x0.Fault.2,())) fun y=>some y) fun y_2=>bT (catS y y_2) fun y=>bT (catS y [32,100,111,119,110,32]) fun y=>bT (bT (Wp L (x0.Fault.3,())) fun y=>some y) fun y_3=>bT (catS y y_3) fun y=>bT (Zu L (2,y,())) fun y=>some y else bT (Zu L (2,y,())) fun y=>some y
theorem Za6 (L:Nat)(x0:Zi):XH L (x0,())=bT (catS [114,101,115,111,117,114,99,101,32] x0.1) fun y=>bT (catS y [32]) fun y=>bT (bT (Yu x0.2) fun y=>some y) fun y_1=>bT (catS y y_1) fun y=>bif decide ((↑x0.3.length:Int)>0) then bT (catS y [32,115,104,105,102,116]) fun y=>loopT (Vy x0 L) L (y,0,()) else bif !x0.Fault.1==[] then bT (catS y [32,102,97,117,108,116,32]) fun y=>bT (catS y x0.Fault.1) fun y=>bT (catS y [32,117,112,32]) fun y=>bT (bT (Wp L (x0.Fault.2,())) fun y=>some y) fun y_2=>bT (catS y y_2) fun y=>bT (catS y [32,100,111,119,110,32]) fun y=>bT (bT (Wp L (x0.Fault.3,())) fun y=>some y) fun y_3=>bT (catS y y_3) fun y=>bT (Zu L (2,y,())) fun y=>some y else bT (Zu L (2,y,())) fun y=>some y:=by kernel_rfl
def Xh (L:Nat)(x:Int×(List UInt8)×(List Yc)×PUnit):Option (List UInt8):=fT [WZ L,Bq L,Bo L] L NM [.rnd [.slot 7 .str,.slot 8 (.int .i64)]] (.one .str) [.int .i64,.str,.lst 3 (.row 0)] x
def TP (L:Nat):Sum tT:=mU 48 [.int .i64,.str,.lst 3 (.row 0)] (.one .str) (Xh L)
theorem Sr:SX TP:=fun h=>sT h (Zb (QF h) (Zb (CE h) (Zb (CB h) Zo))) rfl (by kernel_rfl) fun _=>rfl
def JY:Int→List UInt8→List Yc→Nat→(List UInt8×Int×PUnit→Option (List UInt8))→List UInt8×Int×PUnit→Option (List UInt8):=fun x0 x1 x2 L self acc=>bif decide (acc.2.1<(↑x2.length:Int)) then bT (catS x1 [32]) fun y=>bT (getT x2 acc.2.1) fun y_1=>bT (catS y y_1.1) fun y=>bT (catS y [32]) fun y=>bT (getT x2 acc.2.1) fun y_2=>bT (bT (XU L (y_2.2,())) fun y=>some y) fun y_3=>bT (catS y y_3) fun y=>bT (catS y [32,61,32]) fun y=>bT (getT x2 acc.2.1) fun y_4=>bT (getT x2 acc.2.1) fun y_5=>bT (bT (Jc L (y_4.2,y_5.3,())) fun y=>some y) fun y_6=>bT (catS y y_6) fun y=>bT (bT (Zu L (x0,y,())) fun y=>some y) fun y=>bT (catS acc.1 y) fun y=>self (y,Go.IntKind.i64.wrap (acc.2.1+1),()) else some acc.1
theorem ZdS (L:Nat)(x0:Int)(x1:(List UInt8))(x2:(List Yc)):Xh L (x0,x1,x2,())=loopT (JY x0 x1 x2 L) L ([],0,()):=by kernel_rfl
def MQ (L:Nat)(x:Za×PUnit):Option (List UInt8):=fT [Xz,Zew L,Zam L,P8 L,Zak L,SN L,LY L,TP L,WZ L] L ZaV [.rnd [.slot 3 .str,.slot 4 (.int .i64)],.rnd [.slot 3 .str,.slot 5 (.int .i64)],.rnd [.slot 3 .str,.slot 7 (.int .i64)],.rnd [.slot 3 .str,.slot 9 (.int .i64)],.rnd [.slot 3 .str,.slot 10 (.int .i64)],.rnd [.slot 3 .str,.slot 11 (.int .i64)]] (.one .str) [.row 14] x
def Zb0 (L:Nat):Sum tT:=mU 50 [.row 14] (.one .str) (MQ L)
theorem ZhJ:SX Zb0:=fun h=>sT h (Zb (VW h) (Zb (Zje h) (Zb (ZfS h) (Zb (Zc8 h) (Zb (ZfQ h) (Zb (Zel h) (Zb (ZaE h) (Zb (Sr h) (Zb (QF h) Zo))))))))) rfl (by kernel_rfl) fun _=>rfl
def VP:Za→Nat→(List UInt8×Int×PUnit→Option (List UInt8))→List UInt8×Int×PUnit→Option (List UInt8):=fun x0 L self acc=>bif decide (acc.2.1<(↑x0.13.length:Int)) then bT (getT x0.13 acc.2.1) fun y=>bT (TY L (y,())) fun y=>bT (catS acc.1 y) fun y=>self (y,Go.IntKind.i64.wrap (acc.2.1+1),()) else bT (Zu L (1,[101,110,100],())) fun y=>bT (catS acc.1 y) fun y=>some y
def VQ:Za→Nat→(List UInt8×Int×PUnit→Option (List UInt8))→List UInt8×Int×PUnit→Option (List UInt8):=fun x0 L self acc=>bif decide (acc.2.1<(↑x0.12.length:Int)) then bT (getT x0.12 acc.2.1) fun y=>bT (bT (UQ L (x0,y,())) fun y=>some y) fun y=>bT (catS acc.1 y) fun y=>self (y,Go.IntKind.i64.wrap (acc.2.1+1),()) else loopT (VP x0 L) L (acc.1,0,())
def U9:Za→Nat→(List UInt8×Int×PUnit→Option (List UInt8))→List UInt8×Int×PUnit→Option (List UInt8):=fun x0 L self acc=>bif decide (acc.2.1<(↑x0.11.length:Int)) then bT (getT x0.11 acc.2.1) fun y=>bT (Ul L (y,())) fun y=>bT (catS acc.1 y) fun y=>self (y,Go.IntKind.i64.wrap (acc.2.1+1),()) else loopT (VQ x0 L) L (acc.1,0,())
def Qo:Za→Nat→(List UInt8×Int×PUnit→Option (List UInt8))→List UInt8×Int×PUnit→Option (List UInt8):=fun x0 L self acc=>bif decide (acc.2.1<(↑x0.5.length:Int)) then bT (getT x0.5 acc.2.1) fun y=>bT (catS [98,101,108,116,32] y.1) fun y_1=>bT (catS y_1 [32]) fun y_2=>bT (bT (Yu y.2) fun y=>some y) fun y_3=>bT (catS y_2 y_3) fun y_4=>bT (catS y_4 [32]) fun y_5=>bT (bT (Yu y.3) fun y=>some y) fun y=>bT (catS y_5 y) fun y=>bT (bT (Zu L (2,y,())) fun y=>some y) fun y=>bT (catS acc.1 y) fun y=>self (y,Go.IntKind.i64.wrap (acc.2.1+1),()) else bT (bT (Xg L ([113,117,101,117,101],x0.6,())) fun y=>some y) fun y=>bT (catS acc.1 y) fun y=>bT (bT (Xg L ([115,116,114,101,97,109],x0.7,())) fun y=>some y) fun y_1=>bT (catS y y_1) fun y=>bT (bT (Xg L ([116,97,108,108,121],x0.8,())) fun y=>some y) fun y_2=>bT (catS y y_2) fun y=>bT (bT (Xg L ([108,101,118,101,108],x0.9,())) fun y=>some y) fun y_3=>bT (catS y y_3) fun y=>bT (bT (Xg L ([99,111,117,110,116],x0.10,())) fun y=>some y) fun y_4=>bT (catS y y_4) fun y=>loopT (U9 x0 L) L (y,0,())
def VS:Za→Nat→(List UInt8×Int×PUnit→Option (List UInt8))→List UInt8×Int×PUnit→Option (List UInt8):=fun x0 L self acc=>bif decide (acc.2.1<(↑x0.4.length:Int)) then bT (getT x0.4 acc.2.1) fun y=>bT (catS [115,116,111,114,101,32] y.1) fun y_1=>bT (catS y_1 [32]) fun y_2=>bT (bT (Yu y.2) fun y=>some y) fun y_3=>bT (catS y_2 y_3) fun y_4=>bT (catS y_4 [32]) fun y_5=>bT (bT (JA L (y.3,())) fun y=>some y) fun y=>bT (catS y_5 y) fun y=>bT (bT (Zu L (2,y,())) fun y=>some y) fun y=>bT (catS acc.1 y) fun y=>self (y,Go.IntKind.i64.wrap (acc.2.1+1),()) else loopT (Qo x0 L) L (acc.1,0,())
def UA:Za→Nat→(List UInt8×Int×PUnit→Option (List UInt8))→List UInt8×Int×PUnit→Option (List UInt8):=fun x0 L self acc=>bif decide (acc.2.1<(↑x0.3.length:Int)) then bT (getT x0.3 acc.2.1) fun y=>bT (XH L (y,())) fun y=>bT (catS acc.1 y) fun y=>self (y,Go.IntKind.i64.wrap (acc.2.1+1),()) else loopT (VS x0 L) L (acc.1,0,())
theorem Zh8 (L:Nat)(x0:Za):MQ L (x0,())=bT (catS [115,105,116,101,32] x0.1) fun y=>bT (bT (Zu L (1,y,())) fun y=>some y) fun y=>bT (bT (Xh L (2,[118,97,114],x0.2,())) fun y=>some y) fun y_1=>bT (catS y y_1) fun y=>loopT (UA x0 L) L (y,0,()):=by kernel_rfl
def ZH (L:Nat)(x:Int×Int×Int×PUnit):Option Bool:=fT [] L NJ [] (.one .bool) [.int .i64,.int .i64,.int .i64] x
def Qi (L:Nat):Sum tT:=mU 217 [.int .i64,.int .i64,.int .i64] (.one .bool) (ZH L)
theorem QY:SX Qi:=fun h=>sT h Zo rfl (by kernel_rfl) fun _=>rfl
theorem ZdQ (L:Nat)(x0:Int)(x1:Int)(x2:Int):ZH L (x0,x1,x2,())=some (decide (x0≥x1)&&decide (x0≤x2)):=by kernel_rfl
def Gz (L:Nat)(x:ZF×(List UInt8)×PUnit):Option Int:=fT [] L ZaQ [.rnd [.slot 5 (.int .i64)]] (.one (.int .i64)) [.row 16,.str] x
def Zbw (L:Nat):Sum tT:=mU 216 [.row 16,.str] (.one (.int .i64)) (Gz L)
theorem ZhF:SX Zbw:=fun h=>sT h Zo rfl (by kernel_rfl) fun _=>rfl
def RN:ZF→List UInt8→(Int×PUnit→Option Int)→Int×PUnit→Option Int:=fun x0 x1 self acc=>bif decide (acc.1<(↑x0.3.length:Int)) then bT (getT x0.3 acc.1) fun y=>bif y.1==x1 then some acc.1 else self (Go.IntKind.i64.wrap (acc.1+1),()) else some (-1)
theorem Zh1 (L:Nat)(x0:ZF)(x1:(List UInt8)):Gz L (x0,x1,())=loopT (RN x0 x1) L (0,()):=by kernel_rfl
def Ip (L:Nat)(x:ZF×PUnit):Option Int:=fT [Qi L,Zbw L] L ER [.rnd [.slot 2 (.int .i64),.slot 3 (.int .i64)],.rnd [.slot 2 (.int .i64),.slot 5 (.int .i64)]] (.one (.int .i64)) [.row 16] x
def Zag (L:Nat):Sum tT:=mU 112 [.row 16] (.one (.int .i64)) (Ip L)
theorem ZfM:SX Zag:=fun h=>sT h (Zb (QY h) (Zb (ZhF h) Zo)) rfl (by kernel_rfl) fun _=>rfl
def Jv:ZF→(Int×Int×PUnit→Option Int)→Int×Int×PUnit→IY→(Int×Int×PUnit→Option Int)→Int×Int×PUnit→Option Int:=fun x0 self acc y self_1 acc_1=>bif decide (acc_1.2.1<acc.2.1) then bT (getT x0.4 acc_1.2.1) fun y_1=>bT (bif (y_1.1==y.1)==true then bT (getT x0.4 acc_1.2.1) fun y_2=>some (y_2.2==y.2) else some false) fun y=>bif y then some 4 else self_1 (acc_1.1,Go.IntKind.i64.wrap (acc_1.2.1+1),()) else self (acc_1.1,Go.IntKind.i64.wrap (acc.2.1+1),())
def Jw:ZF→Nat→(Int×Int×PUnit→Option Int)→Int×Int×PUnit→Option Int:=fun x0 L self acc=>bif decide (acc.2.1<(↑x0.4.length:Int)) then bT (getT x0.4 acc.2.1) fun y=>bT (Gz L (x0,y.1,())) fun y_1=>bT (bif decide (y_1<0)==false then bT (Gz L (x0,y.2,())) fun y=>some (decide (y<0)) else some true) fun y_2=>bif y_2 then some 5 else bif y.1==y.2 then some 1 else bT (ZH L (y.3,1,1000000000,())) fun y_3=>bif !y_3 then some 2 else loopT (Jv x0 self acc y) L (acc.1,0,()) else some 0
theorem Zfv (L:Nat)(x0:ZF):Ip L (x0,())=bif decide ((↑x0.4.length:Int)>32) then some 6 else loopT (Jw x0 L) L (0,0,()):=by kernel_rfl
def Z5 (L:Nat)(x:Int×Int×PUnit):Option Int:=fT [] L EQ [] (.one (.int .i64)) [.int .i64,.int .i64] x
def WO (L:Nat):Sum tT:=mU 106 [.int .i64,.int .i64] (.one (.int .i64)) (Z5 L)
theorem Qp:SX WO:=fun h=>sT h Zo rfl (by kernel_rfl) fun _=>rfl
theorem Zfu (L:Nat)(x0:Int)(x1:Int):Z5 L (x0,x1,())=bif x0 != 0 then some x0 else some x1:=by kernel_rfl
def Qa (L:Nat)(x:Za×(List UInt8)×PUnit):Option (List UInt8):=fT [Us L,Ie L] L ZaP [.rnd [.slot 7 (.int .i64)]] (.one .str) [.row 14,.str] x
def Zbv (L:Nat):Sum tT:=mU 311 [.row 14,.str] (.one .str) (Qa L)
theorem ZhE:SX Zbv:=fun h=>sT h (Zb (Gw h) (Zb (RZ h) Zo)) rfl (by kernel_rfl) fun _=>rfl
def Hg:List UInt8→Nat→List (List (List UInt8))→(Int×PUnit→Option (List UInt8))→Int×PUnit→Option (List UInt8):=fun x1 L y self acc=>bif decide (acc.1<(↑y.length:Int)) then bT (getT y acc.1) fun y=>bT (Vj L (y,x1,())) fun y=>bif decide (y≥0) then bT (getT [[118,97,114],[114,101,115,111,117,114,99,101],[115,116,111,114,101],[98,101,108,116],[113,117,101,117,101],[115,116,114,101,97,109],[116,97,108,108,121],[108,101,118,101,108],[99,111,117,110,116],[114,111,117,116,105,110,101]] acc.1) fun y=>some y else self (Go.IntKind.i64.wrap (acc.1+1),()) else some []
theorem Zh0 (L:Nat)(x0:Za)(x1:(List UInt8)):Qa L (x0,x1,())=bT (Ja L (x0,())) fun (y:List (List (List UInt8)))=>loopT (Hg x1 L y) L (0,()):=by kernel_rfl
def Zp (L:Nat)(x:Bool×Int×PUnit):Option Int:=fT [] L NI [] (.one (.int .i64)) [.bool,.int .i64] x
def Wi (L:Nat):Sum tT:=mU 108 [.bool,.int .i64] (.one (.int .i64)) (Zp L)
theorem WA:SX Wi:=fun h=>sT h Zo rfl (by kernel_rfl) fun _=>rfl
theorem ZdP (L:Nat)(x0:Bool)(x1:Int):Zp L (x0,x1,())=bif x0 then some 0 else some x1:=by kernel_rfl
def MP (L:Nat)(x:Za×Vl×PUnit):Option Int:=fT [Qi L,WO L,Zbv L,Wi L] L ZaS [] (.one (.int .i64)) [.row 14,.row 12] x
def Zby (L:Nat):Sum tT:=mU 274 [.row 14,.row 12] (.one (.int .i64)) (MP L)
theorem ZhH:SX Zby:=fun h=>sT h (Zb (QY h) (Zb (Qp h) (Zb (ZhE h) (Zb (WA h) Zo)))) rfl (by kernel_rfl) fun _=>rfl
theorem Zh3 (L:Nat)(x0:Za)(x1:Vl):MP L (x0,x1,())=bif x1.2==[99,114,101,97,116,101,100] then bT (bT (Zp L (!([114,111,117,116,105,110,101]:List UInt8)==[],1,())) fun y=>some y) fun y=>bT (bT (Qa L (x0,x1.3,())) fun y=>some y) fun y_1=>bT (bT (Zp L (y_1==[114,111,117,116,105,110,101],5,())) fun y=>some y) fun y_2=>bT (bT (Z5 L (y,y_2,())) fun y=>some y) fun y=>bT (ZH L (x1.1,(-1000),1000,())) fun y_3=>bT (Zp L (y_3&&x1.1 != 0,2,())) fun y_4=>bT (Z5 L (y,y_4,())) fun y=>some y else bif x1.2==[101,110,100,101,100] then bT (bT (Zp L (!([114,111,117,116,105,110,101]:List UInt8)==[],1,())) fun y=>some y) fun y=>bT (bT (Qa L (x0,x1.3,())) fun y=>some y) fun y_1=>bT (bT (Zp L (y_1==[114,111,117,116,105,110,101],5,())) fun y=>some y) fun y_2=>bT (bT (Z5 L (y,y_2,())) fun y=>some y) fun y=>bT (ZH L (x1.1,(-1000),1000,())) fun y_3=>bT (Zp L (y_3&&x1.1 != 0,2,())) fun y_4=>bT (Z5 L (y,y_4,())) fun y=>some y else bif x1.2==[105,110,115,105,100,101] then bT (bT (Zp L (!([114,111,117,116,105,110,101]:List UInt8)==[],1,())) fun y=>some y) fun y=>bT (bT (Qa L (x0,x1.3,())) fun y=>some y) fun y_1=>bT (bT (Zp L (y_1==[114,111,117,116,105,110,101],5,())) fun y=>some y) fun y_2=>bT (bT (Z5 L (y,y_2,())) fun y=>some y) fun y=>bT (ZH L (x1.1,(-1000),1000,())) fun y_3=>bT (Zp L (y_3&&x1.1 != 0,2,())) fun y_4=>bT (Z5 L (y,y_4,())) fun y=>some y else bif x1.2==[115,116,111,114,101,100] then bT (bT (Zp L (!([115,116,111,114,101]:List UInt8)==[],1,())) fun y=>some y) fun y=>bT (bT (Qa L (x0,x1.3,())) fun y=>some y) fun y_1=>bT (bT (Zp L (y_1==[115,116,111,114,101],5,())) fun y=>some y) fun y_2=>bT (bT (Z5 L (y,y_2,())) fun y=>some y) fun y=>bT (ZH L (x1.1,(-1000),1000,())) fun y_3=>bT (Zp L (y_3&&x1.1 != 0,2,())) fun y_4=>bT (Z5 L (y,y_4,())) fun y=>some y else bif x1.2==[101,110,116,101,114,101,100] then bT (bT (Zp L (!([115,116,111,114,101]:List UInt8)==[],1,())) fun y=>some y) fun y=>bT (bT (Qa L (x0,x1.3,())) fun y=>some y) fun y_1=>bT (bT (Zp L (y_1==[115,116,111,114,101],5,())) fun y=>some y) fun y_2=>bT (bT (Z5 L (y,y_2,())) fun y=>some y) fun y=>bT (ZH L (x1.1,(-1000),1000,())) fun y_3=>bT (Zp L (y_3&&x1.1 != 0,2,())) fun y_4=>bT (Z5 L (y,y_4,())) fun y=>some y else bif x1.2==[108,101,102,116] then bT (bT (Zp L (!([115,116,111,114,101]:List UInt8)==[],1,())) fun y=>some y) fun y=>bT (bT (Qa L (x0,x1.3,())) fun y=>some y) fun y_1=>bT (bT (Zp L (y_1==[115,116,111,114,101],5,())) fun y=>some y) fun y_2=>bT (bT (Z5 L (y,y_2,())) fun y=>some y) fun y=>bT (ZH L (x1.1,(-1000),1000,())) fun y_3=>bT (Zp L (y_3&&x1.1 != 0,2,())) fun y_4=>bT (Z5 L (y,y_4,())) fun y=>some y else bif x1.2==[99,111,117,110,116,101,100] then bT (bT (Zp L (!([99,111,117,110,116]:List UInt8)==[],1,())) fun y=>some y) fun y=>bT (bT (Qa L (x0,x1.3,())) fun y=>some y) fun y_1=>bT (bT (Zp L (y_1==[99,111,117,110,116],5,())) fun y=>some y) fun y_2=>bT (bT (Z5 L (y,y_2,())) fun y=>some y) fun y=>bT (ZH L (x1.1,(-1000),1000,())) fun y_3=>bT (Zp L (y_3&&x1.1 != 0,2,())) fun y_4=>bT (Z5 L (y,y_4,())) fun y=>some y else bT (bT (Zp L (!([]:List UInt8)==[],1,())) fun y=>some y) fun y=>bT (bT (Qa L (x0,x1.3,())) fun y=>some y) fun y_1=>bT (bT (Zp L (y_1==[],5,())) fun y=>some y) fun y_2=>bT (bT (Z5 L (y,y_2,())) fun y=>some y) fun y=>bT (ZH L (x1.1,(-1000),1000,())) fun y_3=>bT (Zp L (y_3&&x1.1 != 0,2,())) fun y_4=>bT (Z5 L (y,y_4,())) fun y=>some y:=by kernel_rfl
def Xf (L:Nat)(x:(List UInt8)×(List (List UInt8))×PUnit):Option Int:=fT [WO L,Wi L,Us L,VX L] L ES [] (.one (.int .i64)) [.str,.lst 1 .str] x
def VY (L:Nat):Sum tT:=mU 110 [.str,.lst 1 .str] (.one (.int .i64)) (Xf L)
theorem UF:SX VY:=fun h=>sT h (Zb (Qp h) (Zb (WA h) (Zb (Gw h) (Zb (UE h) Zo)))) rfl (by kernel_rfl) fun _=>rfl
theorem Zfw (L:Nat)(x0:(List UInt8))(x1:(List (List UInt8))):Xf L (x0,x1,())=bT (Qy L (x0,())) fun y=>bT (Vj L (x1,x0,())) fun y_1=>bT (Zp L (decide (y_1<0),4,())) fun y_2=>bT (Z5 L (y,y_2,())) fun y=>some y:=by kernel_rfl
def PG (L:Nat)(x:Za×Oj×(List (List UInt8))×PUnit):Option Int:=fT [P5 L,Zby L,WO L,Wi L,VY L] L ZcZ [.rnd [.slot 7 (.int .i64),.slot 8 (.int .i64)]] (.one (.int .i64)) [.row 14,.row 13,.lst 1 .str] x
def Zev (L:Nat):Sum tT:=mU 215 [.row 14,.row 13,.lst 1 .str] (.one (.int .i64)) (PG L)
theorem Zjd:SX Zev:=fun h=>sT h (Zb (Ey h) (Zb (ZhH h) (Zb (Qp h) (Zb (WA h) (Zb (UF h) Zo))))) rfl (by kernel_rfl) fun _=>rfl
def MF:Za→Oj→Nat→(Int×Int×PUnit→Option Int)→Int×Int×PUnit→Option Int:=fun x0 x1 L self acc=>bif decide (acc.2.1<(↑x1.2.length:Int)) then bT (getT x1.2 acc.2.1) fun y=>bT (bT (MP L (x0,y,())) fun y=>some y) fun y=>bT (bT (Z5 L (acc.1,y,())) fun y=>some y) fun y=>self (y,Go.IntKind.i64.wrap (acc.2.1+1),()) else bT (MM L (x1.3,())) fun y=>bT (Zp L (y,2,())) fun y=>bT (Z5 L (acc.1,y,())) fun y=>some y
theorem ZiY (L:Nat)(x0:Za)(x1:Oj)(x2:(List (List UInt8))):PG L (x0,x1,x2,())=bT (Xf L (x1.1,x2,())) fun y=>bT (Zp L (decide ((↑x1.2.length:Int)>0),7,())) fun y_1=>bT (Z5 L (y,y_1,())) fun y=>bT (Zp L (decide ((↑x1.2.length:Int)≤8),6,())) fun y_2=>bT (Z5 L (y,y_2,())) fun y=>loopT (MF x0 x1 L) L (y,0,()):=by kernel_rfl
def Uu (L:Nat)(x:Int×Int×PUnit):Option Bool:=fT [Qi L,P5 L] L ZaO [] (.one .bool) [.int .i64,.int .i64] x
def MI (L:Nat):Sum tT:=mU 210 [.int .i64,.int .i64] (.one .bool) (Uu L)
theorem PZ:SX MI:=fun h=>sT h (Zb (QY h) (Zb (Ey h) Zo)) rfl (by kernel_rfl) fun _=>rfl
theorem Zhz (L:Nat)(x0:Int)(x1:Int):Uu L (x0,x1,())=bif x0==1 then bT (MM L (x1,())) fun y=>some y else bif x0==2 then some (x1==0||x1==1) else bif x0==3 then bT (ZH L (x1,0,1000000000,())) fun y=>some y else some false:=by kernel_rfl
def Iq (L:Nat)(x:Za×Y1×PUnit):Option Int:=fT [Wi L,Qi L,MI L,Ig L] L EU [.rnd [.slot 7 (.int .i64)]] (.one (.int .i64)) [.row 14,.row 11] x
def Zah (L:Nat):Sum tT:=mU 214 [.row 14,.row 11] (.one (.int .i64)) (Iq L)
theorem ZfN:SX Zah:=fun h=>sT h (Zb (WA h) (Zb (QY h) (Zb (PZ h) (Zb (Ph h) Zo)))) rfl (by kernel_rfl) fun _=>rfl
def Ko:Y1→Nat→Zx→(Int×PUnit→Option Int)→Int×PUnit→Option Int:=fun x1 L y self acc=>bif decide (acc.1<(↑y.2.length:Int)) then bT (getT y.2 acc.1) fun y=>bT (getT x1.2 acc.1) fun y_1=>bT (bT (Uu L (y.2,y_1,())) fun y=>some y) fun y=>bif !y then some 2 else self (Go.IntKind.i64.wrap (acc.1+1),()) else bT (ZH L (x1.3,0,1000000000,())) fun y=>bT (bif y==true then bT (ZH L (x1.4,0,1000000000,())) fun y=>some y else some false) fun y=>bT (bif y==true then bT (ZH L (x1.5,0,1000000000,())) fun y=>some y else some false) fun y=>bT (Zp L (y&&(x1.4 != 0||x1.5==0),2,())) fun y=>some y
theorem Zfx (L:Nat)(x0:Za)(x1:Y1):Iq L (x0,x1,())=bT (VC L (x0,x1.1,())) fun y=>bif decide (y<0) then some 5 else bT (getT x0.11 y) fun y=>bif (↑x1.2.length:Int) != (↑y.2.length:Int) then some 8 else loopT (Ko x1 L y) L (0,()):=by kernel_rfl
def Jb (L:Nat)(x:Int×PUnit):Option Bool:=fT [] L EP [] (.one .bool) [.int .i64] x
def Ih (L:Nat):Sum tT:=mU 209 [.int .i64] (.one .bool) (Jb L)
theorem Ba:SX Ih:=fun h=>sT h Zo rfl (by kernel_rfl) fun _=>rfl
theorem Zft (L:Nat)(x0:Int):Jb L (x0,())=some (x0==1||x0==2||x0==3):=by kernel_rfl
def Uk (L:Nat)(x:Zx×PUnit):Option Int:=fT [Zaa L,WO L,Wi L,Ih L,VY L] L Dk [.rnd [.slot 3 (.own 1 .str),.slot 5 (.int .i64)]] (.one (.int .i64)) [.row 10] x
def P7 (L:Nat):Sum tT:=mU 273 [.row 10] (.one (.int .i64)) (Uk L)
theorem Zc7:SX P7:=fun h=>sT h (Zb (ZfH h) (Zb (Qp h) (Zb (WA h) (Zb (Ba h) (Zb (UF h) Zo))))) rfl (by kernel_rfl) fun _=>rfl
def Jk:Zx→Nat→List ZX→(List (List UInt8)×Int×PUnit→Option Int)→List (List UInt8)×Int×PUnit→Option Int:=fun x0 L y self acc=>bif decide (acc.2.1<(↑y.length:Int)) then bT (getT y acc.2.1) fun y_1=>bT (bT (Xf L (y_1.1,acc.1,())) fun y=>some y) fun y_2=>bT (getT y acc.2.1) fun y_3=>bT (bT (Jb L (y_3.2,())) fun y=>some y) fun y_4=>bT (bT (Zp L (y_4,1,())) fun y=>some y) fun y_5=>bT (bT (Z5 L (y_2,y_5,())) fun y=>some y) fun y_6=>bif y_6 != 0 then some y_6 else bT (getT y acc.2.1) fun y=>bT (apT 16 acc.1 [y.1]) fun y=>self (y,Go.IntKind.i64.wrap (acc.2.1+1),()) else bT (Il L (x0.4,())) fun y=>some y
theorem Zcp (L:Nat)(x0:Zx):Uk L (x0,())=bif decide ((↑x0.2.length:Int)>6)||decide (Go.IntKind.i64.wrap ((↑x0.2.length:Int)+(↑x0.3.length:Int))>16) then some 6 else bT (apT 24 [] x0.2) fun y=>bT (apT 24 y x0.3) fun y=>loopT (Jk x0 L y) L ([],0,()):=by kernel_rfl
def Jp (L:Nat)(x:Zi×PUnit):Option Int:=fT [Qi L,Wi L] L Lu [.rnd [.slot 3 (.int .i64)]] (.one (.int .i64)) [.row 4] x
def LV (L:Nat):Sum tT:=mU 310 [.row 4] (.one (.int .i64)) (Jp L)
theorem ZaB:SX LV:=fun h=>sT h (Zb (QY h) (Zb (WA h) Zo)) rfl (by kernel_rfl) fun _=>rfl
def QX:Zi→Nat→(Int×PUnit→Option Int)→Int×PUnit→Option Int:=fun x0 L self acc=>bif decide (acc.1<(↑x0.3.length:Int)) then bT (getT x0.3 acc.1) fun y=>bT (ZH L (y.1,0,Go.IntKind.i64.wrap (x0.4 - 1),())) fun y_1=>bT (bif (!y_1)==false then bT (ZH L (y.2,0,1000,())) fun y=>some !y else some true) fun y_2=>bif y_2 then some 2 else bT (bif decide (acc.1>0)==true then bT (getT x0.3 (Go.IntKind.i64.wrap (acc.1 - 1))) fun y_3=>some (decide (y.1≤y_3.1)) else some false) fun y=>bif y then some 12 else self (Go.IntKind.i64.wrap (acc.1+1),()) else some 0
theorem Za4 (L:Nat)(x0:Zi):Jp L (x0,())=bif (↑x0.3.length:Int)==0 then bT (Zp L (x0.4==0,1,())) fun y=>some y else bif decide ((↑x0.3.length:Int)>20) then some 6 else bT (ZH L (x0.4,1,1000000000,())) fun y=>bif !y then some 2 else loopT (QX x0 L) L (0,()):=by kernel_rfl
def Jq (L:Nat)(x:Za×Zi×PUnit):Option Int:=fT [Ia L,Us L,Nc L,WO L,LV L,Wi L,Qi L] L L8 [] (.one (.int .i64)) [.row 14,.row 4] x
def LX (L:Nat):Sum tT:=mU 272 [.row 14,.row 4] (.one (.int .i64)) (Jq L)
theorem ZaD:SX LX:=fun h=>sT h (Zb (RX h) (Zb (Gw h) (Zb (Zbo h) (Zb (Qp h) (Zb (ZaB h) (Zb (WA h) (Zb (QY h) Zo))))))) rfl (by kernel_rfl) fun _=>rfl
theorem Za5 (L:Nat)(x0:Za)(x1:Zi):Jq L (x0,x1,())=bT (bT (ZH L (x1.2,0,1000,())) fun y=>some y) fun y=>bT (bT (Zp L (y,2,())) fun y=>some y) fun y=>bT (bT (Jp L (x1,())) fun y=>some y) fun y_1=>bT (bT (Z5 L (y,y_1,())) fun y=>some y) fun y=>bif y != 0 then some y else bif x1.Fault.1==[] then bT (Ut L (x1.Fault.2,Yo.mk 0 0 0 0 [] [],())) fun y=>bT (bif y==true then bT (Ut L (x1.Fault.3,Yo.mk 0 0 0 0 [] [],())) fun y=>some y else some false) fun y=>bT (Zp L (y,1,())) fun y=>some y else bT (Vj L (x0.7,x1.Fault.1,())) fun y=>bif decide (y<0) then some 5 else bT (bT (XR L (x1.Fault.2,())) fun y=>some y) fun y=>bT (bT (XR L (x1.Fault.3,())) fun y=>some y) fun y_2=>bT (bT (Z5 L (y,y_2,())) fun y=>some y) fun y=>some y:=by kernel_rfl
def YC (L:Nat)(x:Za×Int×Int×PUnit):Option Int:=fT [P7 L,Qi L,LX L,WO L,MI L,Wi L,Ih L] L L6 [] (.one (.int .i64)) [.row 14,.int .i64,.int .i64] x
def LW (L:Nat):Sum tT:=mU 213 [.row 14,.int .i64,.int .i64] (.one (.int .i64)) (YC L)
theorem ZaC:SX LW:=fun h=>sT h (Zb (Zc7 h) (Zb (QY h) (Zb (ZaD h) (Zb (Qp h) (Zb (PZ h) (Zb (WA h) (Zb (Ba h) Zo))))))) rfl (by kernel_rfl) fun _=>rfl
theorem QC (L:Nat)(x0:Za)(x1:Int)(x2:Int):YC L (x0,x1,x2,())=bif x1==0 then bT (getT x0.2 x2) fun y=>bT (bT (Jb L (y.2,())) fun y=>some y) fun y=>bT (bT (Zp L (y,1,())) fun y=>some y) fun y=>bT (getT x0.2 x2) fun y_1=>bT (getT x0.2 x2) fun y_2=>bT (bT (Uu L (y_1.2,y_2.3,())) fun y=>some y) fun y_3=>bT (bT (Zp L (y_3,2,())) fun y=>some y) fun y_4=>bT (bT (Z5 L (y,y_4,())) fun y=>some y) fun y=>some y else bif x1==1 then bT (getT x0.3 x2) fun y=>bT (bT (Jq L (x0,y,())) fun y=>some y) fun y=>some y else bif x1==2 then bT (getT x0.4 x2) fun y=>bT (getT x0.4 x2) fun y_1=>bT (ZH L (y_1.2,1,1000,())) fun y_2=>bT (Zp L (y_2,2,())) fun y_3=>bT (Zp L (decide (y.3≥1)&&decide (y.3≤3),1,())) fun y=>bT (Z5 L (y_3,y,())) fun y=>some y else bif x1==3 then bT (getT x0.5 x2) fun y=>bT (ZH L (y.2,1,1000,())) fun y=>bT (bif y==true then bT (getT x0.5 x2) fun y=>bT (ZH L (y.3,1,1000,())) fun y=>some y else some false) fun y=>bT (Zp L (y,2,())) fun y=>some y else bif x1==9 then bT (getT x0.11 x2) fun y=>bT (Uk L (y,())) fun y=>some y else some 0:=by kernel_rfl
def MO (L:Nat)(x:Za×PUnit):Option Int:=fT [Zev L,Zah L,WO L,LW L,VY L,Ie L] L ZaR [.rnd [.slot 2 (.int .i64),.slot 3 (.own 1 .str),.slot 5 (.int .i64)],.rnd [.slot 2 (.int .i64),.slot 3 (.own 1 .str),.slot 6 (.int .i64)],.rnd [.slot 2 (.int .i64),.slot 8 (.int .i64)],.rnd [.slot 10 (.own 1 .str),.slot 11 (.int .i64)]] (.one (.int .i64)) [.row 14] x
def Zbx (L:Nat):Sum tT:=mU 111 [.row 14] (.one (.int .i64)) (MO L)
theorem ZhG:SX Zbx:=fun h=>sT h (Zb (Zjd h) (Zb (ZfN h) (Zb (Qp h) (Zb (ZaC h) (Zb (UF h) (Zb (RZ h) Zo)))))) rfl (by kernel_rfl) fun _=>rfl
def U7:Za→Nat→List (List (List UInt8))→(Int×List (List UInt8)×Int×PUnit→Option Int)→Int×List (List UInt8)×Int×PUnit→(Int×List (List UInt8)×Int×PUnit→Option Int)→Int×List (List UInt8)×Int×PUnit→Option Int:=fun x0 L y self acc self_1 acc_1=>bT (getT y acc.2.2.1) fun y_1=>bif decide (acc_1.2.2.1<(↑y_1.length:Int)) then bT (getT y acc.2.2.1) fun y_2=>bT (getT y_2 acc_1.2.2.1) fun y_3=>bT (bT (Xf L (y_3,acc_1.2.1,())) fun y=>some y) fun y_4=>bT (bT (YC L (x0,acc.2.2.1,acc_1.2.2.1,())) fun y=>some y) fun y_5=>bT (bT (Z5 L (y_4,y_5,())) fun y=>some y) fun y_6=>bif y_6 != 0 then some y_6 else bT (getT y acc.2.2.1) fun y=>bT (getT y acc_1.2.2.1) fun y=>bT (apT 16 acc_1.2.1 [y]) fun y=>self_1 (acc_1.1,y,Go.IntKind.i64.wrap (acc_1.2.2.1+1),()) else self (acc_1.1,acc_1.2.1,Go.IntKind.i64.wrap (acc.2.2.1+1),())
def VN:Za→Nat→(List (List UInt8)×Int×PUnit→Option Int)→List (List UInt8)×Int×PUnit→Option Int:=fun x0 L self acc=>bif decide (acc.2.1<(↑x0.13.length:Int)) then bT (getT x0.13 acc.2.1) fun y=>bT (bT (PG L (x0,y,acc.1,())) fun y=>some y) fun y=>bif y != 0 then some y else bT (getT x0.13 acc.2.1) fun y=>bT (apT 16 acc.1 [y.1]) fun y=>self (y,Go.IntKind.i64.wrap (acc.2.1+1),()) else some 0
def U8:Za→Nat→(Int×Int×PUnit→Option Int)→Int×Int×PUnit→Option Int:=fun x0 L self acc=>bif decide (acc.2.1<(↑x0.12.length:Int)) then bT (getT x0.12 acc.2.1) fun y=>bT (bT (Iq L (x0,y,())) fun y=>some y) fun y=>bif y != 0 then some y else self (acc.1,Go.IntKind.i64.wrap (acc.2.1+1),()) else bif decide ((↑x0.13.length:Int)>32) then some 6 else loopT (VN x0 L) L ([],0,())
def VO:Za→Nat→List (List (List UInt8))→(Int×List (List UInt8)×Int×PUnit→Option Int)→Int×List (List UInt8)×Int×PUnit→Option Int:=fun x0 L y self acc=>bif decide (acc.2.2.1<(↑y.length:Int)) then bT (getT y acc.2.2.1) fun y_1=>bT (bif decide ((↑y_1.length:Int)>32)==false then bif (acc.2.2.1==9)==true then bT (getT y acc.2.2.1) fun y=>some (decide ((↑y.length:Int)>16)) else some false else some true) fun y_2=>bif y_2 then some 6 else loopT (U7 x0 L y self acc) L (acc.1,acc.2.1,0,()) else bif decide ((↑x0.12.length:Int)>32) then some 6 else loopT (U8 x0 L) L (acc.1,0,())
theorem Zh2 (L:Nat)(x0:Za):MO L (x0,())=bT (Ja L (x0,())) fun (y:List (List (List UInt8)))=>loopT (VO x0 L y) L (0,[],0,()):=by kernel_rfl
def Ir (L:Nat)(x:Yc×(List (List UInt8))×PUnit):Option Int:=fT [MI L,WO L,Wi L,Ih L,VY L] L EW [] (.one (.int .i64)) [.row 0,.lst 1 .str] x
def Zai (L:Nat):Sum tT:=mU 109 [.row 0,.lst 1 .str] (.one (.int .i64)) (Ir L)
theorem ZfO:SX Zai:=fun h=>sT h (Zb (PZ h) (Zb (Qp h) (Zb (WA h) (Zb (Ba h) (Zb (UF h) Zo))))) rfl (by kernel_rfl) fun _=>rfl
theorem Zfy (L:Nat)(x0:Yc)(x1:(List (List UInt8))):Ir L (x0,x1,())=bT (bT (Xf L (x0.1,x1,())) fun y=>some y) fun y=>bT (bT (Jb L (x0.2,())) fun y=>some y) fun y_1=>bT (bT (Zp L (y_1,1,())) fun y=>some y) fun y_2=>bT (bT (Z5 L (y,y_2,())) fun y=>some y) fun y=>bT (Uu L (x0.2,x0.3,())) fun y_3=>bT (Zp L (y_3,2,())) fun y_4=>bT (Z5 L (y,y_4,())) fun y=>some y:=by kernel_rfl
def UN (L:Nat)(x:ZF×PUnit):Option Int:=fT [Zag L,Zbx L,VY L,Zai L,WO L,Wi L,VX L] L EN [.rnd [.slot 2 (.int .i64),.slot 4 (.own 1 .str),.slot 5 (.int .i64)],.rnd [.slot 6 (.own 1 .str),.slot 7 (.int .i64)]] (.one (.int .i64)) [.row 16] x
def Zaf (L:Nat):Sum tT:=mU 46 [.row 16] (.one (.int .i64)) (UN L)
theorem ZfL:SX Zaf:=fun h=>sT h (Zb (ZfM h) (Zb (ZhG h) (Zb (UF h) (Zb (ZfO h) (Zb (Qp h) (Zb (WA h) (Zb (UE h) Zo))))))) rfl (by kernel_rfl) fun _=>rfl
def Ju:ZF→Nat→(List (List UInt8)×Int×PUnit→Option Int)→List (List UInt8)×Int×PUnit→Option Int:=fun x0 L self acc=>bif decide (acc.2.1<(↑x0.3.length:Int)) then bT (getT x0.3 acc.2.1) fun y=>bT (bT (Xf L (y.1,acc.1,())) fun y=>some y) fun y=>bT (getT x0.3 acc.2.1) fun y_1=>bT (bT (MO L (y_1,())) fun y=>some y) fun y_2=>bT (bT (Z5 L (y,y_2,())) fun y=>some y) fun y=>bif y != 0 then some y else bT (getT x0.3 acc.2.1) fun y=>bT (apT 16 acc.1 [y.1]) fun y=>self (y,Go.IntKind.i64.wrap (acc.2.1+1),()) else bT (Ip L (x0,())) fun y=>some y
def QW:ZF→Nat→(Int×List (List UInt8)×Int×PUnit→Option Int)→Int×List (List UInt8)×Int×PUnit→Option Int:=fun x0 L self acc=>bif decide (acc.2.2.1<(↑x0.2.length:Int)) then bT (getT x0.2 acc.2.2.1) fun y=>bT (Ir L (y,acc.2.1,())) fun y=>bif y != 0 then some y else bT (getT x0.2 acc.2.2.1) fun y=>bT (apT 16 acc.2.1 [y.1]) fun y=>self (acc.1,y,Go.IntKind.i64.wrap (acc.2.2.1+1),()) else bT (bT (Zp L (decide ((↑x0.3.length:Int)>0),7,())) fun y=>some y) fun y=>bT (bT (Zp L (decide ((↑x0.3.length:Int)≤16),6,())) fun y=>some y) fun y_1=>bT (bT (Z5 L (y,y_1,())) fun y=>some y) fun y=>bif y != 0 then some y else loopT (Ju x0 L) L ([],0,())
theorem Zfr (L:Nat)(x0:ZF):UN L (x0,())=bT (bT (Qy L (x0.1,())) fun y=>some y) fun y=>bT (bT (Zp L (decide ((↑x0.2.length:Int)≤32),6,())) fun y=>some y) fun y_1=>bT (bT (Z5 L (y,y_1,())) fun y=>some y) fun y=>bif y != 0 then some y else loopT (QW x0 L) L (0,[],0,()):=by kernel_rfl
def Iu (L:Nat)(x:ZF×PUnit):Option ((List UInt8)×Int×PUnit):=fT [Xz,Zal L,Zb0 L,TP L,WZ L,Zaf L] L EY [.rnd [.slot 5 .str,.slot 6 (.int .i64)],.rnd [.slot 5 .str,.slot 8 (.int .i64)]] (.tup [.str,.int .i64]) [.row 16] x
def Zaj (L:Nat):Sum tT:=mU 19 [.row 16] (.tup [.str,.int .i64]) (Iu L)
theorem ZfP:SX Zaj:=fun h=>sT h (Zb (VW h) (Zb (ZfR h) (Zb (ZhJ h) (Zb (Sr h) (Zb (QF h) (Zb (ZfL h) Zo)))))) rfl (by kernel_rfl) fun _=>rfl
def XZ:ZF→Nat→(List UInt8×Int×PUnit→Option (List UInt8×Int×PUnit))→List UInt8×Int×PUnit→Option (List UInt8×Int×PUnit):=fun x0 L self acc=>bif decide (acc.2.1<(↑x0.3.length:Int)) then bT (getT x0.3 acc.2.1) fun y=>bT (MQ L (y,())) fun y=>bT (catS acc.1 y) fun y=>self (y,Go.IntKind.i64.wrap (acc.2.1+1),()) else bT (Zu L (0,[101,110,100],())) fun y=>bT (catS acc.1 y) fun y=>bT (XT L (y,())) fun y=>some (y.1,y.2.1,())
def Jy:ZF→Nat→(List UInt8×Int×PUnit→Option (List UInt8×Int×PUnit))→List UInt8×Int×PUnit→Option (List UInt8×Int×PUnit):=fun x0 L self acc=>bif decide (acc.2.1<(↑x0.4.length:Int)) then bT (getT x0.4 acc.2.1) fun y=>bT (catS [108,105,110,107,32] y.1) fun y_1=>bT (catS y_1 [32]) fun y_2=>bT (catS y_2 y.2) fun y_3=>bT (catS y_3 [32]) fun y_4=>bT (bT (Yu y.3) fun y=>some y) fun y=>bT (catS y_4 y) fun y=>bT (bT (Zu L (1,y,())) fun y=>some y) fun y=>bT (catS acc.1 y) fun y=>self (y,Go.IntKind.i64.wrap (acc.2.1+1),()) else loopT (XZ x0 L) L (acc.1,0,())
theorem F6 (L:Nat)(x0:ZF):Iu L (x0,())=bT (UN L (x0,())) fun y=>bif y != 0 then some ([],y,()) else bT (catS [109,111,100,101,108,32] x0.1) fun y=>bT (bT (Zu L (0,y,())) fun y=>some y) fun y=>bT (bT (Xh L (1,[112,97,114,97,109],x0.2,())) fun y=>some y) fun y_1=>bT (catS y y_1) fun y=>loopT (Jy x0 L) L (y,0,()):=by kernel_rfl
def YR (L:Nat)(x:Oj×PUnit)(c:(List UInt8×Int)):Option (PUnit×(List UInt8×Int)):=(fnE tF tG (orQ (eQ tF [Zy L]) (qOf tF [UL])) L VH [.rnd [.slot 4 (.own 1 (.str)),.slot 15 (.int .i64)]] (.tup []) (OD.la (.cont (.bufi 82 5):OD)) (.loc 0 0::tvL tT [.row 13] x) [OD.to tT 82 0 (.cont (.bufi 82 5):OD) c]).map fun p=>(p.1,OD.un tT (.cont (.bufi 82 5):OD) p.2)
def VL (L:Nat):SumE tT:=⟨105,82,(.cont (.bufi 82 5):OD),[.row 13],.tup [],YR L⟩
theorem Oc {C:Cfg}{L:Nat}(h:St C L):QS tF (evalCall C) (eQ tF [VL L]):=sumE_ok ZE h.L h.G (orQ_ok (eQ_cons (ZA h) eQ_nil) (qOf_ok ZE (Zb (IJ h) Zo))) [.rnd [.slot 4 (.own 1 (.str)),.slot 15 (.int .i64)]] rfl (h.T _ _ rfl) (by kernel_rfl) fun _ _=>rfl
def Wv:Oj→List UInt8×Int→Nat→(List (List UInt8)×Int×PUnit→Option (PUnit×(List UInt8×Int)×PUnit))→List (List UInt8)×Int×PUnit→Option (PUnit×(List UInt8×Int)×PUnit):=fun x0 c L self acc=>bif decide (acc.2.1<(↑x0.2.length:Int)) then bT (getT x0.2 acc.2.1) fun y=>bif decide (y.1<0) then bif decide (acc.2.1>0) then bT (apT 16 acc.1 [[45]]) fun y_1=>bif Go.IntKind.i64.wrap (0 - y.1) != 1 then bT (bT (Yu (Go.IntKind.i64.wrap (0 - y.1))) fun y=>some y) fun y_2=>bT (catS [] y_2) fun y_3=>bT (apT 16 y_1 [y_3,[42],y.2,y.3]) fun y=>self (y,Go.IntKind.i64.wrap (acc.2.1+1),()) else bT (catS [] y.2) fun y_2=>bT (apT 16 y_1 [y_2,y.3]) fun y=>self (y,Go.IntKind.i64.wrap (acc.2.1+1),()) else bif Go.IntKind.i64.wrap (0 - y.1) != 1 then bT (bT (Yu (Go.IntKind.i64.wrap (0 - y.1))) fun y=>some y) fun y_1=>bT (catS [45] y_1) fun y_2=>bT (apT 16 acc.1 [y_2,[42],y.2,y.3]) fun y=>self (y,Go.IntKind.i64.wrap (acc.2.1+1),()) else bT (catS [45] y.2) fun y_1=>bT (apT 16 acc.1 [y_1,y.3]) fun y=>self (y,Go.IntKind.i64.wrap (acc.2.1+1),()) else bif decide (acc.2.1>0) then bT (apT 16 acc.1 [[43]]) fun y_1=>bif y.1 != 1 then bT (bT (Yu y.1) fun y=>some y) fun y_2=>bT (catS [] y_2) fun y_3=>bT (apT 16 y_1 [y_3,[42],y.2,y.3]) fun y=>self (y,Go.IntKind.i64.wrap (acc.2.1+1),()) else bT (catS [] y.2) fun y_2=>bT (apT 16 y_1 [y_2,y.3]) fun y=>self (y,Go.IntKind.i64.wrap (acc.2.1+1),()) else bif y.1 != 1 then bT (bT (Yu y.1) fun y=>some y) fun y_1=>bT (catS [] y_1) fun y_2=>bT (apT 16 acc.1 [y_2,[42],y.2,y.3]) fun y=>self (y,Go.IntKind.i64.wrap (acc.2.1+1),()) else bT (catS [] y.2) fun y_1=>bT (apT 16 acc.1 [y_1,y.3]) fun y=>self (y,Go.IntKind.i64.wrap (acc.2.1+1),()) else bT (Yu x0.3) fun y=>bT (apT 16 acc.1 [[61],y]) fun y=>bT (Zc L (y,()) (c.1,c.2)) fun y=>some ((),(y.snd.1,y.snd.2),())
theorem Ob (L:Nat)(x0:Oj)(c:(List UInt8×Int)):YR L (x0,()) c=bT (loopT (Wv x0 c L) L ([[99,111,110,115,101,114,118,101],x0.1,[58]],0,())) fun y=>some (y.1,y.snd.1):=by kernel_rfl
def Qx (L:Nat)(x:Int×Int×PUnit):Option (List UInt8):=fT [UL,WI L] L Df [] (.one .str) [.int .i64,.int .i64] x
def HY (L:Nat):Sum tT:=mU 97 [.int .i64,.int .i64] (.one .str) (Qx L)
theorem Pe:SX HY:=fun h=>sT h (Zb (IJ h) (Zb (Vz h) Zo)) rfl (by kernel_rfl) fun _=>rfl
theorem Zcl (L:Nat)(x0:Int)(x1:Int):Qx L (x0,x1,())=bif x0==2 then bT (Ui L (x1,())) fun y=>some y else bT (Yu x1) fun y=>some y:=by kernel_rfl
def Ed:List (Inl tT):=[⟨269,YB,[.rnd [.slot 8 (.int .i64)]],.one (.int .i64),[]⟩,⟨270,KU,[],.one (.bool),[]⟩]
def Wj (L:Nat)(x:Za×(List UInt8)×PUnit):Option Int:=fI [] L Ed Ot [] (.one (.int .i64)) [.row 14,.str] x
def V7 (L:Nat):Sum tT:=mU 206 [.row 14,.str] (.one (.int .i64)) (Wj L)
theorem UD:SX V7:=fun h=>sI h Zo (Zb ⟨h.T _ _ rfl,by kernel_rfl⟩ (Zb ⟨h.T _ _ rfl,by kernel_rfl⟩ Zo)) rfl (by kernel_rfl) fun _=>rfl
def JF:Za→List UInt8→(Int×PUnit→Option Int)→Int×PUnit→Option Int:=fun x0 x1 self acc=>bif decide (acc.1<(↑x0.11.length:Int)) then bT (getT x0.11 acc.1) fun y=>bif y.1==x1 then some acc.1 else self (Go.IntKind.i64.wrap (acc.1+1),()) else some (-1)
theorem Fq (L:Nat)(x0:Za)(x1:(List UInt8)):Wj L (x0,x1,())=bT (loopT (JF x0 x1) L (0,())) fun y=>some y:=by kernel_rfl
def Y6 (L:Nat)(x:Za×Y1×PUnit)(c:(List UInt8×Int)):Option (PUnit×(List UInt8×Int)):=(fnE tF tG (orQ (eQ tF [Zy L]) (qOf tF [UL,TJ,HY L,V7 L])) L XX [.rnd [.slot 8 (.own 1 (.str)),.slot 35 (.int .i64)]] (.tup []) (OD.la (.cont (.bufi 82 5):OD)) (.loc 0 0::tvL tT [.row 14,.row 11] x) [OD.to tT 82 0 (.cont (.bufi 82 5):OD) c]).map fun p=>(p.1,OD.un tT (.cont (.bufi 82 5):OD) p.2)
def Vd (L:Nat):SumE tT:=⟨104,82,(.cont (.bufi 82 5):OD),[.row 14,.row 11],.tup [],Y6 L⟩
theorem Gu {C:Cfg}{L:Nat}(h:St C L):QS tF (evalCall C) (eQ tF [Vd L]):=sumE_ok ZE h.L h.G (orQ_ok (eQ_cons (ZA h) eQ_nil) (qOf_ok ZE (Zb (IJ h) (Zb (Sj h) (Zb (Pe h) (Zb (UD h) Zo)))))) [.rnd [.slot 8 (.own 1 (.str)),.slot 35 (.int .i64)]] rfl (h.T _ _ rfl) (by kernel_rfl) fun _ _=>rfl
def ZL:Y1→List UInt8×Int→Nat→Zx→(List (List UInt8)×Int×PUnit→Option (PUnit×(List UInt8×Int)×PUnit))→List (List UInt8)×Int×PUnit→Option (PUnit×(List UInt8×Int)×PUnit):=fun x1 c L y self acc=>bif decide (acc.2.1<(↑x1.2.length:Int)) then bT (getT x1.2 acc.2.1) fun y_1=>bif decide (acc.2.1<(↑y.2.length:Int)) then bT (getT y.2 acc.2.1) fun y=>bT (Qx L (y.2,y_1,())) fun y=>bT (apT 16 acc.1 [y]) fun y=>self (y,Go.IntKind.i64.wrap (acc.2.1+1),()) else bT (Qx L (1,y_1,())) fun y=>bT (apT 16 acc.1 [y]) fun y=>self (y,Go.IntKind.i64.wrap (acc.2.1+1),()) else bT (bT (ZbM acc.1 [44,32]) fun y=>some y) fun y=>bT (catS [40] y) fun y=>bT (catS y [41]) fun y=>bT (bT (Yu x1.3) fun y=>some y) fun y_1=>bif x1.4 != 0 then bT (bT (Yu x1.4) fun y=>some y) fun y_2=>bT (bT (Yu x1.5) fun y=>some y) fun y_3=>bT (apT 16 [[115,116,97,114,116],x1.1,y,[97,116],y_1] [[101,118,101,114,121],y_2,[117,110,116,105,108],y_3]) fun y=>bT (Zc L (y,()) (c.1,c.2)) fun y=>some ((),(y.snd.1,y.snd.2),()) else bT (Zc L ([[115,116,97,114,116],x1.1,y,[97,116],y_1],()) (c.1,c.2)) fun y=>some ((),(y.snd.1,y.snd.2),())
def KN:Y1→List UInt8×Int→Nat→(List (List UInt8)×Int×PUnit→Option (PUnit×(List UInt8×Int)×PUnit))→List (List UInt8)×Int×PUnit→Option (PUnit×(List UInt8×Int)×PUnit):=fun x1 c L self acc=>bif decide (acc.2.1<(↑x1.2.length:Int)) then bT (getT x1.2 acc.2.1) fun y=>bif decide (acc.2.1<0) then none else bT (Qx L (1,y,())) fun y=>bT (apT 16 acc.1 [y]) fun y=>self (y,Go.IntKind.i64.wrap (acc.2.1+1),()) else bT (bT (ZbM acc.1 [44,32]) fun y=>some y) fun y=>bT (catS [40] y) fun y=>bT (catS y [41]) fun y=>bT (bT (Yu x1.3) fun y=>some y) fun y_1=>bif x1.4 != 0 then bT (bT (Yu x1.4) fun y=>some y) fun y_2=>bT (bT (Yu x1.5) fun y=>some y) fun y_3=>bT (apT 16 [[115,116,97,114,116],x1.1,y,[97,116],y_1] [[101,118,101,114,121],y_2,[117,110,116,105,108],y_3]) fun y=>bT (Zc L (y,()) (c.1,c.2)) fun y=>some ((),(y.snd.1,y.snd.2),()) else bT (Zc L ([[115,116,97,114,116],x1.1,y,[97,116],y_1],()) (c.1,c.2)) fun y=>some ((),(y.snd.1,y.snd.2),())
theorem Gn (L:Nat)(x0:Za)(x1:Y1)(c:(List UInt8×Int)):Y6 L (x0,x1,()) c=bT (bT (Wj L (x0,x1.1,())) fun y=>bif decide (y≥0)&&decide (y<(↑x0.11.length:Int)) then bT (getT x0.11 y) fun y=>loopT (ZL x1 c L y) L ([],0,()) else loopT (KN x1 c L) L ([],0,())) fun y=>some (y.1,y.snd.1):=by kernel_rfl
def Vh (L:Nat)(x:Int×PUnit):Option (List UInt8):=fT [] L ND [] (.one .str) [.int .i64] x
def Ky (L:Nat):Sum tT:=mU 96 [.int .i64] (.one .str) (Vh L)
theorem Tf:SX Ky:=fun h=>sT h Zo rfl (by kernel_rfl) fun _=>rfl
theorem ZdJ (L:Nat)(x0:Int):Vh L (x0,())=bif x0==2 then some [98,111,111,108] else bif x0==3 then some [116,105,109,101] else some [105,110,116]:=by kernel_rfl
def YA (L:Nat)(x:ZX×PUnit):Option (List UInt8):=fT [Ky L] L QK [] (.one .str) [.row 7] x
def QP (L:Nat):Sum tT:=mU 204 [.row 7] (.one .str) (YA L)
theorem JZ:SX QP:=fun h=>sT h (Zb (Tf h) Zo) rfl (by kernel_rfl) fun _=>rfl
theorem JX (L:Nat)(x0:ZX):YA L (x0,())=bT (catS x0.1 [32]) fun y=>bT (bT (Vh L (x0.2,())) fun y=>some y) fun y_1=>bT (catS y y_1) fun y=>some y:=by kernel_rfl
def U4:List (Inl tT):=[⟨41,Yx,[],.tup [],[(3,[.cont 0 (.bufi 82 5)])]⟩,⟨205,QL,[.rnd [.slot 7 (.int .i64),.cont 0 (.bufi 82 5)]],.tup [],[(3,[.cont 0 (.bufi 82 5)])]⟩,⟨203,Vq,[.rnd [.slot 5 (.own 1 (.str)),.slot 10 (.int .i64),.cont 0 (.bufi 82 5)]],.one (.str),[(3,[.cont 0 (.bufi 82 5)])]⟩]
def YQ (L:Nat)(x:Zx×PUnit)(c:(List UInt8×Int)):Option (PUnit×(List UInt8×Int)):=(fnE tF tG (stackQ tF tG (orQ (eQ tF [Ve L,Zy L]) (qOf tF [TJ,Ky L,QP L])) L U4 8) L Xp [] (.tup []) (OD.la (.cont (.bufi 82 5):OD)) (.loc 0 0::tvL tT [.row 10] x) [OD.to tT 82 0 (.cont (.bufi 82 5):OD) c]).map fun p=>(p.1,OD.un tT (.cont (.bufi 82 5):OD) p.2)
def Xt (L:Nat):SumE tT:=⟨103,82,(.cont (.bufi 82 5):OD),[.row 10],.tup [],YQ L⟩
theorem UV {C:Cfg}{L:Nat}(h:St C L):QS tF (evalCall C) (eQ tF [Xt L]):=sumE_ok ZE h.L h.G (stackQ_ok ZE h.L h.G (orQ_ok (eQ_cons (Gv h) (eQ_cons (ZA h) eQ_nil)) (qOf_ok ZE (Zb (Sj h) (Zb (Tf h) (Zb (JZ h) Zo))))) (Zb ⟨h.T _ _ rfl,by kernel_rfl⟩ (Zb ⟨h.T _ _ rfl,by kernel_rfl⟩ (Zb ⟨h.T _ _ rfl,by kernel_rfl⟩ Zo))) 8) [] rfl (h.T _ _ rfl) (by kernel_rfl) fun _ _=>rfl
def YE:Zx→Nat→(List (List UInt8)×Int×(List UInt8×Int)×PUnit→Option (List UInt8×(List UInt8×Int)×PUnit))→List (List UInt8)×Int×(List UInt8×Int)×PUnit→Option (List UInt8×(List UInt8×Int)×PUnit):=fun x0 L self acc=>bif decide (acc.2.1<(↑x0.2.length:Int)) then bT (getT x0.2 acc.2.1) fun y=>bT (YA L (y,())) fun y=>bT (apT 16 acc.1 [y]) fun y=>self (y,Go.IntKind.i64.wrap (acc.2.1+1),(acc.2.2.1.1,acc.2.2.1.2),()) else bT (ZbM acc.1 [44,32]) fun y=>some (y,(acc.2.2.1.1,acc.2.2.1.2),())
def Yj:Zx→Nat→(Int×(List UInt8×Int)×PUnit→Option (PUnit×(List UInt8×Int)×PUnit))→Int×(List UInt8×Int)×PUnit→Option (PUnit×(List UInt8×Int)×PUnit):=fun x0 L self acc=>bif decide (acc.1<(↑x0.3.length:Int)) then bT (getT x0.3 acc.1) fun y=>bT (bT (Vh L (y.2,())) fun y=>some y) fun y_1=>bT (Zc L ([[108,111,99,97,108],y.1,y_1],()) (acc.2.1.1,acc.2.1.2)) fun y=>self (Go.IntKind.i64.wrap (acc.1+1),(y.snd.1,y.snd.2),()) else bT (Y7 L (x0.4,()) (acc.2.1.1,acc.2.1.2)) fun y=>some ((),(y.snd.1,y.snd.2),())
theorem UU (L:Nat)(x0:Zx)(c:(List UInt8×Int)):YQ L (x0,()) c=bT (bT (loopT (YE x0 L) L ([],0,(c.1,c.2),())) fun y=>bT (catS [40] y.1) fun y_1=>bT (catS y_1 [41]) fun y_2=>bT (Zc L ([[114,111,117,116,105,110,101],x0.1,y_2],()) (y.2.1.1,y.2.1.2)) fun y=>bT (bT (loopT (Yj x0 L) L (0,(y.snd.1,Go.IntKind.i64.wrap (y.snd.2+1)),())) fun y=>some ((),(y.2.1.1,Go.IntKind.i64.wrap (y.2.1.2 - 1)),())) fun y=>bT (Zc L ([[101,110,100]],()) (y.2.1.1,y.2.1.2)) fun y=>some ((),(y.snd.1,y.snd.2),())) fun y=>some (y.1,y.snd.1):=by kernel_rfl
def Zz (L:Nat)(x:(List UInt8)×(List (List UInt8))×PUnit)(c:(List UInt8×Int)):Option (PUnit×(List UInt8×Int)):=(fnE tF tG (orQ (eQ tF [Zy L]) (qOf tF [])) L XW [.rnd [.slot 10 (.int .i64),.cont 0 (.bufi 82 5)]] (.tup []) (OD.la (.cont (.bufi 82 5):OD)) (.loc 0 0::tvL tT [.str,.lst 1 (.str)] x) [OD.to tT 82 0 (.cont (.bufi 82 5):OD) c]).map fun p=>(p.1,OD.un tT (.cont (.bufi 82 5):OD) p.2)
def Vb (L:Nat):SumE tT:=⟨102,82,(.cont (.bufi 82 5):OD),[.str,.lst 1 (.str)],.tup [],Zz L⟩
theorem Gt {C:Cfg}{L:Nat}(h:St C L):QS tF (evalCall C) (eQ tF [Vb L]):=sumE_ok ZE h.L h.G (orQ_ok (eQ_cons (ZA h) eQ_nil) (qOf_ok ZE Zo)) [.rnd [.slot 10 (.int .i64),.cont 0 (.bufi 82 5)]] rfl (h.T _ _ rfl) (by kernel_rfl) fun _ _=>rfl
def YW:List UInt8→List (List UInt8)→Nat→(Int×(List UInt8×Int)×PUnit→Option (PUnit×(List UInt8×Int)×PUnit))→Int×(List UInt8×Int)×PUnit→Option (PUnit×(List UInt8×Int)×PUnit):=fun x0 x1 L self acc=>bif decide (acc.1<(↑x1.length:Int)) then bT (getT x1 acc.1) fun y=>bT (Zc L ([x0,y],()) (acc.2.1.1,acc.2.1.2)) fun y=>self (Go.IntKind.i64.wrap (acc.1+1),(y.snd.1,y.snd.2),()) else some ((),(acc.2.1.1,acc.2.1.2),())
theorem Gm (L:Nat)(x0:(List UInt8))(x1:(List (List UInt8)))(c:(List UInt8×Int)):Zz L (x0,x1,()) c=bT (loopT (YW x0 x1 L) L (0,(c.1,c.2),())) fun y=>some (y.1,y.snd.1):=by kernel_rfl
def Jn (L:Nat)(x:Int×PUnit):Option (List UInt8):=fT [] L Lr [] (.one .str) [.int .i64] x
def LP (L:Nat):Sum tT:=mU 101 [.int .i64] (.one .str) (Jn L)
theorem Za8:SX LP:=fun h=>sT h Zo rfl (by kernel_rfl) fun _=>rfl
theorem Za1 (L:Nat)(x0:Int):Jn L (x0,())=bif x0==2 then some [108,105,102,111] else bif x0==3 then some [108,101,97,115,116] else some [102,105,102,111]:=by kernel_rfl
def Yl (L:Nat)(x:Zi×PUnit)(c:(List UInt8×Int)):Option (PUnit×(List UInt8×Int)):=(fnE tF tG (orQ (eQ tF [Zy L]) (qOf tF [UL,Xb L])) L QR [.rnd [.slot 4 (.own 1 (.str)),.slot 24 (.int .i64)]] (.tup []) (OD.la (.cont (.bufi 82 5):OD)) (.loc 0 0::tvL tT [.row 4] x) [OD.to tT 82 0 (.cont (.bufi 82 5):OD) c]).map fun p=>(p.1,OD.un tT (.cont (.bufi 82 5):OD) p.2)
def Xa (L:Nat):SumE tT:=⟨100,82,(.cont (.bufi 82 5):OD),[.row 4],.tup [],Yl L⟩
theorem UB {C:Cfg}{L:Nat}(h:St C L):QS tF (evalCall C) (eQ tF [Xa L]):=sumE_ok ZE h.L h.G (orQ_ok (eQ_cons (ZA h) eQ_nil) (qOf_ok ZE (Zb (IJ h) (Zb (UC h) Zo)))) [.rnd [.slot 4 (.own 1 (.str)),.slot 24 (.int .i64)]] rfl (h.T _ _ rfl) (by kernel_rfl) fun _ _=>rfl
def Y9:Zi→List UInt8×Int→Nat→(List (List UInt8)×Int×PUnit→Option (PUnit×(List UInt8×Int)×PUnit))→List (List UInt8)×Int×PUnit→Option (PUnit×(List UInt8×Int)×PUnit):=fun x0 c L self acc=>bif decide (acc.2.1<(↑x0.3.length:Int)) then bT (getT x0.3 acc.2.1) fun y=>bT (bT (Yu y.1) fun y=>some y) fun y_1=>bT (catS y_1 [58]) fun y_2=>bT (bT (Yu y.2) fun y=>some y) fun y=>bT (catS y_2 y) fun y=>bT (apT 16 acc.1 [y]) fun y=>self (y,Go.IntKind.i64.wrap (acc.2.1+1),()) else bT (Yu x0.4) fun y=>bT (apT 16 acc.1 [[99,121,99,108,101],y]) fun y=>bif !x0.Fault.1==[] then bT (bT (YT L (x0.Fault.2,())) fun y=>some y) fun y_1=>bT (bT (YT L (x0.Fault.3,())) fun y=>some y) fun y_2=>bT (apT 16 y [[102,97,117,108,116],x0.Fault.1,[117,112],y_1,[100,111,119,110],y_2]) fun y=>bT (Zc L (y,()) (c.1,c.2)) fun y=>some ((),(y.snd.1,y.snd.2),()) else bT (Zc L (y,()) (c.1,c.2)) fun y=>some ((),(y.snd.1,y.snd.2),())
theorem U5 (L:Nat)(x0:Zi)(c:(List UInt8×Int)):Yl L (x0,()) c=bT (bT (bT (Yu x0.2) fun y=>some y) fun y=>bif decide ((↑x0.3.length:Int)>0) then bT (apT 16 [[114,101,115,111,117,114,99,101],x0.1,y] [[115,104,105,102,116]]) fun y=>loopT (Y9 x0 c L) L (y,0,()) else bif !x0.Fault.1==[] then bT (bT (YT L (x0.Fault.2,())) fun y=>some y) fun y_1=>bT (bT (YT L (x0.Fault.3,())) fun y=>some y) fun y_2=>bT (apT 16 [[114,101,115,111,117,114,99,101],x0.1,y] [[102,97,117,108,116],x0.Fault.1,[117,112],y_1,[100,111,119,110],y_2]) fun y=>bT (Zc L (y,()) (c.1,c.2)) fun y=>some ((),(y.snd.1,y.snd.2),()) else bT (Zc L ([[114,101,115,111,117,114,99,101],x0.1,y],()) (c.1,c.2)) fun y=>some ((),(y.snd.1,y.snd.2),())) fun y=>some (y.1,y.snd.1):=by kernel_rfl
def Yy (L:Nat)(x:(List UInt8)×(List Yc)×PUnit)(c:(List UInt8×Int)):Option (PUnit×(List UInt8×Int)):=(fnE tF tG (orQ (eQ tF [Zy L]) (qOf tF [HY L,Ky L])) L X6 [.rnd [.slot 10 (.int .i64),.cont 0 (.bufi 82 5)]] (.tup []) (OD.la (.cont (.bufi 82 5):OD)) (.loc 0 0::tvL tT [.str,.lst 3 (.row 0)] x) [OD.to tT 82 0 (.cont (.bufi 82 5):OD) c]).map fun p=>(p.1,OD.un tT (.cont (.bufi 82 5):OD) p.2)
def WM (L:Nat):SumE tT:=⟨43,82,(.cont (.bufi 82 5):OD),[.str,.lst 3 (.row 0)],.tup [],Yy L⟩
theorem XD {C:Cfg}{L:Nat}(h:St C L):QS tF (evalCall C) (eQ tF [WM L]):=sumE_ok ZE h.L h.G (orQ_ok (eQ_cons (ZA h) eQ_nil) (qOf_ok ZE (Zb (Pe h) (Zb (Tf h) Zo)))) [.rnd [.slot 10 (.int .i64),.cont 0 (.bufi 82 5)]] rfl (h.T _ _ rfl) (by kernel_rfl) fun _ _=>rfl
def YO:List UInt8→List Yc→Nat→(Int×(List UInt8×Int)×PUnit→Option (PUnit×(List UInt8×Int)×PUnit))→Int×(List UInt8×Int)×PUnit→Option (PUnit×(List UInt8×Int)×PUnit):=fun x0 x1 L self acc=>bif decide (acc.1<(↑x1.length:Int)) then bT (getT x1 acc.1) fun y=>bT (bT (Vh L (y.2,())) fun y=>some y) fun y_1=>bT (bT (Qx L (y.2,y.3,())) fun y=>some y) fun y_2=>bT (Zc L ([x0,y.1,y_1,[61],y_2],()) (acc.2.1.1,acc.2.1.2)) fun y=>self (Go.IntKind.i64.wrap (acc.1+1),(y.snd.1,y.snd.2),()) else some ((),(acc.2.1.1,acc.2.1.2),())
theorem KQ (L:Nat)(x0:(List UInt8))(x1:(List Yc))(c:(List UInt8×Int)):Yy L (x0,x1,()) c=bT (loopT (YO x0 x1 L) L (0,(c.1,c.2),())) fun y=>some (y.1,y.snd.1):=by kernel_rfl
def Gg:List (Inl tT):=[⟨41,Yx,[],.tup [],[(3,[.cont 0 (.bufi 82 5)])]⟩,⟨99,X5,[.rnd [.slot 21 (.int .i64),.cont 0 (.bufi 82 5)],.rnd [.slot 32 (.int .i64),.cont 0 (.bufi 82 5)],.rnd [.slot 51 (.int .i64),.cont 0 (.bufi 82 5)],.rnd [.slot 90 (.int .i64),.cont 0 (.bufi 82 5)],.rnd [.slot 101 (.int .i64),.cont 0 (.bufi 82 5)],.rnd [.slot 113 (.int .i64),.cont 0 (.bufi 82 5)]],.tup [],[(3,[.cont 0 (.bufi 82 5)])]⟩]
def Wx (L:Nat)(x:Za×PUnit)(c:(List UInt8×Int)):Option (PUnit×(List UInt8×Int)):=(fnE tF tG (stackQ tF tG (orQ (eQ tF [VL L,Vd L,Xt L,Vb L,Zy L,Xa L,WM L]) (qOf tF [UL,LP L])) L Gg 8) L Vo [] (.tup []) (OD.la (.cont (.bufi 82 5):OD)) (.loc 0 0::tvL tT [.row 14] x) [OD.to tT 82 0 (.cont (.bufi 82 5):OD) c]).map fun p=>(p.1,OD.un tT (.cont (.bufi 82 5):OD) p.2)
def V5 (L:Nat):SumE tT:=⟨45,82,(.cont (.bufi 82 5):OD),[.row 14],.tup [],Wx L⟩
theorem Ho {C:Cfg}{L:Nat}(h:St C L):QS tF (evalCall C) (eQ tF [V5 L]):=sumE_ok ZE h.L h.G (stackQ_ok ZE h.L h.G (orQ_ok (eQ_cons (Oc h) (eQ_cons (Gu h) (eQ_cons (UV h) (eQ_cons (Gt h) (eQ_cons (ZA h) (eQ_cons (UB h) (eQ_cons (XD h) eQ_nil))))))) (qOf_ok ZE (Zb (IJ h) (Zb (Za8 h) Zo)))) (Zb ⟨h.T _ _ rfl,by kernel_rfl⟩ (Zb ⟨h.T _ _ rfl,by kernel_rfl⟩ Zo)) 8) [] rfl (h.T _ _ rfl) (by kernel_rfl) fun _ _=>rfl
def Yd:Za→Nat→(Int×(List UInt8×Int)×PUnit→Option (PUnit×(List UInt8×Int)×PUnit))→Int×(List UInt8×Int)×PUnit→Option (PUnit×(List UInt8×Int)×PUnit):=fun x0 L self acc=>bif decide (acc.1<(↑x0.13.length:Int)) then bT (getT x0.13 acc.1) fun y=>bT (YR L (y,()) (acc.2.1.1,acc.2.1.2)) fun y=>self (Go.IntKind.i64.wrap (acc.1+1),(y.snd.1,y.snd.2),()) else some ((),(acc.2.1.1,acc.2.1.2),())
def Ye:Za→Nat→(Int×(List UInt8×Int)×PUnit→Option (PUnit×(List UInt8×Int)×PUnit))→Int×(List UInt8×Int)×PUnit→Option (PUnit×(List UInt8×Int)×PUnit):=fun x0 L self acc=>bif decide (acc.1<(↑x0.12.length:Int)) then bT (getT x0.12 acc.1) fun y=>bT (Y6 L (x0,y,()) (acc.2.1.1,acc.2.1.2)) fun y=>self (Go.IntKind.i64.wrap (acc.1+1),(y.snd.1,y.snd.2),()) else loopT (Yd x0 L) L (0,(acc.2.1.1,acc.2.1.2),())
def Yf:Za→Nat→(Int×(List UInt8×Int)×PUnit→Option (PUnit×(List UInt8×Int)×PUnit))→Int×(List UInt8×Int)×PUnit→Option (PUnit×(List UInt8×Int)×PUnit):=fun x0 L self acc=>bif decide (acc.1<(↑x0.11.length:Int)) then bT (getT x0.11 acc.1) fun y=>bT (YQ L (y,()) (acc.2.1.1,acc.2.1.2)) fun y=>self (Go.IntKind.i64.wrap (acc.1+1),(y.snd.1,y.snd.2),()) else loopT (Ye x0 L) L (0,(acc.2.1.1,acc.2.1.2),())
def Yg:Za→Nat→(Int×(List UInt8×Int)×PUnit→Option (PUnit×(List UInt8×Int)×PUnit))→Int×(List UInt8×Int)×PUnit→Option (PUnit×(List UInt8×Int)×PUnit):=fun x0 L self acc=>bif decide (acc.1<(↑x0.5.length:Int)) then bT (getT x0.5 acc.1) fun y=>bT (bT (Yu y.2) fun y=>some y) fun y_1=>bT (bT (Yu y.3) fun y=>some y) fun y_2=>bT (Zc L ([[98,101,108,116],y.1,y_1,y_2],()) (acc.2.1.1,acc.2.1.2)) fun y=>self (Go.IntKind.i64.wrap (acc.1+1),(y.snd.1,y.snd.2),()) else bT (Zz L ([113,117,101,117,101],x0.6,()) (acc.2.1.1,acc.2.1.2)) fun y=>bT (Zz L ([115,116,114,101,97,109],x0.7,()) (y.snd.1,y.snd.2)) fun y=>bT (Zz L ([116,97,108,108,121],x0.8,()) (y.snd.1,y.snd.2)) fun y=>bT (Zz L ([108,101,118,101,108],x0.9,()) (y.snd.1,y.snd.2)) fun y=>bT (Zz L ([99,111,117,110,116],x0.10,()) (y.snd.1,y.snd.2)) fun y=>loopT (Yf x0 L) L (0,(y.snd.1,y.snd.2),())
def Yh:Za→Nat→(Int×(List UInt8×Int)×PUnit→Option (PUnit×(List UInt8×Int)×PUnit))→Int×(List UInt8×Int)×PUnit→Option (PUnit×(List UInt8×Int)×PUnit):=fun x0 L self acc=>bif decide (acc.1<(↑x0.4.length:Int)) then bT (getT x0.4 acc.1) fun y=>bT (bT (Yu y.2) fun y=>some y) fun y_1=>bT (bT (Jn L (y.3,())) fun y=>some y) fun y_2=>bT (Zc L ([[115,116,111,114,101],y.1,y_1,y_2],()) (acc.2.1.1,acc.2.1.2)) fun y=>self (Go.IntKind.i64.wrap (acc.1+1),(y.snd.1,y.snd.2),()) else loopT (Yg x0 L) L (0,(acc.2.1.1,acc.2.1.2),())
def Y5:Za→Nat→(Int×(List UInt8×Int)×PUnit→Option (PUnit×(List UInt8×Int)×PUnit))→Int×(List UInt8×Int)×PUnit→Option (PUnit×(List UInt8×Int)×PUnit):=fun x0 L self acc=>bif decide (acc.1<(↑x0.3.length:Int)) then bT (getT x0.3 acc.1) fun y=>bT (Yl L (y,()) (acc.2.1.1,acc.2.1.2)) fun y=>self (Go.IntKind.i64.wrap (acc.1+1),(y.snd.1,y.snd.2),()) else loopT (Yh x0 L) L (0,(acc.2.1.1,acc.2.1.2),())
theorem GY (L:Nat)(x0:Za)(c:(List UInt8×Int)):Wx L (x0,()) c=bT (bT (Zc L ([[115,105,116,101],x0.1],()) (c.1,c.2)) fun y=>bT (bT (bT (Yy L ([118,97,114],x0.2,()) (y.snd.1,Go.IntKind.i64.wrap (y.snd.2+1))) fun y=>loopT (Y5 x0 L) L (0,(y.snd.1,y.snd.2),())) fun y=>some ((),(y.2.1.1,Go.IntKind.i64.wrap (y.2.1.2 - 1)),())) fun y=>bT (Zc L ([[101,110,100]],()) (y.2.1.1,y.2.1.2)) fun y=>some ((),(y.snd.1,y.snd.2),())) fun y=>some (y.1,y.snd.1):=by kernel_rfl
def ZB (L:Nat)(x:Int×Int×Int×PUnit):Option Bool:=fT [] L Lm [] (.one .bool) [.int .i64,.int .i64,.int .i64] x
def WN (L:Nat):Sum tT:=mU 171 [.int .i64,.int .i64,.int .i64] (.one .bool) (ZB L)
theorem QE:SX WN:=fun h=>sT h Zo rfl (by kernel_rfl) fun _=>rfl
theorem Zaz (L:Nat)(x0:Int)(x1:Int)(x2:Int):ZB L (x0,x1,x2,())=some (decide (x0≥x1)&&decide (x0≤x2)):=by kernel_rfl
def ZbG:List (Inl tT):=[⟨261,Y2,[.rnd [.slot 8 (.int .i64)]],.one (.int .i64),[]⟩,⟨262,MS,[],.one (.bool),[]⟩]
def J6 (L:Nat)(x:ZF×(List UInt8)×PUnit):Option Int:=fI [] L ZbG Ny [] (.one (.int .i64)) [.row 16,.str] x
def SB (L:Nat):Sum tT:=mU 197 [.row 16,.str] (.one (.int .i64)) (J6 L)
theorem Zed:SX SB:=fun h=>sI h Zo (Zb ⟨h.T _ _ rfl,by kernel_rfl⟩ (Zb ⟨h.T _ _ rfl,by kernel_rfl⟩ Zo)) rfl (by kernel_rfl) fun _=>rfl
def GU:ZF→List UInt8→(Int×PUnit→Option Int)→Int×PUnit→Option Int:=fun x0 x1 self acc=>bif decide (acc.1<(↑x0.3.length:Int)) then bT (getT x0.3 acc.1) fun y=>bif y.1==x1 then some acc.1 else self (Go.IntKind.i64.wrap (acc.1+1),()) else some (-1)
theorem ZdD (L:Nat)(x0:ZF)(x1:(List UInt8)):J6 L (x0,x1,())=bT (loopT (GU x0 x1) L (0,())) fun y=>some y:=by kernel_rfl
def Zaw:List (Inl tT):=[⟨195,VI,[.rnd [.slot 16 (.int .i64),.cont 1 (.map .pstr)]],.one (.int .i64),[(3,[.cont 1 (.map .pstr)])]⟩,⟨196,Ou,[],.one (.int .i64),[(4,[.cont 1 (.map .pstr)])]⟩]
def Ue (L:Nat)(x:ZF×PUnit):Option Int:=fI [WN L,SB L] L Zaw BR [] (.one (.int .i64)) [.row 16] x
def Px (L:Nat):Sum tT:=mU 92 [.row 16] (.one (.int .i64)) (Ue L)
theorem Zc2:SX Px:=fun h=>sI h (Zb (QE h) (Zb (Zed h) Zo)) (Zb ⟨h.T _ _ rfl,by kernel_rfl⟩ (Zb ⟨h.T _ _ rfl,by kernel_rfl⟩ Zo)) rfl (by kernel_rfl) fun _=>rfl
def Jh:ZF→Nat→(Int×List (List UInt8×List UInt8)×PUnit→Option (Int×List (List UInt8×List UInt8)×PUnit))→Int×List (List UInt8×List UInt8)×PUnit→Option (Int×List (List UInt8×List UInt8)×PUnit):=fun x0 L self acc=>bif decide (acc.1<(↑x0.4.length:Int)) then bT (getT x0.4 acc.1) fun y=>bT (bT (J6 L (x0,y.1,())) fun y_1=>bT (bif decide (y_1<0)==false then bT (J6 L (x0,y.2,())) fun y=>some (decide (y<0)) else some true) fun y_2=>bif y_2 then some (5,acc.2.1,()) else bif y.1==y.2 then some (1,acc.2.1,()) else bT (ZB L (y.3,1,1000000000,())) fun y_3=>bif !y_3 then some (2,acc.2.1,()) else bif hasK MK.pstr acc.2.1 (y.1,y.2) then some (4,acc.2.1,()) else some (0,addK MK.pstr acc.2.1 (y.1,y.2),())) fun y=>bif y.1 != 0 then some (y.1,y.2.1,()) else self (Go.IntKind.i64.wrap (acc.1+1),y.2.1,()) else some (0,acc.2.1,())
theorem Zch (L:Nat)(x0:ZF):Ue L (x0,())=bT (bif decide ((↑x0.4.length:Int)>32) then some (6,[],()) else loopT (Jh x0 L) L (0,[],())) fun y=>some y.1:=by kernel_rfl
def Wl (L:Nat)(x:(List (List UInt8))×(List UInt8)×PUnit):Option Int:=fT [] L Qg [.rnd [.slot 8 (.int .i64)]] (.one (.int .i64)) [.lst 1 .str,.str] x
def Qj (L:Nat):Sum tT:=mU 301 [.lst 1 .str,.str] (.one (.int .i64)) (Wl L)
theorem J3:SX Qj:=fun h=>sT h Zo rfl (by kernel_rfl) fun _=>rfl
def YS:List (List UInt8)→List UInt8→(Int×PUnit→Option Int)→Int×PUnit→Option Int:=fun x0 x1 self acc=>bif decide (acc.1<(↑x0.length:Int)) then bT (getT x0 acc.1) fun y=>bif x1==y then some acc.1 else self (Go.IntKind.i64.wrap (acc.1+1),()) else some (-1)
theorem Jt (L:Nat)(x0:(List (List UInt8)))(x1:(List UInt8)):Wl L (x0,x1,())=loopT (YS x0 x1) L (0,()):=by kernel_rfl
def ZT (L:Nat)(x:(List (List UInt8))×(List UInt8)×PUnit):Option Bool:=fT [Qj L] L WG [] (.one .bool) [.lst 1 .str,.str] x
def YG (L:Nat):Sum tT:=mU 253 [.lst 1 .str,.str] (.one .bool) (ZT L)
theorem WH:SX YG:=fun h=>sT h (Zb (J3 h) Zo) rfl (by kernel_rfl) fun _=>rfl
theorem Vx (L:Nat)(x0:(List (List UInt8)))(x1:(List UInt8)):ZT L (x0,x1,())=bT (Wl L (x0,x1,())) fun y=>some (decide (y≥0)):=by kernel_rfl
def ZbJ:List (Inl tT):=[⟨303,Yk,[],.one (.bool),[]⟩,⟨326,Yr,[.rnd [.slot 8 (.int .i64)]],.one (.int .i64),[]⟩,⟨304,Ll,[],.one (.bool),[]⟩]
def KD (L:Nat)(x:Za×Vl×PUnit):Option Int:=fI [WN L,YG L,V7 L] L ZbJ N9 [] (.one (.int .i64)) [.row 14,.row 12] x
def SH (L:Nat):Sum tT:=mU 259 [.row 14,.row 12] (.one (.int .i64)) (KD L)
theorem Zeg:SX SH:=fun h=>sI h (Zb (QE h) (Zb (WH h) (Zb (UD h) Zo))) (Zb ⟨h.T _ _ rfl,by kernel_rfl⟩ (Zb ⟨h.T _ _ rfl,by kernel_rfl⟩ (Zb ⟨h.T _ _ rfl,by kernel_rfl⟩ Zo))) rfl (by kernel_rfl) fun _=>rfl
def Xi:Za→Vl→(Int×PUnit→Option Int)→Int×PUnit→Option Int:=fun x0 x1 self acc=>bif decide (acc.1<(↑x0.4.length:Int)) then bT (getT x0.4 acc.1) fun y=>bif y.1==x1.3 then some acc.1 else self (Go.IntKind.i64.wrap (acc.1+1),()) else some (-1)
def D9:Za→Vl→(Int×PUnit→Option Int)→Int×PUnit→Option Int:=fun x0 x1 self acc=>bif decide (acc.1<(↑x0.4.length:Int)) then bT (getT x0.4 acc.1) fun y=>bif y.1==x1.3 then some acc.1 else self (Go.IntKind.i64.wrap (acc.1+1),()) else some (-1)
def DC:Za→Vl→(Int×PUnit→Option Int)→Int×PUnit→Option Int:=fun x0 x1 self acc=>bif decide (acc.1<(↑x0.4.length:Int)) then bT (getT x0.4 acc.1) fun y=>bif y.1==x1.3 then some acc.1 else self (Go.IntKind.i64.wrap (acc.1+1),()) else some (-1)
theorem ZdH (L:Nat)(x0:Za)(x1:Vl):KD L (x0,x1,())=bif x1.2==[99,114,101,97,116,101,100] then bT (Wj L (x0,x1.3,())) fun y=>bif !decide (y≥0) then some 5 else bT (ZB L (x1.1,(-1000),1000,())) fun y=>bif !y||x1.1==0 then some 2 else some 0 else bif x1.2==[101,110,100,101,100] then bT (Wj L (x0,x1.3,())) fun y=>bif !decide (y≥0) then some 5 else bT (ZB L (x1.1,(-1000),1000,())) fun y=>bif !y||x1.1==0 then some 2 else some 0 else bif x1.2==[105,110,115,105,100,101] then bT (Wj L (x0,x1.3,())) fun y=>bif !decide (y≥0) then some 5 else bT (ZB L (x1.1,(-1000),1000,())) fun y=>bif !y||x1.1==0 then some 2 else some 0 else bif x1.2==[115,116,111,114,101,100] then bT (bT (loopT (Xi x0 x1) L (0,())) fun y=>some (decide (y≥0))) fun y=>bif !y then some 5 else bT (ZB L (x1.1,(-1000),1000,())) fun y=>bif !y||x1.1==0 then some 2 else some 0 else bif x1.2==[101,110,116,101,114,101,100] then bT (bT (loopT (D9 x0 x1) L (0,())) fun y=>some (decide (y≥0))) fun y=>bif !y then some 5 else bT (ZB L (x1.1,(-1000),1000,())) fun y=>bif !y||x1.1==0 then some 2 else some 0 else bif x1.2==[108,101,102,116] then bT (bT (loopT (DC x0 x1) L (0,())) fun y=>some (decide (y≥0))) fun y=>bif !y then some 5 else bT (ZB L (x1.1,(-1000),1000,())) fun y=>bif !y||x1.1==0 then some 2 else some 0 else bif x1.2==[99,111,117,110,116,101,100] then bT (ZT L (x0.10,x1.3,())) fun y=>bif !y then some 5 else bT (ZB L (x1.1,(-1000),1000,())) fun y=>bif !y||x1.1==0 then some 2 else some 0 else some 1:=by kernel_rfl
def ZbH:List (Inl tT):=[⟨255,Js,[.rnd [.slot 16 (.int .i64),.cont 1 (.map .str)]],.one (.int .i64),[(3,[.cont 1 (.map .str)])]⟩,⟨256,MV,[],.one (.int .i64),[(4,[.cont 1 (.map .str)])]⟩,⟨257,VJ,[.rnd [.slot 16 (.int .i64),.cont 1 (.map .str)]],.one (.int .i64),[(5,[.cont 1 (.map .str)])]⟩,⟨258,I7,[],.one (.int .i64),[]⟩,⟨90,YZ,[],.one (.int .i64),[(5,[.cont 1 (.map .str)])]⟩]
def KA (L:Nat)(x:Za×PUnit):Option Int:=fI [E5 L,SH L,Qq L] L ZbH N7 [] (.one (.int .i64)) [.row 14] x
def SC (L:Nat):Sum tT:=mU 194 [.row 14] (.one (.int .i64)) (KA L)
theorem Zee:SX SC:=fun h=>sI h (Zb (Zc4 h) (Zb (Zeg h) (Zb (Xk h) Zo))) (Zb ⟨h.T _ _ rfl,by kernel_rfl⟩ (Zb ⟨h.T _ _ rfl,by kernel_rfl⟩ (Zb ⟨h.T _ _ rfl,by kernel_rfl⟩ (Zb ⟨h.T _ _ rfl,by kernel_rfl⟩ (Zb ⟨h.T _ _ rfl,by kernel_rfl⟩ Zo))))) rfl (by kernel_rfl) fun _=>rfl
def JM:Za→Nat→Oj→(Int×List (List UInt8)×PUnit→Option (Int×List (List UInt8)×PUnit))→Int×List (List UInt8)×PUnit→Option (Int×List (List UInt8)×PUnit):=fun x0 L y self acc=>bif decide (acc.1<(↑y.2.length:Int)) then bT (getT y.2 acc.1) fun y=>bT (bT (KD L (x0,y,())) fun y=>some y) fun y=>bif y != 0 then some (y,acc.2.1,()) else self (Go.IntKind.i64.wrap (acc.1+1),acc.2.1,()) else some (0,acc.2.1,())
def JO:Za→Nat→(Int×List (List UInt8)×PUnit→Option (Int×List (List UInt8)×PUnit))→Int×List (List UInt8)×PUnit→Option (Int×List (List UInt8)×PUnit):=fun x0 L self acc=>bif decide (acc.1<(↑x0.13.length:Int)) then bT (getT x0.13 acc.1) fun y=>bT (bT (bT (ZJ L (y.1,())) fun y_1=>bif y_1 != 0 then some (y_1,acc.2.1,()) else bif hasK MK.str acc.2.1 y.1 then some (4,acc.2.1,()) else some (0,addK MK.str acc.2.1 y.1,())) fun y_1=>bif y_1.1 != 0 then some (y_1.1,y_1.2.1,()) else bif (↑y.2.length:Int)==0 then some (7,y_1.2.1,()) else bT (bif decide ((↑y.2.length:Int)>8) then some (6,y_1.2.1,()) else loopT (JM x0 L y) L (0,y_1.2.1,())) fun y_2=>bif y_2.1 != 0 then some (y_2.1,y_2.2.1,()) else bT (ML L (y.3,())) fun y=>bif !y then some (2,y_2.2.1,()) else some (0,y_2.2.1,())) fun y=>bif y.1 != 0 then some (y.1,y.2.1,()) else self (Go.IntKind.i64.wrap (acc.1+1),y.2.1,()) else some (0,acc.2.1,())
theorem ZdF (L:Nat)(x0:Za):KA L (x0,())=bT (bif decide ((↑x0.13.length:Int)>32) then some (6,[],()) else loopT (JO x0 L) L (0,[],())) fun y=>some y.1:=by kernel_rfl
def Vg (L:Nat)(x:Int×Int×PUnit):Option Bool:=fT [WN L,E5 L] L Nz [] (.one .bool) [.int .i64,.int .i64] x
def Kw (L:Nat):Sum tT:=mU 252 [.int .i64,.int .i64] (.one .bool) (Vg L)
theorem Td:SX Kw:=fun h=>sT h (Zb (QE h) (Zb (Zc4 h) Zo)) rfl (by kernel_rfl) fun _=>rfl
theorem ZdE (L:Nat)(x0:Int)(x1:Int):Vg L (x0,x1,())=bif x0==1 then bT (ML L (x1,())) fun y=>some y else bif x0==2 then some (x1==0||x1==1) else bif x0==3 then bT (ZB L (x1,0,1000000000,())) fun y=>some y else some false:=by kernel_rfl
def Uf (L:Nat)(x:Za×Y1×PUnit):Option Int:=fT [WN L,Kw L,V7 L] L BU [.rnd [.slot 30 (.int .i64)]] (.one (.int .i64)) [.row 14,.row 11] x
def Py (L:Nat):Sum tT:=mU 192 [.row 14,.row 11] (.one (.int .i64)) (Uf L)
theorem Zc3:SX Py:=fun h=>sT h (Zb (QE h) (Zb (Td h) (Zb (UD h) Zo))) rfl (by kernel_rfl) fun _=>rfl
def Ji:Y1→Nat→Zx→(Int×PUnit→Option Int)→Int×PUnit→Option Int:=fun x1 L y self acc=>bif decide (acc.1<(↑x1.2.length:Int)) then bT (getT x1.2 acc.1) fun y_1=>bT (getT y.2 acc.1) fun y=>bT (Vg L (y.2,y_1,())) fun y=>bif !y then some 2 else self (Go.IntKind.i64.wrap (acc.1+1),()) else bT (ZB L (x1.3,0,1000000000,())) fun y=>bT (bif (!y)==false then bT (ZB L (x1.4,0,1000000000,())) fun y=>some !y else some true) fun y=>bT (bif y==false then bT (ZB L (x1.5,0,1000000000,())) fun y=>some !y else some true) fun y=>bif y||x1.4==0&&x1.5 != 0 then some 2 else some 0
theorem Zci (L:Nat)(x0:Za)(x1:Y1):Uf L (x0,x1,())=bT (Wj L (x0,x1.1,())) fun y=>bif decide (y<0) then some 5 else bT (getT x0.11 y) fun y=>bif (↑x1.2.length:Int) != (↑y.2.length:Int) then some 8 else loopT (Ji x1 L y) L (0,()):=by kernel_rfl
def Xm (L:Nat)(x:Int×PUnit):Option Bool:=fT [] L BQ [] (.one .bool) [.int .i64] x
def Uc (L:Nat):Sum tT:=mU 251 [.int .i64] (.one .bool) (Xm L)
theorem Hq:SX Uc:=fun h=>sT h Zo rfl (by kernel_rfl) fun _=>rfl
theorem Zcg (L:Nat)(x0:Int):Xm L (x0,())=some (decide (x0≥1)&&decide (x0≤3)):=by kernel_rfl
def ZW (L:Nat)(x:(List (List ZX))×PUnit):Option (List ZX):=fT [Zld] L Wq [.rnd [.slot 3 (.int .i64),.slot 11 (.int .i64)],.rnd [.slot 6 (.own 2 (.row 7)),.slot 27 (.int .i64)]] (.one (.lst 2 (.row 7))) [.lst 1 (.lst 2 (.row 7))] x
def Ws (L:Nat):Sum tT:=mU 254 [.lst 1 (.lst 2 (.row 7))] (.one (.lst 2 (.row 7))) (ZW L)
theorem Xx:SX Ws:=fun h=>sT h (Zb (Zn3 h) Zo) rfl (by kernel_rfl) fun _=>rfl
def Yn:List (List ZX)→(List ZX×Int×PUnit→Option (List ZX))→List ZX×Int×PUnit→Option (List ZX):=fun x0 self acc=>bif decide (acc.2.1<(↑x0.length:Int)) then bT (getT x0 acc.2.1) fun y=>bT (apT 24 acc.1 y) fun y=>self (y,Go.IntKind.i64.wrap (acc.2.1+1),()) else some acc.1
def Wn:List (List ZX)→Nat→(Int×Int×PUnit→Option (List ZX))→Int×Int×PUnit→Option (List ZX):=fun x0 L self acc=>bif decide (acc.2.1<(↑x0.length:Int)) then bT (getT x0 acc.2.1) fun y=>bif decide (Go.IntKind.i64.wrap (acc.1+(↑y.length:Int))<0) then none else self (Go.IntKind.i64.wrap (acc.1+(↑y.length:Int)),Go.IntKind.i64.wrap (acc.2.1+1),()) else bT (ZjM [] acc.1) fun y=>loopT (Yn x0) L (y,0,())
theorem Xw (L:Nat)(x0:(List (List ZX))):ZW L (x0,())=loopT (Wn x0 L) L (0,0,()):=by kernel_rfl
def Ee:List (Inl tT):=[⟨90,YZ,[],.one (.int .i64),[(3,[.cont 1 (.map .str)])]⟩]
def VA (L:Nat)(x:Zx×PUnit):Option Int:=fI [SQ L,Uc L,Qq L,Ws L] L Ee Ov [.rnd [.slot 29 (.int .i64),.cont 1 (.map .str)]] (.one (.int .i64)) [.row 10] x
def TK (L:Nat):Sum tT:=mU 188 [.row 10] (.one (.int .i64)) (VA L)
theorem Cj:SX TK:=fun h=>sI h (Zb (Zem h) (Zb (Hq h) (Zb (Xk h) (Zb (Xx h) Zo)))) (Zb ⟨h.T _ _ rfl,by kernel_rfl⟩ Zo) rfl (by kernel_rfl) fun _=>rfl
def XJ:Zx→Nat→List ZX→(Int×List (List UInt8)×PUnit→Option Int)→Int×List (List UInt8)×PUnit→Option Int:=fun x0 L y self acc=>bif decide (acc.1<(↑y.length:Int)) then bT (getT y acc.1) fun y=>bT (bT (ZJ L (y.1,())) fun y_1=>bif y_1 != 0 then some (y_1,acc.2.1,()) else bif hasK MK.str acc.2.1 y.1 then some (4,acc.2.1,()) else some (0,addK MK.str acc.2.1 y.1,())) fun y_1=>bif y_1.1 != 0 then some y_1.1 else bT (Xm L (y.2,())) fun y=>bif !y then some 1 else self (Go.IntKind.i64.wrap (acc.1+1),y_1.2.1,()) else bT (KG L (x0.4,())) fun y=>some y
theorem Fv (L:Nat)(x0:Zx):VA L (x0,())=bif decide ((↑x0.2.length:Int)>6)||decide (Go.IntKind.i64.wrap ((↑x0.2.length:Int)+(↑x0.3.length:Int))>16) then some 6 else bT (ZW L ([x0.2,x0.3],())) fun y=>loopT (XJ x0 L y) L (0,[],()):=by kernel_rfl
def XL (L:Nat)(x:Za×Oi×PUnit):Option Int:=fT [Kv L,YG L,Bh L] L I5 [] (.one (.int .i64)) [.row 14,.row 3] x
def IW (L:Nat):Sum tT:=mU 173 [.row 14,.row 3] (.one (.int .i64)) (XL L)
theorem Ej:SX IW:=fun h=>sT h (Zb (Tc h) (Zb (WH h) (Zb (Cf h) Zo))) rfl (by kernel_rfl) fun _=>rfl
theorem Eg (L:Nat)(x0:Za)(x1:Oi):XL L (x0,x1,())=bT (bif (x1.1==[])==true then bT (VZ L (x1.2,Yo.mk 0 0 0 0 [] [],())) fun y=>bif (!y)==false then bT (VZ L (x1.3,Yo.mk 0 0 0 0 [] [],())) fun y=>some !y else some true else some false) fun y=>bif y then some 1 else bif x1.1==[] then some 0 else bT (ZT L (x0.7,x1.1,())) fun y=>bif !y then some 5 else bT (Xe L (x1.2,())) fun y=>bif y != 0 then some y else bT (Xe L (x1.3,())) fun y=>some y:=by kernel_rfl
def XM (L:Nat)(x:Zi×PUnit):Option Int:=fT [WN L] L I8 [.rnd [.slot 25 (.int .i64)]] (.one (.int .i64)) [.row 4] x
def IX (L:Nat):Sum tT:=mU 172 [.row 4] (.one (.int .i64)) (XM L)
theorem Em:SX IX:=fun h=>sT h (Zb (QE h) Zo) rfl (by kernel_rfl) fun _=>rfl
def WY:Zi→Nat→(Int×PUnit→Option Int)→Int×PUnit→Option Int:=fun x0 L self acc=>bif decide (acc.1<(↑x0.3.length:Int)) then bT (getT x0.3 acc.1) fun y=>bT (ZB L (y.1,0,Go.IntKind.i64.wrap (x0.4 - 1),())) fun y_1=>bif !y_1 then some 2 else bT (ZB L (y.2,0,1000,())) fun y_2=>bif !y_2 then some 2 else bT (bif decide (acc.1>0)==true then bT (getT x0.3 (Go.IntKind.i64.wrap (acc.1 - 1))) fun y_3=>some (decide (y.1≤y_3.1)) else some false) fun y=>bif y then some 12 else self (Go.IntKind.i64.wrap (acc.1+1),()) else some 0
theorem Eh (L:Nat)(x0:Zi):XM L (x0,())=bif (↑x0.3.length:Int)==0 then bif x0.4 != 0 then some 1 else some 0 else bif decide ((↑x0.3.length:Int)>20) then some 6 else bT (ZB L (x0.4,1,1000000000,())) fun y=>bif !y then some 2 else loopT (WY x0 L) L (0,()):=by kernel_rfl
def ZbI:List (Inl tT):=[⟨166,BP,[.unr 60],.one (.int .i64),[(5,[.cont 1 (.map .str)])]⟩,⟨193,O0,[],.one (.int .i64),[]⟩,⟨189,Oz,[],.one (.int .i64),[(5,[.cont 1 (.map .str)])]⟩,⟨190,Vp,[.rnd [.slot 16 (.int .i64),.cont 1 (.map .str)]],.one (.int .i64),[(5,[.cont 1 (.map .str)])]⟩,⟨191,KX,[],.one (.int .i64),[]⟩,⟨185,Oy,[],.one (.int .i64),[(5,[.cont 1 (.map .str)])]⟩,⟨186,X7,[.rnd [.slot 16 (.int .i64),.cont 1 (.map .str)]],.one (.int .i64),[(5,[.cont 1 (.map .str)])]⟩,⟨187,KW,[],.one (.int .i64),[(6,[.cont 1 (.map .str)])]⟩,⟨90,YZ,[],.one (.int .i64),[(7,[.cont 1 (.map .str)]),(5,[.cont 1 (.map .str)])]⟩,⟨184,Ox,[],.one (.int .i64),[(5,[.cont 1 (.map .str)])]⟩,⟨183,Lj,[],.one (.int .i64),[(5,[.cont 1 (.map .str)])]⟩,⟨182,Lh,[],.one (.int .i64),[(5,[.cont 1 (.map .str)])]⟩,⟨181,Le,[],.one (.int .i64),[(5,[.cont 1 (.map .str)])]⟩,⟨180,Ld,[],.one (.int .i64),[(5,[.cont 1 (.map .str)])]⟩,⟨177,Lc,[],.one (.int .i64),[(5,[.cont 1 (.map .str)])]⟩,⟨178,Xq,[.rnd [.slot 16 (.int .i64),.cont 1 (.map .str)]],.one (.int .i64),[(5,[.cont 1 (.map .str)])]⟩,⟨179,IB,[],.one (.int .i64),[(6,[.cont 1 (.map .str)])]⟩,⟨174,La,[],.one (.int .i64),[(5,[.cont 1 (.map .str)])]⟩,⟨175,QV,[.rnd [.slot 16 (.int .i64),.cont 1 (.map .str)]],.one (.int .i64),[(5,[.cont 1 (.map .str)])]⟩,⟨176,IA,[],.one (.int .i64),[(6,[.cont 1 (.map .str)])]⟩,⟨168,MZ,[],.one (.int .i64),[(5,[.cont 1 (.map .str)])]⟩,⟨169,Qe,[.rnd [.slot 16 (.int .i64),.cont 1 (.map .str)]],.one (.int .i64),[(5,[.cont 1 (.map .str)])]⟩,⟨170,I9,[],.one (.int .i64),[(6,[.cont 1 (.map .str)])]⟩,⟨167,MX,[],.one (.int .i64),[(5,[.cont 1 (.map .str)])]⟩,⟨87,QH,[],.one (.int .i64),[(5,[.cont 1 (.map .str)])]⟩,⟨162,Qm,[.rnd [.slot 16 (.int .i64),.cont 1 (.map .str)]],.one (.int .i64),[(5,[.cont 1 (.map .str)])]⟩,⟨163,QU,[],.one (.int .i64),[(6,[.cont 1 (.map .str)])]⟩,⟨164,MW,[],.one (.int .i64),[(5,[.cont 1 (.map .str)])]⟩,⟨165,JI,[.rnd [.slot 16 (.int .i64),.cont 1 (.map .str)]],.one (.int .i64),[(5,[.cont 1 (.map .str)])]⟩]
def KC (L:Nat)(x:Za×PUnit):Option Int:=fI [SC L,Py L,TK L,Qq L,WN L,IW L,IX L,Kw L,Uc L] L ZbI N8 [] (.one (.int .i64)) [.row 14] x
def SE (L:Nat):Sum tT:=mU 91 [.row 14] (.one (.int .i64)) (KC L)
theorem Zef:SX SE:=fun h=>sI h (Zb (Zee h) (Zb (Zc3 h) (Zb (Cj h) (Zb (Xk h) (Zb (QE h) (Zb (Ej h) (Zb (Em h) (Zb (Td h) (Zb (Hq h) Zo))))))))) (Zb ⟨h.T _ _ rfl,by kernel_rfl⟩ (Zb ⟨h.T _ _ rfl,by kernel_rfl⟩ (Zb ⟨h.T _ _ rfl,by kernel_rfl⟩ (Zb ⟨h.T _ _ rfl,by kernel_rfl⟩ (Zb ⟨h.T _ _ rfl,by kernel_rfl⟩ (Zb ⟨h.T _ _ rfl,by kernel_rfl⟩ (Zb ⟨h.T _ _ rfl,by kernel_rfl⟩ (Zb ⟨h.T _ _ rfl,by kernel_rfl⟩ (Zb ⟨h.T _ _ rfl,by kernel_rfl⟩ (Zb ⟨h.T _ _ rfl,by kernel_rfl⟩ (Zb ⟨h.T _ _ rfl,by kernel_rfl⟩ (Zb ⟨h.T _ _ rfl,by kernel_rfl⟩ (Zb ⟨h.T _ _ rfl,by kernel_rfl⟩ (Zb ⟨h.T _ _ rfl,by kernel_rfl⟩ (Zb ⟨h.T _ _ rfl,by kernel_rfl⟩ (Zb ⟨h.T _ _ rfl,by kernel_rfl⟩ (Zb ⟨h.T _ _ rfl,by kernel_rfl⟩ (Zb ⟨h.T _ _ rfl,by kernel_rfl⟩ (Zb ⟨h.T _ _ rfl,by kernel_rfl⟩ (Zb ⟨h.T _ _ rfl,by kernel_rfl⟩ (Zb ⟨h.T _ _ rfl,by kernel_rfl⟩ (Zb ⟨h.T _ _ rfl,by kernel_rfl⟩ (Zb ⟨h.T _ _ rfl,by kernel_rfl⟩ (Zb ⟨h.T _ _ rfl,by kernel_rfl⟩ (Zb ⟨h.T _ _ rfl,by kernel_rfl⟩ (Zb ⟨h.T _ _ rfl,by kernel_rfl⟩ (Zb ⟨h.T _ _ rfl,by kernel_rfl⟩ (Zb ⟨h.T _ _ rfl,by kernel_rfl⟩ (Zb ⟨h.T _ _ rfl,by kernel_rfl⟩ Zo))))))))))))))))))))))))))))) rfl (by kernel_rfl) fun _=>rfl
def JP:Za→Nat→(Int×List (List UInt8)×PUnit→Option (Int×List (List UInt8)×PUnit))→Int×List (List UInt8)×PUnit→Option (Int×List (List UInt8)×PUnit):=fun x0 L self acc=>bif decide (acc.1<(↑x0.2.length:Int)) then bT (getT x0.2 acc.1) fun y=>bT (bT (bT (ZJ L (y.1,())) fun y_1=>bif y_1 != 0 then some (y_1,acc.2.1,()) else bif hasK MK.str acc.2.1 y.1 then some (4,acc.2.1,()) else some (0,addK MK.str acc.2.1 y.1,())) fun y_1=>bif y_1.1 != 0 then some (y_1.1,y_1.2.1,()) else bT (Xm L (y.2,())) fun y_2=>bif !y_2 then some (1,y_1.2.1,()) else bT (Vg L (y.2,y.3,())) fun y=>bif !y then some (2,y_1.2.1,()) else some (0,y_1.2.1,())) fun y=>bif y.1 != 0 then some (y.1,y.2.1,()) else self (Go.IntKind.i64.wrap (acc.1+1),y.2.1,()) else some (0,acc.2.1,())
def JQ:Za→Nat→(Int×List (List UInt8)×PUnit→Option (Int×List (List UInt8)×PUnit))→Int×List (List UInt8)×PUnit→Option (Int×List (List UInt8)×PUnit):=fun x0 L self acc=>bif decide (acc.1<(↑x0.3.length:Int)) then bT (getT x0.3 acc.1) fun y=>bT (bT (bT (ZJ L (y.1,())) fun y_1=>bif y_1 != 0 then some (y_1,acc.2.1,()) else bif hasK MK.str acc.2.1 y.1 then some (4,acc.2.1,()) else some (0,addK MK.str acc.2.1 y.1,())) fun y_1=>bif y_1.1 != 0 then some (y_1.1,y_1.2.1,()) else bT (ZB L (y.2,0,1000,())) fun y_2=>bif !y_2 then some (2,y_1.2.1,()) else bT (XM L (y,())) fun y_3=>bif y_3 != 0 then some (y_3,y_1.2.1,()) else bT (XL L (x0,y.5,())) fun y=>some (y,y_1.2.1,())) fun y=>bif y.1 != 0 then some (y.1,y.2.1,()) else self (Go.IntKind.i64.wrap (acc.1+1),y.2.1,()) else some (0,acc.2.1,())
def JR:Za→Nat→(Int×List (List UInt8)×PUnit→Option (Int×List (List UInt8)×PUnit))→Int×List (List UInt8)×PUnit→Option (Int×List (List UInt8)×PUnit):=fun x0 L self acc=>bif decide (acc.1<(↑x0.4.length:Int)) then bT (getT x0.4 acc.1) fun y=>bT (bT (bT (ZJ L (y.1,())) fun y_1=>bif y_1 != 0 then some (y_1,acc.2.1,()) else bif hasK MK.str acc.2.1 y.1 then some (4,acc.2.1,()) else some (0,addK MK.str acc.2.1 y.1,())) fun y_1=>bif y_1.1 != 0 then some (y_1.1,y_1.2.1,()) else bT (ZB L (y.2,1,1000,())) fun y_2=>bif !y_2 then some (2,y_1.2.1,()) else bif decide (y.3<1)||decide (y.3>3) then some (1,y_1.2.1,()) else some (0,y_1.2.1,())) fun y=>bif y.1 != 0 then some (y.1,y.2.1,()) else self (Go.IntKind.i64.wrap (acc.1+1),y.2.1,()) else some (0,acc.2.1,())
def JS:Za→Nat→(Int×List (List UInt8)×PUnit→Option (Int×List (List UInt8)×PUnit))→Int×List (List UInt8)×PUnit→Option (Int×List (List UInt8)×PUnit):=fun x0 L self acc=>bif decide (acc.1<(↑x0.5.length:Int)) then bT (getT x0.5 acc.1) fun y=>bT (bT (bT (ZJ L (y.1,())) fun y_1=>bif y_1 != 0 then some (y_1,acc.2.1,()) else bif hasK MK.str acc.2.1 y.1 then some (4,acc.2.1,()) else some (0,addK MK.str acc.2.1 y.1,())) fun y_1=>bif y_1.1 != 0 then some (y_1.1,y_1.2.1,()) else bT (ZB L (y.2,1,1000,())) fun y_2=>bT (bif (!y_2)==false then bT (ZB L (y.3,1,1000,())) fun y=>some !y else some true) fun y=>bif y then some (2,y_1.2.1,()) else some (0,y_1.2.1,())) fun y=>bif y.1 != 0 then some (y.1,y.2.1,()) else self (Go.IntKind.i64.wrap (acc.1+1),y.2.1,()) else some (0,acc.2.1,())
def JU:Za→Nat→(Int×List (List UInt8)×PUnit→Option (Int×List (List UInt8)×PUnit))→Int×List (List UInt8)×PUnit→Option (Int×List (List UInt8)×PUnit):=fun x0 L self acc=>bif decide (acc.1<(↑x0.6.length:Int)) then bT (getT x0.6 acc.1) fun y=>bT (bT (ZJ L (y,())) fun y_1=>bif y_1 != 0 then some (y_1,acc.2.1,()) else bif hasK MK.str acc.2.1 y then some (4,acc.2.1,()) else some (0,addK MK.str acc.2.1 y,())) fun y=>bif y.1 != 0 then some (y.1,y.2.1,()) else self (Go.IntKind.i64.wrap (acc.1+1),y.2.1,()) else some (0,acc.2.1,())
def D5:Za→Nat→(Int×List (List UInt8)×PUnit→Option (Int×List (List UInt8)×PUnit))→Int×List (List UInt8)×PUnit→Option (Int×List (List UInt8)×PUnit):=fun x0 L self acc=>bif decide (acc.1<(↑x0.7.length:Int)) then bT (getT x0.7 acc.1) fun y=>bT (bT (ZJ L (y,())) fun y_1=>bif y_1 != 0 then some (y_1,acc.2.1,()) else bif hasK MK.str acc.2.1 y then some (4,acc.2.1,()) else some (0,addK MK.str acc.2.1 y,())) fun y=>bif y.1 != 0 then some (y.1,y.2.1,()) else self (Go.IntKind.i64.wrap (acc.1+1),y.2.1,()) else some (0,acc.2.1,())
def D6:Za→Nat→(Int×List (List UInt8)×PUnit→Option (Int×List (List UInt8)×PUnit))→Int×List (List UInt8)×PUnit→Option (Int×List (List UInt8)×PUnit):=fun x0 L self acc=>bif decide (acc.1<(↑x0.8.length:Int)) then bT (getT x0.8 acc.1) fun y=>bT (bT (ZJ L (y,())) fun y_1=>bif y_1 != 0 then some (y_1,acc.2.1,()) else bif hasK MK.str acc.2.1 y then some (4,acc.2.1,()) else some (0,addK MK.str acc.2.1 y,())) fun y=>bif y.1 != 0 then some (y.1,y.2.1,()) else self (Go.IntKind.i64.wrap (acc.1+1),y.2.1,()) else some (0,acc.2.1,())
def D7:Za→Nat→(Int×List (List UInt8)×PUnit→Option (Int×List (List UInt8)×PUnit))→Int×List (List UInt8)×PUnit→Option (Int×List (List UInt8)×PUnit):=fun x0 L self acc=>bif decide (acc.1<(↑x0.9.length:Int)) then bT (getT x0.9 acc.1) fun y=>bT (bT (ZJ L (y,())) fun y_1=>bif y_1 != 0 then some (y_1,acc.2.1,()) else bif hasK MK.str acc.2.1 y then some (4,acc.2.1,()) else some (0,addK MK.str acc.2.1 y,())) fun y=>bif y.1 != 0 then some (y.1,y.2.1,()) else self (Go.IntKind.i64.wrap (acc.1+1),y.2.1,()) else some (0,acc.2.1,())
def D8:Za→Nat→(Int×List (List UInt8)×PUnit→Option (Int×List (List UInt8)×PUnit))→Int×List (List UInt8)×PUnit→Option (Int×List (List UInt8)×PUnit):=fun x0 L self acc=>bif decide (acc.1<(↑x0.10.length:Int)) then bT (getT x0.10 acc.1) fun y=>bT (bT (ZJ L (y,())) fun y_1=>bif y_1 != 0 then some (y_1,acc.2.1,()) else bif hasK MK.str acc.2.1 y then some (4,acc.2.1,()) else some (0,addK MK.str acc.2.1 y,())) fun y=>bif y.1 != 0 then some (y.1,y.2.1,()) else self (Go.IntKind.i64.wrap (acc.1+1),y.2.1,()) else some (0,acc.2.1,())
def JV:Za→Nat→(Int×List (List UInt8)×PUnit→Option (Int×List (List UInt8)×PUnit))→Int×List (List UInt8)×PUnit→Option (Int×List (List UInt8)×PUnit):=fun x0 L self acc=>bif decide (acc.1<(↑x0.11.length:Int)) then bT (getT x0.11 acc.1) fun y=>bT (bT (bT (ZJ L (y.1,())) fun y_1=>bif y_1 != 0 then some (y_1,acc.2.1,()) else bif hasK MK.str acc.2.1 y.1 then some (4,acc.2.1,()) else some (0,addK MK.str acc.2.1 y.1,())) fun y_1=>bif y_1.1 != 0 then some (y_1.1,y_1.2.1,()) else bT (VA L (y,())) fun y=>some (y,y_1.2.1,())) fun y=>bif y.1 != 0 then some (y.1,y.2.1,()) else self (Go.IntKind.i64.wrap (acc.1+1),y.2.1,()) else some (0,acc.2.1,())
def Q8:Za→Nat→(Int×List (List UInt8)×PUnit→Option (Int×List (List UInt8)×PUnit))→Int×List (List UInt8)×PUnit→Option (Int×List (List UInt8)×PUnit):=fun x0 L self acc=>bif decide (acc.1<(↑x0.12.length:Int)) then bT (getT x0.12 acc.1) fun y=>bT (bT (Uf L (x0,y,())) fun y=>some y) fun y=>bif y != 0 then some (y,acc.2.1,()) else self (Go.IntKind.i64.wrap (acc.1+1),acc.2.1,()) else some (0,acc.2.1,())
theorem ZdG (L:Nat)(x0:Za):KC L (x0,())=bT (bT (bT (bT (bif decide ((↑x0.2.length:Int)>32) then some (6,[],()) else loopT (JP x0 L) L (0,[],())) fun y=>some (y.1,y.2.1,())) fun y=>some (y.1,y.2.1,())) fun y=>bif y.1 != 0 then some (y.1,y.2.1,()) else bT (bT (bif decide ((↑x0.3.length:Int)>32) then some (6,y.2.1,()) else loopT (JQ x0 L) L (0,y.2.1,())) fun y=>some (y.1,y.2.1,())) fun y=>bif y.1 != 0 then some (y.1,y.2.1,()) else bT (bT (bif decide ((↑x0.4.length:Int)>32) then some (6,y.2.1,()) else loopT (JR x0 L) L (0,y.2.1,())) fun y=>some (y.1,y.2.1,())) fun y=>bif y.1 != 0 then some (y.1,y.2.1,()) else bT (bT (bif decide ((↑x0.5.length:Int)>32) then some (6,y.2.1,()) else loopT (JS x0 L) L (0,y.2.1,())) fun y=>some (y.1,y.2.1,())) fun y=>bif y.1 != 0 then some (y.1,y.2.1,()) else bT (bT (bT (bif decide ((↑x0.6.length:Int)>32) then some (6,y.2.1,()) else loopT (JU x0 L) L (0,y.2.1,())) fun y=>some (y.1,y.2.1,())) fun y=>some (y.1,y.2.1,())) fun y=>bif y.1 != 0 then some (y.1,y.2.1,()) else bT (bT (bT (bif decide ((↑x0.7.length:Int)>32) then some (6,y.2.1,()) else loopT (D5 x0 L) L (0,y.2.1,())) fun y=>some (y.1,y.2.1,())) fun y=>some (y.1,y.2.1,())) fun y=>bif y.1 != 0 then some (y.1,y.2.1,()) else bT (bT (bT (bif decide ((↑x0.8.length:Int)>32) then some (6,y.2.1,()) else loopT (D6 x0 L) L (0,y.2.1,())) fun y=>some (y.1,y.2.1,())) fun y=>some (y.1,y.2.1,())) fun y=>bif y.1 != 0 then some (y.1,y.2.1,()) else bT (bT (bT (bif decide ((↑x0.9.length:Int)>32) then some (6,y.2.1,()) else loopT (D7 x0 L) L (0,y.2.1,())) fun y=>some (y.1,y.2.1,())) fun y=>some (y.1,y.2.1,())) fun y=>bif y.1 != 0 then some (y.1,y.2.1,()) else bT (bT (bT (bif decide ((↑x0.10.length:Int)>32) then some (6,y.2.1,()) else loopT (D8 x0 L) L (0,y.2.1,())) fun y=>some (y.1,y.2.1,())) fun y=>some (y.1,y.2.1,())) fun y=>bif y.1 != 0 then some (y.1,y.2.1,()) else bT (bT (bif decide ((↑x0.11.length:Int)>16) then some (6,y.2.1,()) else loopT (JV x0 L) L (0,y.2.1,())) fun y=>some (y.1,y.2.1,())) fun y=>bif y.1 != 0 then some (y.1,y.2.1,()) else bT (bT (bif decide ((↑x0.12.length:Int)>32) then some (6,y.2.1,()) else loopT (Q8 x0 L) L (0,y.2.1,())) fun y=>some (y.1,y.2.1,())) fun y=>bif y.1 != 0 then some (y.1,y.2.1,()) else bT (bT (KA L (x0,())) fun y=>some y) fun y_1=>bif y_1 != 0 then some (y_1,y.2.1,()) else some (0,y.2.1,())) fun y=>some y.1:=by kernel_rfl
def Zav:List (Inl tT):=[⟨88,Xr,[.rnd [.slot 16 (.int .i64),.cont 1 (.map .str),.cont 2 (.map .str)]],.one (.int .i64),[(4,[.cont 1 (.map .str),.cont 2 (.map .str)])]⟩,⟨89,Oq,[],.one (.int .i64),[(5,[.cont 2 (.map .str)])]⟩,⟨90,YZ,[],.one (.int .i64),[(4,[.cont 1 (.map .str)]),(6,[.cont 2 (.map .str)])]⟩,⟨87,QH,[],.one (.int .i64),[(2,[.cont 1 (.map .str)])]⟩,⟨162,Qm,[.rnd [.slot 16 (.int .i64),.cont 1 (.map .str)]],.one (.int .i64),[(2,[.cont 1 (.map .str)])]⟩,⟨163,QU,[],.one (.int .i64),[(3,[.cont 1 (.map .str)])]⟩]
def V9 (L:Nat)(x:ZF×PUnit):Option Int:=fI [Px L,SE L,Qq L,Kw L,Uc L] L Zav BO [] (.one (.int .i64)) [.row 16] x
def Pv (L:Nat):Sum tT:=mU 39 [.row 16] (.one (.int .i64)) (V9 L)
theorem Zc1:SX Pv:=fun h=>sI h (Zb (Zc2 h) (Zb (Zef h) (Zb (Xk h) (Zb (Td h) (Zb (Hq h) Zo))))) (Zb ⟨h.T _ _ rfl,by kernel_rfl⟩ (Zb ⟨h.T _ _ rfl,by kernel_rfl⟩ (Zb ⟨h.T _ _ rfl,by kernel_rfl⟩ (Zb ⟨h.T _ _ rfl,by kernel_rfl⟩ (Zb ⟨h.T _ _ rfl,by kernel_rfl⟩ (Zb ⟨h.T _ _ rfl,by kernel_rfl⟩ Zo)))))) rfl (by kernel_rfl) fun _=>rfl
def Jg:ZF→Nat→(Int×List (List UInt8)×PUnit→Option (Int×List (List UInt8)×PUnit))→Int×List (List UInt8)×PUnit→Option (Int×List (List UInt8)×PUnit):=fun x0 L self acc=>bif decide (acc.1<(↑x0.2.length:Int)) then bT (getT x0.2 acc.1) fun y=>bT (bT (bT (ZJ L (y.1,())) fun y_1=>bif y_1 != 0 then some (y_1,acc.2.1,()) else bif hasK MK.str acc.2.1 y.1 then some (4,acc.2.1,()) else some (0,addK MK.str acc.2.1 y.1,())) fun y_1=>bif y_1.1 != 0 then some (y_1.1,y_1.2.1,()) else bT (Xm L (y.2,())) fun y_2=>bif !y_2 then some (1,y_1.2.1,()) else bT (Vg L (y.2,y.3,())) fun y=>bif !y then some (2,y_1.2.1,()) else some (0,y_1.2.1,())) fun y=>bif y.1 != 0 then some (y.1,y.2.1,()) else self (Go.IntKind.i64.wrap (acc.1+1),y.2.1,()) else some (0,acc.2.1,())
def Q7:ZF→Nat→(Int×List (List UInt8)×List (List UInt8)×PUnit→Option (Int×List (List UInt8)×List (List UInt8)×PUnit))→Int×List (List UInt8)×List (List UInt8)×PUnit→Option (Int×List (List UInt8)×List (List UInt8)×PUnit):=fun x0 L self acc=>bif decide (acc.1<(↑x0.3.length:Int)) then bT (getT x0.3 acc.1) fun y=>bT (bT (bT (ZJ L (y.1,())) fun y_1=>bif y_1 != 0 then some (y_1,acc.2.2.1,()) else bif hasK MK.str acc.2.2.1 y.1 then some (4,acc.2.2.1,()) else some (0,addK MK.str acc.2.2.1 y.1,())) fun y_1=>bif y_1.1 != 0 then some (y_1.1,y_1.2.1,()) else bT (KC L (y,())) fun y=>some (y,y_1.2.1,())) fun y=>bif y.1 != 0 then some (y.1,acc.2.1,y.2.1,()) else self (Go.IntKind.i64.wrap (acc.1+1),acc.2.1,y.2.1,()) else some (0,acc.2.1,acc.2.2.1,())
theorem Zcf (L:Nat)(x0:ZF):V9 L (x0,())=bT (ZJ L (x0.1,())) fun y=>bif y != 0 then some y else bT (bT (bif decide ((↑x0.2.length:Int)>32) then some (6,[],()) else loopT (Jg x0 L) L (0,[],())) fun y=>some (y.1,y.2.1,())) fun y=>bif y.1 != 0 then some y.1 else bif (↑x0.3.length:Int)==0 then some 7 else bT (bif decide ((↑x0.3.length:Int)>16) then some (6,y.2.1,[],()) else loopT (Q7 x0 L) L (0,y.2.1,[],())) fun y=>bif y.1 != 0 then some y.1 else bT (Ue L (x0,())) fun y=>some y:=by kernel_rfl
def Zax:List (Inl tT):=[⟨35,X4,[],.tup [.str,.int .i64],[(3,[.cont 1 .lost])]⟩,⟨41,Yx,[],.tup [],[(3,[.cont 1 (.bufi 82 5)])]⟩,⟨42,O4,[.rnd [.slot 13 (.int .i64),.cont 1 (.bufi 82 5)],.rnd [.slot 31 (.int .i64),.cont 1 (.bufi 82 5)]],.tup [],[(3,[.cont 1 (.bufi 82 5)])]⟩]
def Ug (L:Nat)(x:ZF×PUnit):Option ((List UInt8)×Int×PUnit):=fnT tF tG (stackQ tF tG (orQ (bufQ 80 5 0 93 999998 81 999999) (orQ (bufQ 82 5 1 93 999998 81 80) (orQ (eQ tF [V5 L,Zy L,WM L]) (qOf tF [UL,Pv L])))) L Zax 8) 0 L BX [] (.tup [.str,.int .i64]) (tvL tT [.row 16] x) []
def Pz (L:Nat):Sum tT:=⟨18,[.row 16],fun x=>.par ((.tup [.str,.int .i64]:RD).Ty tT) (Ug L x) ((.tup [.str,.int .i64]:RD).tv tT)⟩
theorem Zc5 {C:Cfg}{L:Nat}(h:St C L):SumOk C (Pz L):=sum_par ZE h.L h.G (stackQ_ok ZE h.L h.G (orQ_ok (bufQ_ok h.buf0) (orQ_ok (bufQ_ok h.buf1) (orQ_ok (eQ_cons (Ho h) (eQ_cons (ZA h) (eQ_cons (XD h) eQ_nil))) (qOf_ok ZE (Zb (IJ h) (Zb (Zc1 h) Zo)))))) (Zb ⟨h.T _ _ rfl,by kernel_rfl⟩ (Zb ⟨h.T _ _ rfl,by kernel_rfl⟩ (Zb ⟨h.T _ _ rfl,by kernel_rfl⟩ Zo))) 8) [] (h.T _ _ rfl) (by kernel_rfl) fun _=>rfl
def QB:ZF→Nat→(Int×(List UInt8×Int)×PUnit→Option (PUnit×(List UInt8×Int)×PUnit))→Int×(List UInt8×Int)×PUnit→Option (PUnit×(List UInt8×Int)×PUnit):=fun x0 L self acc=>bif decide (acc.1<(↑x0.3.length:Int)) then bT (getT x0.3 acc.1) fun y=>bT (Wx L (y,()) (acc.2.1.1,acc.2.1.2)) fun y=>self (Go.IntKind.i64.wrap (acc.1+1),(y.snd.1,y.snd.2),()) else some ((),(acc.2.1.1,acc.2.1.2),())
def XA:ZF→Nat→(Int×(List UInt8×Int)×PUnit→Option (PUnit×(List UInt8×Int)×PUnit))→Int×(List UInt8×Int)×PUnit→Option (PUnit×(List UInt8×Int)×PUnit):=fun x0 L self acc=>bif decide (acc.1<(↑x0.4.length:Int)) then bT (getT x0.4 acc.1) fun y=>bT (bT (Yu y.3) fun y=>some y) fun y_1=>bT (Zc L ([[108,105,110,107],y.1,y.2,y_1],()) (acc.2.1.1,acc.2.1.2)) fun y=>self (Go.IntKind.i64.wrap (acc.1+1),(y.snd.1,y.snd.2),()) else loopT (QB x0 L) L (0,(acc.2.1.1,acc.2.1.2),())
theorem DX (L:Nat)(x0:ZF):Ug L (x0,())=bT (V9 L (x0,())) fun y=>bif y != 0 then some ([],y,()) else bT (Zc L ([[109,111,100,101,108],x0.1],()) ([],0)) fun y=>bT (bT (bT (Yy L ([112,97,114,97,109],x0.2,()) (y.snd.1,Go.IntKind.i64.wrap (y.snd.2+1))) fun y=>loopT (XA x0 L) L (0,(y.snd.1,y.snd.2),())) fun y=>some ((),(y.2.1.1,Go.IntKind.i64.wrap (y.2.1.2 - 1)),())) fun y=>bT (Zc L ([[101,110,100]],()) (y.2.1.1,y.2.1.2)) fun y=>bT (bif decide ((↑y.snd.1.length:Int)>20000) then some (([],6,()),(),()) else some ((y.snd.1,0,()),(),())) fun y=>some (y.1.1,y.1.2.1,()):=by kernel_rfl
def Kz (L:Nat)(x:ZF×PUnit):Option Int:=fT [Zbs L] L Nw [.rnd [.slot 3 (.int .i64),.slot 4 (.int .i64)],.rnd [.slot 3 (.int .i64),.slot 6 (.int .i64)],.rnd [.slot 3 (.int .i64),.slot 7 (.int .i64)]] (.one (.int .i64)) [.row 16] x
def SA (L:Nat):Sum tT:=mU 17 [.row 16] (.one (.int .i64)) (Kz L)
theorem Zec:SX SA:=fun h=>sT h (Zb (ZhB h) Zo) rfl (by kernel_rfl) fun _=>rfl
def Vr:(Int×Int×PUnit→Option Int)→Int×Int×PUnit→Za→(Int×Int×PUnit→Option Int)→Int×Int×PUnit→Option Int:=fun self acc y self_1 acc_1=>bif decide (acc_1.2.1<(↑y.3.length:Int)) then bT (getT y.3 acc_1.2.1) fun y=>self_1 (Go.IntKind.i64.wrap (acc_1.1+(↑y.3.length:Int)),Go.IntKind.i64.wrap (acc_1.2.1+1),()) else self (acc_1.1,Go.IntKind.i64.wrap (acc.2.1+1),())
def Vs:Nat→(Int×Int×PUnit→Option Int)→Int×Int×PUnit→Za→(Int×Int×PUnit→Option Int)→Int×Int×PUnit→Option Int:=fun L self acc y self_1 acc_1=>bif decide (acc_1.2.1<(↑y.11.length:Int)) then bT (getT y.11 acc_1.2.1) fun y_1=>bT (getT y.11 acc_1.2.1) fun y_2=>bT (getT y.11 acc_1.2.1) fun y=>bT (bT (Np L (y.4,())) fun y=>some y) fun y=>self_1 (Go.IntKind.i64.wrap (acc_1.1+Go.IntKind.i64.wrap (Go.IntKind.i64.wrap (Go.IntKind.i64.wrap (1+(↑y_1.2.length:Int))+(↑y_2.3.length:Int))+y)),Go.IntKind.i64.wrap (acc_1.2.1+1),()) else loopT (Vr self acc y) L (acc_1.1,0,())
def JL:ZF→Nat→(Int×Int×PUnit→Option Int)→Int×Int×PUnit→Option Int:=fun x0 L self acc=>bif decide (acc.2.1<(↑x0.3.length:Int)) then bT (getT x0.3 acc.2.1) fun y=>loopT (Vs L self acc y) L (Go.IntKind.i64.wrap (acc.1+Go.IntKind.i64.wrap (Go.IntKind.i64.wrap (Go.IntKind.i64.wrap (Go.IntKind.i64.wrap (Go.IntKind.i64.wrap (Go.IntKind.i64.wrap (Go.IntKind.i64.wrap (Go.IntKind.i64.wrap (Go.IntKind.i64.wrap (Go.IntKind.i64.wrap (Go.IntKind.i64.wrap (1+(↑y.2.length:Int))+(↑y.3.length:Int))+(↑y.4.length:Int))+(↑y.5.length:Int))+(↑y.6.length:Int))+(↑y.7.length:Int))+(↑y.8.length:Int))+(↑y.9.length:Int))+(↑y.10.length:Int))+(↑y.12.length:Int))+(↑y.13.length:Int))),0,()) else some acc.1
theorem ZdC (L:Nat)(x0:ZF):Kz L (x0,())=loopT (JL x0 L) L (Go.IntKind.i64.wrap ((↑x0.2.length:Int)+(↑x0.4.length:Int)),0,()):=by kernel_rfl
def XQ (L:Nat)(x:ZF×PUnit):Option Bool:=fT [Zjs,Zaj L,Pz L,SA L] L U1 [] (.one .bool) [.row 16] x
def Bj (L:Nat):Sum tT:=mU 5 [.row 16] (.one .bool) (XQ L)
theorem RV:SX Bj:=fun h=>sT h (Zb (Zmb h) (Zb (ZfP h) (Zb (Zc5 h) (Zb (Zec h) Zo)))) rfl (by kernel_rfl) fun _=>rfl
theorem RH (L:Nat)(x0:ZF):XQ L (x0,())=bT (Kz L (x0,())) fun y=>bif decide (y>5000) then some true else bT (Ug L (x0,())) fun y=>bT (Iu L (x0,())) fun y_1=>some (y.1==y_1.1&&y.2.1==y_1.2.1&&true):=by kernel_rfl
theorem Zw {α:Type}(c:Bool)(a b:α):(bif c then some a else some b)=some (bif c then a else b):=by cases c<;>rfl
theorem Zv (c:Bool)(x:Option Bool):(bif c==true then x else some false)=bif c then x else some false:=by cases c<;>rfl
theorem condC (c:Bool)(x:Option Bool):(bif c==false then x else some true)=bif c then some true else x:=by cases c<;>rfl
theorem Zj (c x:Bool):(bif c==true then x else false)=(c&&x):=by cases c<;>rfl
theorem Zk (c x:Bool):(bif c==false then x else true)=(c||x):=by cases c<;>rfl
theorem XI {α:Type}(c:Prop)[Decidable c](a b:α):(if c then some a else some b)=some (if c then a else b):=by split<;>rfl
theorem Y4 {α:Type}(c:Bool)(a b:α):(bif c then a else b)=if c=true then a else b:=by cases c<;>rfl
theorem Ze {α:Type}(o:Option α):bT o (fun y=>some y)=o:=by cases o<;>rfl
theorem ZI {α:Type}[DecidableEq α](a b:α):(a != b)=!decide (a=b):=by
 by_cases h:a=b<;>simp [bne,h]
theorem ZQ (a b:Int):(a==b)=decide (a=b):=by
 by_cases h:a=b<;>simp [h]
theorem ZV (a b:List UInt8):(a==b)=decide (a=b):=by
 by_cases h:a=b<;>simp [h]
abbrev Len {α:Type}(l:List α):Prop:=l.length≤4611686018427387
theorem Zi5 {τ ρ:Type}{f:(τ→Option ρ)→τ→Option ρ}(n:Nat)(pk:Int→τ)(R:Nat→Option ρ)
  (h1:∀self (i:Nat),i<n→self (pk ((i:Int)+1))=R (i+1)→f self (pk i)=R i)
  (h2:∀self,f self (pk n)=R n):∀(m i:Nat),i≤n→n - i<m→loopT f m (pk i)=R i
 |0,_,_,h=>absurd h (Nat.not_lt_zero _)
 |m+1,i,hi,hm=>by
  show f (loopT f m) (pk i)=_
  rcases Nat.lt_or_ge i n with hlt|hge
  ·exact h1 _ i hlt (Zi5 n pk R h1 h2 m (i+1) hlt (by omega))
  ·have:i=n:=by omega
   subst this
   exact h2 _
theorem ZeJ {τ α σ ρ:Type}{f:(τ→Option ρ)→τ→Option ρ}(l:List α)(pk:σ→Int→τ)(R:List α→σ→Option ρ)
  (h1:∀self s (i:Nat) x r,l[i]? = some x→i<l.length→x∈l→(∀s',self (pk s' ((i:Int)+1))=R r s')→f self (pk s i)=R (x::r) s)
  (h2:∀self s,f self (pk s (l.length:Nat))=R [] s):∀(m i:Nat) (s:σ),i≤l.length→l.length - i<m→loopT f m (pk s i)=R (l.drop i) s
 |0,_,_,_,h=>absurd h (Nat.not_lt_zero _)
 |m+1,i,s,hi,hm=>by
  show f (loopT f m) (pk s i)=_
  rcases Nat.lt_or_ge i l.length with hlt|hge
  ·have hx:=bG hlt
   rw [jb hlt]
   exact h1 _ s i _ _ hx hlt (bZ hlt) fun s'=>ZeJ l pk R h1 h2 m (i+1) s' hlt (by omega)
  ·have:i=l.length:=by omega
   subst this
   rw [h2,jc]
theorem ZeH {α ρ:Type}{f:(Int×PUnit→Option ρ)→Int×PUnit→Option ρ}(l:List α)(R:List α→Option ρ){m:Nat}(hm:l.length<m)
  (h1:∀self (i:Nat) x r,l[i]? = some x→i<l.length→x∈l→self ((i:Int)+1,())=R r→f self ((i:Int),())=R (x::r))
  (h2:∀self,f self ((l.length:Int),())=R []):loopT f m (0,())=R l :=
 ZeJ (σ := Unit) l (fun _ i=>(i,())) (fun l _=>R l) (fun self _ i x r a b c d=>h1 self i x r a b c (d ())) (fun self _=>h2 self) m 0 () (eG _) (by omega)
theorem ZeI {α ρ:Type}{f:(Int×PUnit→Option ρ)→Int×PUnit→Option ρ}(l:List α)(R:List α→Int→Option ρ){m:Nat}(hm:l.length<m)
  (h1:∀self (i:Nat) x r,l[i]? = some x→i<l.length→x∈l→self ((i:Int)+1,())=R r ((i:Int)+1)→f self ((i:Int),())=R (x::r) i)
  (h2:∀self,f self ((l.length:Int),())=R [] l.length):loopT f m (0,())=R l 0:=by
 have:=Zi5 (f := f) l.length (fun i=>(i,())) (fun i=>R (l.drop i) i) (fun self i hi e=>by
  have hx:=bG hi
  rw [jb hi]
  exact h1 self i _ _ hx hi (bZ hi) e) (fun self=>by rw [jc];exact h2 self) m 0 (eG _) (by omega)
 exact this
theorem AQ {α σ ρ:Type}{f:(σ×Int×PUnit→Option ρ)→σ×Int×PUnit→Option ρ}(l:List α)(R:List α→σ→Option ρ){m:Nat}(hm:l.length<m)(s:σ)
  (h1:∀self s (i:Nat) x r,l[i]? = some x→i<l.length→x∈l→(∀s',self (s',(i:Int)+1,())=R r s')→f self (s,(i:Int),())=R (x::r) s)
  (h2:∀self s,f self (s,(l.length:Int),())=R [] s):loopT f m (s,0,())=R l s :=
 ZeJ l (fun s i=>(s,i,())) R h1 h2 m 0 s (eG _) (by omega)
theorem ZeK {α β ρ:Type}{f:(Int×PUnit→Option ρ)→Int×PUnit→Option ρ}(l:List α)(l':List β)(hl:l.length=l'.length)(R:List α→List β→Option ρ){m:Nat}(hm:l.length<m)
  (h1:∀self (i:Nat) x y r r',l[i]? = some x→l'[i]? = some y→i<l.length→x∈l→self ((i:Int)+1,())=R r r'→f self ((i:Int),())=R (x::r) (y::r'))
  (h2:∀self,f self ((l.length:Int),())=R [] []):loopT f m (0,())=R l l':=by
 have:=Zi5 (f := f) l.length (fun i=>(i,())) (fun i=>R (l.drop i) (l'.drop i)) (fun self i hi e=>by
  have hx:=bG hi
  have hy:=bG (show i<l'.length by omega)
  rw [jb hi,jb (show i<l'.length by omega)]
  exact h1 self i _ _ _ _ hx hy hi (bZ hi) e) (fun self=>by rw [jc,hl,jc];rw [← hl];exact h2 self) m 0 (eG _) (by omega)
 exact this
theorem Zg1 (L:Nat)(n:Int):XF L (n,())=some (ZkK n):=Za0 L n
theorem Fe (L:Nat)(n:Int):J8 L (n,())=some (ZkK n):=ZdM L n
theorem chainB (x:List UInt8):∀l:List (List UInt8),(l.foldr (fun k r=>bif x==k then some true else r) (some false):Option Bool)=some (l.any fun k=>decide (x=k))
 | []=>rfl
 |k::l=>by
  rw [List.foldr_cons,chainB x l,ZV,List.any_cons]
  cases decide (x=k)<;>rfl
theorem ZiF (L:Nat)(s:List UInt8):VB L (s,())=some (kwB s):=(Fz L s).trans (chainB s kws)
theorem Zd0 (L:Nat)(l:List (List UInt8))(s:List UInt8)(hl:Len l)(hL:l.length<L):Vj L (l,s,())=some (JE (fun k=>decide (k=s)) l 0):=by
 rw [Zht]
 refine ZeI l (fun l i=>some (JE (fun k=>decide (k=s)) l i)) hL (fun self i x r hx hi _ e=>?_) (fun self=>?_)
 ·rw [RI];simp only [Zg,Zd,cond_true,cond_false,Zf,Zn,Ze,Zv,condC,Zj,Zk,Zw,ZQ,ZV,ZI,hi,hx,wrap_succ hi (by omega),e,JE];simp only [Y4,XI,if_true,if_false,aK,ne_eq,decide_not,gt_iff_lt,ge_iff_le]
 ·rw [RI];simp only [Zg,Zd,cond_true,cond_false,Zf,Zn,Ze,Zv,condC,Zj,Zk,Zw,ZQ,ZV,ZI,JE]
theorem Zd3 (L:Nat)(s:List UInt8)(hL:100≤L):Uj L (s,())=some (kwB s):=by
 rw [Zcn,show Jo L ()=some kws from Za3 L,Zn,Zd0 L kws s (by decide) (by have:kws.length=73:=rfl;omega),Zn]
 have:=AA (fun k=>decide (k=s)) kws 0 (Int.le_refl _)
 rw [show decide (JE (fun k=>decide (k=s)) kws 0≥0)=_ from this]
 unfold kwB
 congr 2;funext k;exact decide_eq_decide.2 ⟨Eq.symm,Eq.symm⟩
theorem Zgw (s:List UInt8):Vk s=bif (decide (s=[])||decide ((s.length:Int)>24))||(!ZkK ((s.headD 0).toNat))||kwB s then 3 else bif s.all (fun x=>ZbB x.toNat) then 0 else 3:=by
 cases s with
 |nil=>simp [Vk]
 |cons c r =>
  simp only [Vk,jd,reduceCtorEq,decide_false,fJ]
  rw [show (decide ((((c::r).length:Nat):Int)>24))=decide (24<(c::r).length) from decide_eq_decide.2 (by omega)]
  by_cases h1:24<(c::r).length<;>cases ZkK (c.toNat:Int)<;>cases kwB (c::r)<;>cases (c::r).all (fun x=>ZbB x.toNat)<;>simp [h1]
theorem Zl6 (c:Bool)(x:UInt8):(!c&&(decide ((x.toNat:Int)<48)||decide ((x.toNat:Int)>57))&&(!decide ((x.toNat:Int)=95)))=!(c||decide ((x.toNat:Int)=95)||(decide (48≤(x.toNat:Int))&&decide ((x.toNat:Int)≤57))):=by
 rw [show decide (48≤(x.toNat:Int))=!decide ((x.toNat:Int)<48) by rw [← decide_not];congr 1;exact propext Int.not_lt.symm,show decide ((x.toNat:Int)≤57)=!decide ((x.toNat:Int)>57) by rw [← decide_not];congr 1;exact propext Int.not_lt.symm]
 cases c<;>cases decide ((x.toNat:Int)=95)<;>cases decide ((x.toNat:Int)<48)<;>cases decide ((x.toNat:Int)>57)<;>rfl
theorem Zl5 (L:Nat)(s:List UInt8)(h:Len s)(hL:s.length<L):loopT (Jj s L) L (0,())=some (bif s.all (fun x=>ZbB x.toNat) then 0 else 3):=by
 refine ZeH s (fun s=>some (bif s.all (fun x=>ZbB x.toNat) then 0 else 3)) hL (fun self i x r hx hi _ e=>?_) (fun self=>?_)
 ·rw [Jj]
  simp only [Zg,Zd,cond_true,cond_false,Zf,Zn,Ze,Zv,condC,Zj,Zk,Zw,ZQ,ZV,ZI,hi,hx,Zg1,wrap_succ hi (by omega),e,ZI,Zl6,List.all_cons,ZbB]
  cases (ZkK (x.toNat:Int)||decide ((x.toNat:Int)=95)||(decide (48≤(x.toNat:Int))&&decide ((x.toNat:Int)≤57)))<;>rfl
 ·rw [Jj];simp only [Zg,Zd,cond_true,cond_false,Zf,Zn,Ze,Zv,condC,Zj,Zk,Zw,ZQ,ZV,ZI,List.all_nil]
theorem QN (L:Nat)(s:List UInt8)(h:Len s)(hL:s.length<L):ZJ L (s,())=some (Vk s):=by
 rw [Zcj,Zl5 L s h hL,Zgw,Aw]
 cases s with
 |nil=>rfl
 |cons c r =>
  simp only [Zg,Zd,cond_true,cond_false,Zf,Zn,Ze,Zv,condC,Zj,Zk,Zw,ZQ,ZV,ZI,aY,Zg1,ZiF,jd,reduceCtorEq,decide_false,fJ,jZ]
theorem Zky (L:Nat)(s:List UInt8)(h:Len s)(hL:s.length<L):loopT (UZ s L) L (0,())=some (bif s.all (fun x=>ZbB x.toNat) then 0 else 3):=by
 refine ZeH s (fun s=>some (bif s.all (fun x=>ZbB x.toNat) then 0 else 3)) hL (fun self i x r hx hi _ e=>?_) (fun self=>?_)
 ·rw [UZ]
  simp only [Zg,Zd,cond_true,cond_false,Zf,Zn,Ze,Zv,condC,Zj,Zk,Zw,ZQ,ZV,ZI,hi,hx,Fe,wrap_succ hi (by omega),e,ZI,List.all_cons,ZbB,Zv,condC,Zw]
  rw [show decide (48≤(x.toNat:Int))=!decide ((x.toNat:Int)<48) by rw [← decide_not];congr 1;exact propext Int.not_lt.symm,show decide ((x.toNat:Int)≤57)=!decide ((x.toNat:Int)>57) by rw [← decide_not];congr 1;exact propext Int.not_lt.symm]
  cases ZkK (x.toNat:Int)<;>cases decide ((x.toNat:Int)=95)<;>cases decide ((x.toNat:Int)<48)<;>cases decide ((x.toNat:Int)>57)<;>rfl
 ·rw [UZ];simp only [Zg,Zd,cond_true,cond_false,Zf,Zn,Ze,Zv,condC,Zj,Zk,Zw,ZQ,ZV,ZI,List.all_nil]
theorem Gj (L:Nat)(s:List UInt8)(h:Len s)(hL:s.length<L)(h1:100≤L):Qy L (s,())=some (Vk s):=by
 rw [Zfh,Zky L s h hL,Zgw,Aw]
 cases s with
 |nil=>rfl
 |cons c r =>
  have:decide ((((c::r).length:Nat):Int)<1)=false:=by simp only [dB,decide_eq_false_iff_not];omega
  simp only [Zg,Zd,cond_true,cond_false,Zf,Zn,Ze,Zv,condC,Zj,Zk,Zw,ZQ,ZV,ZI,aY,Fe,Zd3 L _ h1,jd,this,reduceCtorEq,decide_false,fJ,jZ]
theorem Z4 {α:Type}[SizeOf α]:∀l:List α,l.length<SizeOf.sizeOf l
 | []=>by simp
 |x::l=>by have:=Z4 l;simp only [dB,List.cons.sizeOf_spec];omega
theorem Zk7 (d:Yo):SizeOf.sizeOf d.Values<SizeOf.sizeOf d∧SizeOf.sizeOf d.Weights<SizeOf.sizeOf d:=by cases d;simp;omega
theorem Zd1 (L:Nat)(a b c:Int):YH L (a,b,c,())=some (btw a b c):=Zcm L a b c
theorem Et (L:Nat)(lo hi:Int)(l:List Int)(h:Len l)(hL:l.length<L):Y0 L (lo,hi,l,())=some (WC lo hi l):=by
 have:=ZeI (f := Je lo hi l) l (fun l i=>some (JE (ZkO lo hi) l i)) hL (fun self i x r hx hi' _ e=>by
  rw [Je];simp only [Zg,Zd,cond_true,cond_false,Zf,Zn,Ze,Zv,condC,Zj,Zk,Zw,ZQ,ZV,ZI,hi',hx,wrap_succ hi' (by omega),e,JE];simp only [Y4,XI,if_true,if_false,aK,ne_eq,decide_not,gt_iff_lt,ge_iff_le];rfl) (fun self=>by rw [Je];simp only [Zg,Zd,cond_true,cond_false,Zf,Zn,Ze,Zv,condC,Zj,Zk,Zw,ZQ,ZV,ZI,JE])
 have h2:decide (JE (ZkO lo hi) l 0≥0)=l.any (ZkO lo hi):=AA (ZkO lo hi) l 0 (Int.le_refl _)
 simp only [Zcd,this,Zn,h2,WC]
theorem ZiS (L:Nat)(h:2<L)(lo hi a:Int):Y0 L (lo,hi,[a],())=some (WC lo hi [a]):=Et L lo hi [a] (by simp [Len]) (by simp;omega)
theorem ZiT (L:Nat)(h:2<L)(lo hi a b:Int):Y0 L (lo,hi,[a,b],())=some (WC lo hi [a,b]):=Et L lo hi [a,b] (by simp [Len]) (by simpa using h)
theorem Zkt (L:Nat)(d:Yo)(h:X0 d):Ud L (d,())=some (BA d):=by
 simp only [Zg,Zd,cond_true,cond_false,Zf,Zn,Ze,Zv,condC,Zj,Zk,Zw,ZQ,ZV,ZI,Zcc,h.wr,BA];simp only [Y4,XI,if_true,if_false,aK,ne_eq,decide_not,gt_iff_lt,ge_iff_le]
theorem GV (L:Nat)(d:Yo)(h:X0 d)(hL:SizeOf.sizeOf d<L)(h1:100≤L):Xe L (d,())=some (JK d):=by
 have hs:d.Values.length<L∧d.Weights.length<L:=by
  have:=Z4 d.Values;have:=Z4 d.Weights;have:=Zk7 d;omega
 simp only [Zg,Zd,cond_true,cond_false,Zf,Zn,Ze,Zv,condC,Zj,Zk,Zw,ZQ,ZV,ZI,Zd8,Zkt L d h,JK,Et L _ _ _ h.v hs.1,Et L _ _ _ h.w hs.2,ZiS L (by omega),ZiT L (by omega)]
 simp only [Y4,XI,if_true,if_false,aK,ne_eq,decide_not,gt_iff_lt,ge_iff_le]
theorem ZeV (L:Nat)(d:Yo):KE L (d,())=some (Zao d):=by
 simp only [Zg,Zd,cond_true,cond_false,Zf,Zn,Ze,Zv,condC,Zj,Zk,Zw,ZQ,ZV,ZI,ZdL,Zao];simp only [Y4,XI,if_true,if_false,aK,ne_eq,decide_not,gt_iff_lt,ge_iff_le]
theorem ZlV (L:Nat)(d:Yo)(h:X0 d)(hL:SizeOf.sizeOf d<L):Ii L (d,())=some (ZgM d):=by
 have hs:d.Values.length<L∧d.Weights.length<L:=by
  have:=Z4 d.Values;have:=Z4 d.Weights;have:=Zk7 d;omega
 rw [Zfg,ZgM]
 by_cases hl:d.Values.length=d.Weights.length
 ·rw [ZeK d.Values d.Weights hl (fun l m=>some (ZkZ l m)) hs.1 (fun self i x y r r' hx hy hi _ e=>by
   have hv:=h.v
   rw [OJ];simp only [Zg,Zd,cond_true,cond_false,Zf,Zn,Ze,Zv,condC,Zj,Zk,Zw,ZQ,ZV,ZI,hi,hx,hy,Zd1,wrap_succ hi (by omega),e,ZkZ];simp only [Y4,XI,if_true,if_false,aK,ne_eq,decide_not,gt_iff_lt,ge_iff_le]) (fun self=>by rw [OJ];simp only [Zg,Zd,cond_true,cond_false,Zf,Zn,Ze,Zv,condC,Zj,Zk,Zw,ZQ,ZV,ZI,ZkZ])]
  simp only [Zg,Zd,cond_true,cond_false,Zf,Zn,Ze,Zv,condC,Zj,Zk,Zw,ZQ,ZV,ZI];simp only [Y4,XI,if_true,if_false,aK,ne_eq,decide_not,gt_iff_lt,ge_iff_le]
 ·simp only [Y4,XI,if_true,if_false,aK,ne_eq,decide_not,gt_iff_lt,ge_iff_le,ZQ,ZI,ja,show decide ((d.Values.length:Int)=d.Weights.length)=false by simp only [decide_eq_false_iff_not];omega]
theorem MC (L:Nat)(d:Yo)(h:X0 d)(hL:SizeOf.sizeOf d<L):XR L (d,())=some (JK d):=by
 rw [← ZbC]
 simp only [Zg,Zd,cond_true,cond_false,Zf,Zn,Ze,Zv,condC,Zj,Zk,Zw,ZQ,ZV,ZI,Zff,ZeV,ZjH,Zd1,ZlV L d h hL];simp only [Y4,XI,if_true,if_false,aK,ne_eq,decide_not,gt_iff_lt,ge_iff_le]
theorem Zj9 (e:Zt):SizeOf.sizeOf e.Kids<SizeOf.sizeOf e∧SizeOf.sizeOf e.Name<SizeOf.sizeOf e:=by cases e;simp;omega
theorem Yi.nl {e:Zt}(h:Yi e):Len e.Name:=by have:=h.n;unfold Len;omega
theorem Zd6 (L:Nat):∀(m:Nat) (e:Zt),Yi e→SizeOf.sizeOf e≤m→m≤L→Un L m (e,())=some (Zj2 e)
 |0,e,h,hs,_=>absurd hs (by have:=IU e;omega)
 |m+1,e,h,hs,hm=>by
  have hk:=Z4 e.Kids;have hz:=Zj9 e;have hl:=h.k
  rw [ZdB,Zii]
  refine AQ e.Kids (fun l s=>some (sumW Zj2 l s)) (by omega) 1 (fun self s i x r hx hi mem e'=>?_) (fun self s=>?_)
  ·have ih:=Zd6 L m x (h.Kids.2 x mem) (by have:=LD mem;omega) (by omega)
   rw [GN];simp only [Zg,Zd,cond_true,cond_false,Zf,Zn,Ze,Zv,condC,Zj,Zk,Zw,ZQ,ZV,ZI,hi,hx,ih,wrap_succ hi (by omega),e',sumW]
  ·rw [GN];simp only [Zg,Zd,cond_true,cond_false,Zf,Zn,Ze,Zv,condC,Zj,Zk,Zw,ZQ,ZV,ZI,sumW]
theorem OH (L:Nat):∀(m:Nat) (e:Zt),Yi e→SizeOf.sizeOf e≤m→m≤L→KL L m (e,())=some (Zj2 e)
 |0,e,h,hs,_=>absurd hs (by have:=IU e;omega)
 |m+1,e,h,hs,hm=>by
  have hk:=Z4 e.Kids;have hz:=Zj9 e;have hl:=h.k
  rw [Zfl,Zii]
  refine AQ e.Kids (fun l s=>some (sumW Zj2 l s)) (by omega) 1 (fun self s i x r hx hi mem e'=>?_) (fun self s=>?_)
  ·have ih:=OH L m x (h.Kids.2 x mem) (by have:=LD mem;omega) (by omega)
   rw [OO];simp only [Zg,Zd,cond_true,cond_false,Zf,Zn,Ze,Zv,condC,Zj,Zk,Zw,ZQ,ZV,ZI,hi,hx,ih,wrap_succ hi (by omega),e',sumW]
  ·rw [OO];simp only [Zg,Zd,cond_true,cond_false,Zf,Zn,Ze,Zv,condC,Zj,Zk,Zw,ZQ,ZV,ZI,sumW]
theorem Zd5 (L:Nat):∀(m:Nat) (e:Zt),Yi e→SizeOf.sizeOf e≤m→m≤L→Um L m (e,())=some (Zil e)
 |0,e,h,hs,_=>absurd hs (by have:=IU e;omega)
 |m+1,e,h,hs,hm=>by
  have hk:=Z4 e.Kids;have hz:=Zj9 e;have hl:=h.k
  rw [ZdA,Zim]
  refine AQ e.Kids (fun l s=>some (IntKind.i64.wrap (ZjU Zil l s+1))) (by omega) 0 (fun self s i x r hx hi mem e'=>?_) (fun self s=>?_)
  ·have ih:=Zd5 L m x (h.Kids.2 x mem) (by have:=LD mem;omega) (by omega)
   rw [GM];simp only [Zg,Zd,cond_true,cond_false,Zf,Zn,Ze,Zv,condC,Zj,Zk,Zw,ZQ,ZV,ZI,hi,hx,ih,wrap_succ hi (by omega),e',ZjU]
  ·rw [GM];simp only [Zg,Zd,cond_true,cond_false,Zf,Zn,Ze,Zv,condC,Zj,Zk,Zw,ZQ,ZV,ZI,ZjU]
theorem Zd7 (L:Nat):∀(m:Nat) (e:Zt),Yi e→SizeOf.sizeOf e≤m→m≤L→KJ L m (e,())=some (Zil e)
 |0,e,h,hs,_=>absurd hs (by have:=IU e;omega)
 |m+1,e,h,hs,hm=>by
  have hk:=Z4 e.Kids;have hz:=Zj9 e;have hl:=h.k
  rw [Zfk,Zim]
  refine AQ e.Kids (fun l s=>some (IntKind.i64.wrap (ZjU Zil l s+1))) (by omega) 0 (fun self s i x r hx hi mem e'=>?_) (fun self s=>?_)
  ·have ih:=Zd7 L m x (h.Kids.2 x mem) (by have:=LD mem;omega) (by omega)
   rw [OL];simp only [Zg,Zd,cond_true,cond_false,Zf,Zn,Ze,Zv,condC,Zj,Zk,Zw,ZQ,ZV,ZI,hi,hx,ih,wrap_succ hi (by omega),e',ZjU]
  ·rw [OL];simp only [Zg,Zd,cond_true,cond_false,Zf,Zn,Ze,Zv,condC,Zj,Zk,Zw,ZQ,ZV,ZI,ZjU]
theorem Zg2 (L:Nat)(n:Int):V8 L (n,())=some (Zj5 n):=Zce L n
theorem ZkP (L:Nat)(n:Int):UM L (n,())=some (Rx n):=by
 simp only [Zg,Zd,cond_true,cond_false,Zf,Zn,Ze,Zv,condC,Zj,Zk,Zw,ZQ,ZV,ZI,Zfe,Rx];simp only [Y4,XI,if_true,if_false,aK,ne_eq,decide_not,gt_iff_lt,ge_iff_le]
theorem ZlF (L:Nat)(k:Qd)(n:Int):Qv L (k,n,())=some (AO k.1 n):=by
 simp only [Zg,Zd,cond_true,cond_false,Zf,Zn,Ze,Zv,condC,Zj,Zk,Zw,ZQ,ZV,ZI,Rz,ZkP,AO];simp only [Y4,XI,if_true,if_false,aK,ne_eq,decide_not,gt_iff_lt,ge_iff_le]
theorem ZlJ (L:Nat)(k:Qd)(n:Int):WE L (k,n,())=some (Zdx k.1 n):=by
 simp only [Zg,Zd,cond_true,cond_false,Zf,Zn,Ze,Zv,condC,Zj,Zk,Zw,ZQ,ZV,ZI,RF,Zg2,Zdx]
theorem ZiL (L:Nat)(k:Qd)(n:Int):WJ L (k,n,())=some ((Zj4 k.1 n).1,(Zj4 k.1 n).2.1,(Zj4 k.1 n).2.2,()):=by
 simp only [Zg,Zd,cond_true,cond_false,Zf,Zn,Ze,Zv,condC,Zj,Zk,Zw,ZQ,ZV,ZI,OI,Zg2,Zj4]
 cases decide (n=2)<;>cases decide (n=25)<;>cases decide (n=26)<;>cases Zj5 n<;>cases k.1<;>rfl
theorem Zom (L:Nat)(n:Int):ML L (n,())=some (inB n):=Zkv L n
theorem ZmY (L:Nat)(k:Qd)(e:Zt)(h:Yi e)(hL:SizeOf.sizeOf e≤L):QQ L (k,e,())=some (DI k.1 e):=by
 have hn:=QN L e.Name h.nl (by have:=Z4 e.Name;have:=Zj9 e;omega)
 simp only [Zg,Zd,cond_true,cond_false,Zf,Zn,Ze,Zv,condC,Zj,Zk,Zw,ZQ,ZV,ZI,DW,ZlF,ZkP,ZlJ,ZiL,Zom,hn,DI];simp only [Y4,XI,if_true,if_false,aK,ne_eq,decide_not,gt_iff_lt,ge_iff_le,jZ]
theorem Zg9 (L:Nat)(k:Qd):∀(m:Nat) (e:Zt),Yi e→SizeOf.sizeOf e≤m→m≤L→WT L m (k,e,())=some (WF k.1 e)
 |0,e,h,hs,_=>absurd hs (by have:=IU e;omega)
 |m+1,e,h,hs,hm=>by
  have hk:=Z4 e.Kids;have hz:=Zj9 e;have hl:=h.k
  have lp:loopT (WS m k e L) L (0,())=some (W9 (WF k.1) e.Kids):=by
   refine ZeH e.Kids (fun l=>some (W9 (WF k.1) l)) (by omega) (fun self i x r hx hi mem e'=>?_) (fun self=>?_)
   ·have ih:=Zg9 L k m x (h.Kids.2 x mem) (by have:=LD mem;omega) (by omega)
    rw [WS];simp only [Zg,Zd,cond_true,cond_false,Zf,Zn,Ze,Zv,condC,Zj,Zk,Zw,ZQ,ZV,ZI,hi,hx,ih,wrap_succ hi (by omega),e',W9];simp only [Y4,XI,if_true,if_false,aK,ne_eq,decide_not,gt_iff_lt,ge_iff_le]
   ·rw [WS];simp only [Zg,Zd,cond_true,cond_false,Zf,Zn,Ze,Zv,condC,Zj,Zk,Zw,ZQ,ZV,ZI,W9]
  rw [RG,AY,lp,ZmY L k e h (by omega)]
  simp only [Zg,Zd,cond_true,cond_false,Zf,Zn,Ze,Zv,condC,Zj,Zk,Zw,ZQ,ZV,ZI];simp only [Y4,XI,if_true,if_false,aK,ne_eq,decide_not,gt_iff_lt,ge_iff_le]
theorem Zke (L:Nat)(k:Qd)(e:Zt)(h:Yi e)(hL:SizeOf.sizeOf e≤L):Qu L (k,e,())=some (WX k.1 e):=by
 simp only [Zg,Zd,cond_true,cond_false,Zf,Zn,Ze,Zv,condC,Zj,Zk,Zw,ZQ,ZV,ZI,Ry,show TW L (e,())=_ from Zd6 L L e h hL (dI _),show TU L (e,())=_ from Zd5 L L e h hL (dI _),show XP L (k,e,())=_ from Zg9 L k L e h hL (dI _),WX];simp only [Y4,XI,if_true,if_false,aK,ne_eq,decide_not,gt_iff_lt,ge_iff_le]
theorem ZbS (L:Nat)(e:Zt)(h:Yi e)(hL:SizeOf.sizeOf e≤L):J5 L (e,())=some (WX false e):=by
 simp only [Zg,Zd,cond_true,cond_false,Zf,Zn,Ze,Zv,condC,Zj,Zk,Zw,ZQ,ZV,ZI,Zd9,Zke L _ e h hL]
theorem ZlM (L:Nat)(n:Int):MM L (n,())=some (inB n):=Zkw L n
theorem ZiO (L:Nat)(n:Int):J9 L (n,())=some (Zj5 n):=ZdN L n
theorem ZlB (L:Nat)(n:Int):Ij L (n,())=some (Ai n):=by
 simp only [Zg,Zd,cond_true,cond_false,Zf,Zn,Ze,Zv,condC,Zj,Zk,Zw,ZQ,ZV,ZI,Zfi,Ai];simp only [Y4,XI,if_true,if_false,aK,ne_eq,decide_not,gt_iff_lt,ge_iff_le]
theorem ZmX (L:Nat)(n:Int):MN L (n,())=some (ZjW n):=by
 simp only [Zg,Zd,cond_true,cond_false,Zf,Zn,Ze,Zv,condC,Zj,Zk,Zw,ZQ,ZV,ZI,Zhu,ZjW];simp only [Y4,XI,if_true,if_false,aK,ne_eq,decide_not,gt_iff_lt,ge_iff_le]
theorem Zm0 (a b d:Bool)(n r:Int):(if a=true then 1 else if b=true then 2 else if (d&&!decide (n=0))=true then n else r) =
  if (!decide ((if a=true then 1 else if b=true then 2 else if (d&&!decide (n=0))=true then n else 0)=0))=true then (if a=true then 1 else if b=true then 2 else if (d&&!decide (n=0))=true then n else 0) else r:=by
 cases a<;>cases b<;>cases d<;>by_cases h:n=0<;>simp [h]
theorem ZgA (L:Nat)(c:Bool)(h1:100≤L):∀(m:Nat) (e:Zt),Yi e→SizeOf.sizeOf e≤m→m≤L→I4 L m (e,c,())=some (WF c e)
 |0,e,h,hs,_=>absurd hs (by have:=IU e;omega)
 |m+1,e,h,hs,hm=>by
  have hk:=Z4 e.Kids;have hz:=Zj9 e;have hl:=h.k
  have lp:loopT (Ha m e c L) L (0,())=some (W9 (WF c) e.Kids):=by
   refine ZeH e.Kids (fun l=>some (W9 (WF c) l)) (by omega) (fun self i x r hx hi mem e'=>?_) (fun self=>?_)
   ·have ih:=ZgA L c h1 m x (h.Kids.2 x mem) (by have:=LD mem;omega) (by omega)
    rw [Ha];simp only [Zg,Zd,cond_true,cond_false,Zf,Zn,Ze,Zv,condC,Zj,Zk,Zw,ZQ,ZV,ZI,hi,hx,ih,wrap_succ hi (by omega),e',W9];simp only [Y4,XI,if_true,if_false,aK,ne_eq,decide_not,gt_iff_lt,ge_iff_le]
   ·rw [Ha];simp only [Zg,Zd,cond_true,cond_false,Zf,Zn,Ze,Zv,condC,Zj,Zk,Zw,ZQ,ZV,ZI,W9]
  have hn:=Gj L e.Name h.nl (by have:=Z4 e.Name;omega) h1
  rw [← Zi8]
  simp only [Zg,Zd,cond_true,cond_false,Zf,Zn,Ze,Zv,condC,Zj,Zk,Zw,ZQ,ZV,ZI,Zhv,lp,ZlB,ZiO,ZlM,ZmX,hn,Zhe];simp only [Y4,XI,if_true,if_false,aK,ne_eq,decide_not,gt_iff_lt,ge_iff_le,jZ]
  exact congrArg some (Zm0 _ _ _ _ _)
theorem Zkh (L:Nat)(c:Bool)(h1:100≤L)(e:Zt)(h:Yi e)(hL:SizeOf.sizeOf e≤L):Ik L (e,c,())=some (WX c e):=by
 simp only [Zg,Zd,cond_true,cond_false,Zf,Zn,Ze,Zv,condC,Zj,Zk,Zw,ZQ,ZV,ZI,Zfm,show Qz L (e,())=_ from OH L L e h hL (dI _),show BC L (e,())=_ from Zd7 L L e h hL (dI _),show Nl L (e,c,())=_ from ZgA L c h1 L e h hL (dI _),WX];simp only [Y4,XI,if_true,if_false,aK,ne_eq,decide_not,gt_iff_lt,ge_iff_le]
theorem ZbV (L:Nat)(h1:100≤L)(e:Zt)(h:Yi e)(hL:SizeOf.sizeOf e≤L):YI L (e,())=some (WX false e):=by
 simp only [Zg,Zd,cond_true,cond_false,Zf,Zn,Ze,Zv,condC,Zj,Zk,Zw,ZQ,ZV,ZI,Zfj,Zkh L _ h1 e h hL]
theorem Zg0 (L:Nat)(a b:List Int)(h:Len a)(hL:a.length<L):Y8 L (a,b,())=some (decide (a=b)):=by
 rw [Gq]
 by_cases hl:a.length=b.length
 ·rw [ZeK a b hl (fun l m=>some (decide (l=m))) hL (fun self i x y r r' hx hy hi _ e=>by
   rw [WL];simp only [Zg,Zd,cond_true,cond_false,Zf,Zn,Ze,Zv,condC,Zj,Zk,Zw,ZQ,ZV,ZI,hi,hx,hy,wrap_succ hi (by omega),e,List.cons.injEq,jP];cases decide (x=y)<;>rfl) (fun self=>by rw [WL];simp only [Zg,Zd,cond_true,cond_false,Zf,Zn,Ze,Zv,condC,Zj,Zk,Zw,ZQ,ZV,ZI,decide_true])]
  rw [ZI,show decide ((a.length:Int)=b.length)=true by simp only [decide_eq_true_eq];omega];rfl
 ·rw [ZI,show decide ((a.length:Int)=b.length)=false by simp only [decide_eq_false_iff_not];omega]
  have:a≠b:=fun e=>hl (by rw [e])
  simp [this]
theorem Zbf (L:Nat)(a b:List Int)(h:Len a)(hL:a.length<L):XG L (a,b,())=some (decide (a=b)):=by
 rw [Za2]
 by_cases hl:a.length=b.length
 ·rw [ZeK a b hl (fun l m=>some (decide (l=m))) hL (fun self i x y r r' hx hy hi _ e=>by
   rw [U6];simp only [Zg,Zd,cond_true,cond_false,Zf,Zn,Ze,Zv,condC,Zj,Zk,Zw,ZQ,ZV,ZI,hi,hx,hy,wrap_succ hi (by omega),e,List.cons.injEq,jP];cases decide (x=y)<;>rfl) (fun self=>by rw [U6];simp only [Zg,Zd,cond_true,cond_false,Zf,Zn,Ze,Zv,condC,Zj,Zk,Zw,ZQ,ZV,ZI,decide_true])]
  rw [ZI,show decide ((a.length:Int)=b.length)=true by simp only [decide_eq_true_eq];omega];rfl
 ·rw [ZI,show decide ((a.length:Int)=b.length)=false by simp only [decide_eq_false_iff_not];omega]
  have:a≠b:=fun e=>hl (by rw [e])
  simp [this]
theorem ZeU (L:Nat)(a b:Yo)(h:X0 a)(hL:SizeOf.sizeOf a≤L):VZ L (a,b,())=some (Zio a b):=by
 have h1:=Z4 a.Values;have h2:=Z4 a.Weights;have h3:=Zk7 a
 simp only [Zg,Zd,cond_true,cond_false,Zf,Zn,Ze,Zv,condC,Zj,Zk,Zw,ZQ,ZV,ZI,Zfc,Zg0 L a.Values _ h.v (by omega),Zg0 L a.Weights _ h.w (by omega),Zio]
theorem ZbW (L:Nat)(a b:Yo)(h:X0 a)(hL:SizeOf.sizeOf a≤L):Ut L (a,b,())=some (Zio a b):=by
 have h1:=Z4 a.Values;have h2:=Z4 a.Weights;have h3:=Zk7 a
 simp only [Zg,Zd,cond_true,cond_false,Zf,Zn,Ze,Zv,condC,Zj,Zk,Zw,ZQ,ZV,ZI,Zhr,Zbf L a.Values _ h.v (by omega),Zbf L a.Weights _ h.w (by omega),Zio]
theorem Zog {α β:Type}(a:List α)(b:List β):(a.length=b.length∧decide ((a.length:Int)=(b.length:Int))=true)∨(a.length≠b.length∧decide ((a.length:Int)=(b.length:Int))=false):=by
 by_cases h:a.length=b.length
 ·exact .inl ⟨h,by simp only [decide_eq_true_eq];omega⟩
 ·exact .inr ⟨h,by simp only [decide_eq_false_iff_not];omega⟩
theorem Zg8 (L:Nat):∀(m:Nat) (a b:Zt),Yi a→SizeOf.sizeOf a≤m→m≤L→KI L m (a,b,())=some (ZaF a b)
 |0,e,_,h,hs,_=>absurd hs (by have:=IU e;omega)
 |m+1,e,b,h,hs,hm=>by
  have hk:=Z4 e.Kids;have hz:=Zj9 e;have hl:=h.k
  rw [ZcA]
  rcases Zog e.Kids b.Kids with ⟨hl1,hl2⟩|⟨hl1,hl2⟩
  ·have lp:loopT (UY m e b L) L (0,())=some (all2 ZaF e.Kids b.Kids):=by
    refine ZeK e.Kids b.Kids hl1 (fun l l'=>some (all2 ZaF l l')) (by omega) (fun self i x y r r' hx hy hi mem e'=>?_) (fun self=>?_)
    ·have ih:=Zg8 L m x y (h.Kids.2 x mem) (by have:=LD mem;omega) (by omega)
     rw [UY];simp only [Zg,Zd,cond_true,cond_false,Zf,Zn,Ze,Zv,condC,Zj,Zk,Zw,ZQ,ZV,ZI,hi,hx,hy,ih,wrap_succ hi (by omega),e',all2];simp only [Y4,XI,if_true,if_false,aK,ne_eq,decide_not,gt_iff_lt,ge_iff_le]
    ·rw [UY];simp only [Zg,Zd,cond_true,cond_false,Zf,Zn,Ze,Zv,condC,Zj,Zk,Zw,ZQ,ZV,ZI,all2]
   simp only [Zg,Zd,cond_true,cond_false,Zf,Zn,Ze,Zv,condC,Zj,Zk,Zw,ZQ,ZV,ZI,Fp,lp,Zhf,hl2];simp only [Y4,XI,if_true,if_false,aK,ne_eq,decide_not,gt_iff_lt,ge_iff_le,hl2]
  ·simp only [Zg,Zd,cond_true,cond_false,Zf,Zn,Ze,Zv,condC,Zj,Zk,Zw,ZQ,ZV,ZI,Fp,Zhf,hl2,ja,Bool.or_true];simp only [Y4,XI,if_true,if_false,aK,ne_eq,decide_not,gt_iff_lt,ge_iff_le,hl2,ja,Bool.or_true]
theorem ZlD (L:Nat)(a b:Zt)(h:Yi a)(hL:SizeOf.sizeOf a≤L):BB L (a,b,())=some (ZaF a b):=Zg8 L L a b h hL (dI _)
end Go.Proofs.YtbcfddaocfpckaaGreatDoor
end
