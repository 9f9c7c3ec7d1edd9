import Derived.Test.YtgjcjbhhhlelnaaGreatDoorHCu11
set_option linter.all false
section
namespace Go.Proofs.YtgjcjbhhhlelnaaGreatDoor
open Go Go.RowKit Go.Proofs.YtgjcjbhhhlelnaaGreatDoor.Abs
set_option maxRecDepth 100000
set_option maxHeartbeats 0
noncomputable def CW:Cfg:=⟨fun _=>none,fun f=>(ZwR.find? (·.1 == f)).map (·.2),fun f args hp=>((fun _ _=>none:FuncId→List AV→Option AV) f args).map fun v=>(v,hp,none),9223372036854775808⟩
theorem ZzO (W0:World):ZeH Tryz.prog W0 CW where
 mixed:=by kernel_rfl
 globals:=fun g cells h=>by cases h
 table:=fun f af h=>by
  have h:(ZwR.find? (·.1 == f)).map (·.2)=some af:=h
  obtain ⟨p,hp,rfl⟩:=Option.map_eq_some_iff.1 h
  have hf:=List.find?_some hp
  have:p.1=f:=by simpa using hf
  subst this
  exact Zmo p (List.mem_of_find?_eq_some hp)
 oracle:=Ho (O := fun _ _=>none) fun f args v h=>by cases h
def isT:Option (AV×List Zn×Eff)→Bool
 | some (.bool true,_,_)=>true
 | _=>false
theorem ZsX {r:Option (AV×List Zn×Eff)}(h:isT r=true):∃ hp e,r=some (.bool true,hp,e):=by
 unfold isT at h
 split at h
 ·exact ⟨_,_,rfl⟩
 ·cases h
def p3:AV:=.agg [(.str [112]),(.lst 14 [[(.str [97]),(.lst 3 []),(.lst 17 []),(.lst 3 []),(.lst 3 []),(.lst 1 []),(.lst 1 []),(.lst 1 []),(.lst 1 []),(.lst 1 []),(.lst 4 []),(.lst 5 []),(.lst 3 []),(.lst 4 [])],[(.str [98]),(.lst 3 []),(.lst 17 []),(.lst 3 []),(.lst 3 []),(.lst 1 []),(.lst 1 []),(.lst 1 []),(.lst 1 []),(.lst 1 []),(.lst 4 []),(.lst 5 []),(.lst 3 []),(.lst 4 [])],[(.str [99]),(.lst 3 []),(.lst 17 []),(.lst 3 []),(.lst 3 []),(.lst 1 []),(.lst 1 []),(.lst 1 []),(.lst 1 []),(.lst 1 []),(.lst 4 []),(.lst 5 []),(.lst 3 []),(.lst 4 [])]]),(.lst 3 [[(.int .i64 0),(.int .i64 1),(.int .i64 4)],[(.int .i64 1),(.int .i64 2),(.int .i64 3)]])]
def isZ:Option (AV×List Zn×Eff)→Bool
 | some (.int .i64 0,_,_)=>true
 | _=>false
theorem ZsZ {r:Option (AV×List Zn×Eff)}(h:isZ r=true):∃ hp e,r=some (.int .i64 0,hp,e):=by
 unfold isZ at h
 split at h
 ·exact ⟨_,_,rfl⟩
 ·cases h
theorem Zsz:isZ (Z7 CW 40 VS [p3] [])=true:=by kernel_rfl
def orW (f:FuncId)(args:List AV):Option AV:=if f=VS then (match args with | [a]=>if eqA 8 a p3=true then some (.int .i64 0) else none | _=>none) else none
theorem ZyL (W0:World):∀ f args v,orW f args=some v→ZbI Tryz.prog W0 f args v:=by
 intro f args v h
 unfold orW at h
 split at h
 ·rename_i e; subst e
  split at h
  ·rename_i a
   split at h <;> cases h
   rename_i he
   obtain rfl:=ZxC _ _ _ he
   obtain ⟨hp,e,hr⟩:=ZsZ Zsz
   exact Zhl ZzO hr rfl (by kernel_rfl) (by kernel_rfl) Tryz.func25 (by kernel_rfl) rfl
  ·cases h
 ·cases h
noncomputable def CA:Cfg:=⟨fun _=>none,fun f=>if f=VS then none else (ZwR.find? (·.1 == f)).map (·.2),fun f args hp=>(orW f args).map fun v=>(v,hp,none),9223372036854775808⟩
theorem ZzN (W0:World):ZeH Tryz.prog W0 CA where
 mixed:=by kernel_rfl
 globals:=fun g cells h=>by cases h
 table:=fun f af h=>by
  have h:(if f=VS then none else (ZwR.find? (·.1 == f)).map (·.2))=some af:=h
  split at h
  ·cases h
  ·obtain ⟨p,hp,rfl⟩:=Option.map_eq_some_iff.1 h
   have hf:=List.find?_some hp
   have:p.1=f:=by simpa using hf
   subst this
   exact Zmo p (List.mem_of_find?_eq_some hp)
 oracle:=Ho (ZyL W0)
theorem ZnJ:isT (ZcX CA [] 40 E8 [] [])=true:=by kernel_rfl
theorem Zvh (w:World):Calls Tryz.prog OV #[] w fun e w'=>e=.returned (.bool true)∧Below w.heap.size w w':=by
 obtain ⟨hp,e,h⟩:=ZsX ZnJ
 exact Zz2 (ZzN w) Tryz.func10 Zha ZhX h
end Go.Proofs.YtgjcjbhhhlelnaaGreatDoor
end
section
namespace Go.Proofs.YtgjcjbhhhlelnaaGreatDoor
open Go Go.Proofs.YtgjcjbhhhlelnaaGreatDoor.Abs
set_option maxRecDepth 100000
set_option maxHeartbeats 0
def WF:Wl :=
 .seq (.region false [⟨(some 9),.bin .lss .prim (.tmp 8) (.tmp 7),none⟩])
 (.seq (.cond (.tmp 9) (.skip)
  (.exit 0))
  (.seq (.block 1 (.seq (.region false [⟨(some 10),.mv (.tmp 8),none⟩,
     ⟨(some 5),.take 10,none⟩])
   (.seq (.region false [⟨(some 11),.mv (.tmp 1),none⟩,
     ⟨(some 12),.mv (.tmp 0),none⟩,
     ⟨(some 13),.mv (.tmp 5),none⟩,
     ⟨(some 14),.ia (.slice 1) (.tmp 12) (.tmp 13),none⟩,
     ⟨(some 15),.ldc (.tmp 14),none⟩,
     ⟨(some 16),.bin .eql .bool (.tmp 11) (.tmp 15),none⟩])
    (.cond (.tmp 16) (.seq (.region false [⟨(some 17),.take 5,none⟩,
      ⟨(some 4),.take 17,none⟩])
     (.ret))
    (.skip)))))
  (.region false [⟨(some 18),.bin .add .prim (.tmp 8) (.const (.int .i64 1)),none⟩,
    ⟨(some 8),.mv (.tmp 18),none⟩])))
def Xn:Wl:=.loop WF
def Xm:Wl :=
 .seq (.region false [⟨(some 4),.mv (.const (.int .i64 (-1))),none⟩])
 (.ret)
def Qn:Wl :=
 .seq (.region false [⟨(some 4),.mv (.const (.int .i64 0)),none⟩])
 (.seq (.seq (.region false [⟨(some 6),.mv (.tmp 0),none⟩,
    ⟨(some 7),.len .slice (.tmp 6),none⟩,
    ⟨(some 8),.mv (.const (.int .i64 0)),none⟩])
  (.block 0 (Xn)))
  Xm)
def ZC:AFn:=⟨19,[.tmp 4],Qn,false⟩
theorem QY:Vg=ZC:=by kernel_rfl
def Yp (G:GT)(K:KT)(L:Nat)(hp0:HP)(hp:HP)(ef:Eff):KR :=
 some (Zb1 false hp0 (.int .i64 (-1)) hp ef)
theorem JB (G:GT)(K:KT)(L:Nat)(hp0:HP)   : QD G 19 hp0.length K Zy L Xm (AA Zy ZC hp0) (AA Zy ZC hp0) []=fun e hp ef=>Yp G K L hp0   hp ef:=by
 kernel_rfl
def ZR (G:GT)(K:KT)(L:Nat)(hp0:HP)(k0:HP→Eff→KR):Nat→AV→AV→AV→AV→HP→Eff→KR
 | 0,_,_,_,_,_,_=>none
 | m + 1,x0,x1,x7,x8,hp,ef =>
  Qp (ZL .lss .prim x8 x7) fun v1 =>
  ifK v1
  (Qp (Je (.slice 1) x0 x8) fun v2 =>
  Qp (Qb hp v2) fun v3 =>
  Qp (ZL .eql .bool x1 v3) fun v4 =>
  ifK v4
  (some (Zb1 false hp0 x8 hp ef))
  (Qp (ZL .add .prim x8 (.int .i64 1)) fun v5 =>
  ZR G K L hp0 k0 m x0 x1 x7 v5 hp ef))
  (k0  hp ef)
theorem JD (G:GT)(K:KT)(L:Nat)(hp0:HP)(k0:HP→Eff→KR)  : ∀ m,Zb5 (fun n'=>QD G 19 hp0.length K Zy L WF n' (AA Zy ZC hp0) [(0,(fun e hp ef=>k0  hp ef))]) m=fun e hp ef=>ZR G K L hp0 k0 m (e 0).rd (e 1).rd (e 7).rd (e 8).rd hp ef:=by
 intro m
 induction m with
 | zero=>rfl
 | succ m ih =>
  show QD G 19 hp0.length K Zy L WF (Zb5 _ m) (AA Zy ZC hp0) [(0,(fun e hp ef=>k0  hp ef))]=_
  rw [ih]
  kernel_rfl
theorem JC (G:GT)(K:KT)(L:Nat)(hp0:HP)(k0:HP→Eff→KR)(zn:DN):QD G 19 hp0.length K Zy L Xn zn (AA Zy ZC hp0) [(0,(fun e hp ef=>k0  hp ef))]=fun e hp ef=>ZR G K L hp0 k0 L (e 0).rd (e 1).rd (e 7).rd (e 8).rd hp ef:=JD G K L hp0 k0  L
def Wj (G:GT)(K:KT)(L:Nat)(x0 x1:AV)(hp0:HP):KR :=
 Qp (Xp hp0 .slice (AV.ro x0)) fun v0 =>
 ZR G K L hp0 (Yp G K L hp0) L (AV.ro x0) (AV.ro x1) v0 (.int .i64 0) hp0 none
theorem UU (G:GT)(K:KT)(L:Nat)(x0 x1:AV)(hp0:HP):fnK G K Zy L ZC [x0,x1] hp0=Wj G K L x0 x1 hp0:=by
 show QD G 19 hp0.length K Zy L Qn (AA Zy ZC hp0) (AA Zy ZC hp0) [] (Zsl [x0,x1]) hp0 none=_
 simp only [Qn,EW,Td,Tf,Dq]
 rw [JB G K L hp0  ,JC G K L hp0 (Yp G K L hp0)  _]
 kernel_rfl
theorem X9 {C:Cfg}(h:C.T Y6=some ZC){n:Nat}{x0 x1:AV}{hp:HP}{r:AV×HP×Eff}(hr:Wj C.G (Z7 C n) C.L x0 x1 hp=some r):Z7 C (n + 1) Y6 [x0,x1] hp=some r:=ZmN h (Nat.le_of_ble_eq_true rfl) ((UU ..).trans hr)
def UR:Wl :=
 .seq (.region false [⟨(some 4),.mv (.const (.bool false)),none⟩])
 (.seq (.region false [⟨(some 5),.mv (.tmp 0),none⟩,
   ⟨(some 6),.mv (.tmp 1),none⟩,
   ⟨(some 7),.call (.const (.fn 38 [] [])) [(.inr (.tmp 5)),(.inr (.tmp 6))],none⟩,
   ⟨(some 8),.bin .geq .prim (.tmp 7) (.const (.int .i64 0)),none⟩,
   ⟨(some 4),.take 8,none⟩])
  (.ret))
def WE:AFn:=⟨9,[.tmp 4],UR,false⟩
theorem Qv:Xl=WE:=by kernel_rfl
def YF (G:GT)(K:KT)(L:Nat)(x0 x1:AV)(hp0:HP):KR :=
 LU (K Y6 [(AV.ro x0),(AV.ro x1)] hp0) fun v0 h1 f2 =>
 Qp (ZL .geq .prim (AV.ro v0) (.int .i64 0)) fun v3 =>
 some (Zb1 false hp0 v3 h1 (Ou hp0.length none f2))
theorem JA (G:GT)(K:KT)(L:Nat)(x0 x1:AV)(hp0:HP):fnK G K UW L WE [x0,x1] hp0=YF G K L x0 x1 hp0:=by
 kernel_rfl
theorem QP {C:Cfg}(h:C.T Yn=some WE){n:Nat}{x0 x1:AV}{hp:HP}{r:AV×HP×Eff}(hr:YF C.G (Z7 C n) C.L x0 x1 hp=some r):Z7 C (n + 1) Yn [x0,x1] hp=some r:=ZmN h (Nat.le_of_ble_eq_true rfl) ((JA ..).trans hr)
def XG:Wl :=
 .seq (.region false [⟨(some 24),.bin .lss .prim (.tmp 23) (.tmp 22),none⟩])
 (.seq (.cond (.tmp 24) (.skip)
  (.exit 0))
  (.seq (.block 1 (.seq (.region false [⟨(some 25),.ia (.slice 1) (.tmp 21) (.tmp 23),none⟩,
     ⟨(some 26),.ldc (.tmp 25),none⟩,
     ⟨(some 9),.take 26,none⟩])
   (.seq (.seq (.region false [⟨(some 27),.mv (.tmp 9),none⟩,
      ⟨(some 28),.bin .lss .prim (.tmp 27) (.const (.int .i64 0)),none⟩,
      ⟨(some 29),.mv (.tmp 28),none⟩,
      ⟨(some 30),.mv (.tmp 9),(some (29,false))⟩,
      ⟨(some 31),.bin .geq .prim (.tmp 30) (.const (.int .i64 16)),(some (29,false))⟩,
      ⟨(some 32),.pick (.tmp 29) (.const (.bool true)) (.tmp 31),none⟩])
    (.cond (.tmp 32) (.seq (.region false [⟨(some 4),.mv (.const (.int .i64 2)),none⟩])
     (.ret))
     (.skip)))
    (.seq (.region false [⟨(some 33),.mv (.tmp 9),none⟩,
      ⟨(some 34),.ia (.arr 16 1) (.tmp 6) (.tmp 33),none⟩,
      ⟨(some 35),.ldc (.tmp 34),none⟩,
      ⟨(some 36),.un .not (.tmp 35),none⟩])
    (.cond (.tmp 36) (.seq (.region false [⟨(some 37),.mv (.tmp 9),none⟩,
       ⟨(some 38),.ia (.arr 16 1) (.tmp 6) (.tmp 37),none⟩,
       ⟨none,.st 1 (.tmp 38) (.const (.bool true)),none⟩])
     (.region false [⟨(some 39),.mv (.tmp 7),none⟩,
       ⟨(some 40),.bin .add .prim (.tmp 39) (.const (.int .i64 1)),none⟩,
       ⟨(some 7),.take 40,none⟩]))
     (.skip))))))
  (.region false [⟨(some 41),.bin .add .prim (.tmp 23) (.const (.int .i64 1)),none⟩,
    ⟨(some 23),.mv (.tmp 41),none⟩])))
def Kz:Wl:=.loop XG
def Ky:Wl :=
 .seq (.seq (.region false [⟨(some 42),.mv (.tmp 7),none⟩,
   ⟨(some 43),.slice (.arr 16 1) (.tmp 6) none (some (.tmp 42)),none⟩,
   ⟨(some 44),.call (.const (.fn 26 [] [])) [(.inr (.tmp 43)),(.inr (.const (.bool false)))],none⟩])
  (.cond (.tmp 44) (.seq (.region false [⟨(some 4),.mv (.const (.int .i64 12)),none⟩])
   (.ret))
  (.skip)))
 (.seq (.region false [⟨(some 4),.mv (.const (.int .i64 0)),none⟩])
  (.ret))
def JO:Wl :=
 .seq (.region false [⟨(some 2),.box 25 3 (.tmp 0),none⟩,
   ⟨(some 4),.mv (.const (.int .i64 0)),none⟩])
 (.seq (.seq (.region false [⟨(some 10),.lda 3 (.tmp 2),none⟩,
    ⟨(some 11),.call (.const (.fn 25 [] [])) [(.inr (.tmp 10))],none⟩,
    ⟨(some 5),.take 11,none⟩])
  (.seq (.region false [⟨(some 12),.mv (.tmp 5),none⟩,
    ⟨(some 13),.bin .neq .prim (.tmp 12) (.const (.int .i64 0)),none⟩])
   (.cond (.tmp 13) (.seq (.region false [⟨(some 14),.take 5,none⟩,
     ⟨(some 4),.take 14,none⟩])
    (.ret))
   (.skip))))
  (.seq (.seq (.region false [⟨(some 15),.mv (.tmp 1),none⟩,
    ⟨(some 16),.len .slice (.tmp 15),none⟩,
    ⟨(some 17),.fa 1 (.tmp 2),none⟩,
    ⟨(some 18),.ldc (.tmp 17),none⟩,
    ⟨(some 19),.len .slice (.tmp 18),none⟩,
    ⟨(some 20),.bin .neq .prim (.tmp 16) (.tmp 19),none⟩])
   (.cond (.tmp 20) (.seq (.region false [⟨(some 4),.mv (.const (.int .i64 8)),none⟩])
    (.ret))
   (.skip)))
  (.seq (.region false [⟨(some 6),.mk 48 [(.bool false),(.bool false),(.bool false),(.bool false),(.bool false),(.bool false),(.bool false),(.bool false),(.bool false),(.bool false),(.bool false),(.bool false),(.bool false),(.bool false),(.bool false),(.bool false)],none⟩])
   (.seq (.region false [⟨(some 7),.mv (.const (.int .i64 0)),none⟩])
   (.seq (.seq (.region false [⟨(some 21),.mv (.tmp 1),none⟩,
      ⟨(some 22),.len .slice (.tmp 21),none⟩,
      ⟨(some 23),.mv (.const (.int .i64 0)),none⟩])
    (.block 0 (Kz)))
    Ky)))))
def Yh:AFn:=⟨45,[.tmp 4],JO,false⟩
theorem RH:Oq=Yh:=by kernel_rfl
def YY (G:GT)(K:KT)(L:Nat)(hp0:HP)(x6:AV)(x7:AV)(hp:HP)(ef:Eff):KR :=
 Qp (V7 (.arr 16 1) x6 none (some x7)) fun v13 =>
 LU (K Yn [v13,(.bool false)] hp) fun v14 h15 f16 =>
 ifK (AV.ro v14)
 (some (Zb1 false hp0 (.int .i64 12) h15 (Ou hp0.length ef f16)))
 (some (Zb1 false hp0 (.int .i64 0) h15 (Ou hp0.length ef f16)))
theorem Ti (G:GT)(K:KT)(L:Nat)(hp0:HP)   : QD G 45 hp0.length K ZV L Ky (AA ZV Yh hp0) (AA ZV Yh hp0) []=fun e hp ef=>YY G K L hp0  (e 6).rd (e 7).rd hp ef:=by
 kernel_rfl
def Y7 (G:GT)(K:KT)(L:Nat)(hp0:HP)(k0:AV→AV→HP→Eff→KR):Nat→AV→AV→AV→AV→AV→HP→Eff→KR
 | 0,_,_,_,_,_,_,_=>none
 | m + 1,x6,x7,x21,x22,x23,hp,ef =>
  Qp (ZL .lss .prim x23 x22) fun v18 =>
  ifK v18
  (Qp (Je (.slice 1) x21 x23) fun v19 =>
  Qp (Qb hp v19) fun v20 =>
  Qp (ZL .lss .prim v20 (.int .i64 0)) fun v21 =>
  Zid v21 false
  (Qp (ZL .geq .prim v20 (.int .i64 16)) fun v22 =>
  some (v22,hp,ef))
  (some (.bool true)) hp ef fun v23 h24 f25 =>
  ifK (AV.ro v23)
  (some (Zb1 false hp0 (.int .i64 2) h24 f25))
  (Qp (Je (.arr 16 1) x6 v20) fun v26 =>
  Qp (Qb h24 v26) fun v27 =>
  Qp (Zas .not v27) fun v28 =>
  ifK v28
  (Qp (Je (.arr 16 1) x6 v20) fun v29 =>
  Zja (stV hp0.length 1 v29 (.bool true) h24 f25) fun h30 f31 =>
  Qp (ZL .add .prim x7 (.int .i64 1)) fun v32 =>
  Qp (ZL .add .prim x23 (.int .i64 1)) fun v33 =>
  Y7 G K L hp0 k0 m x6 v32 x21 x22 v33 h30 f31)
  (Qp (ZL .add .prim x23 (.int .i64 1)) fun v34 =>
  Y7 G K L hp0 k0 m x6 x7 x21 x22 v34 h24 f25)))
  (k0 x6 x7 hp ef)
theorem Tm (G:GT)(K:KT)(L:Nat)(hp0:HP)(k0:AV→AV→HP→Eff→KR)  : ∀ m,Zb5 (fun n'=>QD G 45 hp0.length K ZV L XG n' (AA ZV Yh hp0) [(0,(fun e hp ef=>k0 (e 6).rd (e 7).rd hp ef))]) m=fun e hp ef=>Y7 G K L hp0 k0 m (e 6).rd (e 7).rd (e 21).rd (e 22).rd (e 23).rd hp ef:=by
 intro m
 induction m with
 | zero=>rfl
 | succ m ih =>
  show QD G 45 hp0.length K ZV L XG (Zb5 _ m) (AA ZV Yh hp0) [(0,(fun e hp ef=>k0 (e 6).rd (e 7).rd hp ef))]=_
  rw [ih]
  kernel_rfl
theorem Tj (G:GT)(K:KT)(L:Nat)(hp0:HP)(k0:AV→AV→HP→Eff→KR)(zn:DN):QD G 45 hp0.length K ZV L Kz zn (AA ZV Yh hp0) [(0,(fun e hp ef=>k0 (e 6).rd (e 7).rd hp ef))]=fun e hp ef=>Y7 G K L hp0 k0 L (e 6).rd (e 7).rd (e 21).rd (e 22).rd (e 23).rd hp ef:=Tm G K L hp0 k0  L
def JP (G:GT)(K:KT)(L:Nat)(x0 x1:AV)(hp0:HP):KR :=
 Qp (Zso 3 (AV.ro x0)) fun v1 =>
 ZvM (hp0 ++ [.cells v1 ZM]) fun h0 =>
 Qp (Vh h0 3 (.ptr (hp0).length 0)) fun v2 =>
 LU (K VS [v2] h0) fun v3 h4 f5 =>
 Qp (ZL .neq .prim (AV.ro v3) (.int .i64 0)) fun v6 =>
 ifK v6
 (some (Zb1 false hp0 v3 h4 (Ou hp0.length none f5)))
 (Qp (Xp h4 .slice (AV.ro x1)) fun v7 =>
 Qp (DX 1 (.ptr (hp0).length 0)) fun v8 =>
 Qp (Qb h4 v8) fun v9 =>
 Qp (Xp h4 .slice v9) fun v10 =>
 Qp (ZL .neq .prim v7 v10) fun v11 =>
 ifK v11
 (some (Zb1 false hp0 (.int .i64 8) h4 (Ou hp0.length none f5)))
 (ZvM (h4 ++ [.cells [(.bool false),(.bool false),(.bool false),(.bool false),(.bool false),(.bool false),(.bool false),(.bool false),(.bool false),(.bool false),(.bool false),(.bool false),(.bool false),(.bool false),(.bool false),(.bool false)] Zej]) fun h12 =>
 Qp (Xp h12 .slice (AV.ro x1)) fun v17 =>
 Y7 G K L hp0 (YY G K L hp0) L (.ptr (h4).length 0) (.int .i64 0) (AV.ro x1) v17 (.int .i64 0) h12 (Ou hp0.length none f5)))
theorem DW (G:GT)(K:KT)(L:Nat)(x0 x1:AV)(hp0:HP):fnK G K ZV L Yh [x0,x1] hp0=JP G K L x0 x1 hp0:=by
 show QD G 45 hp0.length K ZV L JO (AA ZV Yh hp0) (AA ZV Yh hp0) [] (Zsl [x0,x1]) hp0 none=_
 simp only [JO,EW,Td,Tf,Dq]
 rw [Ti G K L hp0  ,Tj G K L hp0 (YY G K L hp0)  _]
 kernel_rfl
theorem Si {C:Cfg}(h:C.T XQ=some Yh){n:Nat}{x0 x1:AV}{hp:HP}{r:AV×HP×Eff}(hr:JP C.G (Z7 C n) C.L x0 x1 hp=some r):Z7 C (n + 1) XQ [x0,x1] hp=some r:=ZmN h (Nat.le_of_ble_eq_true rfl) ((DW ..).trans hr)
def GI:Wl :=
 .seq (.seq (.region false [⟨(some 22),.mv (.tmp 8),none⟩,
   ⟨(some 23),.mv (.tmp 1),none⟩,
   ⟨(some 24),.len .slice (.tmp 23),none⟩,
   ⟨(some 25),.bin .lss .prim (.tmp 22) (.tmp 24),none⟩])
  (.cond (.tmp 25) (.skip)
  (.exit 0)))
 (.seq (.block 1 (.seq (.seq (.region false [⟨(some 28),.mv (.tmp 1),none⟩,
     ⟨(some 29),.mv (.tmp 8),none⟩,
     ⟨(some 30),.ia (.slice 1) (.tmp 28) (.tmp 29),none⟩,
     ⟨(some 31),.ldc (.tmp 30),none⟩,
     ⟨(some 32),.bin .lss .prim (.tmp 31) (.const (.int .i64 0)),none⟩,
     ⟨(some 33),.mv (.tmp 32),none⟩,
     ⟨(some 34),.mv (.tmp 1),(some (33,false))⟩,
     ⟨(some 35),.mv (.tmp 8),(some (33,false))⟩,
     ⟨(some 36),.ia (.slice 1) (.tmp 34) (.tmp 35),(some (33,false))⟩,
     ⟨(some 37),.ldc (.tmp 36),(some (33,false))⟩,
     ⟨(some 38),.bin .geq .prim (.tmp 37) (.const (.int .i64 16)),(some (33,false))⟩,
     ⟨(some 39),.pick (.tmp 33) (.const (.bool true)) (.tmp 38),none⟩])
   (.cond (.tmp 39) (.seq (.region false [⟨(some 4),.mv (.const (.int .i64 2)),none⟩])
    (.ret))
    (.skip)))
   (.seq (.region false [⟨(some 40),.mv (.tmp 6),none⟩,
     ⟨(some 41),.mv (.tmp 1),none⟩,
     ⟨(some 42),.mv (.tmp 8),none⟩,
     ⟨(some 43),.ia (.slice 1) (.tmp 41) (.tmp 42),none⟩,
     ⟨(some 44),.ldc (.tmp 43),none⟩,
     ⟨(some 45),.max [(.tmp 40),(.tmp 44)],none⟩,
     ⟨(some 6),.take 45,none⟩])
   (.region false [⟨(some 46),.mv (.tmp 7),none⟩,
     ⟨(some 47),.mv (.tmp 1),none⟩,
     ⟨(some 48),.mv (.tmp 8),none⟩,
     ⟨(some 49),.ia (.slice 1) (.tmp 47) (.tmp 48),none⟩,
     ⟨(some 50),.ldc (.tmp 49),none⟩,
     ⟨(some 51),.ia (.slice 1) (.tmp 46) (.tmp 50),none⟩,
     ⟨none,.st 1 (.tmp 51) (.const (.bool true)),none⟩]))))
  (.region false [⟨(some 26),.mv (.tmp 8),none⟩,
   ⟨(some 27),.bin .add .prim (.tmp 26) (.const (.int .i64 1)),none⟩,
   ⟨(some 8),.take 27,none⟩]))
def PM:Wl:=.loop GI
def GK:Wl :=
 .seq (.seq (.region false [⟨(some 52),.mv (.tmp 9),none⟩,
   ⟨(some 53),.mv (.tmp 6),none⟩,
   ⟨(some 54),.bin .leq .prim (.tmp 52) (.tmp 53),none⟩])
  (.cond (.tmp 54) (.skip)
  (.exit 2)))
 (.seq (.block 3 (.seq (.region false [⟨(some 57),.mv (.tmp 7),none⟩,
    ⟨(some 58),.mv (.tmp 9),none⟩,
    ⟨(some 59),.ia (.slice 1) (.tmp 57) (.tmp 58),none⟩,
    ⟨(some 60),.ldc (.tmp 59),none⟩,
    ⟨(some 61),.un .not (.tmp 60),none⟩])
   (.cond (.tmp 61) (.seq (.region false [⟨(some 4),.mv (.const (.int .i64 12)),none⟩])
    (.ret))
   (.skip))))
  (.region false [⟨(some 55),.mv (.tmp 9),none⟩,
   ⟨(some 56),.bin .add .prim (.tmp 55) (.const (.int .i64 1)),none⟩,
   ⟨(some 9),.take 56,none⟩]))
def PN:Wl:=.loop GK
def PL:Wl :=
 .seq (.region false [⟨(some 4),.mv (.const (.int .i64 0)),none⟩])
 (.ret)
def IU:Wl :=
 .seq (.seq (.region false [⟨(some 9),.mv (.const (.int .i64 0)),none⟩])
  (.block 2 (PN)))
 PL
def ND:Wl :=
 .seq (.region false [⟨(some 2),.box 25 3 (.tmp 0),none⟩,
   ⟨(some 4),.mv (.const (.int .i64 0)),none⟩])
 (.seq (.region false [⟨(some 10),.lda 3 (.tmp 2),none⟩,
   ⟨(some 11),.call (.const (.fn 27 [] [])) [(.inr (.tmp 10))],none⟩,
   ⟨(some 5),.take 11,none⟩])
  (.seq (.seq (.region false [⟨(some 12),.mv (.tmp 5),none⟩,
    ⟨(some 13),.bin .neq .prim (.tmp 12) (.const (.int .i64 0)),none⟩])
   (.cond (.tmp 13) (.seq (.region false [⟨(some 14),.take 5,none⟩,
     ⟨(some 4),.take 14,none⟩])
    (.ret))
   (.skip)))
  (.seq (.seq (.region false [⟨(some 15),.mv (.tmp 1),none⟩,
     ⟨(some 16),.len .slice (.tmp 15),none⟩,
     ⟨(some 17),.fa 1 (.tmp 2),none⟩,
     ⟨(some 18),.ldc (.tmp 17),none⟩,
     ⟨(some 19),.len .slice (.tmp 18),none⟩,
     ⟨(some 20),.bin .neq .prim (.tmp 16) (.tmp 19),none⟩])
   (.cond (.tmp 20) (.seq (.region false [⟨(some 4),.mv (.const (.int .i64 8)),none⟩])
    (.ret))
    (.skip)))
   (.seq (.region false [⟨(some 6),.mv (.const (.int .i64 0)),none⟩])
   (.seq (.region false [⟨(some 21),.mksl 4 [(.bool false)] (.const (.int .i64 16)),none⟩,
     ⟨(some 7),.take 21,none⟩])
    (.seq (.seq (.region false [⟨(some 8),.mv (.const (.int .i64 0)),none⟩])
     (.block 0 (PM)))
    IU))))))
def Y0:AFn:=⟨62,[.tmp 4],ND,false⟩
theorem ZcF:Zc7=Y0:=by kernel_rfl
def Vx (G:GT)(K:KT)(L:Nat)(hp0:HP)(hp:HP)(ef:Eff):KR :=
 some (Zb1 false hp0 (.int .i64 0) hp ef)
theorem Ce (G:GT)(K:KT)(L:Nat)(hp0:HP)   : QD G 62 hp0.length K Ya L PL (AA Ya Y0 hp0) (AA Ya Y0 hp0) []=fun e hp ef=>Vx G K L hp0   hp ef:=by
 kernel_rfl
def Xt (G:GT)(K:KT)(L:Nat)(hp0:HP)(k2:HP→Eff→KR):Nat→AV→AV→AV→HP→Eff→KR
 | 0,_,_,_,_,_=>none
 | m + 1,x6,x7,x9,hp,ef =>
  Qp (ZL .leq .prim x9 x6) fun v14 =>
  ifK v14
  (Qp (Je (.slice 1) x7 x9) fun v15 =>
  Qp (Qb hp v15) fun v16 =>
  Qp (Zas .not v16) fun v17 =>
  ifK v17
  (some (Zb1 false hp0 (.int .i64 12) hp ef))
  (Qp (ZL .add .prim x9 (.int .i64 1)) fun v18 =>
  Xt G K L hp0 k2 m x6 x7 v18 hp ef))
  (k2  hp ef)
theorem Cm (G:GT)(K:KT)(L:Nat)(hp0:HP)(k2:HP→Eff→KR)  : ∀ m,Zb5 (fun n'=>QD G 62 hp0.length K Ya L GK n' (AA Ya Y0 hp0) [(2,(fun e hp ef=>k2  hp ef))]) m=fun e hp ef=>Xt G K L hp0 k2 m (e 6).rd (e 7).rd (e 9).rd hp ef:=by
 intro m
 induction m with
 | zero=>rfl
 | succ m ih =>
  show QD G 62 hp0.length K Ya L GK (Zb5 _ m) (AA Ya Y0 hp0) [(2,(fun e hp ef=>k2  hp ef))]=_
  rw [ih]
  kernel_rfl
theorem Cj (G:GT)(K:KT)(L:Nat)(hp0:HP)(k2:HP→Eff→KR)(zn:DN):QD G 62 hp0.length K Ya L PN zn (AA Ya Y0 hp0) [(2,(fun e hp ef=>k2  hp ef))]=fun e hp ef=>Xt G K L hp0 k2 L (e 6).rd (e 7).rd (e 9).rd hp ef:=Cm G K L hp0 k2  L
def Vw (G:GT)(K:KT)(L:Nat)(hp0:HP)(x6:AV)(x7:AV)(hp:HP)(ef:Eff):KR :=
 Xt G K L hp0 (Vx G K L hp0) L x6 x7 (.int .i64 0) hp ef
theorem Cc (G:GT)(K:KT)(L:Nat)(hp0:HP)   : QD G 62 hp0.length K Ya L IU (AA Ya Y0 hp0) (AA Ya Y0 hp0) []=fun e hp ef=>Vw G K L hp0  (e 6).rd (e 7).rd hp ef:=by
 simp only [IU,EW,Td,Tf,Dq]
 rw [Ce G K L hp0  ,Cj G K L hp0 (Vx G K L hp0)  _]
 kernel_rfl
def Xr (G:GT)(K:KT)(L:Nat)(hp0:HP)(k0:AV→AV→HP→Eff→KR):Nat→AV→AV→AV→AV→HP→Eff→KR
 | 0,_,_,_,_,_,_=>none
 | m + 1,x1,x6,x7,x8,hp,ef =>
  Qp (Xp hp .slice x1) fun v19 =>
  Qp (ZL .lss .prim x8 v19) fun v20 =>
  ifK v20
  (Qp (Je (.slice 1) x1 x8) fun v21 =>
  Qp (Qb hp v21) fun v22 =>
  Qp (ZL .lss .prim v22 (.int .i64 0)) fun v23 =>
  Zid v23 false
  (Qp (Je (.slice 1) x1 x8) fun v24 =>
  Qp (Qb hp v24) fun v25 =>
  Qp (ZL .geq .prim v25 (.int .i64 16)) fun v26 =>
  some (v26,hp,ef))
  (some (.bool true)) hp ef fun v27 h28 f29 =>
  ifK (AV.ro v27)
  (some (Zb1 false hp0 (.int .i64 2) h28 f29))
  (Qp (Je (.slice 1) x1 x8) fun v30 =>
  Qp (Qb h28 v30) fun v31 =>
  Qp (Zxj [x6,v31]) fun v32 =>
  Qp (Je (.slice 1) x1 x8) fun v33 =>
  Qp (Qb h28 v33) fun v34 =>
  Qp (Je (.slice 1) x7 v34) fun v35 =>
  Zja (stV hp0.length 1 v35 (.bool true) h28 f29) fun h36 f37 =>
  Qp (ZL .add .prim x8 (.int .i64 1)) fun v38 =>
  Xr G K L hp0 k0 m x1 v32 x7 v38 h36 f37))
  (k0 x6 x7 hp ef)
theorem Ci (G:GT)(K:KT)(L:Nat)(hp0:HP)(k0:AV→AV→HP→Eff→KR)  : ∀ m,Zb5 (fun n'=>QD G 62 hp0.length K Ya L GI n' (AA Ya Y0 hp0) [(0,(fun e hp ef=>k0 (e 6).rd (e 7).rd hp ef))]) m=fun e hp ef=>Xr G K L hp0 k0 m (e 1).rd (e 6).rd (e 7).rd (e 8).rd hp ef:=by
 intro m
 induction m with
 | zero=>rfl
 | succ m ih =>
  show QD G 62 hp0.length K Ya L GI (Zb5 _ m) (AA Ya Y0 hp0) [(0,(fun e hp ef=>k0 (e 6).rd (e 7).rd hp ef))]=_
  rw [ih]
  kernel_rfl
theorem Cf (G:GT)(K:KT)(L:Nat)(hp0:HP)(k0:AV→AV→HP→Eff→KR)(zn:DN):QD G 62 hp0.length K Ya L PM zn (AA Ya Y0 hp0) [(0,(fun e hp ef=>k0 (e 6).rd (e 7).rd hp ef))]=fun e hp ef=>Xr G K L hp0 k0 L (e 1).rd (e 6).rd (e 7).rd (e 8).rd hp ef:=Ci G K L hp0 k0  L
def NH (G:GT)(K:KT)(L:Nat)(x0 x1:AV)(hp0:HP):KR :=
 Qp (Zso 3 (AV.ro x0)) fun v1 =>
 ZvM (hp0 ++ [.cells v1 ZM]) fun h0 =>
 Qp (Vh h0 3 (.ptr (hp0).length 0)) fun v2 =>
 LU (K Zcb [v2] h0) fun v3 h4 f5 =>
 Qp (ZL .neq .prim (AV.ro v3) (.int .i64 0)) fun v6 =>
 ifK v6
 (some (Zb1 false hp0 v3 h4 (Ou hp0.length none f5)))
 (Qp (Xp h4 .slice (AV.ro x1)) fun v7 =>
 Qp (DX 1 (.ptr (hp0).length 0)) fun v8 =>
 Qp (Qb h4 v8) fun v9 =>
 Qp (Xp h4 .slice v9) fun v10 =>
 Qp (ZL .neq .prim v7 v10) fun v11 =>
 ifK v11
 (some (Zb1 false hp0 (.int .i64 8) h4 (Ou hp0.length none f5)))
 (Zja (Ztj ZhZ [(.bool false)] (.int .i64 16) h4) fun v12 h13 =>
 Xr G K L hp0 (Vw G K L hp0) L (AV.ro x1) (.int .i64 0) v12 (.int .i64 0) h13 (Ou hp0.length none f5)))
theorem ZeM (G:GT)(K:KT)(L:Nat)(x0 x1:AV)(hp0:HP):fnK G K Ya L Y0 [x0,x1] hp0=NH G K L x0 x1 hp0:=by
 show QD G 62 hp0.length K Ya L ND (AA Ya Y0 hp0) (AA Ya Y0 hp0) [] (Zsl [x0,x1]) hp0 none=_
 simp only [ND,EW,Td,Tf,Dq]
 rw [Cc G K L hp0  ,Cf G K L hp0 (Vw G K L hp0)  _]
 kernel_rfl
theorem Zh8 {C:Cfg}(h:C.T OW=some Y0){n:Nat}{x0 x1:AV}{hp:HP}{r:AV×HP×Eff}(hr:NH C.G (Z7 C n) C.L x0 x1 hp=some r):Z7 C (n + 1) OW [x0,x1] hp=some r:=ZmN h (Nat.le_of_ble_eq_true rfl) ((ZeM ..).trans hr)
end Go.Proofs.YtgjcjbhhhlelnaaGreatDoor
end
section
namespace Go.Proofs.YtgjcjbhhhlelnaaGreatDoor
open Go Go.Proofs.YtgjcjbhhhlelnaaGreatDoor.Abs Go.Proofs.YtgjcjbhhhlelnaaGreatDoor.Tl
set_option maxRecDepth 100000
def Ip:List IX:=[⟨[],0,0,false,false,false,false,false,false⟩,⟨[115,108,111,116],1,0,false,true,false,false,false,false⟩,⟨[118,97,114],2,0,false,true,false,false,false,false⟩,⟨[100,114,97,119],1,3,false,false,false,false,true,false⟩,⟨[106,117,109,112],4,0,false,false,false,false,false,false⟩,⟨[98,114,97,110,99,104],4,0,false,true,false,false,false,false⟩,⟨[104,111,108,100],0,0,false,true,false,false,false,false⟩,⟨[115,101,105,122,101],5,0,false,true,true,false,false,true⟩,⟨[114,101,108,101,97,115,101],5,0,false,true,false,false,false,false⟩,⟨[112,117,116],6,0,false,true,false,false,false,false⟩,⟨[103,101,116],6,1,false,false,false,false,false,false⟩,⟨[114,105,100,101],7,0,false,false,false,false,false,false⟩,⟨[119,97,105,116],8,0,false,false,false,false,false,false⟩,⟨[115,105,103,110,97,108],8,0,false,true,false,false,false,false⟩,⟨[115,101,110,100],9,10,true,true,false,true,false,false⟩,⟨[115,112,97,119,110],0,10,false,true,false,true,false,false⟩,⟨[111,98,115,101,114,118,101],11,0,false,true,false,false,false,false⟩,⟨[108,101,118,101,108],12,0,false,true,false,false,false,false⟩,⟨[99,111,117,110,116],13,0,false,true,false,false,false,false⟩,⟨[101,110,100],0,0,false,false,false,false,false,false⟩]
def tG:Nat→Option (List (TV tT)):=fun g=>match g with
 | 0=>some [.lst 9 (.row 22) Ip]
 | _=>none
def GF:Nat→Option (List AV):=fun g=>if g=0 then some [.lst 9 (Ip.map ZoM)] else none
theorem Z0X:GR tG GF:=fun g c h=>by
 match g,h with
 | 0,h=>cases h; exact ⟨_,rfl,.one _ _ (VR.lst (T := tT) 9 (.row 22) Ip _ rfl) rfl [] [] .nil⟩
 | _ + 1,h=>cases h
noncomputable def cT (f:FuncId):Option AFn:=(tab.find? (·.1 == f)).map (·.2)
structure St (C:Cfg)(L:Nat):Prop where
 L:C.L=L + 64
 G:GR tG C.G
 T:∀ f a,cT f=some a→C.T f=some a
 grow:∀ (m:Nat) (n:Int) (hp:List Zn),0≤n→n≤100000→Z7 C (m + 1) 171 [.own 2 [],.int .i64 n] hp=some (.own 2 [],hp,none)
 awake:∀ (m:Nat) (hp:List Zn),Z7 C (m + 1) 10 [] hp=some (.bool true,hp,none)
def ZsH (l:List WP)(n:Int):Option (List WP):=if l.length=0∧0≤n∧n≤100000 then some [] else none
def ZuR:Sum tT:=⟨171,[.own 2 (.row 7),.int .i64],fun x=>.par _ (ZsH x.1 x.2.1) (SD.tv tT (.own 2 (.row 7)))⟩
def ZrP:Sum tT:=⟨10,[],fun _=>.tot (.av (.bool true))⟩
theorem Zzy {C:Cfg}{L:Nat}(h:St C L):Qs C ZuR:=fun x hp avs hv y hy=>by
 obtain ⟨(l:List WP),(n:Int),u⟩:=x
 change (if l.length=0∧0≤n∧n≤100000 then some [] else none)=some y at hy
 split at hy
 ·rename_i hc
  cases hy
  obtain rfl:=List.eq_nil_of_length_eq_zero hc.1
  cases hv with
  | cons _ a h1 _ _ h2=>cases h2 with
   | cons _ b h3 _ _ h4=>cases h4 with
    | nil =>
     cases h1 with | own _ _ _ =>
     have:=VR.int h3; subst this
     exact ⟨.own 2 [],fun ad=>.own 2 (.row 7) [],1,fun m hm=>by
      obtain ⟨k,rfl⟩:∃ k,m=k + 1:=⟨m - 1,by omega⟩
      exact h.grow k n hp hc.2.1 hc.2.2⟩
 ·cases hy
theorem ZwL {C:Cfg}{L:Nat}(h:St C L):Qs C ZrP:=fun x hp avs hv=>by
 cases hv with
 | nil=>exact ⟨.bool true,fun ad=>.av _ _ (.inl rfl),1,fun m hm=>by
   obtain ⟨k,rfl⟩:∃ k,m=k + 1:=⟨m - 1,by omega⟩
   exact h.awake k hp⟩
@[reducible] noncomputable def fT (S:List (Sum tT))(L:Nat)(a:AFn)(A:List LN)(d:RD)(g:List SD)(x:RTy tT g):Option (d.Ty tT):=fnT tF tG (qOf tF S) 0 L a A d (tvL tT g x) []
@[reducible] noncomputable def fI (S:List (Sum tT))(L:Nat)(I:List (Inl tT))(a:AFn)(A:List LN)(d:RD)(g:List SD)(x:RTy tT g):Option (d.Ty tT):=fnT tF tG (Zkd tF tG (qOf tF S) L I 8) 0 L a A d (tvL tT g x) []
@[reducible] noncomputable def mU (f:FuncId)(g:List SD)(d:RD)(y:RTy tT g→Option (d.Ty tT)):Sum tT:=⟨f,g,fun x=>.par (d.Ty tT) (y x) (d.tv tT)⟩
abbrev SX (u:Nat→Sum tT):Prop:=∀ {C:Cfg} {L:Nat},St C L→Qs C (u L)
theorem sT {C:Cfg}{L:Nat}(h:St C L){S:List (Sum tT)}(hS:∀ s ∈ S,Qs C s){f:FuncId}{g:List SD}{d:RD}{a:AFn}{A:List LN}{y:RTy tT g→Option (d.Ty tT)}(hT:cT f=some a)(hk:a.keep=false)(hy:∀ x,y x=fT S L a A d g x):Qs C (mU f g d y) :=
 Y1 Yv h.L h.G (WA Yv hS) A (h.T _ _ hT) hk fun x=>(hy x).symm
theorem sI {C:Cfg}{L:Nat}(h:St C L){S:List (Sum tT)}(hS:∀ s ∈ S,Qs C s){I:List (Inl tT)}(hI:∀ i ∈ I,C.T i.f=some i.fn∧i.fn.keep=false){f:FuncId}{g:List SD}{d:RD}{a:AFn}{A:List LN}{y:RTy tT g→Option (d.Ty tT)}(hT:cT f=some a)(hk:a.keep=false)(hy:∀ x,y x=fI S L I a A d g x):Qs C (mU f g d y) :=
 Y1 Yv h.L h.G (AX Yv h.L h.G (WA Yv hS) hI 8) A (h.T _ _ hT) hk fun x=>(hy x).symm
end Go.Proofs.YtgjcjbhhhlelnaaGreatDoor
end
