import Derived.Test.YtgjcjbhhhlelnaaGreatDoorHEv11
set_option linter.all false
section
namespace Go.Proofs.YtgjcjbhhhlelnaaGreatDoor
open Go Go.RowKit Go.Proofs.YtgjcjbhhhlelnaaGreatDoor.Abs
set_option maxRecDepth 100000
set_option maxHeartbeats 0
noncomputable def CW:Cfg:=⟨fun _=>none,fun f=>(ZuG.find? (·.1 == f)).map (·.2),fun f args hp=>((fun _ _=>none:FuncId→List AV→Option AV) f args).map fun v=>(v,hp,none),9223372036854775808⟩
theorem ZxF (W0:World):Zdk Tryz.prog W0 CW where
 mixed:=by kernel_rfl
 globals:=fun g cells h=>by cases h
 table:=fun f af h=>by
  have h:(ZuG.find? (·.1 == f)).map (·.2)=some af:=h
  obtain ⟨p,hp,rfl⟩:=Option.map_eq_some_iff.1 h
  have hf:=List.find?_some hp
  have:p.1=f:=by simpa using hf
  subst this
  exact ZjZ p (List.mem_of_find?_eq_some hp)
 oracle:=Gx (O := fun _ _=>none) fun f args v h=>by cases h
def isT:Option (AV×List Zl×Eff)→Bool
 | some (.bool true,_,_)=>true
 | _=>false
theorem ZqM {r:Option (AV×List Zl×Eff)}(h:isT r=true):∃ hp e,r=some (.bool true,hp,e):=by
 unfold isT at h
 split at h
 ·exact ⟨_,_,rfl⟩
 ·cases h
def p3:AV:=.agg [(.str [112]),(.lst 14 [[(.str [97]),(.lst 3 []),(.lst 17 []),(.lst 3 []),(.lst 3 []),(.lst 1 []),(.lst 1 []),(.lst 1 []),(.lst 1 []),(.lst 1 []),(.lst 4 []),(.lst 5 []),(.lst 3 []),(.lst 4 [])],[(.str [98]),(.lst 3 []),(.lst 17 []),(.lst 3 []),(.lst 3 []),(.lst 1 []),(.lst 1 []),(.lst 1 []),(.lst 1 []),(.lst 1 []),(.lst 4 []),(.lst 5 []),(.lst 3 []),(.lst 4 [])],[(.str [99]),(.lst 3 []),(.lst 17 []),(.lst 3 []),(.lst 3 []),(.lst 1 []),(.lst 1 []),(.lst 1 []),(.lst 1 []),(.lst 1 []),(.lst 4 []),(.lst 5 []),(.lst 3 []),(.lst 4 [])]]),(.lst 3 [[(.int .i64 0),(.int .i64 1),(.int .i64 4)],[(.int .i64 1),(.int .i64 2),(.int .i64 3)]])]
def isZ:Option (AV×List Zl×Eff)→Bool
 | some (.int .i64 0,_,_)=>true
 | _=>false
theorem ZqO {r:Option (AV×List Zl×Eff)}(h:isZ r=true):∃ hp e,r=some (.int .i64 0,hp,e):=by
 unfold isZ at h
 split at h
 ·exact ⟨_,_,rfl⟩
 ·cases h
theorem Zqp:isZ (Z5 CW 40 V5 [p3] [])=true:=by kernel_rfl
def orW (f:FuncId)(args:List AV):Option AV:=if f=V5 then (match args with | [a]=>if eqA 8 a p3=true then some (.int .i64 0) else none | _=>none) else none
theorem ZwB (W0:World):∀ f args v,orW f args=some v→Za6 Tryz.prog W0 f args v:=by
 intro f args v h
 unfold orW at h
 split at h
 ·rename_i e; subst e
  split at h
  ·rename_i a
   split at h <;> cases h
   rename_i he
   obtain rfl:=Zv1 _ _ _ he
   obtain ⟨hp,e,hr⟩:=ZqO Zqp
   exact Zf1 ZxF hr rfl (by kernel_rfl) (by kernel_rfl) Tryz.func25 (by kernel_rfl) rfl
  ·cases h
 ·cases h
noncomputable def CA:Cfg:=⟨fun _=>none,fun f=>if f=V5 then none else (ZuG.find? (·.1 == f)).map (·.2),fun f args hp=>(orW f args).map fun v=>(v,hp,none),9223372036854775808⟩
theorem ZxE (W0:World):Zdk Tryz.prog W0 CA where
 mixed:=by kernel_rfl
 globals:=fun g cells h=>by cases h
 table:=fun f af h=>by
  have h:(if f=V5 then none else (ZuG.find? (·.1 == f)).map (·.2))=some af:=h
  split at h
  ·cases h
  ·obtain ⟨p,hp,rfl⟩:=Option.map_eq_some_iff.1 h
   have hf:=List.find?_some hp
   have:p.1=f:=by simpa using hf
   subst this
   exact ZjZ p (List.mem_of_find?_eq_some hp)
 oracle:=Gx (ZwB W0)
theorem ZlE:isT (ZbI CA [] 40 NC [] [])=true:=by kernel_rfl
theorem ZsY (w:World):Calls Tryz.prog Oo #[] w fun e w'=>e=.returned (.bool true)∧Below w.heap.size w w':=by
 obtain ⟨hp,e,h⟩:=ZqM ZlE
 exact Zxt (ZxE w) Tryz.func10 Zfp Zgh h
end Go.Proofs.YtgjcjbhhhlelnaaGreatDoor
end
section
namespace Go.Proofs.YtgjcjbhhhlelnaaGreatDoor
open Go Go.Proofs.YtgjcjbhhhlelnaaGreatDoor.Abs
set_option maxRecDepth 100000
set_option maxHeartbeats 0
def Ws:Wn :=
 .seq (.region false [⟨(some 9),.bin .lss .prim (.tmp 8) (.tmp 7),none⟩])
 (.seq (.cond (.tmp 9) (.skip)
  (.exit 0))
  (.seq (.block 1 (.seq (.region false [⟨(some 10),.mv (.tmp 8),none⟩,
     ⟨(some 5),.take 10,none⟩])
   (.seq (.region false [⟨(some 11),.mv (.tmp 1),none⟩,
     ⟨(some 12),.mv (.tmp 0),none⟩,
     ⟨(some 13),.mv (.tmp 5),none⟩,
     ⟨(some 14),.ia (.slice 1) (.tmp 12) (.tmp 13),none⟩,
     ⟨(some 15),.ldc (.tmp 14),none⟩,
     ⟨(some 16),.bin .eql .bool (.tmp 11) (.tmp 15),none⟩])
    (.cond (.tmp 16) (.seq (.region false [⟨(some 17),.take 5,none⟩,
      ⟨(some 4),.take 17,none⟩])
     (.ret))
    (.skip)))))
  (.region false [⟨(some 18),.bin .add .prim (.tmp 8) (.const (.int .i64 1)),none⟩,
    ⟨(some 8),.mv (.tmp 18),none⟩])))
def QX:Wn:=.loop Ws
def QW:Wn :=
 .seq (.region false [⟨(some 4),.mv (.const (.int .i64 (-1))),none⟩])
 (.ret)
def Qb:Wn :=
 .seq (.region false [⟨(some 4),.mv (.const (.int .i64 0)),none⟩])
 (.seq (.seq (.region false [⟨(some 6),.mv (.tmp 0),none⟩,
    ⟨(some 7),.len .slice (.tmp 6),none⟩,
    ⟨(some 8),.mv (.const (.int .i64 0)),none⟩])
  (.block 0 (QX)))
  QW)
def ZA:AFn:=⟨19,[.tmp 4],Qb,false⟩
theorem QF:XN=ZA:=by kernel_rfl
def Yo (G:GT)(K:KT)(L:Nat)(hp0:HP)(hp:HP)(ef:Eff):KR :=
 some (Zal false hp0 (.int .i64 (-1)) hp ef)
theorem Jl (G:GT)(K:KT)(L:Nat)(hp0:HP)   : QM G 19 hp0.length K Zw L QW (ZaI Zw ZA hp0) (ZaI Zw ZA hp0) []=fun e hp ef=>Yo G K L hp0   hp ef:=by
 kernel_rfl
def ZO (G:GT)(K:KT)(L:Nat)(hp0:HP)(k0:HP→Eff→KR):Nat→AV→AV→AV→AV→HP→Eff→KR
 | 0,_,_,_,_,_,_=>none
 | m + 1,x0,x1,x7,x8,hp,ef =>
  Xt (ZI .lss .prim x8 x7) fun v1 =>
  ifK v1
  (Xt (GU (.slice 1) x0 x8) fun v2 =>
  Xt (QH hp v2) fun v3 =>
  Xt (ZI .eql .bool x1 v3) fun v4 =>
  ifK v4
  (some (Zal false hp0 x8 hp ef))
  (Xt (ZI .add .prim x8 (.int .i64 1)) fun v5 =>
  ZO G K L hp0 k0 m x0 x1 x7 v5 hp ef))
  (k0  hp ef)
theorem Jn (G:GT)(K:KT)(L:Nat)(hp0:HP)(k0:HP→Eff→KR)  : ∀ m,Zdz (fun n'=>QM G 19 hp0.length K Zw L Ws n' (ZaI Zw ZA hp0) [(0,(fun e hp ef=>k0  hp ef))]) m=fun e hp ef=>ZO G K L hp0 k0 m (e 0).rd (e 1).rd (e 7).rd (e 8).rd hp ef:=by
 intro m
 induction m with
 | zero=>rfl
 | succ m ih =>
  show QM G 19 hp0.length K Zw L Ws (Zdz _ m) (ZaI Zw ZA hp0) [(0,(fun e hp ef=>k0  hp ef))]=_
  rw [ih]
  kernel_rfl
theorem Jm (G:GT)(K:KT)(L:Nat)(hp0:HP)(k0:HP→Eff→KR)(zn:BQ):QM G 19 hp0.length K Zw L QX zn (ZaI Zw ZA hp0) [(0,(fun e hp ef=>k0  hp ef))]=fun e hp ef=>ZO G K L hp0 k0 L (e 0).rd (e 1).rd (e 7).rd (e 8).rd hp ef:=Jn G K L hp0 k0  L
def YV (G:GT)(K:KT)(L:Nat)(x0 x1:AV)(hp0:HP):KR :=
 Xt (Xk hp0 .slice (AV.ro x0)) fun v0 =>
 ZO G K L hp0 (Yo G K L hp0) L (AV.ro x0) (AV.ro x1) v0 (.int .i64 0) hp0 none
theorem U2 (G:GT)(K:KT)(L:Nat)(x0 x1:AV)(hp0:HP):fnK G K Zw L ZA [x0,x1] hp0=YV G K L x0 x1 hp0:=by
 show QM G 19 hp0.length K Zw L Qb (ZaI Zw ZA hp0) (ZaI Zw ZA hp0) [] (ZpZ [x0,x1]) hp0 none=_
 simp only [Qb,ZbB,Ph,Pi,EZ]
 rw [Jl G K L hp0  ,Jm G K L hp0 (Yo G K L hp0)  _]
 kernel_rfl
theorem Xo {C:Cfg}(h:C.T Y3=some ZA){n:Nat}{x0 x1:AV}{hp:HP}{r:AV×HP×Eff}(hr:YV C.G (Z5 C n) C.L x0 x1 hp=some r):Z5 C (n + 1) Y3 [x0,x1] hp=some r:=ZkM h (Nat.le_of_ble_eq_true rfl) ((U2 ..).trans hr)
def U0:Wn :=
 .seq (.region false [⟨(some 4),.mv (.const (.bool false)),none⟩])
 (.seq (.region false [⟨(some 5),.mv (.tmp 0),none⟩,
   ⟨(some 6),.mv (.tmp 1),none⟩,
   ⟨(some 7),.call (.const (.fn 38 [] [])) [(.inr (.tmp 5)),(.inr (.tmp 6))],none⟩,
   ⟨(some 8),.bin .geq .prim (.tmp 7) (.const (.int .i64 0)),none⟩,
   ⟨(some 4),.take 8,none⟩])
  (.ret))
def Wq:AFn:=⟨9,[.tmp 4],U0,false⟩
theorem Qg:QV=Wq:=by kernel_rfl
def Y9 (G:GT)(K:KT)(L:Nat)(x0 x1:AV)(hp0:HP):KR :=
 MX (K Y3 [(AV.ro x0),(AV.ro x1)] hp0) fun v0 h1 f2 =>
 Xt (ZI .geq .prim (AV.ro v0) (.int .i64 0)) fun v3 =>
 some (Zal false hp0 v3 h1 (Dz hp0.length none f2))
theorem Jk (G:GT)(K:KT)(L:Nat)(x0 x1:AV)(hp0:HP):fnK G K U4 L Wq [x0,x1] hp0=Y9 G K L x0 x1 hp0:=by
 kernel_rfl
theorem Q5 {C:Cfg}(h:C.T Ym=some Wq){n:Nat}{x0 x1:AV}{hp:HP}{r:AV×HP×Eff}(hr:Y9 C.G (Z5 C n) C.L x0 x1 hp=some r):Z5 C (n + 1) Ym [x0,x1] hp=some r:=ZkM h (Nat.le_of_ble_eq_true rfl) ((Jk ..).trans hr)
def Xx:Wn :=
 .seq (.region false [⟨(some 24),.bin .lss .prim (.tmp 23) (.tmp 22),none⟩])
 (.seq (.cond (.tmp 24) (.skip)
  (.exit 0))
  (.seq (.block 1 (.seq (.region false [⟨(some 25),.ia (.slice 1) (.tmp 21) (.tmp 23),none⟩,
     ⟨(some 26),.ldc (.tmp 25),none⟩,
     ⟨(some 9),.take 26,none⟩])
   (.seq (.seq (.region false [⟨(some 27),.mv (.tmp 9),none⟩,
      ⟨(some 28),.bin .lss .prim (.tmp 27) (.const (.int .i64 0)),none⟩,
      ⟨(some 29),.mv (.tmp 28),none⟩,
      ⟨(some 30),.mv (.tmp 9),(some (29,false))⟩,
      ⟨(some 31),.bin .geq .prim (.tmp 30) (.const (.int .i64 16)),(some (29,false))⟩,
      ⟨(some 32),.pick (.tmp 29) (.const (.bool true)) (.tmp 31),none⟩])
    (.cond (.tmp 32) (.seq (.region false [⟨(some 4),.mv (.const (.int .i64 2)),none⟩])
     (.ret))
     (.skip)))
    (.seq (.region false [⟨(some 33),.mv (.tmp 9),none⟩,
      ⟨(some 34),.ia (.arr 16 1) (.tmp 6) (.tmp 33),none⟩,
      ⟨(some 35),.ldc (.tmp 34),none⟩,
      ⟨(some 36),.un .not (.tmp 35),none⟩])
    (.cond (.tmp 36) (.seq (.region false [⟨(some 37),.mv (.tmp 9),none⟩,
       ⟨(some 38),.ia (.arr 16 1) (.tmp 6) (.tmp 37),none⟩,
       ⟨none,.st 1 (.tmp 38) (.const (.bool true)),none⟩])
     (.region false [⟨(some 39),.mv (.tmp 7),none⟩,
       ⟨(some 40),.bin .add .prim (.tmp 39) (.const (.int .i64 1)),none⟩,
       ⟨(some 7),.take 40,none⟩]))
     (.skip))))))
  (.region false [⟨(some 41),.bin .add .prim (.tmp 23) (.const (.int .i64 1)),none⟩,
    ⟨(some 23),.mv (.tmp 41),none⟩])))
def UH:Wn:=.loop Xx
def UG:Wn :=
 .seq (.seq (.region false [⟨(some 42),.mv (.tmp 7),none⟩,
   ⟨(some 43),.slice (.arr 16 1) (.tmp 6) none (some (.tmp 42)),none⟩,
   ⟨(some 44),.call (.const (.fn 26 [] [])) [(.inr (.tmp 43)),(.inr (.const (.bool false)))],none⟩])
  (.cond (.tmp 44) (.seq (.region false [⟨(some 4),.mv (.const (.int .i64 12)),none⟩])
   (.ret))
  (.skip)))
 (.seq (.region false [⟨(some 4),.mv (.const (.int .i64 0)),none⟩])
  (.ret))
def Jz:Wn :=
 .seq (.region false [⟨(some 2),.box 25 3 (.tmp 0),none⟩,
   ⟨(some 4),.mv (.const (.int .i64 0)),none⟩])
 (.seq (.seq (.region false [⟨(some 10),.lda 3 (.tmp 2),none⟩,
    ⟨(some 11),.call (.const (.fn 25 [] [])) [(.inr (.tmp 10))],none⟩,
    ⟨(some 5),.take 11,none⟩])
  (.seq (.region false [⟨(some 12),.mv (.tmp 5),none⟩,
    ⟨(some 13),.bin .neq .prim (.tmp 12) (.const (.int .i64 0)),none⟩])
   (.cond (.tmp 13) (.seq (.region false [⟨(some 14),.take 5,none⟩,
     ⟨(some 4),.take 14,none⟩])
    (.ret))
   (.skip))))
  (.seq (.seq (.region false [⟨(some 15),.mv (.tmp 1),none⟩,
    ⟨(some 16),.len .slice (.tmp 15),none⟩,
    ⟨(some 17),.fa 1 (.tmp 2),none⟩,
    ⟨(some 18),.ldc (.tmp 17),none⟩,
    ⟨(some 19),.len .slice (.tmp 18),none⟩,
    ⟨(some 20),.bin .neq .prim (.tmp 16) (.tmp 19),none⟩])
   (.cond (.tmp 20) (.seq (.region false [⟨(some 4),.mv (.const (.int .i64 8)),none⟩])
    (.ret))
   (.skip)))
  (.seq (.region false [⟨(some 6),.mk 48 [(.bool false),(.bool false),(.bool false),(.bool false),(.bool false),(.bool false),(.bool false),(.bool false),(.bool false),(.bool false),(.bool false),(.bool false),(.bool false),(.bool false),(.bool false),(.bool false)],none⟩])
   (.seq (.region false [⟨(some 7),.mv (.const (.int .i64 0)),none⟩])
   (.seq (.seq (.region false [⟨(some 21),.mv (.tmp 1),none⟩,
      ⟨(some 22),.len .slice (.tmp 21),none⟩,
      ⟨(some 23),.mv (.const (.int .i64 0)),none⟩])
    (.block 0 (UH)))
    UG)))))
def Yg:AFn:=⟨45,[.tmp 4],Jz,false⟩
theorem LG:IE=Yg:=by kernel_rfl
def YR (G:GT)(K:KT)(L:Nat)(hp0:HP)(x6:AV)(x7:AV)(hp:HP)(ef:Eff):KR :=
 Xt (Vj (.arr 16 1) x6 none (some x7)) fun v13 =>
 MX (K Ym [v13,(.bool false)] hp) fun v14 h15 f16 =>
 ifK (AV.ro v14)
 (some (Zal false hp0 (.int .i64 12) h15 (Dz hp0.length ef f16)))
 (some (Zal false hp0 (.int .i64 0) h15 (Dz hp0.length ef f16)))
theorem Ox (G:GT)(K:KT)(L:Nat)(hp0:HP)   : QM G 45 hp0.length K ZU L UG (ZaI ZU Yg hp0) (ZaI ZU Yg hp0) []=fun e hp ef=>YR G K L hp0  (e 6).rd (e 7).rd hp ef:=by
 kernel_rfl
def Y4 (G:GT)(K:KT)(L:Nat)(hp0:HP)(k0:AV→AV→HP→Eff→KR):Nat→AV→AV→AV→AV→AV→HP→Eff→KR
 | 0,_,_,_,_,_,_,_=>none
 | m + 1,x6,x7,x21,x22,x23,hp,ef =>
  Xt (ZI .lss .prim x23 x22) fun v18 =>
  ifK v18
  (Xt (GU (.slice 1) x21 x23) fun v19 =>
  Xt (QH hp v19) fun v20 =>
  Xt (ZI .lss .prim v20 (.int .i64 0)) fun v21 =>
  Zer v21 false
  (Xt (ZI .geq .prim v20 (.int .i64 16)) fun v22 =>
  some (v22,hp,ef))
  (some (.bool true)) hp ef fun v23 h24 f25 =>
  ifK (AV.ro v23)
  (some (Zal false hp0 (.int .i64 2) h24 f25))
  (Xt (GU (.arr 16 1) x6 v20) fun v26 =>
  Xt (QH h24 v26) fun v27 =>
  Xt (Za4 .not v27) fun v28 =>
  ifK v28
  (Xt (GU (.arr 16 1) x6 v20) fun v29 =>
  Zhi (stV hp0.length 1 v29 (.bool true) h24 f25) fun h30 f31 =>
  Xt (ZI .add .prim x7 (.int .i64 1)) fun v32 =>
  Xt (ZI .add .prim x23 (.int .i64 1)) fun v33 =>
  Y4 G K L hp0 k0 m x6 v32 x21 x22 v33 h30 f31)
  (Xt (ZI .add .prim x23 (.int .i64 1)) fun v34 =>
  Y4 G K L hp0 k0 m x6 x7 x21 x22 v34 h24 f25)))
  (k0 x6 x7 hp ef)
theorem Oz (G:GT)(K:KT)(L:Nat)(hp0:HP)(k0:AV→AV→HP→Eff→KR)  : ∀ m,Zdz (fun n'=>QM G 45 hp0.length K ZU L Xx n' (ZaI ZU Yg hp0) [(0,(fun e hp ef=>k0 (e 6).rd (e 7).rd hp ef))]) m=fun e hp ef=>Y4 G K L hp0 k0 m (e 6).rd (e 7).rd (e 21).rd (e 22).rd (e 23).rd hp ef:=by
 intro m
 induction m with
 | zero=>rfl
 | succ m ih =>
  show QM G 45 hp0.length K ZU L Xx (Zdz _ m) (ZaI ZU Yg hp0) [(0,(fun e hp ef=>k0 (e 6).rd (e 7).rd hp ef))]=_
  rw [ih]
  kernel_rfl
theorem Oy (G:GT)(K:KT)(L:Nat)(hp0:HP)(k0:AV→AV→HP→Eff→KR)(zn:BQ):QM G 45 hp0.length K ZU L UH zn (ZaI ZU Yg hp0) [(0,(fun e hp ef=>k0 (e 6).rd (e 7).rd hp ef))]=fun e hp ef=>Y4 G K L hp0 k0 L (e 6).rd (e 7).rd (e 21).rd (e 22).rd (e 23).rd hp ef:=Oz G K L hp0 k0  L
def J3 (G:GT)(K:KT)(L:Nat)(x0 x1:AV)(hp0:HP):KR :=
 Xt (ZsU 3 (AV.ro x0)) fun v1 =>
 ZuX (hp0 ++ [.cells v1 WQ]) fun h0 =>
 Xt (VB h0 3 (.ptr (hp0).length 0)) fun v2 =>
 MX (K V5 [v2] h0) fun v3 h4 f5 =>
 Xt (ZI .neq .prim (AV.ro v3) (.int .i64 0)) fun v6 =>
 ifK v6
 (some (Zal false hp0 v3 h4 (Dz hp0.length none f5)))
 (Xt (Xk h4 .slice (AV.ro x1)) fun v7 =>
 Xt (NZ 1 (.ptr (hp0).length 0)) fun v8 =>
 Xt (QH h4 v8) fun v9 =>
 Xt (Xk h4 .slice v9) fun v10 =>
 Xt (ZI .neq .prim v7 v10) fun v11 =>
 ifK v11
 (some (Zal false hp0 (.int .i64 8) h4 (Dz hp0.length none f5)))
 (ZuX (h4 ++ [.cells [(.bool false),(.bool false),(.bool false),(.bool false),(.bool false),(.bool false),(.bool false),(.bool false),(.bool false),(.bool false),(.bool false),(.bool false),(.bool false),(.bool false),(.bool false),(.bool false)] ZcR]) fun h12 =>
 Xt (Xk h12 .slice (AV.ro x1)) fun v17 =>
 Y4 G K L hp0 (YR G K L hp0) L (.ptr (h4).length 0) (.int .i64 0) (AV.ro x1) v17 (.int .i64 0) h12 (Dz hp0.length none f5)))
theorem BK (G:GT)(K:KT)(L:Nat)(x0 x1:AV)(hp0:HP):fnK G K ZU L Yg [x0,x1] hp0=J3 G K L x0 x1 hp0:=by
 show QM G 45 hp0.length K ZU L Jz (ZaI ZU Yg hp0) (ZaI ZU Yg hp0) [] (ZpZ [x0,x1]) hp0 none=_
 simp only [Jz,ZbB,Ph,Pi,EZ]
 rw [Ox G K L hp0  ,Oy G K L hp0 (YR G K L hp0)  _]
 kernel_rfl
theorem PH {C:Cfg}(h:C.T X9=some Yg){n:Nat}{x0 x1:AV}{hp:HP}{r:AV×HP×Eff}(hr:J3 C.G (Z5 C n) C.L x0 x1 hp=some r):Z5 C (n + 1) X9 [x0,x1] hp=some r:=ZkM h (Nat.le_of_ble_eq_true rfl) ((BK ..).trans hr)
def XO:Wn :=
 .seq (.region false [⟨(some 28),.bin .lss .prim (.tmp 27) (.tmp 26),none⟩])
 (.seq (.cond (.tmp 28) (.skip)
  (.exit 0))
  (.seq (.block 1 (.seq (.region false [⟨(some 29),.mv (.tmp 27),none⟩,
     ⟨(some 7),.take 29,none⟩])
   (.region false [⟨(some 30),.mv (.tmp 6),none⟩,
     ⟨(some 31),.mv (.tmp 7),none⟩,
     ⟨(some 32),.mv (.tmp 7),none⟩,
     ⟨(some 33),.mv (.tmp 1),none⟩,
     ⟨(some 34),.bin .mul .prim (.tmp 32) (.tmp 33),none⟩,
     ⟨(some 35),.mv (.tmp 0),none⟩,
     ⟨(some 36),.bin .quo .prim (.tmp 34) (.tmp 35),none⟩,
     ⟨(some 37),.ia (.slice 1) (.tmp 30) (.tmp 31),none⟩,
     ⟨none,.stt (.tmp 37) 36,none⟩])))
  (.region false [⟨(some 38),.bin .add .prim (.tmp 27) (.const (.int .i64 1)),none⟩,
    ⟨(some 27),.mv (.tmp 38),none⟩])))
def Gg:Wn:=.loop XO
def Gf:Wn :=
 .seq (.region false [⟨(some 39),.take 6,none⟩,
   ⟨(some 4),.take 39,none⟩,
   ⟨(some 5),.mv (.const (.int .i64 0)),none⟩])
 (.ret)
def Uz:Wn :=
 .seq (.region false [⟨(some 4),.mv (.const (.own 1 [])),none⟩,
   ⟨(some 5),.mv (.const (.int .i64 0)),none⟩])
 (.seq (.seq (.region false [⟨(some 8),.mv (.tmp 0),none⟩,
    ⟨(some 9),.bin .lss .prim (.tmp 8) (.const (.int .i64 1)),none⟩,
    ⟨(some 10),.mv (.tmp 9),none⟩,
    ⟨(some 11),.mv (.tmp 0),(some (10,false))⟩,
    ⟨(some 12),.bin .gtr .prim (.tmp 11) (.const (.int .i64 16)),(some (10,false))⟩,
    ⟨(some 13),.pick (.tmp 10) (.const (.bool true)) (.tmp 12),none⟩,
    ⟨(some 14),.mv (.tmp 13),none⟩,
    ⟨(some 15),.mv (.tmp 1),(some (14,false))⟩,
    ⟨(some 16),.bin .lss .prim (.tmp 15) (.const (.int .i64 1)),(some (14,false))⟩,
    ⟨(some 17),.pick (.tmp 14) (.const (.bool true)) (.tmp 16),none⟩,
    ⟨(some 18),.mv (.tmp 17),none⟩,
    ⟨(some 19),.mv (.tmp 1),(some (18,false))⟩,
    ⟨(some 20),.mv (.tmp 0),(some (18,false))⟩,
    ⟨(some 21),.bin .gtr .prim (.tmp 19) (.tmp 20),(some (18,false))⟩,
    ⟨(some 22),.pick (.tmp 18) (.const (.bool true)) (.tmp 21),none⟩])
  (.cond (.tmp 22) (.seq (.region false [⟨(some 4),.mv (.const (.own 1 [])),none⟩,
     ⟨(some 5),.mv (.const (.int .i64 2)),none⟩])
   (.ret))
   (.skip)))
  (.seq (.region false [⟨(some 23),.mv (.tmp 0),none⟩,
    ⟨(some 24),.mksl 3 [(.int .i64 0)] (.tmp 23),none⟩,
    ⟨(some 6),.take 24,none⟩])
  (.seq (.seq (.region false [⟨(some 25),.mv (.tmp 6),none⟩,
     ⟨(some 26),.len .slice (.tmp 25),none⟩,
     ⟨(some 27),.mv (.const (.int .i64 0)),none⟩])
   (.block 0 (Gg)))
   Gf)))
def Yt:AFn:=⟨40,[.tmp 4,.tmp 5],Uz,false⟩
theorem BH:TR=Yt:=by kernel_rfl
def WT (G:GT)(K:KT)(L:Nat)(hp0:HP)(y6:AV)(hp:HP)(ef:Eff):KR :=
 some (Zal false hp0 (.tup [(AV.nm y6),(AV.nm (.int .i64 0))]) hp ef)
theorem MN (G:GT)(K:KT)(L:Nat)(hp0:HP)   : QM G 40 hp0.length K ZZ L Gf (ZaI ZZ Yt hp0) (ZaI ZZ Yt hp0) []=fun e hp ef=>WT G K L hp0  (e 6).val hp ef:=by
 kernel_rfl
def We (G:GT)(K:KT)(L:Nat)(hp0:HP)(k0:AV→HP→Eff→KR):Nat→AV→AV→AV→AV→AV→AV→HP→Eff→KR
 | 0,_,_,_,_,_,_,_,_=>none
 | m + 1,x0,x1,x6,y6,x26,x27,hp,ef =>
  Xt (ZI .lss .prim x27 x26) fun v16 =>
  ifK v16
  (Xt (ZI .mul .prim x27 x1) fun v17 =>
  Xt (ZI .quo .prim v17 x0) fun v18 =>
  Xt (GU (.slice 1) x6 x27) fun v19 =>
  Zhi (Zxr hp0.length v19 v18 hp ef) fun h20 f21 =>
  Xt (ZI .add .prim x27 (.int .i64 1)) fun v22 =>
  We G K L hp0 k0 m x0 x1 x6 y6 x26 v22 h20 f21)
  (k0 y6 hp ef)
theorem MP (G:GT)(K:KT)(L:Nat)(hp0:HP)(k0:AV→HP→Eff→KR)  : ∀ m,Zdz (fun n'=>QM G 40 hp0.length K ZZ L XO n' (ZaI ZZ Yt hp0) [(0,(fun e hp ef=>k0 (e 6).val hp ef))]) m=fun e hp ef=>We G K L hp0 k0 m (e 0).rd (e 1).rd (e 6).rd (e 6).val (e 26).rd (e 27).rd hp ef:=by
 intro m
 induction m with
 | zero=>rfl
 | succ m ih =>
  show QM G 40 hp0.length K ZZ L XO (Zdz _ m) (ZaI ZZ Yt hp0) [(0,(fun e hp ef=>k0 (e 6).val hp ef))]=_
  rw [ih]
  kernel_rfl
theorem MO (G:GT)(K:KT)(L:Nat)(hp0:HP)(k0:AV→HP→Eff→KR)(zn:BQ):QM G 40 hp0.length K ZZ L Gg zn (ZaI ZZ Yt hp0) [(0,(fun e hp ef=>k0 (e 6).val hp ef))]=fun e hp ef=>We G K L hp0 k0 L (e 0).rd (e 1).rd (e 6).rd (e 6).val (e 26).rd (e 27).rd hp ef:=MP G K L hp0 k0  L
def Vf (G:GT)(K:KT)(L:Nat)(x0 x1:AV)(hp0:HP):KR :=
 Xt (ZI .lss .prim (AV.ro x0) (.int .i64 1)) fun v0 =>
 Zer v0 false
 (Xt (ZI .gtr .prim (AV.ro x0) (.int .i64 16)) fun v1 =>
 some (v1,hp0,none))
 (some (.bool true)) hp0 none fun v2 h3 f4 =>
 Zer (AV.ro v2) false
 (Xt (ZI .lss .prim (AV.ro x1) (.int .i64 1)) fun v5 =>
 some (v5,h3,f4))
 (some (.bool true)) h3 f4 fun v6 h7 f8 =>
 Zer (AV.ro v6) false
 (Xt (ZI .gtr .prim (AV.ro x1) (AV.ro x0)) fun v9 =>
 some (v9,h7,f8))
 (some (.bool true)) h7 f8 fun v10 h11 f12 =>
 ifK (AV.ro v10)
 (some (Zal false hp0 (.tup [(AV.nm (.own 1 [])),(AV.nm (.int .i64 2))]) h11 f12))
 (Zhi (Zo9 Zii [(.int .i64 0)] (AV.ro x0) h11) fun v13 h14 =>
 Xt (Xk h14 .slice v13) fun v15 =>
 We G K L hp0 (WT G K L hp0) L (AV.ro x0) (AV.ro x1) v13 v13 v15 (.int .i64 0) h14 f12)
theorem Po (G:GT)(K:KT)(L:Nat)(x0 x1:AV)(hp0:HP):fnK G K ZZ L Yt [x0,x1] hp0=Vf G K L x0 x1 hp0:=by
 show QM G 40 hp0.length K ZZ L Uz (ZaI ZZ Yt hp0) (ZaI ZZ Yt hp0) [] (ZpZ [x0,x1]) hp0 none=_
 simp only [Uz,ZbB,Ph,Pi,EZ]
 rw [MN G K L hp0  ,MO G K L hp0 (WT G K L hp0)  _]
 kernel_rfl
theorem SI {C:Cfg}(h:C.T Ve=some Yt){n:Nat}{x0 x1:AV}{hp:HP}{r:AV×HP×Eff}(hr:Vf C.G (Z5 C n) C.L x0 x1 hp=some r):Z5 C (n + 1) Ve [x0,x1] hp=some r:=ZkM h (Nat.le_of_ble_eq_true rfl) ((Po ..).trans hr)
end Go.Proofs.YtgjcjbhhhlelnaaGreatDoor
end
section
namespace Go.Proofs.YtgjcjbhhhlelnaaGreatDoor
open Go Go.Proofs.YtgjcjbhhhlelnaaGreatDoor.Abs Go.Proofs.YtgjcjbhhhlelnaaGreatDoor.Tl
set_option maxRecDepth 100000
def Hm:List Iq:=[⟨[],0,0,false,false,false,false,false,false⟩,⟨[115,108,111,116],1,0,false,true,false,false,false,false⟩,⟨[118,97,114],2,0,false,true,false,false,false,false⟩,⟨[100,114,97,119],1,3,false,false,false,false,true,false⟩,⟨[106,117,109,112],4,0,false,false,false,false,false,false⟩,⟨[98,114,97,110,99,104],4,0,false,true,false,false,false,false⟩,⟨[104,111,108,100],0,0,false,true,false,false,false,false⟩,⟨[115,101,105,122,101],5,0,false,true,true,false,false,true⟩,⟨[114,101,108,101,97,115,101],5,0,false,true,false,false,false,false⟩,⟨[112,117,116],6,0,false,true,false,false,false,false⟩,⟨[103,101,116],6,1,false,false,false,false,false,false⟩,⟨[114,105,100,101],7,0,false,false,false,false,false,false⟩,⟨[119,97,105,116],8,0,false,false,false,false,false,false⟩,⟨[115,105,103,110,97,108],8,0,false,true,false,false,false,false⟩,⟨[115,101,110,100],9,10,true,true,false,true,false,false⟩,⟨[115,112,97,119,110],0,10,false,true,false,true,false,false⟩,⟨[111,98,115,101,114,118,101],11,0,false,true,false,false,false,false⟩,⟨[108,101,118,101,108],12,0,false,true,false,false,false,false⟩,⟨[99,111,117,110,116],13,0,false,true,false,false,false,false⟩,⟨[101,110,100],0,0,false,false,false,false,false,false⟩]
def tG:Nat→Option (List (TV tT)):=fun g=>match g with
 | 0=>some [.lst 9 (.row 22) Hm]
 | _=>none
def GF:Nat→Option (List AV):=fun g=>if g=0 then some [.lst 9 (Hm.map ZmE)] else none
theorem ZyN:GR tG GF:=fun g c h=>by
 match g,h with
 | 0,h=>cases h; exact ⟨_,rfl,.one _ _ (VR.lst (T := tT) 9 (.row 22) Hm _ rfl) rfl [] [] .nil⟩
 | _ + 1,h=>cases h
noncomputable def cT (f:FuncId):Option AFn:=(tab.find? (·.1 == f)).map (·.2)
structure St (C:Cfg)(L:Nat):Prop where
 L:C.L=L + 64
 G:GR tG C.G
 T:∀ f a,cT f=some a→C.T f=some a
 grow:∀ (m:Nat) (n:Int) (hp:List Zl),0≤n→n≤100000→Z5 C (m + 1) 171 [.own 2 [],.int .i64 n] hp=some (.own 2 [],hp,none)
 awake:∀ (m:Nat) (hp:List Zl),Z5 C (m + 1) 10 [] hp=some (.bool true,hp,none)
def Zq6 (l:List WB)(n:Int):Option (List WB):=if l.length=0∧0≤n∧n≤100000 then some [] else none
def ZsG:Sum tT:=⟨171,[.own 2 (.row 7),.int .i64],fun x=>.par _ (Zq6 x.1 x.2.1) (SD.tv tT (.own 2 (.row 7)))⟩
def ZpC:Sum tT:=⟨10,[],fun _=>.tot (.av (.bool true))⟩
theorem Zxo {C:Cfg}{L:Nat}(h:St C L):Jj C ZsG:=fun x hp avs hv y hy=>by
 obtain ⟨(l:List WB),(n:Int),u⟩:=x
 change (if l.length=0∧0≤n∧n≤100000 then some [] else none)=some y at hy
 split at hy
 ·rename_i hc
  cases hy
  obtain rfl:=List.eq_nil_of_length_eq_zero hc.1
  cases hv with
  | cons _ a h1 _ _ h2=>cases h2 with
   | cons _ b h3 _ _ h4=>cases h4 with
    | nil =>
     cases h1 with | own _ _ _ =>
     have:=VR.int h3; subst this
     exact ⟨.own 2 [],fun ad=>.own 2 (.row 7) [],1,fun m hm=>by
      obtain ⟨k,rfl⟩:∃ k,m=k + 1:=⟨m - 1,by omega⟩
      exact h.grow k n hp hc.2.1 hc.2.2⟩
 ·cases hy
theorem ZuA {C:Cfg}{L:Nat}(h:St C L):Jj C ZpC:=fun x hp avs hv=>by
 cases hv with
 | nil=>exact ⟨.bool true,fun ad=>.av _ _ (.inl rfl),1,fun m hm=>by
   obtain ⟨k,rfl⟩:∃ k,m=k + 1:=⟨m - 1,by omega⟩
   exact h.awake k hp⟩
@[reducible] noncomputable def fT (S:List (Sum tT))(L:Nat)(a:AFn)(A:List LN)(d:RD)(g:List SD)(x:RTy tT g):Option (d.Ty tT):=fnT tF tG (qOf tF S) 0 L a A d (tvL tT g x) []
@[reducible] noncomputable def fI (S:List (Sum tT))(L:Nat)(I:List (Inl tT))(a:AFn)(A:List LN)(d:RD)(g:List SD)(x:RTy tT g):Option (d.Ty tT):=fnT tF tG (Zie tF tG (qOf tF S) L I 8) 0 L a A d (tvL tT g x) []
@[reducible] noncomputable def mU (f:FuncId)(g:List SD)(d:RD)(y:RTy tT g→Option (d.Ty tT)):Sum tT:=⟨f,g,fun x=>.par (d.Ty tT) (y x) (d.tv tT)⟩
abbrev SX (u:Nat→Sum tT):Prop:=∀ {C:Cfg} {L:Nat},St C L→Jj C (u L)
theorem sT {C:Cfg}{L:Nat}(h:St C L){S:List (Sum tT)}(hS:∀ s ∈ S,Jj C s){f:FuncId}{g:List SD}{d:RD}{a:AFn}{A:List LN}{y:RTy tT g→Option (d.Ty tT)}(hT:cT f=some a)(hk:a.keep=false)(hy:∀ x,y x=fT S L a A d g x):Jj C (mU f g d y) :=
 Xg Q7 h.L h.G (VT Q7 hS) A (h.T _ _ hT) hk fun x=>(hy x).symm
theorem sI {C:Cfg}{L:Nat}(h:St C L){S:List (Sum tT)}(hS:∀ s ∈ S,Jj C s){I:List (Inl tT)}(hI:∀ i ∈ I,C.T i.f=some i.fn∧i.fn.keep=false){f:FuncId}{g:List SD}{d:RD}{a:AFn}{A:List LN}{y:RTy tT g→Option (d.Ty tT)}(hT:cT f=some a)(hk:a.keep=false)(hy:∀ x,y x=fI S L I a A d g x):Jj C (mU f g d y) :=
 Xg Q7 h.L h.G (Eg Q7 h.L h.G (VT Q7 hS) hI 8) A (h.T _ _ hT) hk fun x=>(hy x).symm
end Go.Proofs.YtgjcjbhhhlelnaaGreatDoor
end
