import Derived.Test.YthkdlifcknpadaaGreatHSh12
set_option linter.all false
section
namespace Go.Proofs.YthkdlifcknpadaaGreat
open Go Go.Proofs.YthkdlifcknpadaaGreat.Abs
set_option maxRecDepth 100000
set_option maxHeartbeats 0
abbrev JS:FuncId:=4
def Qz:Wh :=
 .seq (.seq (.region false [⟨(some 88),.mv (.tmp 11),none⟩,
   ⟨(some 89),.fa 3 (.tmp 2),none⟩,
   ⟨(some 90),.ldc (.tmp 89),none⟩,
   ⟨(some 91),.len .slice (.tmp 90),none⟩,
   ⟨(some 92),.bin .lss .prim (.tmp 88) (.tmp 91),none⟩,
   ⟨(some 93),.mv (.tmp 92),none⟩,
   ⟨(some 94),.mv (.tmp 9),(some (93,true))⟩,
   ⟨(some 95),.bin .gtr .prim (.tmp 94) (.const (.int .i64 0)),(some (93,true))⟩,
   ⟨(some 96),.pick (.tmp 93) (.tmp 95) (.const (.bool false)),none⟩])
  (.cond (.tmp 96) (.skip)
  (.exit 0)))
 (.seq (.block 1 (.seq (.region true [⟨(some 99),.fa 3 (.tmp 2),none⟩,
    ⟨(some 100),.ldc (.tmp 99),none⟩,
    ⟨(some 101),.mv (.tmp 11),none⟩,
    ⟨(some 102),.ia (.slice 3) (.tmp 100) (.tmp 101),none⟩,
    ⟨(some 103),.fa 0 (.tmp 102),none⟩,
    ⟨(some 104),.ldc (.tmp 103),none⟩,
    ⟨(some 105),.fa 2 (.tmp 2),none⟩,
    ⟨(some 106),.ldc (.tmp 105),none⟩,
    ⟨(some 107),.mv (.tmp 9),none⟩,
    ⟨(some 108),.ia (.slice 13) (.tmp 106) (.tmp 107),none⟩,
    ⟨(some 109),.fa 0 (.tmp 108),none⟩,
    ⟨(some 110),.ldc (.tmp 109),none⟩,
    ⟨(some 111),.bin .eql .prim (.tmp 104) (.tmp 110),none⟩,
    ⟨(some 112),.mv (.tmp 111),none⟩,
    ⟨(some 113),.fa 3 (.tmp 2),(some (112,false))⟩,
    ⟨(some 114),.ldc (.tmp 113),(some (112,false))⟩,
    ⟨(some 115),.mv (.tmp 11),(some (112,false))⟩,
    ⟨(some 116),.ia (.slice 3) (.tmp 114) (.tmp 115),(some (112,false))⟩,
    ⟨(some 117),.fa 1 (.tmp 116),(some (112,false))⟩,
    ⟨(some 118),.ldc (.tmp 117),(some (112,false))⟩,
    ⟨(some 119),.fa 2 (.tmp 2),(some (112,false))⟩,
    ⟨(some 120),.ldc (.tmp 119),(some (112,false))⟩,
    ⟨(some 121),.mv (.tmp 9),(some (112,false))⟩,
    ⟨(some 122),.ia (.slice 13) (.tmp 120) (.tmp 121),(some (112,false))⟩,
    ⟨(some 123),.fa 0 (.tmp 122),(some (112,false))⟩,
    ⟨(some 124),.ldc (.tmp 123),(some (112,false))⟩,
    ⟨(some 125),.bin .eql .prim (.tmp 118) (.tmp 124),(some (112,false))⟩,
    ⟨(some 126),.pick (.tmp 112) (.const (.bool true)) (.tmp 125),none⟩])
   (.cond (.tmp 126) (.region false [⟨(some 10),.mv (.const (.int .i64 5)),none⟩])
   (.skip))))
  (.region false [⟨(some 97),.mv (.tmp 11),none⟩,
   ⟨(some 98),.bin .add .prim (.tmp 97) (.const (.int .i64 1)),none⟩,
   ⟨(some 11),.take 98,none⟩]))
def V7:Wh:=.loop Qz
def V6:Wh :=
 .seq (.region false [⟨(some 127),.lda 4 (.tmp 2),none⟩,
   ⟨(some 12),.mk 26 [(.str []),(.own 3 []),(.own 13 []),(.own 3 [])],none⟩,
   ⟨none,.st 4 (.tmp 12) (.tmp 127),none⟩])
 (.seq (.region false [⟨(some 128),.fa 2 (.tmp 2),none⟩,
   ⟨(some 129),.ldc (.tmp 128),none⟩,
   ⟨(some 130),.mv (.tmp 9),none⟩,
   ⟨(some 131),.slice (.slice 13) (.tmp 129) none (some (.tmp 130)),none⟩,
   ⟨(some 132),.fa 2 (.tmp 12),none⟩,
   ⟨none,.stt (.tmp 132) 131,none⟩])
  (.seq (.region false [⟨(some 133),.lda 4 (.tmp 12),none⟩,
    ⟨(some 134),.call (.const (.fn 7 [] [])) [(.inr (.tmp 133))],none⟩,
    ⟨(some 135),.mv (.tmp 10),none⟩,
    ⟨(some 136),.bin .eql .prim (.tmp 134) (.tmp 135),none⟩,
    ⟨(some 137),.mv (.tmp 136),none⟩,
    ⟨(some 138),.call (.const (.fn 6 [] [])) [],(some (137,true))⟩,
    ⟨(some 139),.pick (.tmp 137) (.tmp 138) (.const (.bool false)),none⟩,
    ⟨(some 4),.take 139,none⟩])
  (.ret)))
def QK:Wh :=
 .seq (.seq (.region false [⟨(some 11),.mv (.const (.int .i64 0)),none⟩])
  (.block 0 (V7)))
 V6
def YJ:Wh :=
 .seq (.region false [⟨(some 82),.fa 2 (.tmp 2),none⟩,
   ⟨(some 83),.ldc (.tmp 82),none⟩,
   ⟨(some 84),.len .slice (.tmp 83),none⟩,
   ⟨(some 85),.bin .sub .prim (.tmp 84) (.const (.int .i64 1)),none⟩,
   ⟨(some 9),.take 85,none⟩])
 (.seq (.region false [⟨(some 10),.mv (.const (.int .i64 0)),none⟩])
  (.seq (.seq (.region false [⟨(some 86),.mv (.tmp 9),none⟩,
    ⟨(some 87),.bin .eql .prim (.tmp 86) (.const (.int .i64 0)),none⟩])
   (.cond (.tmp 87) (.region false [⟨(some 10),.mv (.const (.int .i64 7)),none⟩])
   (.skip)))
  QK))
def ZU:Wh :=
 .seq (.region false [⟨(some 44),.mv (.tmp 1),none⟩,
   ⟨(some 45),.conv (.int .i64) (.tmp 44),none⟩,
   ⟨(some 46),.fa 2 (.tmp 2),none⟩,
   ⟨(some 47),.ldc (.tmp 46),none⟩,
   ⟨(some 48),.len .slice (.tmp 47),none⟩,
   ⟨(some 49),.bin .rem .prim (.tmp 45) (.tmp 48),none⟩,
   ⟨(some 6),.take 49,none⟩])
 (.seq (.seq (.region false [⟨(some 50),.fa 2 (.tmp 2),none⟩,
    ⟨(some 51),.ldc (.tmp 50),none⟩,
    ⟨(some 52),.mv (.tmp 6),none⟩,
    ⟨(some 53),.ia (.slice 13) (.tmp 51) (.tmp 52),none⟩,
    ⟨(some 54),.fa 12 (.tmp 53),none⟩,
    ⟨(some 55),.ldc (.tmp 54),none⟩,
    ⟨(some 56),.len .slice (.tmp 55),none⟩,
    ⟨(some 7),.take 56,none⟩])
  (.seq (.region false [⟨(some 57),.mv (.tmp 7),none⟩,
    ⟨(some 58),.bin .gtr .prim (.tmp 57) (.const (.int .i64 0)),none⟩])
   (.cond (.tmp 58) (.seq (.region false [⟨(some 59),.lda 4 (.tmp 2),none⟩,
     ⟨(some 8),.mk 26 [(.str []),(.own 3 []),(.own 13 []),(.own 3 [])],none⟩,
     ⟨none,.st 4 (.tmp 8) (.tmp 59),none⟩])
    (.seq (.region false [⟨(some 60),.lit 39 13 [],none⟩,
      ⟨(some 61),.fa 2 (.tmp 2),none⟩,
      ⟨(some 62),.ldc (.tmp 61),none⟩,
      ⟨(some 63),.app 13 304 60 (.tmp 62),none⟩,
      ⟨(some 64),.fa 2 (.tmp 8),none⟩,
      ⟨none,.stt (.tmp 64) 63,none⟩])
    (.seq (.region true [⟨(some 65),.fa 2 (.tmp 8),none⟩,
      ⟨(some 66),.ldc (.tmp 65),none⟩,
      ⟨(some 67),.mv (.tmp 6),none⟩,
      ⟨(some 68),.fa 2 (.tmp 2),none⟩,
      ⟨(some 69),.ldc (.tmp 68),none⟩,
      ⟨(some 70),.mv (.tmp 6),none⟩,
      ⟨(some 71),.ia (.slice 13) (.tmp 69) (.tmp 70),none⟩,
      ⟨(some 72),.fa 12 (.tmp 71),none⟩,
      ⟨(some 73),.ldc (.tmp 72),none⟩,
      ⟨(some 74),.mv (.tmp 7),none⟩,
      ⟨(some 75),.bin .sub .prim (.tmp 74) (.const (.int .i64 1)),none⟩,
      ⟨(some 76),.slice (.slice 3) (.tmp 73) none (some (.tmp 75)),none⟩,
      ⟨(some 77),.ia (.slice 13) (.tmp 66) (.tmp 67),none⟩,
      ⟨(some 78),.fa 12 (.tmp 77),none⟩,
      ⟨none,.stt (.tmp 78) 76,none⟩])
     (.seq (.region false [⟨(some 79),.lda 4 (.tmp 8),none⟩,
       ⟨(some 80),.call (.const (.fn 7 [] [])) [(.inr (.tmp 79))],none⟩,
       ⟨(some 81),.bin .neq .prim (.tmp 80) (.const (.int .i64 0)),none⟩])
     (.cond (.tmp 81) (.seq (.region false [⟨(some 4),.mv (.const (.bool false)),none⟩])
      (.ret))
      (.skip))))))
   (.skip))))
  YJ)
def Y1:Wh :=
 .seq (.region false [⟨(some 2),.box 26 4 (.tmp 0),none⟩,
   ⟨(some 4),.mv (.const (.bool false)),none⟩])
 (.seq (.seq (.region false [⟨(some 13),.lda 4 (.tmp 2),none⟩,
    ⟨(some 14),.call (.const (.fn 5 [] [])) [(.inr (.tmp 13))],none⟩,
    ⟨(some 15),.un .not (.tmp 14),none⟩,
    ⟨(some 16),.mv (.tmp 15),none⟩,
    ⟨(some 17),.lda 4 (.tmp 2),(some (16,false))⟩,
    ⟨(some 18),.call (.const (.fn 7 [] [])) [(.inr (.tmp 17))],(some (16,false))⟩,
    ⟨(some 19),.bin .neq .prim (.tmp 18) (.const (.int .i64 0)),(some (16,false))⟩,
    ⟨(some 20),.pick (.tmp 16) (.const (.bool true)) (.tmp 19),none⟩,
    ⟨(some 21),.mv (.tmp 20),none⟩,
    ⟨(some 22),.fa 2 (.tmp 2),(some (21,false))⟩,
    ⟨(some 23),.ldc (.tmp 22),(some (21,false))⟩,
    ⟨(some 24),.len .slice (.tmp 23),(some (21,false))⟩,
    ⟨(some 25),.bin .eql .prim (.tmp 24) (.const (.int .i64 0)),(some (21,false))⟩,
    ⟨(some 26),.pick (.tmp 21) (.const (.bool true)) (.tmp 25),none⟩])
  (.cond (.tmp 26) (.seq (.region false [⟨(some 27),.call (.const (.fn 6 [] [])) [],none⟩,
     ⟨(some 4),.take 27,none⟩])
   (.ret))
   (.skip)))
  (.seq (.seq (.region false [⟨(some 28),.fa 3 (.tmp 2),none⟩,
    ⟨(some 29),.ldc (.tmp 28),none⟩,
    ⟨(some 30),.len .slice (.tmp 29),none⟩,
    ⟨(some 31),.bin .gtr .prim (.tmp 30) (.const (.int .i64 0)),none⟩])
   (.cond (.tmp 31) (.seq (.region false [⟨(some 32),.lda 4 (.tmp 2),none⟩,
     ⟨(some 5),.mk 26 [(.str []),(.own 3 []),(.own 13 []),(.own 3 [])],none⟩,
     ⟨none,.st 4 (.tmp 5) (.tmp 32),none⟩])
    (.seq (.region false [⟨(some 33),.fa 3 (.tmp 2),none⟩,
      ⟨(some 34),.ldc (.tmp 33),none⟩,
      ⟨(some 35),.fa 3 (.tmp 2),none⟩,
      ⟨(some 36),.ldc (.tmp 35),none⟩,
      ⟨(some 37),.len .slice (.tmp 36),none⟩,
      ⟨(some 38),.bin .sub .prim (.tmp 37) (.const (.int .i64 1)),none⟩,
      ⟨(some 39),.slice (.slice 3) (.tmp 34) none (some (.tmp 38)),none⟩,
      ⟨(some 40),.fa 3 (.tmp 5),none⟩,
      ⟨none,.stt (.tmp 40) 39,none⟩])
    (.seq (.region false [⟨(some 41),.lda 4 (.tmp 5),none⟩,
      ⟨(some 42),.call (.const (.fn 7 [] [])) [(.inr (.tmp 41))],none⟩,
      ⟨(some 43),.bin .neq .prim (.tmp 42) (.const (.int .i64 0)),none⟩])
     (.cond (.tmp 43) (.seq (.region false [⟨(some 4),.mv (.const (.bool false)),none⟩])
      (.ret))
     (.skip)))))
   (.skip)))
  ZU))
def Zo:AFn:=⟨140,[.tmp 4],Y1,false⟩
def Zf:List Nat:=[17,18,19,22,23,24,25,94,95,113,114,115,116,117,118,119,120,121,122,123,124,125,138]
theorem TQ:cFn Tryz.prog takes Tryz.f4=some Zo:=by kernel_rfl
theorem TN:(Tryz.f4.name == "runtime.NumGoroutine")=false:=by kernel_rfl
def YM (G:Nat→Option (List AV))(K:FuncId→List AV→List Zh→KR)(L:Nat)(hp0:List Zh)(x2:AV)(x9:AV)(x10:AV)(hp:List Zh)(ef:Eff):KR :=
 Ye (YA hp 4 x2) fun v34 =>
 Zl4 (hp ++ [.cells [(.str []),(.own 3 []),(.own 13 []),(.own 3 [])] ZG]) fun h35 =>
 Ec (stV hp0.length 4 (.ptr (hp).length 0) v34 h35 ef) fun h36 f37 =>
 Ye (WE 2 x2) fun v38 =>
 Ye (ZN h36 v38) fun v39 =>
 Ye (Xi (.slice 13) v39 none (some x9)) fun v40 =>
 Ye (WE 2 (.ptr (hp).length 0)) fun v41 =>
 Ec (Zlo hp0.length v41 v40 h36 f37) fun h42 f43 =>
 Ye (YA h42 4 (.ptr (hp).length 0)) fun v44 =>
 Ky (K X0 [v44] h42) fun v45 h46 f47 =>
 Ye (ZB .eql .prim (AV.ro v45) x10) fun v48 =>
 Aw v48 true
 (Ky (K G9 [] h46) fun v49 h50 f51 =>
 some ((AV.ro v49),h50,(XP hp0.length (XP hp0.length f43 f47) f51)))
 (some (.bool false)) h46 (XP hp0.length f43 f47) fun v52 h53 f54 =>
 some (Zd7 false hp0 v52 h53 f54)
theorem UW (G:Nat→Option (List AV))(K:FuncId→List AV→List Zh→KR)(L:Nat)(hp0:List Zh)   : Xp G 140 hp0.length K Zf L V6 (Zdb Zf Zo hp0) (Zdb Zf Zo hp0) []=fun e hp ef=>YM G K L hp0  (e 2).rd (e 9).rd (e 10).rd hp ef:=by
 kernel_rfl
def Yj (G:Nat→Option (List AV))(K:FuncId→List AV→List Zh→KR)(L:Nat)(hp0:List Zh)(k0:AV→AV→AV→List Zh→Eff→KR):Nat→AV→AV→AV→AV→List Zh→Eff→KR
 | 0,_,_,_,_,_,_=>none
 | m + 1,x2,x9,x10,x11,hp,ef =>
  Ye (WE 3 x2) fun v55 =>
  Ye (ZN hp v55) fun v56 =>
  Ye (Qh hp .slice v56) fun v57 =>
  Ye (ZB .lss .prim x11 v57) fun v58 =>
  Aw v58 true
  (Ye (ZB .gtr .prim x9 (.int .i64 0)) fun v59 =>
  some (v59,hp,ef))
  (some (.bool false)) hp ef fun v60 h61 f62 =>
  ifK (AV.ro v60)
  (Ye (WE 3 x2) fun v63 =>
  Ye (ZN h61 v63) fun v64 =>
  Ye (Ud (.slice 3) v64 x11) fun v65 =>
  Ye (WE 0 v65) fun v66 =>
  Ye (ZN h61 v66) fun v67 =>
  Ye (WE 2 x2) fun v68 =>
  Ye (ZN h61 v68) fun v69 =>
  Ye (Ud (.slice 13) v69 x9) fun v70 =>
  Ye (WE 0 v70) fun v71 =>
  Ye (ZN h61 v71) fun v72 =>
  Ye (ZB .eql .prim v67 v72) fun v73 =>
  Aw v73 false
  (Ye (WE 3 x2) fun v74 =>
  Ye (ZN h61 v74) fun v75 =>
  Ye (Ud (.slice 3) v75 x11) fun v76 =>
  Ye (WE 1 v76) fun v77 =>
  Ye (ZN h61 v77) fun v78 =>
  Ye (WE 2 x2) fun v79 =>
  Ye (ZN h61 v79) fun v80 =>
  Ye (Ud (.slice 13) v80 x9) fun v81 =>
  Ye (WE 0 v81) fun v82 =>
  Ye (ZN h61 v82) fun v83 =>
  Ye (ZB .eql .prim v78 v83) fun v84 =>
  some (v84,h61,f62))
  (some (.bool true)) h61 f62 fun v85 h86 f87 =>
  ifK (AV.ro v85)
  (Ye (ZB .add .prim x11 (.int .i64 1)) fun v88 =>
  Yj G K L hp0 k0 m x2 x9 (.int .i64 5) v88 h86 f87)
  (Ye (ZB .add .prim x11 (.int .i64 1)) fun v89 =>
  Yj G K L hp0 k0 m x2 x9 x10 v89 h86 f87))
  (k0 x2 x9 x10 h61 f62)
theorem UY (G:Nat→Option (List AV))(K:FuncId→List AV→List Zh→KR)(L:Nat)(hp0:List Zh)(k0:AV→AV→AV→List Zh→Eff→KR)  : ∀ m,ZdI (fun n'=>Xp G 140 hp0.length K Zf L Qz n' (Zdb Zf Zo hp0) [(0,(fun e hp ef=>k0 (e 2).rd (e 9).rd (e 10).rd hp ef))]) m=fun e hp ef=>Yj G K L hp0 k0 m (e 2).rd (e 9).rd (e 10).rd (e 11).rd hp ef:=by
 intro m
 induction m with
 | zero=>rfl
 | succ m ih =>
  show Xp G 140 hp0.length K Zf L Qz (ZdI _ m) (Zdb Zf Zo hp0) [(0,(fun e hp ef=>k0 (e 2).rd (e 9).rd (e 10).rd hp ef))]=_
  rw [ih]
  kernel_rfl
theorem UX (G:Nat→Option (List AV))(K:FuncId→List AV→List Zh→KR)(L:Nat)(hp0:List Zh)(k0:AV→AV→AV→List Zh→Eff→KR)(zn:Lh):Xp G 140 hp0.length K Zf L V7 zn (Zdb Zf Zo hp0) [(0,(fun e hp ef=>k0 (e 2).rd (e 9).rd (e 10).rd hp ef))]=fun e hp ef=>Yj G K L hp0 k0 L (e 2).rd (e 9).rd (e 10).rd (e 11).rd hp ef:=UY G K L hp0 k0  L
def YL (G:Nat→Option (List AV))(K:FuncId→List AV→List Zh→KR)(L:Nat)(hp0:List Zh)(x2:AV)(x9:AV)(x10:AV)(hp:List Zh)(ef:Eff):KR :=
 Yj G K L hp0 (YM G K L hp0) L x2 x9 x10 (.int .i64 0) hp ef
theorem UV (G:Nat→Option (List AV))(K:FuncId→List AV→List Zh→KR)(L:Nat)(hp0:List Zh)   : Xp G 140 hp0.length K Zf L QK (Zdb Zf Zo hp0) (Zdb Zf Zo hp0) []=fun e hp ef=>YL G K L hp0  (e 2).rd (e 9).rd (e 10).rd hp ef:=by
 simp only [QK,UC,Vg,Vh,VV]
 rw [UW G K L hp0  ,UX G K L hp0 (YM G K L hp0)  _]
 kernel_rfl
def YK (G:Nat→Option (List AV))(K:FuncId→List AV→List Zh→KR)(L:Nat)(hp0:List Zh)(x2:AV)(hp:List Zh)(ef:Eff):KR :=
 Ye (WE 2 x2) fun v30 =>
 Ye (ZN hp v30) fun v31 =>
 Ye (Qh hp .slice v31) fun v32 =>
 Ye (ZB .sub .prim v32 (.int .i64 1)) fun v33 =>
 Ye (ZB .eql .prim v33 (.int .i64 0)) fun v90 =>
 ifK v90
 (YL G K L hp0  x2 v33 (.int .i64 7) hp ef)
 (YL G K L hp0  x2 v33 (.int .i64 0) hp ef)
theorem XJ (G:Nat→Option (List AV))(K:FuncId→List AV→List Zh→KR)(L:Nat)(hp0:List Zh)   : Xp G 140 hp0.length K Zf L YJ (Zdb Zf Zo hp0) (Zdb Zf Zo hp0) []=fun e hp ef=>YK G K L hp0  (e 2).rd hp ef:=by
 simp only [YJ,UC,Vg,Vh,VV]
 rw [UV G K L hp0 ]
 kernel_rfl
def QM (G:Nat→Option (List AV))(K:FuncId→List AV→List Zh→KR)(L:Nat)(hp0:List Zh)(x1:AV)(x2:AV)(hp:List Zh)(ef:Eff):KR :=
 Ye (QL hp (.int .i64) x1) fun v25 =>
 Ye (WE 2 x2) fun v26 =>
 Ye (ZN hp v26) fun v27 =>
 Ye (Qh hp .slice v27) fun v28 =>
 Ye (ZB .rem .prim v25 v28) fun v29 =>
 Ye (WE 2 x2) fun v91 =>
 Ye (ZN hp v91) fun v92 =>
 Ye (Ud (.slice 13) v92 v29) fun v93 =>
 Ye (WE 12 v93) fun v94 =>
 Ye (ZN hp v94) fun v95 =>
 Ye (Qh hp .slice v95) fun v96 =>
 Ye (ZB .gtr .prim v96 (.int .i64 0)) fun v97 =>
 ifK v97
 (Ye (YA hp 4 x2) fun v98 =>
 Zl4 (hp ++ [.cells [(.str []),(.own 3 []),(.own 13 []),(.own 3 [])] ZG]) fun h99 =>
 Ec (stV hp0.length 4 (.ptr (hp).length 0) v98 h99 ef) fun h100 f101 =>
 Ec (ZtV CQ 13 [] h100) fun v102 h103 =>
 Ye (WE 2 x2) fun v104 =>
 Ye (ZN h103 v104) fun v105 =>
 Ye (Ztp 13 304 v102 v105 h103) fun v106 =>
 Ye (WE 2 (.ptr (hp).length 0)) fun v107 =>
 Ec (Zlo hp0.length v107 v106 h103 f101) fun h108 f109 =>
 Ye (WE 2 (.ptr (hp).length 0)) fun v110 =>
 Ye (ZN h108 v110) fun v111 =>
 Ye (WE 2 x2) fun v112 =>
 Ye (ZN h108 v112) fun v113 =>
 Ye (Ud (.slice 13) v113 v29) fun v114 =>
 Ye (WE 12 v114) fun v115 =>
 Ye (ZN h108 v115) fun v116 =>
 Ye (ZB .sub .prim v96 (.int .i64 1)) fun v117 =>
 Ye (Xi (.slice 3) v116 none (some v117)) fun v118 =>
 Ye (Ud (.slice 13) v111 v29) fun v119 =>
 Ye (WE 12 v119) fun v120 =>
 Ec (Zlo hp0.length v120 v118 h108 f109) fun h121 f122 =>
 Ye (YA h121 4 (.ptr (hp).length 0)) fun v123 =>
 Ky (K X0 [v123] h121) fun v124 h125 f126 =>
 Ye (ZB .neq .prim (AV.ro v124) (.int .i64 0)) fun v127 =>
 ifK v127
 (some (Zd7 false hp0 (.bool false) h125 (XP hp0.length f122 f126)))
 (YK G K L hp0  x2 h125 (XP hp0.length f122 f126)))
 (YK G K L hp0  x2 hp ef)
theorem UU (G:Nat→Option (List AV))(K:FuncId→List AV→List Zh→KR)(L:Nat)(hp0:List Zh)   : Xp G 140 hp0.length K Zf L ZU (Zdb Zf Zo hp0) (Zdb Zf Zo hp0) []=fun e hp ef=>QM G K L hp0  (e 1).rd (e 2).rd hp ef:=by
 simp only [ZU,UC,Vg,Vh,VV]
 rw [XJ G K L hp0 ]
 kernel_rfl
def Qw (G:Nat→Option (List AV))(K:FuncId→List AV→List Zh→KR)(L:Nat)(x0 x1:AV)(hp0:List Zh):KR :=
 Ye (Zl2 4 (AV.ro x0)) fun v1 =>
 Zl4 (hp0 ++ [.cells v1 ZG]) fun h0 =>
 Ye (YA h0 4 (.ptr (hp0).length 0)) fun v2 =>
 Ky (K RQ [v2] h0) fun v3 h4 f5 =>
 Ye (PK .not (AV.ro v3)) fun v6 =>
 Aw v6 false
 (Ye (YA h4 4 (.ptr (hp0).length 0)) fun v7 =>
 Ky (K X0 [v7] h4) fun v8 h9 f10 =>
 Ye (ZB .neq .prim (AV.ro v8) (.int .i64 0)) fun v11 =>
 some (v11,h9,(XP hp0.length (XP hp0.length none f5) f10)))
 (some (.bool true)) h4 (XP hp0.length none f5) fun v12 h13 f14 =>
 Aw (AV.ro v12) false
 (Ye (WE 2 (.ptr (hp0).length 0)) fun v15 =>
 Ye (ZN h13 v15) fun v16 =>
 Ye (Qh h13 .slice v16) fun v17 =>
 Ye (ZB .eql .prim v17 (.int .i64 0)) fun v18 =>
 some (v18,h13,f14))
 (some (.bool true)) h13 f14 fun v19 h20 f21 =>
 ifK (AV.ro v19)
 (Ky (K G9 [] h20) fun v22 h23 f24 =>
 some (Zd7 false hp0 v22 h23 (XP hp0.length f21 f24)))
 (Ye (WE 3 (.ptr (hp0).length 0)) fun v128 =>
 Ye (ZN h20 v128) fun v129 =>
 Ye (Qh h20 .slice v129) fun v130 =>
 Ye (ZB .gtr .prim v130 (.int .i64 0)) fun v131 =>
 ifK v131
 (Ye (YA h20 4 (.ptr (hp0).length 0)) fun v132 =>
 Zl4 (h20 ++ [.cells [(.str []),(.own 3 []),(.own 13 []),(.own 3 [])] ZG]) fun h133 =>
 Ec (stV hp0.length 4 (.ptr (h20).length 0) v132 h133 f21) fun h134 f135 =>
 Ye (WE 3 (.ptr (hp0).length 0)) fun v136 =>
 Ye (ZN h134 v136) fun v137 =>
 Ye (WE 3 (.ptr (hp0).length 0)) fun v138 =>
 Ye (ZN h134 v138) fun v139 =>
 Ye (Qh h134 .slice v139) fun v140 =>
 Ye (ZB .sub .prim v140 (.int .i64 1)) fun v141 =>
 Ye (Xi (.slice 3) v137 none (some v141)) fun v142 =>
 Ye (WE 3 (.ptr (h20).length 0)) fun v143 =>
 Ec (Zlo hp0.length v143 v142 h134 f135) fun h144 f145 =>
 Ye (YA h144 4 (.ptr (h20).length 0)) fun v146 =>
 Ky (K X0 [v146] h144) fun v147 h148 f149 =>
 Ye (ZB .neq .prim (AV.ro v147) (.int .i64 0)) fun v150 =>
 ifK v150
 (some (Zd7 false hp0 (.bool false) h148 (XP hp0.length f145 f149)))
 (QM G K L hp0  (AV.ro x1) (.ptr (hp0).length 0) h148 (XP hp0.length f145 f149)))
 (QM G K L hp0  (AV.ro x1) (.ptr (hp0).length 0) h20 f21))
theorem GL (G:Nat→Option (List AV))(K:FuncId→List AV→List Zh→KR)(L:Nat)(x0 x1:AV)(hp0:List Zh):fnK G K Zf L Zo [x0,x1] hp0=Qw G K L x0 x1 hp0:=by
 show Xp G 140 hp0.length K Zf L Y1 (Zdb Zf Zo hp0) (Zdb Zf Zo hp0) [] (Zl1 [x0,x1]) hp0 none=_
 simp only [Y1,UC,Vg,Vh,VV]
 rw [UU G K L hp0 ]
 kernel_rfl
theorem IE {C:Cfg}(h:C.T JS=some Zo){n:Nat}{x0 x1:AV}{hp:List Zh}{r:AV×List Zh×Eff}(hr:Qw C.G (Zy C n) C.L x0 x1 hp=some r):Zy C (n + 1) JS [x0,x1] hp=some r:=Zrd h (Nat.le_of_ble_eq_true rfl) ((GL ..).trans hr)
end Go.Proofs.YthkdlifcknpadaaGreat
end
