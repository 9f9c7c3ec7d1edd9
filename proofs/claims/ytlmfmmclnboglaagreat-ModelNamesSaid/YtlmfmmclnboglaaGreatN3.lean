import Derived.Test.YtlmfmmclnboglaaGreatN2
set_option linter.all false
section
namespace Go.Proofs.YtlmfmmclnboglaaGreat
open Go Go.Proofs.YtlmfmmclnboglaaGreat.Abs
set_option maxRecDepth 100000
set_option maxHeartbeats 0
set_option linter.all false
theorem lpI {f:Kj→Kj}{D:Nat→Kj}(h0:(fun _ _ _=>none)=D 0)(hs:∀ m,f (D m)=D (m + 1)):∀ m,VW f m=D m
  | 0=>h0
  | m + 1=>by
    show f (VW f m)=_
    rw [lpI h0 hs m]; exact hs m
def RunT (C:Cfg) (f:FuncId) (a:AFn) (l:List AV) (D:KT→HP→KR):Prop:=C.T f=some a→∀ {n:Nat} {hp:HP} {r:AV×HP×Eff},D (Za C n) hp=some r→Za C (n + 1) f l hp=some r
theorem runT {C:Cfg} {f:FuncId} {a:AFn} {l:List AV} {D:KT→HP→KR} {P:List Nat} (hl:Nat.ble l.length a.ntmps=true) (he:∀ K hp,fnK C.G K P C.L a l hp=D K hp):RunT C f a l D:=fun h _ _ _ hr=>ZtH h (Nat.le_of_ble_eq_true hl) ((he ..).trans hr)
def JO (G:GT)(K:KT)(L:Nat)(o:HP)(q:HP)(g:Eff):KR :=
  Qg (K Hu [] q) fun v20 h21 f22=>some (Z6 false o v20 h21 (Ze o.length g f22))
theorem Sb (G:GT)(K:KT)(L:Nat)(o:HP) :Z9 G 146 o.length K Zr L Rv (Y5 Zr Yt o) (Y5 Zr Yt o) []=fun e q g=>JO G K L o  q g:=by kernel_rfl
def Va (G:GT)(K:KT)(L:Nat)(o:HP)(k6:HP→Eff→KR):Nat→AV→AV→HP→Eff→KR
  | 0,_,_,_,_=>none
  | m + 1,x1,x9,q,g=>Zc (Zp 3 x1) fun v23=>Zc (Zf q v23) fun v24=>Zc (Yy q .slice v24) fun v25=>Zc (Zd .lss .prim x9 v25) fun v26=>ifK v26 (Zc (Z8 q 4 x1) fun v27=>Zc (Zp 3 x1) fun v28=>Zc (Zf q v28) fun v29=>Zc (Qf (.slice 3) v29 x9) fun v30=>Zc (Zp 0 v30) fun v31=>Zc (Zf q v31) fun v32=>Zc (Zp 3 x1) fun v33=>Zc (Zf q v33) fun v34=>Zc (Qf (.slice 3) v34 x9) fun v35=>Zc (Zp 1 v35) fun v36=>Zc (Zf q v36) fun v37=>Qg (Vf K Pm [v27,v32,v37] q) fun v38 h39 f40=>Zc (Jk (AV.ro v38) 0) fun v41=>Zc (Jk (AV.ro v38) 1) fun v42=>Zc (JG .not v42) fun v43=>Uq v43 false (Zc (Zp 3 x1) fun v44=>Zc (Zf h39 v44) fun v45=>Zc (Qf (.slice 3) v45 x9) fun v46=>Zc (Zp 2 v46) fun v47=>Zc (Zf h39 v47) fun v48=>Zc (Zd .neq .prim v41 v48) fun v49=>some (v49,h39,(Ze o.length g f40))) (some (.bool true)) h39 (Ze o.length g f40) fun v50 h51 f52=>Uq (AV.ro v50) false (Zc (Zd .lss .prim v41 (.int .i64 1)) fun v53=>some (v53,h51,f52)) (some (.bool true)) h51 f52 fun v54 h55 f56=>ifK (AV.ro v54) (some (Z6 false o (.bool false) h55 f56)) (Zc (Zd .add .prim x9 (.int .i64 1)) fun v57=>Va G K L o k6 m x1 v57 h55 f56)) (k6  q g)
theorem Sn (G:GT)(K:KT)(L:Nat)(o:HP)(k6:HP→Eff→KR) :∀ m,VW (fun n'=>Z9 G 146 o.length K Zr L Lx n' (Y5 Zr Yt o) [(6,(fun e q g=>k6 q g))]) m=fun e q g=>Va G K L o k6 m (e 1).rd (e 9).rd q g:=lpI rfl fun _=>by kernel_rfl
theorem Sm (G:GT)(K:KT)(L:Nat)(o:HP)(k6:HP→Eff→KR)(zn:Kj):Z9 G 146 o.length K Zr L Rz zn (Y5 Zr Yt o) [(6,(fun e q g=>k6 q g))]=fun e q g=>Va G K L o k6 L (e 1).rd (e 9).rd q g:=Sn G K L o k6 L
def JN (G:GT)(K:KT)(L:Nat)(o:HP)(x1:AV)(q:HP)(g:Eff):KR :=
  Va G K L o (JO G K L o) L x1 (.int .i64 0) q g
theorem Sa (G:GT)(K:KT)(L:Nat)(o:HP) :Z9 G 146 o.length K Zr L Om (Y5 Zr Yt o) (Y5 Zr Yt o) []=fun e q g=>JN G K L o (e 1).rd q g:=by
 simp only [Om,Yh,ZB,ZC,ZX]
 rw [Sb G K L o ,Sm G K L o (JO G K L o) _]
 kernel_rfl
def JM (G:GT)(K:KT)(L:Nat)(o:HP)(kn:AV→AV→AV→HP→Eff→KR)(x1:AV)(x3:AV)(x4:AV)(q:HP)(g:Eff):KR :=
  Zc (Zd .add .prim x4 (.int .i64 1)) fun v62=>kn x1 x3 v62 q g
theorem NZ (G:GT)(K:KT)(L:Nat)(o:HP)(kn:AV→AV→AV→HP→Eff→KR)(z0:Kj):Z9 G 146 o.length K Zr L Ru (fun e q g=>kn (e 1).rd (e 3).rd (e 4).rd q g) (Y5 Zr Yt o) [(0,z0)]=fun e q g=>JM G K L o kn (e 1).rd (e 3).rd (e 4).rd q g:=by kernel_rfl
def JL (G:GT)(K:KT)(L:Nat)(o:HP)(kn:AV→AV→AV→AV→AV→HP→Eff→KR)(x1:AV)(x3:AV)(x4:AV)(x5:AV)(x6:AV)(q:HP)(g:Eff):KR :=
  Zc (Zd .add .prim x6 (.int .i64 1)) fun v82=>kn x1 x3 x4 x5 v82 q g
theorem NY (G:GT)(K:KT)(L:Nat)(o:HP)(kn:AV→AV→AV→AV→AV→HP→Eff→KR)(z2 z1 z0:Kj):Z9 G 146 o.length K Zr L Rt (fun e q g=>kn (e 1).rd (e 3).rd (e 4).rd (e 5).rd (e 6).rd q g) (Y5 Zr Yt o) [(2,z2),(1,z1),(0,z0)]=fun e q g=>JL G K L o kn (e 1).rd (e 3).rd (e 4).rd (e 5).rd (e 6).rd q g:=by kernel_rfl
def XA (G:GT)(K:KT)(L:Nat)(o:HP)(k4:AV→AV→AV→AV→AV→HP→Eff→KR):Nat→AV→AV→AV→AV→AV→AV→HP→Eff→KR
  | 0,_,_,_,_,_,_,_,_=>none
  | m + 1,x1,x3,x4,x5,x6,x7,q,g=>Zc (Qf (.slice 1) x5 x6) fun v83=>Zc (Zf q v83) fun v84=>Zc (Yy q .slice v84) fun v85=>Zc (Zd .lss .prim x7 v85) fun v86=>ifK v86 (Zc (Qf (.slice 1) x5 x6) fun v87=>Zc (Zf q v87) fun v88=>Zc (Qf (.slice 1) v88 x7) fun v89=>Zc (Zf q v89) fun v90=>Zc (Zp 2 x1) fun v91=>Zc (Zf q v91) fun v92=>Zc (Qf (.slice 13) v92 x4) fun v93=>Zc (Z8 q 13 v93) fun v94=>Qg (Vf K Mm [v94,v90] q) fun v95 h96 f97=>Zc (Qf (.slice 1) x3 x6) fun v98=>Zc (Zf h96 v98) fun v99=>Zc (Zd .neq .prim (AV.ro v95) v99) fun v100=>Uq v100 false (Zc (Zp 2 x1) fun v101=>Zc (Zf h96 v101) fun v102=>Zc (Qf (.slice 13) v102 x4) fun v103=>Zc (Z8 h96 13 v103) fun v104=>Qg (Vf K OE [v104,v90] h96) fun v105 h106 f107=>Zc (Zd .neq .prim (AV.ro v105) x7) fun v108=>some (v108,h106,(Ze o.length (Ze o.length g f97) f107))) (some (.bool true)) h96 (Ze o.length g f97) fun v109 h110 f111=>Uq (AV.ro v109) false (Zc (Zd .eql .prim x6 (.int .i64 9)) fun v112=>Uq v112 true (Zc (Zp 2 x1) fun v113=>Zc (Zf h110 v113) fun v114=>Zc (Qf (.slice 13) v114 x4) fun v115=>Zc (Z8 h110 13 v115) fun v116=>Qg (Vf K V7 [v116,v90] h110) fun v117 h118 f119=>Zc (Zd .neq .prim (AV.ro v117) x7) fun v120=>some (v120,h118,(Ze o.length f111 f119))) (some (.bool false)) h110 f111 fun v121 h122 f123=>some ((AV.ro v121),h122,f123)) (some (.bool true)) h110 f111 fun v124 h125 f126=>ifK (AV.ro v124) (some (Z6 false o (.bool false) h125 f126)) (Zc (Zd .add .prim x7 (.int .i64 1)) fun v127=>XA G K L o k4 m x1 x3 x4 x5 x6 v127 h125 f126)) (k4 x1 x3 x4 x5 x6 q g)
theorem Sl (G:GT)(K:KT)(L:Nat)(o:HP)(k4:AV→AV→AV→AV→AV→HP→Eff→KR)(z3 z2 z1 z0:Kj):∀ m,VW (fun n'=>Z9 G 146 o.length K Zr L Lv n' (Y5 Zr Yt o) [(4,(fun e q g=>k4 (e 1).rd (e 3).rd (e 4).rd (e 5).rd (e 6).rd q g)),(3,z3),(2,z2),(1,z1),(0,z0)]) m=fun e q g=>XA G K L o k4 m (e 1).rd (e 3).rd (e 4).rd (e 5).rd (e 6).rd (e 7).rd q g:=lpI rfl fun _=>by kernel_rfl
theorem Sk (G:GT)(K:KT)(L:Nat)(o:HP)(k4:AV→AV→AV→AV→AV→HP→Eff→KR)(z3 z2 z1 z0:Kj)(zn:Kj):Z9 G 146 o.length K Zr L Ry zn (Y5 Zr Yt o) [(4,(fun e q g=>k4 (e 1).rd (e 3).rd (e 4).rd (e 5).rd (e 6).rd q g)),(3,z3),(2,z2),(1,z1),(0,z0)]=fun e q g=>XA G K L o k4 L (e 1).rd (e 3).rd (e 4).rd (e 5).rd (e 6).rd (e 7).rd q g:=Sl G K L o k4 z3 z2 z1 z0 L
def Qx (G:GT)(K:KT)(L:Nat)(o:HP)(k2:AV→AV→AV→HP→Eff→KR):Nat→AV→AV→AV→AV→AV→HP→Eff→KR
  | 0,_,_,_,_,_,_,_=>none
  | m + 1,x1,x3,x4,x5,x6,q,g=>Zc (Yy q .slice x5) fun v80=>Zc (Zd .lss .prim x6 v80) fun v81=>ifK v81 (XA G K L o (JL G K L o (Qx G K L o k2 m)) L x1 x3 x4 x5 x6 (.int .i64 0) q g) (k2 x1 x3 x4 q g)
theorem Sj (G:GT)(K:KT)(L:Nat)(o:HP)(k2:AV→AV→AV→HP→Eff→KR)(z1 z0:Kj):∀ m,VW (fun n'=>Z9 G 146 o.length K Zr L Kh n' (Y5 Zr Yt o) [(2,(fun e q g=>k2 (e 1).rd (e 3).rd (e 4).rd q g)),(1,z1),(0,z0)]) m=fun e q g=>Qx G K L o k2 m (e 1).rd (e 3).rd (e 4).rd (e 5).rd (e 6).rd q g:=by
 intro m
 induction m with
 | zero=>rfl
 | succ m ih =>
  show Z9 G 146 o.length K Zr L Kh (VW _ m) (Y5 Zr Yt o) [(2,(fun e q g=>k2 (e 1).rd (e 3).rd (e 4).rd q g)),(1,z1),(0,z0)]=_
  rw [ih]
  simp only [Kh,Yh,ZB,ZC,ZX]
  rw [NY G K L o (Qx G K L o k2 m) _ _ _,Sk G K L o (JL G K L o (Qx G K L o k2 m)) _ _ _ _ _]
  kernel_rfl
theorem Si (G:GT)(K:KT)(L:Nat)(o:HP)(k2:AV→AV→AV→HP→Eff→KR)(z1 z0:Kj)(zn:Kj):Z9 G 146 o.length K Zr L Rx zn (Y5 Zr Yt o) [(2,(fun e q g=>k2 (e 1).rd (e 3).rd (e 4).rd q g)),(1,z1),(0,z0)]=fun e q g=>Qx G K L o k2 L (e 1).rd (e 3).rd (e 4).rd (e 5).rd (e 6).rd q g:=Sj G K L o k2 z1 z0 L
def Qw (G:GT)(K:KT)(L:Nat)(o:HP)(k0:AV→HP→Eff→KR):Nat→AV→AV→AV→HP→Eff→KR
  | 0,_,_,_,_,_=>none
  | m + 1,x1,x3,x4,q,g=>Zc (Zp 2 x1) fun v58=>Zc (Zf q v58) fun v59=>Zc (Yy q .slice v59) fun v60=>Zc (Zd .lss .prim x4 v60) fun v61=>ifK v61 (Zc (Z8 q 4 x1) fun v63=>Zc (Zp 2 x1) fun v64=>Zc (Zf q v64) fun v65=>Zc (Qf (.slice 13) v65 x4) fun v66=>Zc (Zp 0 v66) fun v67=>Zc (Zf q v67) fun v68=>Qg (Vf K Od [v63,v68] q) fun v69 h70 f71=>Zc (Zd .neq .prim (AV.ro v69) x4) fun v72=>ifK v72 (some (Z6 false o (.bool false) h70 (Ze o.length g f71))) (Zc (Zp 2 x1) fun v73=>Zc (Zf h70 v73) fun v74=>Zc (Qf (.slice 13) v74 x4) fun v75=>Zc (Z8 h70 13 v75) fun v76=>Qg (K LA [v76] h70) fun v77 h78 f79=>Qx G K L o (JM G K L o (Qw G K L o k0 m)) L x1 x3 x4 (AV.ro v77) (.int .i64 0) h78 (Ze o.length (Ze o.length g f71) f79))) (k0 x1 q g)
theorem Sg (G:GT)(K:KT)(L:Nat)(o:HP)(k0:AV→HP→Eff→KR) :∀ m,VW (fun n'=>Z9 G 146 o.length K Zr L Kg n' (Y5 Zr Yt o) [(0,(fun e q g=>k0 (e 1).rd q g))]) m=fun e q g=>Qw G K L o k0 m (e 1).rd (e 3).rd (e 4).rd q g:=by
 intro m
 induction m with
 | zero=>rfl
 | succ m ih =>
  show Z9 G 146 o.length K Zr L Kg (VW _ m) (Y5 Zr Yt o) [(0,(fun e q g=>k0 (e 1).rd q g))]=_
  rw [ih]
  simp only [Kg,Yh,ZB,ZC,ZX]
  rw [NZ G K L o (Qw G K L o k0 m) _,Si G K L o (JM G K L o (Qw G K L o k0 m)) _ _ _]
  kernel_rfl
theorem Sd (G:GT)(K:KT)(L:Nat)(o:HP)(k0:AV→HP→Eff→KR)(zn:Kj):Z9 G 146 o.length K Zr L Rw zn (Y5 Zr Yt o) [(0,(fun e q g=>k0 (e 1).rd q g))]=fun e q g=>Qw G K L o k0 L (e 1).rd (e 3).rd (e 4).rd q g:=Sg G K L o k0 L
def KO (G:GT)(K:KT)(L:Nat)(x0:AV)(o:HP):KR :=
  Zc (GA 4 (AV.ro x0)) fun v1=>JE (o ++ [.cells v1 Yd]) fun h0=>Zc (Z8 h0 4 (.ptr (o).length 0)) fun v2=>Qg (K Bo [v2] h0) fun v3 h4 f5=>Zc (JG .not (AV.ro v3)) fun v6=>Uq v6 false (Zc (Z8 h4 4 (.ptr (o).length 0)) fun v7=>Qg (K SN [v7] h4) fun v8 h9 f10=>Zc (Zd .neq .prim (AV.ro v8) (.int .i64 0)) fun v11=>some (v11,h9,(Ze o.length (Ze o.length none f5) f10))) (some (.bool true)) h4 (Ze o.length none f5) fun v12 h13 f14=>ifK (AV.ro v12) (Qg (K Hu [] h13) fun v15 h16 f17=>some (Z6 false o v15 h16 (Ze o.length f14 f17))) (GQ (Zeb Y9 1 [(.str [118,97,114]),(.str [114,101,115,111,117,114,99,101]),(.str [115,116,111,114,101]),(.str [98,101,108,116]),(.str [113,117,101,117,101]),(.str [115,116,114,101,97,109]),(.str [116,97,108,108,121]),(.str [108,101,118,101,108]),(.str [99,111,117,110,116]),(.str [114,111,117,116,105,110,101])] h13) fun v18 h19=>Qw G K L o (JN G K L o) L (.ptr (o).length 0) (AV.ro v18) (.int .i64 0) h19 f14)
theorem Ch (G:GT)(K:KT)(L:Nat)(x0:AV)(o:HP):fnK G K Zr L Yt [x0] o=KO G K L x0 o:=by
 show Z9 G 146 o.length K Zr L MK (Y5 Zr Yt o) (Y5 Zr Yt o) [] (Df [x0]) o none=_
 simp only [MK,Yh,ZB,ZC,ZX]
 rw [Sa G K L o ,Sd G K L o (JN G K L o) _]
 kernel_rfl
theorem Zaz {C:Cfg}{x0:AV}:RunT C M8 Yt [x0] (fun K=>KO C.G K C.L x0):=runT rfl fun _ _=>Ch ..
def K6 (G:GT)(K:KT)(L:Nat)(o:HP)(x3:AV)(q:HP)(g:Eff):KR :=
  Zc (Zd .leq .prim x3 (.int .i64 120)) fun v20=>some (Z6 false o v20 q g)
theorem Zbn (G:GT)(K:KT)(L:Nat)(o:HP) :Z9 G 68 o.length K Qb L EY (Y5 Qb XM o) (Y5 Qb XM o) []=fun e q g=>K6 G K L o (e 3).rd q g:=by kernel_rfl
def K5 (G:GT)(K:KT)(L:Nat)(o:HP)(kn:AV→AV→AV→HP→Eff→KR)(x1:AV)(x3:AV)(x4:AV)(q:HP)(g:Eff):KR :=
  Zc (Zd .add .prim x4 (.int .i64 1)) fun v25=>kn x1 x3 v25 q g
theorem Zbm (G:GT)(K:KT)(L:Nat)(o:HP)(kn:AV→AV→AV→HP→Eff→KR)(z0:Kj):Z9 G 68 o.length K Qb L EW (fun e q g=>kn (e 1).rd (e 3).rd (e 4).rd q g) (Y5 Qb XM o) [(0,z0)]=fun e q g=>K5 G K L o kn (e 1).rd (e 3).rd (e 4).rd q g:=by kernel_rfl
def Io (G:GT)(K:KT)(L:Nat)(o:HP)(kn:AV→AV→AV→HP→Eff→KR)(x1:AV)(x3:AV)(x4:AV)(q:HP)(g:Eff):KR :=
  Zc (Zp 2 x1) fun v33=>Zc (Zf q v33) fun v34=>Zc (Qf (.slice 13) v34 x4) fun v35=>Zc (Zp 11 v35) fun v36=>Zc (Zf q v36) fun v37=>Zc (Yy q .slice v37) fun v38=>Zc (Zp 2 x1) fun v39=>Zc (Zf q v39) fun v40=>Zc (Qf (.slice 13) v40 x4) fun v41=>Zc (Zp 12 v41) fun v42=>Zc (Zf q v42) fun v43=>Zc (Yy q .slice v43) fun v44=>Zc (Zd .add .prim v38 v44) fun v45=>Zc (Zd .add .prim x3 v45) fun v46=>kn x1 v46 x4 q g
theorem Zbl (G:GT)(K:KT)(L:Nat)(o:HP)(kn:AV→AV→AV→HP→Eff→KR)(z1 z0:Kj):Z9 G 68 o.length K Qb L EU (fun e q g=>kn (e 1).rd (e 3).rd (e 4).rd q g) (Y5 Qb XM o) [(1,z1),(0,z0)]=fun e q g=>Io G K L o kn (e 1).rd (e 3).rd (e 4).rd q g:=by kernel_rfl
def Uh (G:GT)(K:KT)(L:Nat)(o:HP)(k2:AV→AV→AV→HP→Eff→KR):Nat→AV→AV→AV→AV→AV→HP→Eff→KR
  | 0,_,_,_,_,_,_,_=>none
  | m + 1,x1,x3,x4,x5,x6,q,g=>Zc (Yy q .slice x5) fun v47=>Zc (Zd .lss .prim x6 v47) fun v48=>ifK v48 (Zc (Qf (.slice 1) x5 x6) fun v49=>Zc (Zf q v49) fun v50=>Zc (Yy q .slice v50) fun v51=>Zc (Zd .add .prim x3 v51) fun v52=>Zc (Zd .add .prim x6 (.int .i64 1)) fun v53=>Uh G K L o k2 m x1 v52 x4 x5 v53 q g) (k2 x1 x3 x4 q g)
theorem Zbr (G:GT)(K:KT)(L:Nat)(o:HP)(k2:AV→AV→AV→HP→Eff→KR)(z1 z0:Kj):∀ m,VW (fun n'=>Z9 G 68 o.length K Qb L NP n' (Y5 Qb XM o) [(2,(fun e q g=>k2 (e 1).rd (e 3).rd (e 4).rd q g)),(1,z1),(0,z0)]) m=fun e q g=>Uh G K L o k2 m (e 1).rd (e 3).rd (e 4).rd (e 5).rd (e 6).rd q g:=lpI rfl fun _=>by kernel_rfl
theorem Zbq (G:GT)(K:KT)(L:Nat)(o:HP)(k2:AV→AV→AV→HP→Eff→KR)(z1 z0:Kj)(zn:Kj):Z9 G 68 o.length K Qb L Aa zn (Y5 Qb XM o) [(2,(fun e q g=>k2 (e 1).rd (e 3).rd (e 4).rd q g)),(1,z1),(0,z0)]=fun e q g=>Uh G K L o k2 L (e 1).rd (e 3).rd (e 4).rd (e 5).rd (e 6).rd q g:=Zbr G K L o k2 z1 z0 L
def XG (G:GT)(K:KT)(L:Nat)(o:HP)(k0:AV→HP→Eff→KR):Nat→AV→AV→AV→HP→Eff→KR
  | 0,_,_,_,_,_=>none
  | m + 1,x1,x3,x4,q,g=>Zc (Zp 2 x1) fun v21=>Zc (Zf q v21) fun v22=>Zc (Yy q .slice v22) fun v23=>Zc (Zd .lss .prim x4 v23) fun v24=>ifK v24 (Zc (Zp 2 x1) fun v26=>Zc (Zf q v26) fun v27=>Zc (Qf (.slice 13) v27 x4) fun v28=>Zc (Z8 q 13 v28) fun v29=>Qg (K LA [v29] q) fun v30 h31 f32=>Uh G K L o (Io G K L o (K5 G K L o (XG G K L o k0 m))) L x1 x3 x4 (AV.ro v30) (.int .i64 0) h31 (Ze o.length g f32)) (k0 x3 q g)
theorem Zbp (G:GT)(K:KT)(L:Nat)(o:HP)(k0:AV→HP→Eff→KR) :∀ m,VW (fun n'=>Z9 G 68 o.length K Qb L OJ n' (Y5 Qb XM o) [(0,(fun e q g=>k0 (e 3).rd q g))]) m=fun e q g=>XG G K L o k0 m (e 1).rd (e 3).rd (e 4).rd q g:=by
 intro m
 induction m with
 | zero=>rfl
 | succ m ih =>
  show Z9 G 68 o.length K Qb L OJ (VW _ m) (Y5 Qb XM o) [(0,(fun e q g=>k0 (e 3).rd q g))]=_
  rw [ih]
  simp only [OJ,Yh,ZB,ZC,ZX]
  rw [Zbm G K L o (XG G K L o k0 m) _,Zbl G K L o (K5 G K L o (XG G K L o k0 m)) _ _,Zbq G K L o (Io G K L o (K5 G K L o (XG G K L o k0 m))) _ _ _]
  kernel_rfl
theorem Zbo (G:GT)(K:KT)(L:Nat)(o:HP)(k0:AV→HP→Eff→KR)(zn:Kj):Z9 G 68 o.length K Qb L EZ zn (Y5 Qb XM o) [(0,(fun e q g=>k0 (e 3).rd q g))]=fun e q g=>XG G K L o k0 L (e 1).rd (e 3).rd (e 4).rd q g:=Zbp G K L o k0 L
def OL (G:GT)(K:KT)(L:Nat)(x0:AV)(o:HP):KR :=
  Zc (GA 4 (AV.ro x0)) fun v1=>JE (o ++ [.cells v1 Yd]) fun h0=>Zc (Zp 2 (.ptr (o).length 0)) fun v2=>Zc (Zf h0 v2) fun v3=>Zc (Yy h0 .slice v3) fun v4=>Zc (Zd .gtr .prim v4 (.int .i64 20)) fun v5=>Uq v5 false (Zc (Zp 1 (.ptr (o).length 0)) fun v6=>Zc (Zf h0 v6) fun v7=>Zc (Yy h0 .slice v7) fun v8=>Zc (Zd .gtr .prim v8 (.int .i64 40)) fun v9=>some (v9,h0,none)) (some (.bool true)) h0 none fun v10 h11 f12=>Uq (AV.ro v10) false (Zc (Zp 3 (.ptr (o).length 0)) fun v13=>Zc (Zf h11 v13) fun v14=>Zc (Yy h11 .slice v14) fun v15=>Zc (Zd .gtr .prim v15 (.int .i64 40)) fun v16=>some (v16,h11,f12)) (some (.bool true)) h11 f12 fun v17 h18 f19=>ifK (AV.ro v17) (some (Z6 false o (.bool false) h18 f19)) (XG G K L o (K6 G K L o) L (.ptr (o).length 0) (.int .i64 0) (.int .i64 0) h18 f19)
theorem ZeG (G:GT)(K:KT)(L:Nat)(x0:AV)(o:HP):fnK G K Qb L XM [x0] o=OL G K L x0 o:=by
 show Z9 G 68 o.length K Qb L En (Y5 Qb XM o) (Y5 Qb XM o) [] (Df [x0]) o none=_
 simp only [En,Yh,ZB,ZC,ZX]
 rw [Zbn G K L o ,Zbo G K L o (K6 G K L o) _]
 kernel_rfl
theorem Lc {C:Cfg}{x0:AV}:RunT C Bo XM [x0] (fun K=>OL C.G K C.L x0):=runT rfl fun _ _=>ZeG ..
def OM (G:GT)(K:KT)(L:Nat)(x0:AV)(o:HP):KR :=
  Zc (GA 4 (AV.ro x0)) fun v1=>JE (o ++ [.cells v1 Yd]) fun h0=>Zc (Zp 0 (.ptr (o).length 0)) fun v2=>Zc (Zf h0 v2) fun v3=>Qg (K K9 [v3] h0) fun v4 h5 f6=>Zc (Zd .neq .prim (AV.ro v4) (.int .i64 0)) fun v7=>ifK v7 (some (Z6 false o v4 h5 (Ze o.length none f6))) (JE (h5 ++ [.map []]) fun h8=>Zc (Zp 1 (.ptr (o).length 0)) fun v9=>Zc (Zf h8 v9) fun v10=>Qg (K V6 [(.map (h5).length),v10] h8) fun v11 h12 f13=>Zc (Zd .neq .prim (AV.ro v11) (.int .i64 0)) fun v14=>ifK v14 (some (Z6 false o v11 h12 (Ze o.length (Ze o.length none f6) f13))) (Zc (Zp 2 (.ptr (o).length 0)) fun v15=>Zc (Zf h12 v15) fun v16=>Zc (Yy h12 .slice v16) fun v17=>Zc (Zd .eql .prim v17 (.int .i64 0)) fun v18=>ifK v18 (some (Z6 false o (.int .i64 7) h12 (Ze o.length (Ze o.length none f6) f13))) (JE (h12 ++ [.map []]) fun h19=>JE (h19 ++ [.cells [.nilm] Qz]) fun h20=>GQ (Zfu o.length (.ptr (h19).length 0) (.map (h12).length) h20 (Ze o.length (Ze o.length none f6) f13)) fun h21 f22=>Zc (Zp 2 (.ptr (o).length 0)) fun v23=>Zc (Zf h21 v23) fun v24=>Qg (K Vq [v24,(.int .i64 16),(.fn UL [] [(.ptr (h19).length 0)])] h21) fun v25 h26 f27=>Zc (Zd .neq .prim (AV.ro v25) (.int .i64 0)) fun v28=>ifK v28 (some (Z6 false o v25 h26 (Ze o.length f22 f27))) (Zc (Z8 h26 4 (.ptr (o).length 0)) fun v29=>Qg (K SS [v29] h26) fun v30 h31 f32=>some (Z6 false o v30 h31 (Ze o.length (Ze o.length f22 f27) f32))))))
theorem ZeH (G:GT)(K:KT)(L:Nat)(x0:AV)(o:HP):fnK G K Zki L Ee [x0] o=OM G K L x0 o:=by kernel_rfl
theorem ZgL {C:Cfg}{x0:AV}:RunT C SN Ee [x0] (fun K=>OM C.G K C.L x0):=runT rfl fun _ _=>ZeH ..
def Px (G:GT)(K:KT)(L:Nat)(x0 x1 x2:AV)(o:HP):KR :=
  Zc (GA 4 (AV.ro x0)) fun v1=>JE (o ++ [.cells v1 Yd]) fun h0=>Zc (GA 1 (AV.ro x1)) fun v3=>JE (h0 ++ [.cells v3 Y9]) fun h2=>Zc (GA 1 (AV.ro x2)) fun v5=>JE (h2 ++ [.cells v5 Y9]) fun h4=>Zc (Zp 3 (.ptr (o).length 0)) fun v6=>Zc (Zf h4 v6) fun v7=>Qg (K Vk [v7,(.fn Rh [] [(.ptr (h0).length 0),(.ptr (h2).length 0)])] h4) fun v8 h9 f10=>Zc (Zd .lss .prim (AV.ro v8) (.int .i64 0)) fun v11=>ifK v11 (some (Z6 false o (.tup [(AV.nm (.int .i64 0)),(AV.nm (.bool false))]) h9 (Ze o.length none f10))) (Zc (Zp 3 (.ptr (o).length 0)) fun v12=>Zc (Zf h9 v12) fun v13=>Zc (Qf (.slice 3) v13 (AV.ro v8)) fun v14=>Zc (Zp 2 v14) fun v15=>Zc (Zf h9 v15) fun v16=>some (Z6 false o (.tup [(AV.nm v16),(AV.nm (.bool true))]) h9 (Ze o.length none f10)))
theorem ZfY (G:GT)(K:KT)(L:Nat)(x0 x1 x2:AV)(o:HP):fnK G K Zl7 L Fp [x0,x1,x2] o=Px G K L x0 x1 x2 o:=by kernel_rfl
theorem Ziq {C:Cfg}{x0 x1 x2:AV}:RunT C Pm Fp [x0,x1,x2] (fun K=>Px C.G K C.L x0 x1 x2):=runT rfl fun _ _=>ZfY ..
def Cj (G:GT)(K:KT)(L:Nat)(x0 x1:AV)(o:HP):KR :=
  Zc (GA 4 (AV.ro x0)) fun v1=>JE (o ++ [.cells v1 Yd]) fun h0=>Zc (GA 1 (AV.ro x1)) fun v3=>JE (h0 ++ [.cells v3 Y9]) fun h2=>Zc (Zp 2 (.ptr (o).length 0)) fun v4=>Zc (Zf h2 v4) fun v5=>Qg (K QV [v5,(.fn Ri [] [(.ptr (h0).length 0)])] h2) fun v6 h7 f8=>some (Z6 false o v6 h7 (Ze o.length none f8))
theorem ZfZ (G:GT)(K:KT)(L:Nat)(x0 x1:AV)(o:HP):fnK G K Zl8 L Fq [x0,x1] o=Cj G K L x0 x1 o:=by kernel_rfl
theorem Zir {C:Cfg}{x0 x1:AV}:RunT C Od Fq [x0,x1] (fun K=>Cj C.G K C.L x0 x1):=runT rfl fun _ _=>ZfZ ..
def Dv (G:GT)(K:KT)(L:Nat)(x0 x1:AV)(o:HP):KR :=
  Zc (GA 13 (AV.ro x0)) fun v1=>JE (o ++ [.cells v1 Zb]) fun h0=>Zc (GA 1 (AV.ro x1)) fun v3=>JE (h0 ++ [.cells v3 Y9]) fun h2=>Zc (Zp 10 (.ptr (o).length 0)) fun v4=>Zc (Zf h2 v4) fun v5=>Qg (K X4 [v5,(.fn OG [] [(.ptr (h0).length 0)])] h2) fun v6 h7 f8=>some (Z6 false o v6 h7 (Ze o.length none f8))
theorem Zch (G:GT)(K:KT)(L:Nat)(x0 x1:AV)(o:HP):fnK G K Zhd L BQ [x0,x1] o=Dv G K L x0 x1 o:=by kernel_rfl
theorem Zec {C:Cfg}{x0 x1:AV}:RunT C V7 BQ [x0,x1] (fun K=>Dv C.G K C.L x0 x1):=runT rfl fun _ _=>Zch ..
def Ci (G:GT)(K:KT)(L:Nat)(x0 x1:AV)(o:HP):KR :=
  Zc (GA 13 (AV.ro x0)) fun v1=>JE (o ++ [.cells v1 Zb]) fun h0=>Zc (Z8 h0 13 (.ptr (o).length 0)) fun v2=>Qg (K Bp [v2,(AV.ro x1)] h0) fun v3 h4 f5=>Zc (Jk (AV.ro v3) 0) fun v6=>Zc (Jk (AV.ro v3) 1) fun v7=>some (Z6 false o v6 h4 (Ze o.length none f5))
theorem ZfX (G:GT)(K:KT)(L:Nat)(x0 x1:AV)(o:HP):fnK G K Zl6 L Fj [x0,x1] o=Ci G K L x0 x1 o:=by kernel_rfl
theorem Zip {C:Cfg}{x0 x1:AV}:RunT C Mm Fj [x0,x1] (fun K=>Ci C.G K C.L x0 x1):=runT rfl fun _ _=>ZfX ..
def Ex (G:GT)(K:KT)(L:Nat)(x0 x1:AV)(o:HP):KR :=
  Zc (GA 13 (AV.ro x0)) fun v1=>JE (o ++ [.cells v1 Zb]) fun h0=>Zc (Z8 h0 13 (.ptr (o).length 0)) fun v2=>Qg (K Bp [v2,(AV.ro x1)] h0) fun v3 h4 f5=>Zc (Jk (AV.ro v3) 0) fun v6=>Zc (Jk (AV.ro v3) 1) fun v7=>some (Z6 false o v7 h4 (Ze o.length none f5))
theorem ZeI (G:GT)(K:KT)(L:Nat)(x0 x1:AV)(o:HP):fnK G K Zkj L Ef [x0,x1] o=Ex G K L x0 x1 o:=by kernel_rfl
theorem ZgM {C:Cfg}{x0 x1:AV}:RunT C OE Ef [x0,x1] (fun K=>Ex C.G K C.L x0 x1):=runT rfl fun _ _=>ZeI ..
def TF (G:GT)(K:KT)(L:Nat)(o:HP)(y3:AV)(q:HP)(g:Eff):KR :=
  some (Z6 false o y3 q g)
theorem ZdB (G:GT)(K:KT)(L:Nat)(o:HP) :Z9 G 131 o.length K Yx L Za6 (Y5 Yx Ql o) (Y5 Yx Ql o) []=fun e q g=>TF G K L o (e 3).val q g:=by kernel_rfl
def Gg (G:GT)(K:KT)(L:Nat)(o:HP)(k8:AV→HP→Eff→KR):Nat→AV→AV→AV→AV→HP→Eff→KR
  | 0,_,_,_,_,_,_=>none
  | m + 1,x1,x3,y3,x8,q,g=>Zc (Zp 10 x1) fun v29=>Zc (Zf q v29) fun v30=>Zc (Yy q .slice v30) fun v31=>Zc (Zd .lss .prim x8 v31) fun v32=>ifK v32 (Zc (Qf (.slice 1) x3 (.int .i64 9)) fun v33=>Qg (ZqH o.length v33 q g) fun v34 h35 f36=>Zc (Zp 10 x1) fun v37=>Zc (Zf h35 v37) fun v38=>Zc (Qf (.slice 4) v38 x8) fun v39=>Zc (Zp 0 v39) fun v40=>Zc (Zf h35 v40) fun v41=>GQ (Zeb Y9 1 [v41] h35) fun v42 h43=>Zc (Zo6 1 16 v34 (AV.ro v42) h43) fun v44=>Zc (Qf (.slice 1) x3 (.int .i64 9)) fun v45=>GQ (Zfu o.length v45 v44 h43 f36) fun h46 f47=>Zc (Zd .add .prim x8 (.int .i64 1)) fun v48=>Gg G K L o k8 m x1 x3 y3 v48 h46 f47) (k8 y3 q g)
theorem ZdL (G:GT)(K:KT)(L:Nat)(o:HP)(k8:AV→HP→Eff→KR) :∀ m,VW (fun n'=>Z9 G 131 o.length K Yx L FK n' (Y5 Yx Ql o) [(8,(fun e q g=>k8 (e 3).val q g))]) m=fun e q g=>Gg G K L o k8 m (e 1).rd (e 3).rd (e 3).val (e 8).rd q g:=lpI rfl fun _=>by kernel_rfl
theorem ZdK (G:GT)(K:KT)(L:Nat)(o:HP)(k8:AV→HP→Eff→KR)(zn:Kj):Z9 G 131 o.length K Yx L ZaB zn (Y5 Yx Ql o) [(8,(fun e q g=>k8 (e 3).val q g))]=fun e q g=>Gg G K L o k8 L (e 1).rd (e 3).rd (e 3).val (e 8).rd q g:=ZdL G K L o k8 L
def TE (G:GT)(K:KT)(L:Nat)(o:HP)(x1:AV)(x3:AV)(y3:AV)(q:HP)(g:Eff):KR :=
  Zc (Zp 5 x1) fun v4=>Zc (Zf q v4) fun v5=>Zc (Qf (.slice 1) x3 (.int .i64 4)) fun v6=>GQ (Zfu o.length v6 v5 q g) fun h7 f8=>Zc (Zp 6 x1) fun v9=>Zc (Zf h7 v9) fun v10=>Zc (Qf (.slice 1) x3 (.int .i64 5)) fun v11=>GQ (Zfu o.length v11 v10 h7 f8) fun h12 f13=>Zc (Zp 7 x1) fun v14=>Zc (Zf h12 v14) fun v15=>Zc (Qf (.slice 1) x3 (.int .i64 6)) fun v16=>GQ (Zfu o.length v16 v15 h12 f13) fun h17 f18=>Zc (Zp 8 x1) fun v19=>Zc (Zf h17 v19) fun v20=>Zc (Qf (.slice 1) x3 (.int .i64 7)) fun v21=>GQ (Zfu o.length v21 v20 h17 f18) fun h22 f23=>Zc (Zp 9 x1) fun v24=>Zc (Zf h22 v24) fun v25=>Zc (Qf (.slice 1) x3 (.int .i64 8)) fun v26=>GQ (Zfu o.length v26 v25 h22 f23) fun h27 f28=>Gg G K L o (TF G K L o) L x1 x3 y3 (.int .i64 0) h27 f28
theorem ZdA (G:GT)(K:KT)(L:Nat)(o:HP) :Z9 G 131 o.length K Yx L Nb (Y5 Yx Ql o) (Y5 Yx Ql o) []=fun e q g=>TE G K L o (e 1).rd (e 3).rd (e 3).val q g:=by
 simp only [Nb,Yh,ZB,ZC,ZX]
 rw [ZdB G K L o ,ZdK G K L o (TF G K L o) _]
 kernel_rfl
def Gf (G:GT)(K:KT)(L:Nat)(o:HP)(k6:AV→AV→AV→HP→Eff→KR):Nat→AV→AV→AV→AV→HP→Eff→KR
  | 0,_,_,_,_,_,_=>none
  | m + 1,x1,x3,y3,x7,q,g=>Zc (Zp 4 x1) fun v49=>Zc (Zf q v49) fun v50=>Zc (Yy q .slice v50) fun v51=>Zc (Zd .lss .prim x7 v51) fun v52=>ifK v52 (Zc (Qf (.slice 1) x3 (.int .i64 3)) fun v53=>Qg (ZqH o.length v53 q g) fun v54 h55 f56=>Zc (Zp 4 x1) fun v57=>Zc (Zf h55 v57) fun v58=>Zc (Qf (.slice 3) v58 x7) fun v59=>Zc (Zp 0 v59) fun v60=>Zc (Zf h55 v60) fun v61=>GQ (Zeb Y9 1 [v61] h55) fun v62 h63=>Zc (Zo6 1 16 v54 (AV.ro v62) h63) fun v64=>Zc (Qf (.slice 1) x3 (.int .i64 3)) fun v65=>GQ (Zfu o.length v65 v64 h63 f56) fun h66 f67=>Zc (Zd .add .prim x7 (.int .i64 1)) fun v68=>Gf G K L o k6 m x1 x3 y3 v68 h66 f67) (k6 x1 x3 y3 q g)
theorem ZdJ (G:GT)(K:KT)(L:Nat)(o:HP)(k6:AV→AV→AV→HP→Eff→KR) :∀ m,VW (fun n'=>Z9 G 131 o.length K Yx L FJ n' (Y5 Yx Ql o) [(6,(fun e q g=>k6 (e 1).rd (e 3).rd (e 3).val q g))]) m=fun e q g=>Gf G K L o k6 m (e 1).rd (e 3).rd (e 3).val (e 7).rd q g:=lpI rfl fun _=>by kernel_rfl
theorem ZdI (G:GT)(K:KT)(L:Nat)(o:HP)(k6:AV→AV→AV→HP→Eff→KR)(zn:Kj):Z9 G 131 o.length K Yx L ZaA zn (Y5 Yx Ql o) [(6,(fun e q g=>k6 (e 1).rd (e 3).rd (e 3).val q g))]=fun e q g=>Gf G K L o k6 L (e 1).rd (e 3).rd (e 3).val (e 7).rd q g:=ZdJ G K L o k6 L
def TD (G:GT)(K:KT)(L:Nat)(o:HP)(x1:AV)(x3:AV)(y3:AV)(q:HP)(g:Eff):KR :=
  Gf G K L o (TE G K L o) L x1 x3 y3 (.int .i64 0) q g
theorem Zd9 (G:GT)(K:KT)(L:Nat)(o:HP) :Z9 G 131 o.length K Yx L Na (Y5 Yx Ql o) (Y5 Yx Ql o) []=fun e q g=>TD G K L o (e 1).rd (e 3).rd (e 3).val q g:=by
 simp only [Na,Yh,ZB,ZC,ZX]
 rw [ZdA G K L o ,ZdI G K L o (TE G K L o) _]
 kernel_rfl
def Gd (G:GT)(K:KT)(L:Nat)(o:HP)(k4:AV→AV→AV→HP→Eff→KR):Nat→AV→AV→AV→AV→HP→Eff→KR
  | 0,_,_,_,_,_,_=>none
  | m + 1,x1,x3,y3,x6,q,g=>Zc (Zp 3 x1) fun v69=>Zc (Zf q v69) fun v70=>Zc (Yy q .slice v70) fun v71=>Zc (Zd .lss .prim x6 v71) fun v72=>ifK v72 (Zc (Qf (.slice 1) x3 (.int .i64 2)) fun v73=>Qg (ZqH o.length v73 q g) fun v74 h75 f76=>Zc (Zp 3 x1) fun v77=>Zc (Zf h75 v77) fun v78=>Zc (Qf (.slice 3) v78 x6) fun v79=>Zc (Zp 0 v79) fun v80=>Zc (Zf h75 v80) fun v81=>GQ (Zeb Y9 1 [v81] h75) fun v82 h83=>Zc (Zo6 1 16 v74 (AV.ro v82) h83) fun v84=>Zc (Qf (.slice 1) x3 (.int .i64 2)) fun v85=>GQ (Zfu o.length v85 v84 h83 f76) fun h86 f87=>Zc (Zd .add .prim x6 (.int .i64 1)) fun v88=>Gd G K L o k4 m x1 x3 y3 v88 h86 f87) (k4 x1 x3 y3 q g)
theorem ZdH (G:GT)(K:KT)(L:Nat)(o:HP)(k4:AV→AV→AV→HP→Eff→KR) :∀ m,VW (fun n'=>Z9 G 131 o.length K Yx L FI n' (Y5 Yx Ql o) [(4,(fun e q g=>k4 (e 1).rd (e 3).rd (e 3).val q g))]) m=fun e q g=>Gd G K L o k4 m (e 1).rd (e 3).rd (e 3).val (e 6).rd q g:=lpI rfl fun _=>by kernel_rfl
theorem ZdG (G:GT)(K:KT)(L:Nat)(o:HP)(k4:AV→AV→AV→HP→Eff→KR)(zn:Kj):Z9 G 131 o.length K Yx L Za9 zn (Y5 Yx Ql o) [(4,(fun e q g=>k4 (e 1).rd (e 3).rd (e 3).val q g))]=fun e q g=>Gd G K L o k4 L (e 1).rd (e 3).rd (e 3).val (e 6).rd q g:=ZdH G K L o k4 L
def TC (G:GT)(K:KT)(L:Nat)(o:HP)(x1:AV)(x3:AV)(y3:AV)(q:HP)(g:Eff):KR :=
  Gd G K L o (TD G K L o) L x1 x3 y3 (.int .i64 0) q g
theorem Zd8 (G:GT)(K:KT)(L:Nat)(o:HP) :Z9 G 131 o.length K Yx L PZ (Y5 Yx Ql o) (Y5 Yx Ql o) []=fun e q g=>TC G K L o (e 1).rd (e 3).rd (e 3).val q g:=by
 simp only [PZ,Yh,ZB,ZC,ZX]
 rw [Zd9 G K L o ,ZdG G K L o (TD G K L o) _]
 kernel_rfl
def Gc (G:GT)(K:KT)(L:Nat)(o:HP)(k2:AV→AV→AV→HP→Eff→KR):Nat→AV→AV→AV→AV→HP→Eff→KR
  | 0,_,_,_,_,_,_=>none
  | m + 1,x1,x3,y3,x5,q,g=>Zc (Zp 2 x1) fun v89=>Zc (Zf q v89) fun v90=>Zc (Yy q .slice v90) fun v91=>Zc (Zd .lss .prim x5 v91) fun v92=>ifK v92 (Zc (Qf (.slice 1) x3 (.int .i64 1)) fun v93=>Qg (ZqH o.length v93 q g) fun v94 h95 f96=>Zc (Zp 2 x1) fun v97=>Zc (Zf h95 v97) fun v98=>Zc (Qf (.slice 17) v98 x5) fun v99=>Zc (Zp 0 v99) fun v100=>Zc (Zf h95 v100) fun v101=>GQ (Zeb Y9 1 [v101] h95) fun v102 h103=>Zc (Zo6 1 16 v94 (AV.ro v102) h103) fun v104=>Zc (Qf (.slice 1) x3 (.int .i64 1)) fun v105=>GQ (Zfu o.length v105 v104 h103 f96) fun h106 f107=>Zc (Zd .add .prim x5 (.int .i64 1)) fun v108=>Gc G K L o k2 m x1 x3 y3 v108 h106 f107) (k2 x1 x3 y3 q g)
theorem ZdF (G:GT)(K:KT)(L:Nat)(o:HP)(k2:AV→AV→AV→HP→Eff→KR) :∀ m,VW (fun n'=>Z9 G 131 o.length K Yx L FH n' (Y5 Yx Ql o) [(2,(fun e q g=>k2 (e 1).rd (e 3).rd (e 3).val q g))]) m=fun e q g=>Gc G K L o k2 m (e 1).rd (e 3).rd (e 3).val (e 5).rd q g:=lpI rfl fun _=>by kernel_rfl
theorem ZdE (G:GT)(K:KT)(L:Nat)(o:HP)(k2:AV→AV→AV→HP→Eff→KR)(zn:Kj):Z9 G 131 o.length K Yx L Za8 zn (Y5 Yx Ql o) [(2,(fun e q g=>k2 (e 1).rd (e 3).rd (e 3).val q g))]=fun e q g=>Gc G K L o k2 L (e 1).rd (e 3).rd (e 3).val (e 5).rd q g:=ZdF G K L o k2 L
def TB (G:GT)(K:KT)(L:Nat)(o:HP)(x1:AV)(x3:AV)(y3:AV)(q:HP)(g:Eff):KR :=
  Gc G K L o (TC G K L o) L x1 x3 y3 (.int .i64 0) q g
theorem Zd7 (G:GT)(K:KT)(L:Nat)(o:HP) :Z9 G 131 o.length K Yx L PY (Y5 Yx Ql o) (Y5 Yx Ql o) []=fun e q g=>TB G K L o (e 1).rd (e 3).rd (e 3).val q g:=by
 simp only [PY,Yh,ZB,ZC,ZX]
 rw [Zd8 G K L o ,ZdE G K L o (TC G K L o) _]
 kernel_rfl
def Gb (G:GT)(K:KT)(L:Nat)(o:HP)(k0:AV→AV→AV→HP→Eff→KR):Nat→AV→AV→AV→AV→HP→Eff→KR
  | 0,_,_,_,_,_,_=>none
  | m + 1,x1,x3,y3,x4,q,g=>Zc (Zp 1 x1) fun v109=>Zc (Zf q v109) fun v110=>Zc (Yy q .slice v110) fun v111=>Zc (Zd .lss .prim x4 v111) fun v112=>ifK v112 (Zc (Qf (.slice 1) x3 (.int .i64 0)) fun v113=>Qg (ZqH o.length v113 q g) fun v114 h115 f116=>Zc (Zp 1 x1) fun v117=>Zc (Zf h115 v117) fun v118=>Zc (Qf (.slice 3) v118 x4) fun v119=>Zc (Zp 0 v119) fun v120=>Zc (Zf h115 v120) fun v121=>GQ (Zeb Y9 1 [v121] h115) fun v122 h123=>Zc (Zo6 1 16 v114 (AV.ro v122) h123) fun v124=>Zc (Qf (.slice 1) x3 (.int .i64 0)) fun v125=>GQ (Zfu o.length v125 v124 h123 f116) fun h126 f127=>Zc (Zd .add .prim x4 (.int .i64 1)) fun v128=>Gb G K L o k0 m x1 x3 y3 v128 h126 f127) (k0 x1 x3 y3 q g)
theorem ZdD (G:GT)(K:KT)(L:Nat)(o:HP)(k0:AV→AV→AV→HP→Eff→KR) :∀ m,VW (fun n'=>Z9 G 131 o.length K Yx L FE n' (Y5 Yx Ql o) [(0,(fun e q g=>k0 (e 1).rd (e 3).rd (e 3).val q g))]) m=fun e q g=>Gb G K L o k0 m (e 1).rd (e 3).rd (e 3).val (e 4).rd q g:=lpI rfl fun _=>by kernel_rfl
theorem ZdC (G:GT)(K:KT)(L:Nat)(o:HP)(k0:AV→AV→AV→HP→Eff→KR)(zn:Kj):Z9 G 131 o.length K Yx L Za7 zn (Y5 Yx Ql o) [(0,(fun e q g=>k0 (e 1).rd (e 3).rd (e 3).val q g))]=fun e q g=>Gb G K L o k0 L (e 1).rd (e 3).rd (e 3).val (e 4).rd q g:=ZdD G K L o k0 L
def Zb7 (G:GT)(K:KT)(L:Nat)(x0:AV)(o:HP):KR :=
  Zc (GA 13 (AV.ro x0)) fun v1=>JE (o ++ [.cells v1 Zb]) fun h0=>GQ (ZqL YP [(.own 1 [])] (.int .i64 10) h0) fun v2 h3=>Gb G K L o (TB G K L o) L (.ptr (o).length 0) v2 v2 (.int .i64 0) h3 none
theorem ZhX (G:GT)(K:KT)(L:Nat)(x0:AV)(o:HP):fnK G K Yx L Ql [x0] o=Zb7 G K L x0 o:=by
 show Z9 G 131 o.length K Yx L Zbd (Y5 Yx Ql o) (Y5 Yx Ql o) [] (Df [x0]) o none=_
 simp only [Zbd,Yh,ZB,ZC,ZX]
 rw [Zd7 G K L o ,ZdC G K L o (TB G K L o) _]
 kernel_rfl
theorem Zkp {C:Cfg}{x0:AV}:RunT C LA Ql [x0] (fun K=>Zb7 C.G K C.L x0):=runT rfl fun _ _=>ZhX ..
def Iq (G:GT)(K:KT)(L:Nat)(o:HP)(q:HP)(g:Eff):KR :=
  some (Z6 false o (.int .i64 0) q g)
theorem Zb4 (G:GT)(K:KT)(L:Nat)(o:HP) :Z9 G 46 o.length K VZ L Af (Y5 VZ Uy o) (Y5 VZ Uy o) []=fun e q g=>Iq G K L o  q g:=by kernel_rfl
def Uj (G:GT)(K:KT)(L:Nat)(o:HP)(k0:HP→Eff→KR):Nat→AV→AV→AV→HP→Eff→KR
  | 0,_,_,_,_,_=>none
  | m + 1,x0,x23,x24,q,g=>Zc (Zd .lss .prim x24 x23) fun v21=>ifK v21 (Zc (Sz x0 x24) fun v22=>Qg (K Rj [v22] q) fun v23 h24 f25=>Zc (JG .not (AV.ro v23)) fun v26=>Uq v26 true (Zc (Zd .lss .prim v22 (.int .u8 48)) fun v27=>Uq v27 false (Zc (Zd .gtr .prim v22 (.int .u8 57)) fun v28=>some (v28,h24,(Ze o.length g f25))) (some (.bool true)) h24 (Ze o.length g f25) fun v29 h30 f31=>some ((AV.ro v29),h30,f31)) (some (.bool false)) h24 (Ze o.length g f25) fun v32 h33 f34=>Uq (AV.ro v32) true (Zc (Zd .neq .prim v22 (.int .u8 95)) fun v35=>some (v35,h33,f34)) (some (.bool false)) h33 f34 fun v36 h37 f38=>ifK (AV.ro v36) (some (Z6 false o (.int .i64 3) h37 f38)) (Zc (Zd .add .prim x24 (.int .i64 1)) fun v39=>Uj G K L o k0 m x0 x23 v39 h37 f38)) (k0  q g)
theorem Zb6 (G:GT)(K:KT)(L:Nat)(o:HP)(k0:HP→Eff→KR) :∀ m,VW (fun n'=>Z9 G 46 o.length K VZ L NS n' (Y5 VZ Uy o) [(0,(fun e q g=>k0 q g))]) m=fun e q g=>Uj G K L o k0 m (e 0).rd (e 23).rd (e 24).rd q g:=lpI rfl fun _=>by kernel_rfl
theorem Zb5 (G:GT)(K:KT)(L:Nat)(o:HP)(k0:HP→Eff→KR)(zn:Kj):Z9 G 46 o.length K VZ L Ag zn (Y5 VZ Uy o) [(0,(fun e q g=>k0 q g))]=fun e q g=>Uj G K L o k0 L (e 0).rd (e 23).rd (e 24).rd q g:=Zb6 G K L o k0 L
def H9 (G:GT)(K:KT)(L:Nat)(x0:AV)(o:HP):KR :=
  Zc (Zd .eql .prim (AV.ro x0) (.str [])) fun v0=>Uq v0 false (Zc (Yy o .str (AV.ro x0)) fun v1=>Zc (Zd .gtr .prim v1 (.int .i64 24)) fun v2=>some (v2,o,none)) (some (.bool true)) o none fun v3 h4 f5=>Uq (AV.ro v3) false (Zc (Sz (AV.ro x0) (.int .i64 0)) fun v6=>Qg (K Rj [v6] h4) fun v7 h8 f9=>Zc (JG .not (AV.ro v7)) fun v10=>some (v10,h8,(Ze o.length f5 f9))) (some (.bool true)) h4 f5 fun v11 h12 f13=>Uq (AV.ro v11) false (Qg (K BM [(AV.ro x0)] h12) fun v14 h15 f16=>some ((AV.ro v14),h15,(Ze o.length f13 f16))) (some (.bool true)) h12 f13 fun v17 h18 f19=>ifK (AV.ro v17) (some (Z6 false o (.int .i64 3) h18 f19)) (Zc (Yy h18 .str (AV.ro x0)) fun v20=>Uj G K L o (Iq G K L o) L (AV.ro x0) v20 (.int .i64 0) h18 f19)
theorem ZeO (G:GT)(K:KT)(L:Nat)(x0:AV)(o:HP):fnK G K VZ L Uy [x0] o=H9 G K L x0 o:=by
 show Z9 G 46 o.length K VZ L Er (Y5 VZ Uy o) (Y5 VZ Uy o) [] (Df [x0]) o none=_
 simp only [Er,Yh,ZB,ZC,ZX]
 rw [Zb4 G K L o ,Zb5 G K L o (Iq G K L o) _]
 kernel_rfl
theorem ZgS {C:Cfg}{x0:AV}:RunT C K9 Uy [x0] (fun K=>H9 C.G K C.L x0):=runT rfl fun _ _=>ZeO ..
def IE (G:GT)(K:KT)(L:Nat)(x0 x1:AV)(o:HP):KR :=
  Qg (K Uu [(AV.ro x1),(.int .i64 32),(.fn VJ [(AV.ro x0)] [])] o) fun v0 h1 f2=>some (Z6 false o v0 h1 (Ze o.length none f2))
theorem Ni (G:GT)(K:KT)(L:Nat)(x0 x1:AV)(o:HP):fnK G K AL L IA [x0,x1] o=IE G K L x0 x1 o:=by kernel_rfl
theorem NL {C:Cfg}{x0 x1:AV}:RunT C V6 IA [x0,x1] (fun K=>IE C.G K C.L x0 x1):=runT rfl fun _ _=>Ni ..
def MQ (G:GT)(K:KT)(L:Nat)(x0 x1:AV)(o:HP):KR :=
  Zc (GA 13 (AV.ro x0)) fun v1=>JE (o ++ [.cells v1 Zb]) fun h0=>Zc (Zf h0 (AV.ro x1)) fun v2=>Zc (Zp 0 (.ptr (o).length 0)) fun v3=>Zc (Zf h0 v3) fun v4=>Qg (K Y0 [v2,v4] h0) fun v5 h6 f7=>Zc (Zd .neq .prim (AV.ro v5) (.int .i64 0)) fun v8=>ifK v8 (some (Z6 false o v5 h6 (Ze o.length none f7))) (Zc (Z8 h6 13 (.ptr (o).length 0)) fun v9=>Qg (K AU [v9] h6) fun v10 h11 f12=>some (Z6 false o v10 h11 (Ze o.length (Ze o.length none f7) f12)))
theorem Zcg (G:GT)(K:KT)(L:Nat)(x0 x1:AV)(o:HP):fnK G K Zhc L BP [x0,x1] o=MQ G K L x0 x1 o:=by kernel_rfl
theorem SA {C:Cfg}{x0 x1:AV}:RunT C UL BP [x0,x1] (fun K=>MQ C.G K C.L x0 x1):=runT rfl fun _ _=>Zcg ..
def QJ (G:GT)(K:KT)(L:Nat)(o:HP)(q:HP)(g:Eff):KR :=
  some (Z6 false o (.int .i64 0) q g)
theorem Ll (G:GT)(K:KT)(L:Nat)(o:HP) :Z9 G 27 o.length K YE L Ik (Y5 YE WQ o) (Y5 YE WQ o) []=fun e q g=>QJ G K L o  q g:=by kernel_rfl
def YM (G:GT)(K:KT)(L:Nat)(o:HP)(k0:HP→Eff→KR):Nat→AV→AV→AV→AV→HP→Eff→KR
  | 0,_,_,_,_,_,_=>none
  | m + 1,x2,x14,x15,x16,q,g=>Zc (Zd .lss .prim x16 x15) fun v3=>ifK v3 (Zc (Qf (.slice 13) x14 x16) fun v4=>Zc (Z8 q 13 v4) fun v5=>JE (q ++ [.cells [(.str []),(.own 3 []),(.own 17 []),(.own 3 []),(.own 3 []),(.own 1 []),(.own 1 []),(.own 1 []),(.own 1 []),(.own 1 []),(.own 4 []),(.own 5 []),(.own 3 [])] Zb]) fun h6=>GQ (stV o.length 13 (.ptr (q).length 0) v5 h6 g) fun h7 f8=>Zc (Z8 h7 13 (.ptr (q).length 0)) fun v9=>Qg (Vh K x2 [v9] h7) fun v10 h11 f12=>Zc (Zd .neq .prim (AV.ro v10) (.int .i64 0)) fun v13=>ifK v13 (some (Z6 false o v10 h11 (Ze o.length f8 f12))) (Zc (Zd .add .prim x16 (.int .i64 1)) fun v14=>YM G K L o k0 m x2 x14 x15 v14 h11 (Ze o.length f8 f12))) (k0  q g)
theorem Lp (G:GT)(K:KT)(L:Nat)(o:HP)(k0:HP→Eff→KR) :∀ m,VW (fun n'=>Z9 G 27 o.length K YE L Hg n' (Y5 YE WQ o) [(0,(fun e q g=>k0 q g))]) m=fun e q g=>YM G K L o k0 m (e 2).rd (e 14).rd (e 15).rd (e 16).rd q g:=lpI rfl fun _=>by kernel_rfl
theorem Lm (G:GT)(K:KT)(L:Nat)(o:HP)(k0:HP→Eff→KR)(zn:Kj):Z9 G 27 o.length K YE L Il zn (Y5 YE WQ o) [(0,(fun e q g=>k0 q g))]=fun e q g=>YM G K L o k0 L (e 2).rd (e 14).rd (e 15).rd (e 16).rd q g:=Lp G K L o k0 L
def Jj (G:GT)(K:KT)(L:Nat)(x0 x1 x2:AV)(o:HP):KR :=
  Zc (Yy o .slice (AV.ro x0)) fun v0=>Zc (Zd .gtr .prim v0 (AV.ro x1)) fun v1=>ifK v1 (some (Z6 false o (.int .i64 6) o none)) (Zc (Yy o .slice (AV.ro x0)) fun v2=>YM G K L o (QJ G K L o) L (AV.ro x2) (AV.ro x0) v2 (.int .i64 0) o none)
theorem RX (G:GT)(K:KT)(L:Nat)(x0 x1 x2:AV)(o:HP):fnK G K YE L WQ [x0,x1,x2] o=Jj G K L x0 x1 x2 o:=by
 show Z9 G 27 o.length K YE L Kv (Y5 YE WQ o) (Y5 YE WQ o) [] (Df [x0,x1,x2]) o none=_
 simp only [Kv,Yh,ZB,ZC,ZX]
 rw [Ll G K L o ,Lm G K L o (QJ G K L o) _]
 kernel_rfl
theorem IU {C:Cfg}{x0 x1 x2:AV}:RunT C Vq WQ [x0,x1,x2] (fun K=>Jj C.G K C.L x0 x1 x2):=runT rfl fun _ _=>RX ..
def E8 (G:GT)(K:KT)(L:Nat)(x0:AV)(o:HP):KR :=
  Zc (GA 4 (AV.ro x0)) fun v1=>JE (o ++ [.cells v1 Yd]) fun h0=>JE (h0 ++ [.map []]) fun h2=>JE (h2 ++ [.cells [.nilm] JZ]) fun h3=>GQ (Zfu o.length (.ptr (h2).length 0) (.map (h0).length) h3 none) fun h4 f5=>Zc (Zp 3 (.ptr (o).length 0)) fun v6=>Zc (Zf h4 v6) fun v7=>Qg (K Ke [v7,(.int .i64 32),(.fn Oe [] [(.ptr (o).length 0),(.ptr (h2).length 0)])] h4) fun v8 h9 f10=>some (Z6 false o v8 h9 (Ze o.length f5 f10))
theorem ZeL (G:GT)(K:KT)(L:Nat)(x0:AV)(o:HP):fnK G K Zkl L Eh [x0] o=E8 G K L x0 o:=by kernel_rfl
theorem ZgP {C:Cfg}{x0:AV}:RunT C SS Eh [x0] (fun K=>E8 C.G K C.L x0):=runT rfl fun _ _=>ZeL ..
def Nj (G:GT)(K:KT)(L:Nat)(x0 x1 x2:AV)(o:HP):KR :=
  Zc (GA 3 (AV.ro x0)) fun v1=>JE (o ++ [.cells v1 VI]) fun h0=>Zc (Zp 0 (.ptr (o).length 0)) fun v2=>Zc (Zf h0 v2) fun v3=>Zc (Zf h0 (AV.ro x1)) fun v4=>Zc (Zd .eql .prim v3 v4) fun v5=>Uq v5 true (Zc (Zp 1 (.ptr (o).length 0)) fun v6=>Zc (Zf h0 v6) fun v7=>Zc (Zf h0 (AV.ro x2)) fun v8=>Zc (Zd .eql .prim v7 v8) fun v9=>some (v9,h0,none)) (some (.bool false)) h0 none fun v10 h11 f12=>some (Z6 false o v10 h11 f12)
theorem Zds (G:GT)(K:KT)(L:Nat)(x0 x1 x2:AV)(o:HP):fnK G K Zix L PI [x0,x1,x2] o=Nj G K L x0 x1 x2 o:=by kernel_rfl
theorem ZeY {C:Cfg}{x0 x1 x2:AV}:RunT C Rh PI [x0,x1,x2] (fun K=>Nj C.G K C.L x0 x1 x2):=runT rfl fun _ _=>Zds ..
def WS (G:GT)(K:KT)(L:Nat)(o:HP)(q:HP)(g:Eff):KR :=
  some (Z6 false o (.int .i64 (-1)) q g)
theorem GZ (G:GT)(K:KT)(L:Nat)(o:HP) :Z9 G 19 o.length K ZO L Jp (Y5 ZO Ye o) (Y5 ZO Ye o) []=fun e q g=>WS G K L o  q g:=by kernel_rfl
def Yf (G:GT)(K:KT)(L:Nat)(o:HP)(k0:HP→Eff→KR):Nat→AV→AV→AV→AV→HP→Eff→KR
  | 0,_,_,_,_,_,_=>none
  | m + 1,x0,x1,x7,x8,q,g=>Zc (Zd .lss .prim x8 x7) fun v1=>ifK v1 (Zc (Qf (.slice 3) x0 x8) fun v2=>Zc (Z8 q 3 v2) fun v3=>Qg (Vh K x1 [v3] q) fun v4 h5 f6=>ifK (AV.ro v4) (some (Z6 false o x8 h5 (Ze o.length g f6))) (Zc (Zd .add .prim x8 (.int .i64 1)) fun v7=>Yf G K L o k0 m x0 x1 x7 v7 h5 (Ze o.length g f6))) (k0  q g)
theorem Hd (G:GT)(K:KT)(L:Nat)(o:HP)(k0:HP→Eff→KR) :∀ m,VW (fun n'=>Z9 G 19 o.length K ZO L Jd n' (Y5 ZO Ye o) [(0,(fun e q g=>k0 q g))]) m=fun e q g=>Yf G K L o k0 m (e 0).rd (e 1).rd (e 7).rd (e 8).rd q g:=lpI rfl fun _=>by kernel_rfl
theorem Ha (G:GT)(K:KT)(L:Nat)(o:HP)(k0:HP→Eff→KR)(zn:Kj):Z9 G 19 o.length K ZO L Jq zn (Y5 ZO Ye o) [(0,(fun e q g=>k0 q g))]=fun e q g=>Yf G K L o k0 L (e 0).rd (e 1).rd (e 7).rd (e 8).rd q g:=Hd G K L o k0 L
def Vn (G:GT)(K:KT)(L:Nat)(x0 x1:AV)(o:HP):KR :=
  Zc (Yy o .slice (AV.ro x0)) fun v0=>Yf G K L o (WS G K L o) L (AV.ro x0) (AV.ro x1) v0 (.int .i64 0) o none
theorem II (G:GT)(K:KT)(L:Nat)(x0 x1:AV)(o:HP):fnK G K ZO L Ye [x0,x1] o=Vn G K L x0 x1 o:=by
 show Z9 G 19 o.length K ZO L Vl (Y5 ZO Ye o) (Y5 ZO Ye o) [] (Df [x0,x1]) o none=_
 simp only [Vl,Yh,ZB,ZC,ZX]
 rw [GZ G K L o ,Ha G K L o (WS G K L o) _]
 kernel_rfl
theorem IZ {C:Cfg}{x0 x1:AV}:RunT C Vk Ye [x0,x1] (fun K=>Vn C.G K C.L x0 x1):=runT rfl fun _ _=>II ..
def Nk (G:GT)(K:KT)(L:Nat)(x0 x1:AV)(o:HP):KR :=
  Zc (GA 13 (AV.ro x0)) fun v1=>JE (o ++ [.cells v1 Zb]) fun h0=>Zc (Zp 0 (.ptr (o).length 0)) fun v2=>Zc (Zf h0 v2) fun v3=>Zc (Zf h0 (AV.ro x1)) fun v4=>Zc (Zd .eql .prim v3 v4) fun v5=>some (Z6 false o v5 h0 none)
theorem Zdt (G:GT)(K:KT)(L:Nat)(x0 x1:AV)(o:HP):fnK G K Ziy L PK [x0,x1] o=Nk G K L x0 x1 o:=by kernel_rfl
theorem ZeZ {C:Cfg}{x0 x1:AV}:RunT C Ri PK [x0,x1] (fun K=>Nk C.G K C.L x0 x1):=runT rfl fun _ _=>Zdt ..
def YC (G:GT)(K:KT)(L:Nat)(o:HP)(q:HP)(g:Eff):KR :=
  some (Z6 false o (.int .i64 (-1)) q g)
theorem UI (G:GT)(K:KT)(L:Nat)(o:HP) :Z9 G 19 o.length K Zu L Vt (Y5 Zu ZH o) (Y5 Zu ZH o) []=fun e q g=>YC G K L o  q g:=by kernel_rfl
def ZU (G:GT)(K:KT)(L:Nat)(o:HP)(k0:HP→Eff→KR):Nat→AV→AV→AV→AV→HP→Eff→KR
  | 0,_,_,_,_,_,_=>none
  | m + 1,x0,x1,x7,x8,q,g=>Zc (Zd .lss .prim x8 x7) fun v1=>ifK v1 (Zc (Qf (.slice 13) x0 x8) fun v2=>Zc (Z8 q 13 v2) fun v3=>Qg (Vh K x1 [v3] q) fun v4 h5 f6=>ifK (AV.ro v4) (some (Z6 false o x8 h5 (Ze o.length g f6))) (Zc (Zd .add .prim x8 (.int .i64 1)) fun v7=>ZU G K L o k0 m x0 x1 x7 v7 h5 (Ze o.length g f6))) (k0  q g)
theorem UK (G:GT)(K:KT)(L:Nat)(o:HP)(k0:HP→Eff→KR) :∀ m,VW (fun n'=>Z9 G 19 o.length K Zu L Vj n' (Y5 Zu ZH o) [(0,(fun e q g=>k0 q g))]) m=fun e q g=>ZU G K L o k0 m (e 0).rd (e 1).rd (e 7).rd (e 8).rd q g:=lpI rfl fun _=>by kernel_rfl
theorem UJ (G:GT)(K:KT)(L:Nat)(o:HP)(k0:HP→Eff→KR)(zn:Kj):Z9 G 19 o.length K Zu L Vu zn (Y5 Zu ZH o) [(0,(fun e q g=>k0 q g))]=fun e q g=>ZU G K L o k0 L (e 0).rd (e 1).rd (e 7).rd (e 8).rd q g:=UK G K L o k0 L
def QZ (G:GT)(K:KT)(L:Nat)(x0 x1:AV)(o:HP):KR :=
  Zc (Yy o .slice (AV.ro x0)) fun v0=>ZU G K L o (YC G K L o) L (AV.ro x0) (AV.ro x1) v0 (.int .i64 0) o none
theorem Ky (G:GT)(K:KT)(L:Nat)(x0 x1:AV)(o:HP):fnK G K Zu L ZH [x0,x1] o=QZ G K L x0 x1 o:=by
 show Z9 G 19 o.length K Zu L QX (Y5 Zu ZH o) (Y5 Zu ZH o) [] (Df [x0,x1]) o none=_
 simp only [QX,Yh,ZB,ZC,ZX]
 rw [UI G K L o ,UJ G K L o (YC G K L o) _]
 kernel_rfl
theorem KX {C:Cfg}{x0 x1:AV}:RunT C QV ZH [x0,x1] (fun K=>QZ C.G K C.L x0 x1):=runT rfl fun _ _=>Ky ..
def LK (G:GT)(K:KT)(L:Nat)(x0 x1:AV)(o:HP):KR :=
  Zc (GA 4 (AV.ro x0)) fun v1=>JE (o ++ [.cells v1 QQ]) fun h0=>Zc (Zp 0 (.ptr (o).length 0)) fun v2=>Zc (Zf h0 v2) fun v3=>Zc (Zf h0 (AV.ro x1)) fun v4=>Zc (Zd .eql .prim v3 v4) fun v5=>some (Z6 false o v5 h0 none)
theorem Zau (G:GT)(K:KT)(L:Nat)(x0 x1:AV)(o:HP):fnK G K Zep L LB [x0,x1] o=LK G K L x0 x1 o:=by kernel_rfl
theorem ZbJ {C:Cfg}{x0 x1:AV}:RunT C OG LB [x0,x1] (fun K=>LK C.G K C.L x0 x1):=runT rfl fun _ _=>Zau ..
def YJ (G:GT)(K:KT)(L:Nat)(o:HP)(q:HP)(g:Eff):KR :=
  some (Z6 false o (.int .i64 (-1)) q g)
theorem Kk (G:GT)(K:KT)(L:Nat)(o:HP) :Z9 G 19 o.length K Z4 L V9 (Y5 Z4 ZV o) (Y5 Z4 ZV o) []=fun e q g=>YJ G K L o  q g:=by kernel_rfl
def ZW (G:GT)(K:KT)(L:Nat)(o:HP)(k0:HP→Eff→KR):Nat→AV→AV→AV→AV→HP→Eff→KR
  | 0,_,_,_,_,_,_=>none
  | m + 1,x0,x1,x7,x8,q,g=>Zc (Zd .lss .prim x8 x7) fun v1=>ifK v1 (Zc (Qf (.slice 4) x0 x8) fun v2=>Zc (Z8 q 4 v2) fun v3=>Qg (Vh K x1 [v3] q) fun v4 h5 f6=>ifK (AV.ro v4) (some (Z6 false o x8 h5 (Ze o.length g f6))) (Zc (Zd .add .prim x8 (.int .i64 1)) fun v7=>ZW G K L o k0 m x0 x1 x7 v7 h5 (Ze o.length g f6))) (k0  q g)
theorem Km (G:GT)(K:KT)(L:Nat)(o:HP)(k0:HP→Eff→KR) :∀ m,VW (fun n'=>Z9 G 19 o.length K Z4 L V4 n' (Y5 Z4 ZV o) [(0,(fun e q g=>k0 q g))]) m=fun e q g=>ZW G K L o k0 m (e 0).rd (e 1).rd (e 7).rd (e 8).rd q g:=lpI rfl fun _=>by kernel_rfl
theorem Kl (G:GT)(K:KT)(L:Nat)(o:HP)(k0:HP→Eff→KR)(zn:Kj):Z9 G 19 o.length K Z4 L VA zn (Y5 Z4 ZV o) [(0,(fun e q g=>k0 q g))]=fun e q g=>ZW G K L o k0 L (e 0).rd (e 1).rd (e 7).rd (e 8).rd q g:=Km G K L o k0 L
def X6 (G:GT)(K:KT)(L:Nat)(x0 x1:AV)(o:HP):KR :=
  Zc (Yy o .slice (AV.ro x0)) fun v0=>ZW G K L o (YJ G K L o) L (AV.ro x0) (AV.ro x1) v0 (.int .i64 0) o none
theorem Gh (G:GT)(K:KT)(L:Nat)(x0 x1:AV)(o:HP):fnK G K Z4 L ZV [x0,x1] o=X6 G K L x0 x1 o:=by
 show Z9 G 19 o.length K Z4 L X5 (Y5 Z4 ZV o) (Y5 Z4 ZV o) [] (Df [x0,x1]) o none=_
 simp only [X5,Yh,ZB,ZC,ZX]
 rw [Kk G K L o ,Kl G K L o (YJ G K L o) _]
 kernel_rfl
theorem Gs {C:Cfg}{x0 x1:AV}:RunT C X4 ZV [x0,x1] (fun K=>X6 C.G K C.L x0 x1):=runT rfl fun _ _=>Gh ..
def E9 (G:GT)(K:KT)(L:Nat)(x0 x1:AV)(o:HP):KR :=
  Zc (GA 13 (AV.ro x0)) fun v1=>JE (o ++ [.cells v1 Zb]) fun h0=>Zc (GA 1 (AV.ro x1)) fun v3=>JE (h0 ++ [.cells v3 Y9]) fun h2=>Zc (Zp 1 (.ptr (o).length 0)) fun v4=>Zc (Zf h2 v4) fun v5=>Qg (K XP [v5,(.fn MB [] [(.ptr (h0).length 0)])] h2) fun v6 h7 f8=>Zc (Zd .geq .prim (AV.ro v6) (.int .i64 0)) fun v9=>ifK v9 (some (Z6 false o (.tup [(AV.nm (.str [118,97,114])),(AV.nm v6)]) h7 (Ze o.length none f8))) (Zc (Zp 2 (.ptr (o).length 0)) fun v10=>Zc (Zf h7 v10) fun v11=>Qg (K Qn [v11,(.fn MC [] [(.ptr (h0).length 0)])] h7) fun v12 h13 f14=>Zc (Zd .geq .prim (AV.ro v12) (.int .i64 0)) fun v15=>ifK v15 (some (Z6 false o (.tup [(AV.nm (.str [114,101,115,111,117,114,99,101])),(AV.nm v12)]) h13 (Ze o.length (Ze o.length none f8) f14))) (Zc (Zp 3 (.ptr (o).length 0)) fun v16=>Zc (Zf h13 v16) fun v17=>Qg (K WV [v17,(.fn ME [] [(.ptr (h0).length 0)])] h13) fun v18 h19 f20=>Zc (Zd .geq .prim (AV.ro v18) (.int .i64 0)) fun v21=>ifK v21 (some (Z6 false o (.tup [(AV.nm (.str [115,116,111,114,101])),(AV.nm v18)]) h19 (Ze o.length (Ze o.length (Ze o.length none f8) f14) f20))) (Zc (Zp 4 (.ptr (o).length 0)) fun v22=>Zc (Zf h19 v22) fun v23=>Qg (K QU [v23,(.fn MF [] [(.ptr (h0).length 0)])] h19) fun v24 h25 f26=>Zc (Zd .geq .prim (AV.ro v24) (.int .i64 0)) fun v27=>ifK v27 (some (Z6 false o (.tup [(AV.nm (.str [98,101,108,116])),(AV.nm v24)]) h25 (Ze o.length (Ze o.length (Ze o.length (Ze o.length none f8) f14) f20) f26))) (Zc (Zp 5 (.ptr (o).length 0)) fun v28=>Zc (Zf h25 v28) fun v29=>Zc (Zf h25 (.ptr (h0).length 0)) fun v30=>Qg (K WE [v29,v30] h25) fun v31 h32 f33=>Zc (Zd .geq .prim (AV.ro v31) (.int .i64 0)) fun v34=>ifK v34 (some (Z6 false o (.tup [(AV.nm (.str [113,117,101,117,101])),(AV.nm v31)]) h32 (Ze o.length (Ze o.length (Ze o.length (Ze o.length (Ze o.length none f8) f14) f20) f26) f33))) (Zc (Zp 6 (.ptr (o).length 0)) fun v35=>Zc (Zf h32 v35) fun v36=>Zc (Zf h32 (.ptr (h0).length 0)) fun v37=>Qg (K WE [v36,v37] h32) fun v38 h39 f40=>Zc (Zd .geq .prim (AV.ro v38) (.int .i64 0)) fun v41=>ifK v41 (some (Z6 false o (.tup [(AV.nm (.str [115,116,114,101,97,109])),(AV.nm v38)]) h39 (Ze o.length (Ze o.length (Ze o.length (Ze o.length (Ze o.length (Ze o.length none f8) f14) f20) f26) f33) f40))) (Zc (Zp 7 (.ptr (o).length 0)) fun v42=>Zc (Zf h39 v42) fun v43=>Zc (Zf h39 (.ptr (h0).length 0)) fun v44=>Qg (K WE [v43,v44] h39) fun v45 h46 f47=>Zc (Zd .geq .prim (AV.ro v45) (.int .i64 0)) fun v48=>ifK v48 (some (Z6 false o (.tup [(AV.nm (.str [116,97,108,108,121])),(AV.nm v45)]) h46 (Ze o.length (Ze o.length (Ze o.length (Ze o.length (Ze o.length (Ze o.length (Ze o.length none f8) f14) f20) f26) f33) f40) f47))) (Zc (Zp 8 (.ptr (o).length 0)) fun v49=>Zc (Zf h46 v49) fun v50=>Zc (Zf h46 (.ptr (h0).length 0)) fun v51=>Qg (K WE [v50,v51] h46) fun v52 h53 f54=>Zc (Zd .geq .prim (AV.ro v52) (.int .i64 0)) fun v55=>ifK v55 (some (Z6 false o (.tup [(AV.nm (.str [108,101,118,101,108])),(AV.nm v52)]) h53 (Ze o.length (Ze o.length (Ze o.length (Ze o.length (Ze o.length (Ze o.length (Ze o.length (Ze o.length none f8) f14) f20) f26) f33) f40) f47) f54))) (Zc (Zp 9 (.ptr (o).length 0)) fun v56=>Zc (Zf h53 v56) fun v57=>Zc (Zf h53 (.ptr (h0).length 0)) fun v58=>Qg (K WE [v57,v58] h53) fun v59 h60 f61=>Zc (Zd .geq .prim (AV.ro v59) (.int .i64 0)) fun v62=>ifK v62 (some (Z6 false o (.tup [(AV.nm (.str [99,111,117,110,116])),(AV.nm v59)]) h60 (Ze o.length (Ze o.length (Ze o.length (Ze o.length (Ze o.length (Ze o.length (Ze o.length (Ze o.length (Ze o.length none f8) f14) f20) f26) f33) f40) f47) f54) f61))) (Zc (Z8 h60 13 (.ptr (o).length 0)) fun v63=>Zc (Zf h60 (.ptr (h0).length 0)) fun v64=>Qg (K V7 [v63,v64] h60) fun v65 h66 f67=>Zc (Zd .geq .prim (AV.ro v65) (.int .i64 0)) fun v68=>ifK v68 (some (Z6 false o (.tup [(AV.nm (.str [114,111,117,116,105,110,101])),(AV.nm v65)]) h66 (Ze o.length (Ze o.length (Ze o.length (Ze o.length (Ze o.length (Ze o.length (Ze o.length (Ze o.length (Ze o.length (Ze o.length none f8) f14) f20) f26) f33) f40) f47) f54) f61) f67))) (some (Z6 false o (.tup [(AV.nm (.str [])),(AV.nm (.int .i64 (-1)))]) h66 (Ze o.length (Ze o.length (Ze o.length (Ze o.length (Ze o.length (Ze o.length (Ze o.length (Ze o.length (Ze o.length (Ze o.length none f8) f14) f20) f26) f33) f40) f47) f54) f61) f67))))))))))))
theorem ZeM (G:GT)(K:KT)(L:Nat)(x0 x1:AV)(o:HP):fnK G K Zkm L Ei [x0,x1] o=E9 G K L x0 x1 o:=by kernel_rfl
theorem ZgQ {C:Cfg}{x0 x1:AV}:RunT C Bp Ei [x0,x1] (fun K=>E9 C.G K C.L x0 x1):=runT rfl fun _ _=>ZeM ..
def NA (G:GT)(K:KT)(L:Nat)(x0:AV)(o:HP):KR :=
  Zc (Zd .geq .prim (AV.ro x0) (.int .u8 97)) fun v0=>Uq v0 true (Zc (Zd .leq .prim (AV.ro x0) (.int .u8 122)) fun v1=>some (v1,o,none)) (some (.bool false)) o none fun v2 h3 f4=>some (Z6 false o v2 h3 f4)
theorem Zd6 (G:GT)(K:KT)(L:Nat)(x0:AV)(o:HP):fnK G K ZiB L PX [x0] o=NA G K L x0 o:=by kernel_rfl
theorem Zfl {C:Cfg}{x0:AV}:RunT C Rj PX [x0] (fun K=>NA C.G K C.L x0):=runT rfl fun _ _=>Zd6 ..
def DF (G:GT)(K:KT)(L:Nat)(x0:AV)(o:HP):KR :=
  Zc (Zd .eql .prim (AV.ro x0) (.str [97,100,100])) fun v0=>ifK v0 (ifK v0 (some (Z6 false o (.bool true) o none)) (some (Z6 false o (.bool false) o none))) (Zc (Zd .eql .prim (AV.ro x0) (.str [97,102,116,101,114])) fun v1=>ifK v1 (ifK v1 (some (Z6 false o (.bool true) o none)) (some (Z6 false o (.bool false) o none))) (Zc (Zd .eql .prim (AV.ro x0) (.str [97,110,100])) fun v2=>ifK v2 (ifK v2 (some (Z6 false o (.bool true) o none)) (some (Z6 false o (.bool false) o none))) (Zc (Zd .eql .prim (AV.ro x0) (.str [97,116])) fun v3=>ifK v3 (ifK v3 (some (Z6 false o (.bool true) o none)) (some (Z6 false o (.bool false) o none))) (Zc (Zd .eql .prim (AV.ro x0) (.str [98,101,108,116])) fun v4=>ifK v4 (ifK v4 (some (Z6 false o (.bool true) o none)) (some (Z6 false o (.bool false) o none))) (Zc (Zd .eql .prim (AV.ro x0) (.str [98,111,111,108])) fun v5=>ifK v5 (ifK v5 (some (Z6 false o (.bool true) o none)) (some (Z6 false o (.bool false) o none))) (Zc (Zd .eql .prim (AV.ro x0) (.str [99,111,110,115,101,114,118,101])) fun v6=>ifK v6 (ifK v6 (some (Z6 false o (.bool true) o none)) (some (Z6 false o (.bool false) o none))) (Zc (Zd .eql .prim (AV.ro x0) (.str [99,111,110,115,116])) fun v7=>ifK v7 (ifK v7 (some (Z6 false o (.bool true) o none)) (some (Z6 false o (.bool false) o none))) (Zc (Zd .eql .prim (AV.ro x0) (.str [99,111,117,110,116])) fun v8=>ifK v8 (ifK v8 (some (Z6 false o (.bool true) o none)) (some (Z6 false o (.bool false) o none))) (Zc (Zd .eql .prim (AV.ro x0) (.str [99,121,99,108,101])) fun v9=>ifK v9 (ifK v9 (some (Z6 false o (.bool true) o none)) (some (Z6 false o (.bool false) o none))) (Zc (Zd .eql .prim (AV.ro x0) (.str [100,111,119,110])) fun v10=>ifK v10 (ifK v10 (some (Z6 false o (.bool true) o none)) (some (Z6 false o (.bool false) o none))) (Zc (Zd .eql .prim (AV.ro x0) (.str [100,114,97,119])) fun v11=>ifK v11 (ifK v11 (some (Z6 false o (.bool true) o none)) (some (Z6 false o (.bool false) o none))) (Zc (Zd .eql .prim (AV.ro x0) (.str [100,117,114])) fun v12=>ifK v12 (ifK v12 (some (Z6 false o (.bool true) o none)) (some (Z6 false o (.bool false) o none))) (Zc (Zd .eql .prim (AV.ro x0) (.str [101,108,115,101])) fun v13=>ifK v13 (ifK v13 (some (Z6 false o (.bool true) o none)) (some (Z6 false o (.bool false) o none))) (Zc (Zd .eql .prim (AV.ro x0) (.str [101,110,100])) fun v14=>ifK v14 (ifK v14 (some (Z6 false o (.bool true) o none)) (some (Z6 false o (.bool false) o none))) (Zc (Zd .eql .prim (AV.ro x0) (.str [101,118,101,114,121])) fun v15=>ifK v15 (ifK v15 (some (Z6 false o (.bool true) o none)) (some (Z6 false o (.bool false) o none))) (Zc (Zd .eql .prim (AV.ro x0) (.str [102,97,108,115,101])) fun v16=>ifK v16 (ifK v16 (some (Z6 false o (.bool true) o none)) (some (Z6 false o (.bool false) o none))) (Zc (Zd .eql .prim (AV.ro x0) (.str [102,97,117,108,116])) fun v17=>ifK v17 (ifK v17 (some (Z6 false o (.bool true) o none)) (some (Z6 false o (.bool false) o none))) (Zc (Zd .eql .prim (AV.ro x0) (.str [102,105,102,111])) fun v18=>ifK v18 (ifK v18 (some (Z6 false o (.bool true) o none)) (some (Z6 false o (.bool false) o none))) (Zc (Zd .eql .prim (AV.ro x0) (.str [102,114,101,101])) fun v19=>ifK v19 (ifK v19 (some (Z6 false o (.bool true) o none)) (some (Z6 false o (.bool false) o none))) (Zc (Zd .eql .prim (AV.ro x0) (.str [102,114,111,109])) fun v20=>ifK v20 (ifK v20 (some (Z6 false o (.bool true) o none)) (some (Z6 false o (.bool false) o none))) (Zc (Zd .eql .prim (AV.ro x0) (.str [103,101,111,109])) fun v21=>ifK v21 (ifK v21 (some (Z6 false o (.bool true) o none)) (some (Z6 false o (.bool false) o none))) (Zc (Zd .eql .prim (AV.ro x0) (.str [103,101,116])) fun v22=>ifK v22 (ifK v22 (some (Z6 false o (.bool true) o none)) (some (Z6 false o (.bool false) o none))) (Zc (Zd .eql .prim (AV.ro x0) (.str [104,111,108,100])) fun v23=>ifK v23 (ifK v23 (some (Z6 false o (.bool true) o none)) (some (Z6 false o (.bool false) o none))) (Zc (Zd .eql .prim (AV.ro x0) (.str [105,102])) fun v24=>ifK v24 (ifK v24 (some (Z6 false o (.bool true) o none)) (some (Z6 false o (.bool false) o none))) (Zc (Zd .eql .prim (AV.ro x0) (.str [105,110,116])) fun v25=>ifK v25 (ifK v25 (some (Z6 false o (.bool true) o none)) (some (Z6 false o (.bool false) o none))) (Zc (Zd .eql .prim (AV.ro x0) (.str [105,110,116,111])) fun v26=>ifK v26 (ifK v26 (some (Z6 false o (.bool true) o none)) (some (Z6 false o (.bool false) o none))) (Zc (Zd .eql .prim (AV.ro x0) (.str [108,101,97,115,116])) fun v27=>ifK v27 (ifK v27 (some (Z6 false o (.bool true) o none)) (some (Z6 false o (.bool false) o none))) (Zc (Zd .eql .prim (AV.ro x0) (.str [108,101,118,101,108])) fun v28=>ifK v28 (ifK v28 (some (Z6 false o (.bool true) o none)) (some (Z6 false o (.bool false) o none))) (Zc (Zd .eql .prim (AV.ro x0) (.str [108,105,102,111])) fun v29=>ifK v29 (ifK v29 (some (Z6 false o (.bool true) o none)) (some (Z6 false o (.bool false) o none))) (Zc (Zd .eql .prim (AV.ro x0) (.str [108,105,110,107])) fun v30=>ifK v30 (ifK v30 (some (Z6 false o (.bool true) o none)) (some (Z6 false o (.bool false) o none))) (Zc (Zd .eql .prim (AV.ro x0) (.str [108,111,99,97,108])) fun v31=>ifK v31 (ifK v31 (some (Z6 false o (.bool true) o none)) (some (Z6 false o (.bool false) o none))) (Zc (Zd .eql .prim (AV.ro x0) (.str [109,97,120])) fun v32=>ifK v32 (ifK v32 (some (Z6 false o (.bool true) o none)) (some (Z6 false o (.bool false) o none))) (Zc (Zd .eql .prim (AV.ro x0) (.str [109,105,110])) fun v33=>ifK v33 (ifK v33 (some (Z6 false o (.bool true) o none)) (some (Z6 false o (.bool false) o none))) (Zc (Zd .eql .prim (AV.ro x0) (.str [109,111,100,101,108])) fun v34=>ifK v34 (ifK v34 (some (Z6 false o (.bool true) o none)) (some (Z6 false o (.bool false) o none))) (Zc (Zd .eql .prim (AV.ro x0) (.str [110,111,116])) fun v35=>ifK v35 (ifK v35 (some (Z6 false o (.bool true) o none)) (some (Z6 false o (.bool false) o none))) (Zc (Zd .eql .prim (AV.ro x0) (.str [110,111,119])) fun v36=>ifK v36 (ifK v36 (some (Z6 false o (.bool true) o none)) (some (Z6 false o (.bool false) o none))) (Zc (Zd .eql .prim (AV.ro x0) (.str [111,98,115,101,114,118,101])) fun v37=>ifK v37 (ifK v37 (some (Z6 false o (.bool true) o none)) (some (Z6 false o (.bool false) o none))) (Zc (Zd .eql .prim (AV.ro x0) (.str [111,114])) fun v38=>ifK v38 (ifK v38 (some (Z6 false o (.bool true) o none)) (some (Z6 false o (.bool false) o none))) (Zc (Zd .eql .prim (AV.ro x0) (.str [112,97,114,97,109])) fun v39=>ifK v39 (ifK v39 (some (Z6 false o (.bool true) o none)) (some (Z6 false o (.bool false) o none))) (Zc (Zd .eql .prim (AV.ro x0) (.str [112,114,101,101,109,112,116])) fun v40=>ifK v40 (ifK v40 (some (Z6 false o (.bool true) o none)) (some (Z6 false o (.bool false) o none))) (Zc (Zd .eql .prim (AV.ro x0) (.str [112,114,105,111])) fun v41=>ifK v41 (ifK v41 (some (Z6 false o (.bool true) o none)) (some (Z6 false o (.bool false) o none))) (Zc (Zd .eql .prim (AV.ro x0) (.str [112,117,116])) fun v42=>ifK v42 (ifK v42 (some (Z6 false o (.bool true) o none)) (some (Z6 false o (.bool false) o none))) (Zc (Zd .eql .prim (AV.ro x0) (.str [113,117,101,117,101])) fun v43=>ifK v43 (ifK v43 (some (Z6 false o (.bool true) o none)) (some (Z6 false o (.bool false) o none))) (Zc (Zd .eql .prim (AV.ro x0) (.str [114,101,108,101,97,115,101])) fun v44=>ifK v44 (ifK v44 (some (Z6 false o (.bool true) o none)) (some (Z6 false o (.bool false) o none))) (Zc (Zd .eql .prim (AV.ro x0) (.str [114,101,115,111,117,114,99,101])) fun v45=>ifK v45 (ifK v45 (some (Z6 false o (.bool true) o none)) (some (Z6 false o (.bool false) o none))) (Zc (Zd .eql .prim (AV.ro x0) (.str [114,105,100,101])) fun v46=>ifK v46 (ifK v46 (some (Z6 false o (.bool true) o none)) (some (Z6 false o (.bool false) o none))) (Zc (Zd .eql .prim (AV.ro x0) (.str [114,111,117,116,105,110,101])) fun v47=>ifK v47 (ifK v47 (some (Z6 false o (.bool true) o none)) (some (Z6 false o (.bool false) o none))) (Zc (Zd .eql .prim (AV.ro x0) (.str [115,101,105,122,101])) fun v48=>ifK v48 (ifK v48 (some (Z6 false o (.bool true) o none)) (some (Z6 false o (.bool false) o none))) (Zc (Zd .eql .prim (AV.ro x0) (.str [115,101,110,100])) fun v49=>ifK v49 (ifK v49 (some (Z6 false o (.bool true) o none)) (some (Z6 false o (.bool false) o none))) (Zc (Zd .eql .prim (AV.ro x0) (.str [115,101,116])) fun v50=>ifK v50 (ifK v50 (some (Z6 false o (.bool true) o none)) (some (Z6 false o (.bool false) o none))) (Zc (Zd .eql .prim (AV.ro x0) (.str [115,104,105,102,116])) fun v51=>ifK v51 (ifK v51 (some (Z6 false o (.bool true) o none)) (some (Z6 false o (.bool false) o none))) (Zc (Zd .eql .prim (AV.ro x0) (.str [115,105,103,110,97,108])) fun v52=>ifK v52 (ifK v52 (some (Z6 false o (.bool true) o none)) (some (Z6 false o (.bool false) o none))) (Zc (Zd .eql .prim (AV.ro x0) (.str [115,105,116,101])) fun v53=>ifK v53 (ifK v53 (some (Z6 false o (.bool true) o none)) (some (Z6 false o (.bool false) o none))) (Zc (Zd .eql .prim (AV.ro x0) (.str [115,105,122,101])) fun v54=>ifK v54 (ifK v54 (some (Z6 false o (.bool true) o none)) (some (Z6 false o (.bool false) o none))) (Zc (Zd .eql .prim (AV.ro x0) (.str [115,112,97,119,110])) fun v55=>ifK v55 (ifK v55 (some (Z6 false o (.bool true) o none)) (some (Z6 false o (.bool false) o none))) (Zc (Zd .eql .prim (AV.ro x0) (.str [115,116,97,114,116])) fun v56=>ifK v56 (ifK v56 (some (Z6 false o (.bool true) o none)) (some (Z6 false o (.bool false) o none))) (Zc (Zd .eql .prim (AV.ro x0) (.str [115,116,111,112])) fun v57=>ifK v57 (ifK v57 (some (Z6 false o (.bool true) o none)) (some (Z6 false o (.bool false) o none))) (Zc (Zd .eql .prim (AV.ro x0) (.str [115,116,111,114,101])) fun v58=>ifK v58 (ifK v58 (some (Z6 false o (.bool true) o none)) (some (Z6 false o (.bool false) o none))) (Zc (Zd .eql .prim (AV.ro x0) (.str [115,116,114,101,97,109])) fun v59=>ifK v59 (ifK v59 (some (Z6 false o (.bool true) o none)) (some (Z6 false o (.bool false) o none))) (Zc (Zd .eql .prim (AV.ro x0) (.str [115,117,109])) fun v60=>ifK v60 (ifK v60 (some (Z6 false o (.bool true) o none)) (some (Z6 false o (.bool false) o none))) (Zc (Zd .eql .prim (AV.ro x0) (.str [116,97,98,108,101])) fun v61=>ifK v61 (ifK v61 (some (Z6 false o (.bool true) o none)) (some (Z6 false o (.bool false) o none))) (Zc (Zd .eql .prim (AV.ro x0) (.str [116,97,108,108,121])) fun v62=>ifK v62 (ifK v62 (some (Z6 false o (.bool true) o none)) (some (Z6 false o (.bool false) o none))) (Zc (Zd .eql .prim (AV.ro x0) (.str [116,105,99,107,115])) fun v63=>ifK v63 (ifK v63 (some (Z6 false o (.bool true) o none)) (some (Z6 false o (.bool false) o none))) (Zc (Zd .eql .prim (AV.ro x0) (.str [116,105,109,101])) fun v64=>ifK v64 (ifK v64 (some (Z6 false o (.bool true) o none)) (some (Z6 false o (.bool false) o none))) (Zc (Zd .eql .prim (AV.ro x0) (.str [116,114,117,101])) fun v65=>ifK v65 (ifK v65 (some (Z6 false o (.bool true) o none)) (some (Z6 false o (.bool false) o none))) (Zc (Zd .eql .prim (AV.ro x0) (.str [117,110,105,102,111,114,109])) fun v66=>ifK v66 (ifK v66 (some (Z6 false o (.bool true) o none)) (some (Z6 false o (.bool false) o none))) (Zc (Zd .eql .prim (AV.ro x0) (.str [117,110,116,105,108])) fun v67=>ifK v67 (ifK v67 (some (Z6 false o (.bool true) o none)) (some (Z6 false o (.bool false) o none))) (Zc (Zd .eql .prim (AV.ro x0) (.str [117,112])) fun v68=>ifK v68 (ifK v68 (some (Z6 false o (.bool true) o none)) (some (Z6 false o (.bool false) o none))) (Zc (Zd .eql .prim (AV.ro x0) (.str [118,97,114])) fun v69=>ifK v69 (ifK v69 (some (Z6 false o (.bool true) o none)) (some (Z6 false o (.bool false) o none))) (Zc (Zd .eql .prim (AV.ro x0) (.str [119,97,105,116])) fun v70=>ifK v70 (ifK v70 (some (Z6 false o (.bool true) o none)) (some (Z6 false o (.bool false) o none))) (Zc (Zd .eql .prim (AV.ro x0) (.str [119,97,105,116,105,110,103])) fun v71=>ifK v71 (ifK v71 (some (Z6 false o (.bool true) o none)) (some (Z6 false o (.bool false) o none))) (Zc (Zd .eql .prim (AV.ro x0) (.str [119,104,105,108,101])) fun v72=>ifK v72 (some (Z6 false o (.bool true) o none)) (some (Z6 false o (.bool false) o none))))))))))))))))))))))))))))))))))))))))))))))))))))))))))))))))))))))))))
theorem Zcv (G:GT)(K:KT)(L:Nat)(x0:AV)(o:HP):fnK G K Zhn L De [x0] o=DF G K L x0 o:=by kernel_rfl
theorem Zen {C:Cfg}{x0:AV}:RunT C BM De [x0] (fun K=>DF C.G K C.L x0):=runT rfl fun _ _=>Zcv ..
def KN (G:GT)(K:KT)(L:Nat)(x0 x1:AV)(o:HP):KR :=
  Zc (GA 3 (AV.ro x1)) fun v1=>JE (o ++ [.cells v1 KY]) fun h0=>Zc (Zp 0 (.ptr (o).length 0)) fun v2=>Zc (Zf h0 v2) fun v3=>Qg (K Y0 [(AV.ro x0),v3] h0) fun v4 h5 f6=>Zc (Zd .neq .prim (AV.ro v4) (.int .i64 0)) fun v7=>ifK v7 (some (Z6 false o v4 h5 (Ze o.length none f6))) (Zc (Zp 1 (.ptr (o).length 0)) fun v8=>Zc (Zf h5 v8) fun v9=>Qg (K M9 [v9] h5) fun v10 h11 f12=>Zc (JG .not (AV.ro v10)) fun v13=>ifK v13 (some (Z6 false o (.int .i64 1) h11 (Ze o.length (Ze o.length none f6) f12))) (Zc (Zp 1 (.ptr (o).length 0)) fun v14=>Zc (Zf h11 v14) fun v15=>Zc (Zp 2 (.ptr (o).length 0)) fun v16=>Zc (Zf h11 v16) fun v17=>Qg (K Rq [v15,v17] h11) fun v18 h19 f20=>Zc (JG .not (AV.ro v18)) fun v21=>ifK v21 (some (Z6 false o (.int .i64 2) h19 (Ze o.length (Ze o.length (Ze o.length none f6) f12) f20))) (some (Z6 false o (.int .i64 0) h19 (Ze o.length (Ze o.length (Ze o.length none f6) f12) f20)))))
theorem NW (G:GT)(K:KT)(L:Nat)(x0 x1:AV)(o:HP):fnK G K CY L Ol [x0,x1] o=KN G K L x0 x1 o:=by kernel_rfl
theorem MH {C:Cfg}{x0 x1:AV}:RunT C VJ Ol [x0,x1] (fun K=>KN C.G K C.L x0 x1):=runT rfl fun _ _=>NW ..
def XB (G:GT)(K:KT)(L:Nat)(o:HP)(q:HP)(g:Eff):KR :=
  some (Z6 false o (.int .i64 0) q g)
theorem Bb (G:GT)(K:KT)(L:Nat)(o:HP) :Z9 G 27 o.length K WI L Tc (Y5 WI Qs o) (Y5 WI Qs o) []=fun e q g=>XB G K L o  q g:=by kernel_rfl
def WR (G:GT)(K:KT)(L:Nat)(o:HP)(k0:HP→Eff→KR):Nat→AV→AV→AV→AV→HP→Eff→KR
  | 0,_,_,_,_,_,_=>none
  | m + 1,x2,x14,x15,x16,q,g=>Zc (Zd .lss .prim x16 x15) fun v3=>ifK v3 (Zc (Qf (.slice 3) x14 x16) fun v4=>Zc (Z8 q 3 v4) fun v5=>JE (q ++ [.cells [(.str []),(.int .i64 0),(.int .i64 0)] KY]) fun h6=>GQ (stV o.length 3 (.ptr (q).length 0) v5 h6 g) fun h7 f8=>Zc (Z8 h7 3 (.ptr (q).length 0)) fun v9=>Qg (Vh K x2 [v9] h7) fun v10 h11 f12=>Zc (Zd .neq .prim (AV.ro v10) (.int .i64 0)) fun v13=>ifK v13 (some (Z6 false o v10 h11 (Ze o.length f8 f12))) (Zc (Zd .add .prim x16 (.int .i64 1)) fun v14=>WR G K L o k0 m x2 x14 x15 v14 h11 (Ze o.length f8 f12))) (k0  q g)
theorem Bd (G:GT)(K:KT)(L:Nat)(o:HP)(k0:HP→Eff→KR) :∀ m,VW (fun n'=>Z9 G 27 o.length K WI L Ot n' (Y5 WI Qs o) [(0,(fun e q g=>k0 q g))]) m=fun e q g=>WR G K L o k0 m (e 2).rd (e 14).rd (e 15).rd (e 16).rd q g:=lpI rfl fun _=>by kernel_rfl
theorem Bc (G:GT)(K:KT)(L:Nat)(o:HP)(k0:HP→Eff→KR)(zn:Kj):Z9 G 27 o.length K WI L Td zn (Y5 WI Qs o) [(0,(fun e q g=>k0 q g))]=fun e q g=>WR G K L o k0 L (e 2).rd (e 14).rd (e 15).rd (e 16).rd q g:=Bd G K L o k0 L
def U0 (G:GT)(K:KT)(L:Nat)(x0 x1 x2:AV)(o:HP):KR :=
  Zc (Yy o .slice (AV.ro x0)) fun v0=>Zc (Zd .gtr .prim v0 (AV.ro x1)) fun v1=>ifK v1 (some (Z6 false o (.int .i64 6) o none)) (Zc (Yy o .slice (AV.ro x0)) fun v2=>WR G K L o (XB G K L o) L (AV.ro x2) (AV.ro x0) v2 (.int .i64 0) o none)
theorem Pe (G:GT)(K:KT)(L:Nat)(x0 x1 x2:AV)(o:HP):fnK G K WI L Qs [x0,x1,x2] o=U0 G K L x0 x1 x2 o:=by
 show Z9 G 27 o.length K WI L H7 (Y5 WI Qs o) (Y5 WI Qs o) [] (Df [x0,x1,x2]) o none=_
 simp only [H7,Yh,ZB,ZC,ZX]
 rw [Bb G K L o ,Bc G K L o (XB G K L o) _]
 kernel_rfl
theorem TM {C:Cfg}{x0 x1 x2:AV}:RunT C Uu Qs [x0,x1,x2] (fun K=>U0 C.G K C.L x0 x1 x2):=runT rfl fun _ _=>Pe ..
def JK (G:GT)(K:KT)(L:Nat)(x0 x1:AV)(o:HP):KR :=
  Qg (K K9 [(AV.ro x1)] o) fun v0 h1 f2=>Zc (Zd .neq .prim (AV.ro v0) (.int .i64 0)) fun v3=>ifK v3 (some (Z6 false o v0 h1 (Ze o.length none f2))) (Zc (NF h1 (.one .str) (.bool false) (AV.ro x0) (AV.ro x1) false) fun v4=>ifK (AV.ro v4) (some (Z6 false o (.int .i64 4) h1 (Ze o.length none f2))) (GQ (Zly o.length (.one .str) (AV.ro x0) (AV.ro x1) (.bool true) h1 (Ze o.length none f2)) fun h5 f6=>some (Z6 false o (.int .i64 0) h5 f6)))
theorem NV (G:GT)(K:KT)(L:Nat)(x0 x1:AV)(o:HP):fnK G K CX L Oj [x0,x1] o=JK G K L x0 x1 o:=by kernel_rfl
theorem Hy {C:Cfg}{x0 x1:AV}:RunT C Y0 Oj [x0,x1] (fun K=>JK C.G K C.L x0 x1):=runT rfl fun _ _=>NV ..
def Cr (G:GT)(K:KT)(L:Nat)(x0:AV)(o:HP):KR :=
  Zc (GA 13 (AV.ro x0)) fun v1=>JE (o ++ [.cells v1 Zb]) fun h0=>JE (h0 ++ [.map []]) fun h2=>JE (h2 ++ [.cells [.nilm] Qz]) fun h3=>GQ (Zfu o.length (.ptr (h2).length 0) (.map (h0).length) h3 none) fun h4 f5=>JE (h4 ++ [.cells [.nilf] XC]) fun h6=>GQ (Zfu o.length (.ptr (h4).length 0) (.fn Qk [] [(.ptr (h2).length 0)]) h6 f5) fun h7 f8=>GQ (Zeb J4 1 [(.fn Iy [] [(.ptr (h2).length 0),(.ptr (o).length 0)]),(.fn Iz [] [(.ptr (o).length 0),(.ptr (h2).length 0)]),(.fn I1 [] [(.ptr (o).length 0),(.ptr (h2).length 0)]),(.fn I4 [] [(.ptr (o).length 0),(.ptr (h2).length 0)]),(.fn I5 [] [(.ptr (h4).length 0),(.ptr (o).length 0)]),(.fn I6 [] [(.ptr (h4).length 0),(.ptr (o).length 0)]),(.fn I7 [] [(.ptr (h4).length 0),(.ptr (o).length 0)]),(.fn I8 [] [(.ptr (h4).length 0),(.ptr (o).length 0)]),(.fn Gw [] [(.ptr (h4).length 0),(.ptr (o).length 0)]),(.fn Gx [] [(.ptr (o).length 0),(.ptr (h2).length 0)]),(.fn Og [] [(.ptr (o).length 0)]),(.fn Oh [] [(.ptr (o).length 0)])] h7) fun v9 h10=>Qg (K SQ [(AV.ro v9)] h10) fun v11 h12 f13=>some (Z6 false o v11 h12 (Ze o.length f8 f13))
theorem Zgc (G:GT)(K:KT)(L:Nat)(x0:AV)(o:HP):fnK G K ZlB L Fv [x0] o=Cr G K L x0 o:=by kernel_rfl
theorem Ziu {C:Cfg}{x0:AV}:RunT C AU Fv [x0] (fun K=>Cr C.G K C.L x0):=runT rfl fun _ _=>Zgc ..
def JP (G:GT)(K:KT)(L:Nat)(x0 x1 x2:AV)(o:HP):KR :=
  Zc (GA 3 (AV.ro x0)) fun v1=>JE (o ++ [.cells v1 VI]) fun h0=>Zc (Zp 0 (.ptr (o).length 0)) fun v2=>Zc (Zf h0 v2) fun v3=>Zc (Zp 1 (.ptr (o).length 0)) fun v4=>Zc (Zf h0 v4) fun v5=>Zc (fill [(.str []),(.str [])] [(0,1,AV.nm v3),(1,1,AV.nm v5)]) fun v6=>JE (h0 ++ [.cells [(.str []),(.str [])] RG]) fun h7=>GQ (stV o.length 2 (.ptr (h0).length 0) (.agg v6) h7 none) fun h8 f9=>Zc (Z8 h8 4 (AV.ro x1)) fun v10=>Zc (Zp 0 (.ptr (o).length 0)) fun v11=>Zc (Zf h8 v11) fun v12=>Qg (K Od [v10,v12] h8) fun v13 h14 f15=>Zc (Zd .lss .prim (AV.ro v13) (.int .i64 0)) fun v16=>Uq v16 false (Zc (Z8 h14 4 (AV.ro x1)) fun v17=>Zc (Zp 1 (.ptr (o).length 0)) fun v18=>Zc (Zf h14 v18) fun v19=>Qg (K Od [v17,v19] h14) fun v20 h21 f22=>Zc (Zd .lss .prim (AV.ro v20) (.int .i64 0)) fun v23=>some (v23,h21,(Ze o.length (Ze o.length f9 f15) f22))) (some (.bool true)) h14 (Ze o.length f9 f15) fun v24 h25 f26=>ifK (AV.ro v24) (some (Z6 false o (.int .i64 5) h25 f26)) (Zc (Zp 0 (.ptr (o).length 0)) fun v27=>Zc (Zf h25 v27) fun v28=>Zc (Zp 1 (.ptr (o).length 0)) fun v29=>Zc (Zf h25 v29) fun v30=>Zc (Zd .eql .prim v28 v30) fun v31=>ifK v31 (some (Z6 false o (.int .i64 1) h25 f26)) (Zc (Zp 2 (.ptr (o).length 0)) fun v32=>Zc (Zf h25 v32) fun v33=>Qg (K Qv [v33,(.int .i64 1),(.int .i64 1000000000)] h25) fun v34 h35 f36=>Zc (JG .not (AV.ro v34)) fun v37=>ifK v37 (some (Z6 false o (.int .i64 2) h35 (Ze o.length f26 f36))) (Zc (Zf h35 (AV.ro x2)) fun v38=>Zc (Z8 h35 2 (.ptr (h0).length 0)) fun v39=>Zc (NF h35 (.pair .str) (.bool false) v38 v39 false) fun v40=>ifK (AV.ro v40) (some (Z6 false o (.int .i64 4) h35 (Ze o.length f26 f36))) (Zc (Zf h35 (AV.ro x2)) fun v41=>Zc (Z8 h35 2 (.ptr (h0).length 0)) fun v42=>GQ (Zly o.length (.pair .str) v41 v42 (.bool true) h35 (Ze o.length f26 f36)) fun h43 f44=>some (Z6 false o (.int .i64 0) h43 f44)))))
theorem Zci (G:GT)(K:KT)(L:Nat)(x0 x1 x2:AV)(o:HP):fnK G K Zhe L BR [x0,x1,x2] o=JP G K L x0 x1 x2 o:=by kernel_rfl
theorem Zed {C:Cfg}{x0 x1 x2:AV}:RunT C Oe BR [x0,x1,x2] (fun K=>JP C.G K C.L x0 x1 x2):=runT rfl fun _ _=>Zci ..
def XI (G:GT)(K:KT)(L:Nat)(o:HP)(q:HP)(g:Eff):KR :=
  some (Z6 false o (.int .i64 0) q g)
theorem Bq (G:GT)(K:KT)(L:Nat)(o:HP) :Z9 G 27 o.length K WT L Tt (Y5 WT Q9 o) (Y5 WT Q9 o) []=fun e q g=>XI G K L o  q g:=by kernel_rfl
def Qa (G:GT)(K:KT)(L:Nat)(o:HP)(k0:HP→Eff→KR):Nat→AV→AV→AV→AV→HP→Eff→KR
  | 0,_,_,_,_,_,_=>none
  | m + 1,x2,x14,x15,x16,q,g=>Zc (Zd .lss .prim x16 x15) fun v3=>ifK v3 (Zc (Qf (.slice 3) x14 x16) fun v4=>Zc (Z8 q 3 v4) fun v5=>JE (q ++ [.cells [(.str []),(.str []),(.int .i64 0)] VI]) fun h6=>GQ (stV o.length 3 (.ptr (q).length 0) v5 h6 g) fun h7 f8=>Zc (Z8 h7 3 (.ptr (q).length 0)) fun v9=>Qg (Vh K x2 [v9] h7) fun v10 h11 f12=>Zc (Zd .neq .prim (AV.ro v10) (.int .i64 0)) fun v13=>ifK v13 (some (Z6 false o v10 h11 (Ze o.length f8 f12))) (Zc (Zd .add .prim x16 (.int .i64 1)) fun v14=>Qa G K L o k0 m x2 x14 x15 v14 h11 (Ze o.length f8 f12))) (k0  q g)
theorem Bt (G:GT)(K:KT)(L:Nat)(o:HP)(k0:HP→Eff→KR) :∀ m,VW (fun n'=>Z9 G 27 o.length K WT L OX n' (Y5 WT Q9 o) [(0,(fun e q g=>k0 q g))]) m=fun e q g=>Qa G K L o k0 m (e 2).rd (e 14).rd (e 15).rd (e 16).rd q g:=lpI rfl fun _=>by kernel_rfl
theorem Br (G:GT)(K:KT)(L:Nat)(o:HP)(k0:HP→Eff→KR)(zn:Kj):Z9 G 27 o.length K WT L Tu zn (Y5 WT Q9 o) [(0,(fun e q g=>k0 q g))]=fun e q g=>Qa G K L o k0 L (e 2).rd (e 14).rd (e 15).rd (e 16).rd q g:=Bt G K L o k0 L
def Ki (G:GT)(K:KT)(L:Nat)(x0 x1 x2:AV)(o:HP):KR :=
  Zc (Yy o .slice (AV.ro x0)) fun v0=>Zc (Zd .gtr .prim v0 (AV.ro x1)) fun v1=>ifK v1 (some (Z6 false o (.int .i64 6) o none)) (Zc (Yy o .slice (AV.ro x0)) fun v2=>Qa G K L o (XI G K L o) L (AV.ro x2) (AV.ro x0) v2 (.int .i64 0) o none)
theorem Nl (G:GT)(K:KT)(L:Nat)(x0 x1 x2:AV)(o:HP):fnK G K WT L Q9 [x0,x1,x2] o=Ki G K L x0 x1 x2 o:=by
 show Z9 G 27 o.length K WT L IB (Y5 WT Q9 o) (Y5 WT Q9 o) [] (Df [x0,x1,x2]) o none=_
 simp only [IB,Yh,ZB,ZC,ZX]
 rw [Bq G K L o ,Br G K L o (XI G K L o) _]
 kernel_rfl
theorem Mv {C:Cfg}{x0 x1 x2:AV}:RunT C Ke Q9 [x0,x1,x2] (fun K=>Ki C.G K C.L x0 x1 x2):=runT rfl fun _ _=>Nl ..
def Dz (G:GT)(K:KT)(L:Nat)(x0 x1:AV)(o:HP):KR :=
  Zc (GA 3 (AV.ro x0)) fun v1=>JE (o ++ [.cells v1 KY]) fun h0=>Zc (Zp 0 (.ptr (o).length 0)) fun v2=>Zc (Zf h0 v2) fun v3=>Zc (Zf h0 (AV.ro x1)) fun v4=>Zc (Zd .eql .prim v3 v4) fun v5=>some (Z6 false o v5 h0 none)
theorem Zcj (G:GT)(K:KT)(L:Nat)(x0 x1:AV)(o:HP):fnK G K Zhf L BS [x0,x1] o=Dz G K L x0 x1 o:=by kernel_rfl
theorem Zee {C:Cfg}{x0 x1:AV}:RunT C MB BS [x0,x1] (fun K=>Dz C.G K C.L x0 x1):=runT rfl fun _ _=>Zcj ..
def WG (G:GT)(K:KT)(L:Nat)(o:HP)(q:HP)(g:Eff):KR :=
  some (Z6 false o (.int .i64 (-1)) q g)
theorem Gp (G:GT)(K:KT)(L:Nat)(o:HP) :Z9 G 19 o.length K ZE L VR (Y5 ZE ZZ o) (Y5 ZE ZZ o) []=fun e q g=>WG G K L o  q g:=by kernel_rfl
def Yc (G:GT)(K:KT)(L:Nat)(o:HP)(k0:HP→Eff→KR):Nat→AV→AV→AV→AV→HP→Eff→KR
  | 0,_,_,_,_,_,_=>none
  | m + 1,x0,x1,x7,x8,q,g=>Zc (Zd .lss .prim x8 x7) fun v1=>ifK v1 (Zc (Qf (.slice 3) x0 x8) fun v2=>Zc (Z8 q 3 v2) fun v3=>Qg (Vh K x1 [v3] q) fun v4 h5 f6=>ifK (AV.ro v4) (some (Z6 false o x8 h5 (Ze o.length g f6))) (Zc (Zd .add .prim x8 (.int .i64 1)) fun v7=>Yc G K L o k0 m x0 x1 x7 v7 h5 (Ze o.length g f6))) (k0  q g)
theorem Gr (G:GT)(K:KT)(L:Nat)(o:HP)(k0:HP→Eff→KR) :∀ m,VW (fun n'=>Z9 G 19 o.length K ZE L VL n' (Y5 ZE ZZ o) [(0,(fun e q g=>k0 q g))]) m=fun e q g=>Yc G K L o k0 m (e 0).rd (e 1).rd (e 7).rd (e 8).rd q g:=lpI rfl fun _=>by kernel_rfl
theorem Gq (G:GT)(K:KT)(L:Nat)(o:HP)(k0:HP→Eff→KR)(zn:Kj):Z9 G 19 o.length K ZE L VS zn (Y5 ZE ZZ o) [(0,(fun e q g=>k0 q g))]=fun e q g=>Yc G K L o k0 L (e 0).rd (e 1).rd (e 7).rd (e 8).rd q g:=Gr G K L o k0 L
def XT (G:GT)(K:KT)(L:Nat)(x0 x1:AV)(o:HP):KR :=
  Zc (Yy o .slice (AV.ro x0)) fun v0=>Yc G K L o (WG G K L o) L (AV.ro x0) (AV.ro x1) v0 (.int .i64 0) o none
theorem Ie (G:GT)(K:KT)(L:Nat)(x0 x1:AV)(o:HP):fnK G K ZE L ZZ [x0,x1] o=XT G K L x0 x1 o:=by
 show Z9 G 19 o.length K ZE L XR (Y5 ZE ZZ o) (Y5 ZE ZZ o) [] (Df [x0,x1]) o none=_
 simp only [XR,Yh,ZB,ZC,ZX]
 rw [Gp G K L o ,Gq G K L o (WG G K L o) _]
 kernel_rfl
theorem Iu {C:Cfg}{x0 x1:AV}:RunT C XP ZZ [x0,x1] (fun K=>XT C.G K C.L x0 x1):=runT rfl fun _ _=>Ie ..
def D5 (G:GT)(K:KT)(L:Nat)(x0 x1:AV)(o:HP):KR :=
  Zc (GA 17 (AV.ro x0)) fun v1=>JE (o ++ [.cells v1 WL]) fun h0=>Zc (Zp 0 (.ptr (o).length 0)) fun v2=>Zc (Zf h0 v2) fun v3=>Zc (Zf h0 (AV.ro x1)) fun v4=>Zc (Zd .eql .prim v3 v4) fun v5=>some (Z6 false o v5 h0 none)
theorem Zck (G:GT)(K:KT)(L:Nat)(x0 x1:AV)(o:HP):fnK G K Zhg L BU [x0,x1] o=D5 G K L x0 x1 o:=by kernel_rfl
theorem Zef {C:Cfg}{x0 x1:AV}:RunT C MC BU [x0,x1] (fun K=>D5 C.G K C.L x0 x1):=runT rfl fun _ _=>Zck ..
def Yu (G:GT)(K:KT)(L:Nat)(o:HP)(q:HP)(g:Eff):KR :=
  some (Z6 false o (.int .i64 (-1)) q g)
theorem Js (G:GT)(K:KT)(L:Nat)(o:HP) :Z9 G 19 o.length K Zj L X8 (Y5 Zj Zw o) (Y5 Zj Zw o) []=fun e q g=>Yu G K L o  q g:=by kernel_rfl
def Z5 (G:GT)(K:KT)(L:Nat)(o:HP)(k0:HP→Eff→KR):Nat→AV→AV→AV→AV→HP→Eff→KR
  | 0,_,_,_,_,_,_=>none
  | m + 1,x0,x1,x7,x8,q,g=>Zc (Zd .lss .prim x8 x7) fun v1=>ifK v1 (Zc (Qf (.slice 17) x0 x8) fun v2=>Zc (Z8 q 17 v2) fun v3=>Qg (Vh K x1 [v3] q) fun v4 h5 f6=>ifK (AV.ro v4) (some (Z6 false o x8 h5 (Ze o.length g f6))) (Zc (Zd .add .prim x8 (.int .i64 1)) fun v7=>Z5 G K L o k0 m x0 x1 x7 v7 h5 (Ze o.length g f6))) (k0  q g)
theorem Ju (G:GT)(K:KT)(L:Nat)(o:HP)(k0:HP→Eff→KR) :∀ m,VW (fun n'=>Z9 G 19 o.length K Zj L X3 n' (Y5 Zj Zw o) [(0,(fun e q g=>k0 q g))]) m=fun e q g=>Z5 G K L o k0 m (e 0).rd (e 1).rd (e 7).rd (e 8).rd q g:=lpI rfl fun _=>by kernel_rfl
theorem Jt (G:GT)(K:KT)(L:Nat)(o:HP)(k0:HP→Eff→KR)(zn:Kj):Z9 G 19 o.length K Zj L X9 zn (Y5 Zj Zw o) [(0,(fun e q g=>k0 q g))]=fun e q g=>Z5 G K L o k0 L (e 0).rd (e 1).rd (e 7).rd (e 8).rd q g:=Ju G K L o k0 L
def Qp (G:GT)(K:KT)(L:Nat)(x0 x1:AV)(o:HP):KR :=
  Zc (Yy o .slice (AV.ro x0)) fun v0=>Z5 G K L o (Yu G K L o) L (AV.ro x0) (AV.ro x1) v0 (.int .i64 0) o none
theorem JQ (G:GT)(K:KT)(L:Nat)(x0 x1:AV)(o:HP):fnK G K Zj L Zw [x0,x1] o=Qp G K L x0 x1 o:=by
 show Z9 G 19 o.length K Zj L Qo (Y5 Zj Zw o) (Y5 Zj Zw o) [] (Df [x0,x1]) o none=_
 simp only [Qo,Yh,ZB,ZC,ZX]
 rw [Js G K L o ,Jt G K L o (Yu G K L o) _]
 kernel_rfl
theorem Ub {C:Cfg}{x0 x1:AV}:RunT C Qn Zw [x0,x1] (fun K=>Qp C.G K C.L x0 x1):=runT rfl fun _ _=>JQ ..
def D6 (G:GT)(K:KT)(L:Nat)(x0 x1:AV)(o:HP):KR :=
  Zc (GA 3 (AV.ro x0)) fun v1=>JE (o ++ [.cells v1 Xd]) fun h0=>Zc (Zp 0 (.ptr (o).length 0)) fun v2=>Zc (Zf h0 v2) fun v3=>Zc (Zf h0 (AV.ro x1)) fun v4=>Zc (Zd .eql .prim v3 v4) fun v5=>some (Z6 false o v5 h0 none)
theorem Zcl (G:GT)(K:KT)(L:Nat)(x0 x1:AV)(o:HP):fnK G K Zhh L BV [x0,x1] o=D6 G K L x0 x1 o:=by kernel_rfl
theorem Zeg {C:Cfg}{x0 x1:AV}:RunT C ME BV [x0,x1] (fun K=>D6 C.G K C.L x0 x1):=runT rfl fun _ _=>Zcl ..
def Y7 (G:GT)(K:KT)(L:Nat)(o:HP)(q:HP)(g:Eff):KR :=
  some (Z6 false o (.int .i64 (-1)) q g)
theorem Ul (G:GT)(K:KT)(L:Nat)(o:HP) :Z9 G 19 o.length K Zq L XY (Y5 Zq ZA o) (Y5 Zq ZA o) []=fun e q g=>Y7 G K L o  q g:=by kernel_rfl
def ZF (G:GT)(K:KT)(L:Nat)(o:HP)(k0:HP→Eff→KR):Nat→AV→AV→AV→AV→HP→Eff→KR
  | 0,_,_,_,_,_,_=>none
  | m + 1,x0,x1,x7,x8,q,g=>Zc (Zd .lss .prim x8 x7) fun v1=>ifK v1 (Zc (Qf (.slice 3) x0 x8) fun v2=>Zc (Z8 q 3 v2) fun v3=>Qg (Vh K x1 [v3] q) fun v4 h5 f6=>ifK (AV.ro v4) (some (Z6 false o x8 h5 (Ze o.length g f6))) (Zc (Zd .add .prim x8 (.int .i64 1)) fun v7=>ZF G K L o k0 m x0 x1 x7 v7 h5 (Ze o.length g f6))) (k0  q g)
theorem Un (G:GT)(K:KT)(L:Nat)(o:HP)(k0:HP→Eff→KR) :∀ m,VW (fun n'=>Z9 G 19 o.length K Zq L XV n' (Y5 Zq ZA o) [(0,(fun e q g=>k0 q g))]) m=fun e q g=>ZF G K L o k0 m (e 0).rd (e 1).rd (e 7).rd (e 8).rd q g:=lpI rfl fun _=>by kernel_rfl
theorem Um (G:GT)(K:KT)(L:Nat)(o:HP)(k0:HP→Eff→KR)(zn:Kj):Z9 G 19 o.length K Zq L XZ zn (Y5 Zq ZA o) [(0,(fun e q g=>k0 q g))]=fun e q g=>ZF G K L o k0 L (e 0).rd (e 1).rd (e 7).rd (e 8).rd q g:=Un G K L o k0 L
def QM (G:GT)(K:KT)(L:Nat)(x0 x1:AV)(o:HP):KR :=
  Zc (Yy o .slice (AV.ro x0)) fun v0=>ZF G K L o (Y7 G K L o) L (AV.ro x0) (AV.ro x1) v0 (.int .i64 0) o none
theorem UR (G:GT)(K:KT)(L:Nat)(x0 x1:AV)(o:HP):fnK G K Zq L ZA [x0,x1] o=QM G K L x0 x1 o:=by
 show Z9 G 19 o.length K Zq L QL (Y5 Zq ZA o) (Y5 Zq ZA o) [] (Df [x0,x1]) o none=_
 simp only [QL,Yh,ZB,ZC,ZX]
 rw [Ul G K L o ,Um G K L o (Y7 G K L o) _]
 kernel_rfl
theorem Kq {C:Cfg}{x0 x1:AV}:RunT C WV ZA [x0,x1] (fun K=>QM C.G K C.L x0 x1):=runT rfl fun _ _=>UR ..
def D7 (G:GT)(K:KT)(L:Nat)(x0 x1:AV)(o:HP):KR :=
  Zc (GA 3 (AV.ro x0)) fun v1=>JE (o ++ [.cells v1 Vg]) fun h0=>Zc (Zp 0 (.ptr (o).length 0)) fun v2=>Zc (Zf h0 v2) fun v3=>Zc (Zf h0 (AV.ro x1)) fun v4=>Zc (Zd .eql .prim v3 v4) fun v5=>some (Z6 false o v5 h0 none)
theorem Zcm (G:GT)(K:KT)(L:Nat)(x0 x1:AV)(o:HP):fnK G K Zhi L BX [x0,x1] o=D7 G K L x0 x1 o:=by kernel_rfl
theorem Zeh {C:Cfg}{x0 x1:AV}:RunT C MF BX [x0,x1] (fun K=>D7 C.G K C.L x0 x1):=runT rfl fun _ _=>Zcm ..
def YB (G:GT)(K:KT)(L:Nat)(o:HP)(q:HP)(g:Eff):KR :=
  some (Z6 false o (.int .i64 (-1)) q g)
theorem UF (G:GT)(K:KT)(L:Nat)(o:HP) :Z9 G 19 o.length K Zt L Vr (Y5 Zt ZG o) (Y5 Zt ZG o) []=fun e q g=>YB G K L o  q g:=by kernel_rfl
def ZT (G:GT)(K:KT)(L:Nat)(o:HP)(k0:HP→Eff→KR):Nat→AV→AV→AV→AV→HP→Eff→KR
  | 0,_,_,_,_,_,_=>none
  | m + 1,x0,x1,x7,x8,q,g=>Zc (Zd .lss .prim x8 x7) fun v1=>ifK v1 (Zc (Qf (.slice 3) x0 x8) fun v2=>Zc (Z8 q 3 v2) fun v3=>Qg (Vh K x1 [v3] q) fun v4 h5 f6=>ifK (AV.ro v4) (some (Z6 false o x8 h5 (Ze o.length g f6))) (Zc (Zd .add .prim x8 (.int .i64 1)) fun v7=>ZT G K L o k0 m x0 x1 x7 v7 h5 (Ze o.length g f6))) (k0  q g)
theorem UH (G:GT)(K:KT)(L:Nat)(o:HP)(k0:HP→Eff→KR) :∀ m,VW (fun n'=>Z9 G 19 o.length K Zt L Vi n' (Y5 Zt ZG o) [(0,(fun e q g=>k0 q g))]) m=fun e q g=>ZT G K L o k0 m (e 0).rd (e 1).rd (e 7).rd (e 8).rd q g:=lpI rfl fun _=>by kernel_rfl
theorem UG (G:GT)(K:KT)(L:Nat)(o:HP)(k0:HP→Eff→KR)(zn:Kj):Z9 G 19 o.length K Zt L Vs zn (Y5 Zt ZG o) [(0,(fun e q g=>k0 q g))]=fun e q g=>ZT G K L o k0 L (e 0).rd (e 1).rd (e 7).rd (e 8).rd q g:=UH G K L o k0 L
def QY (G:GT)(K:KT)(L:Nat)(x0 x1:AV)(o:HP):KR :=
  Zc (Yy o .slice (AV.ro x0)) fun v0=>ZT G K L o (YB G K L o) L (AV.ro x0) (AV.ro x1) v0 (.int .i64 0) o none
theorem Kw (G:GT)(K:KT)(L:Nat)(x0 x1:AV)(o:HP):fnK G K Zt L ZG [x0,x1] o=QY G K L x0 x1 o:=by
 show Z9 G 19 o.length K Zt L QW (Y5 Zt ZG o) (Y5 Zt ZG o) [] (Df [x0,x1]) o none=_
 simp only [QW,Yh,ZB,ZC,ZX]
 rw [UF G K L o ,UG G K L o (YB G K L o) _]
 kernel_rfl
theorem KW {C:Cfg}{x0 x1:AV}:RunT C QU ZG [x0,x1] (fun K=>QY C.G K C.L x0 x1):=runT rfl fun _ _=>Kw ..
def QN (G:GT)(K:KT)(L:Nat)(o:HP)(q:HP)(g:Eff):KR :=
  some (Z6 false o (.int .i64 (-1)) q g)
theorem TH (G:GT)(K:KT)(L:Nat)(o:HP) :Z9 G 19 o.length K Yw L KL (Y5 Yw YG o) (Y5 Yw YG o) []=fun e q g=>QN G K L o  q g:=by kernel_rfl
def YI (G:GT)(K:KT)(L:Nat)(o:HP)(k0:HP→Eff→KR):Nat→AV→AV→AV→AV→HP→Eff→KR
  | 0,_,_,_,_,_,_=>none
  | m + 1,x0,x1,x7,x8,q,g=>Zc (Zd .lss .prim x8 x7) fun v1=>ifK v1 (Zc (Qf (.slice 1) x0 x8) fun v2=>Zc (Zf q v2) fun v3=>Zc (Zd .eql .prim x1 v3) fun v4=>ifK v4 (some (Z6 false o x8 q g)) (Zc (Zd .add .prim x8 (.int .i64 1)) fun v5=>YI G K L o k0 m x0 x1 x7 v5 q g)) (k0  q g)
theorem TJ (G:GT)(K:KT)(L:Nat)(o:HP)(k0:HP→Eff→KR) :∀ m,VW (fun n'=>Z9 G 19 o.length K Yw L Kt n' (Y5 Yw YG o) [(0,(fun e q g=>k0 q g))]) m=fun e q g=>YI G K L o k0 m (e 0).rd (e 1).rd (e 7).rd (e 8).rd q g:=lpI rfl fun _=>by kernel_rfl
theorem TI (G:GT)(K:KT)(L:Nat)(o:HP)(k0:HP→Eff→KR)(zn:Kj):Z9 G 19 o.length K Yw L KM zn (Y5 Yw YG o) [(0,(fun e q g=>k0 q g))]=fun e q g=>YI G K L o k0 L (e 0).rd (e 1).rd (e 7).rd (e 8).rd q g:=TJ G K L o k0 L
def JR (G:GT)(K:KT)(L:Nat)(x0 x1:AV)(o:HP):KR :=
  Zc (Yy o .slice (AV.ro x0)) fun v0=>YI G K L o (QN G K L o) L (AV.ro x0) (AV.ro x1) v0 (.int .i64 0) o none
theorem MZ (G:GT)(K:KT)(L:Nat)(x0 x1:AV)(o:HP):fnK G K Yw L YG [x0,x1] o=JR G K L x0 x1 o:=by
 show Z9 G 19 o.length K Yw L JJ (Y5 Yw YG o) (Y5 Yw YG o) [] (Df [x0,x1]) o none=_
 simp only [JJ,Yh,ZB,ZC,ZX]
 rw [TH G K L o ,TI G K L o (QN G K L o) _]
 kernel_rfl
theorem Ls {C:Cfg}{x0 x1:AV}:RunT C WE YG [x0,x1] (fun K=>JR C.G K C.L x0 x1):=runT rfl fun _ _=>MZ ..
def E5 (G:GT)(K:KT)(L:Nat)(x0:AV)(o:HP):KR :=
  Zc (Zd .geq .prim (AV.ro x0) (.int .i64 1)) fun v0=>Uq v0 true (Zc (Zd .leq .prim (AV.ro x0) (.int .i64 3)) fun v1=>some (v1,o,none)) (some (.bool false)) o none fun v2 h3 f4=>some (Z6 false o v2 h3 f4)
theorem ZeK (G:GT)(K:KT)(L:Nat)(x0:AV)(o:HP):fnK G K Zkk L Eg [x0] o=E5 G K L x0 o:=by kernel_rfl
theorem ZgO {C:Cfg}{x0:AV}:RunT C M9 Eg [x0] (fun K=>E5 C.G K C.L x0):=runT rfl fun _ _=>ZeK ..
def Ck (G:GT)(K:KT)(L:Nat)(x0 x1:AV)(o:HP):KR :=
  Zc (Zd .eql .prim (AV.ro x0) (.int .i64 1)) fun v0=>ifK v0 (Qg (K Zaj [(AV.ro x1)] o) fun v1 h2 f3=>some (Z6 false o v1 h2 (Ze o.length none f3))) (Zc (Zd .eql .prim (AV.ro x0) (.int .i64 2)) fun v4=>ifK v4 (Zc (Zd .eql .prim (AV.ro x1) (.int .i64 0)) fun v5=>Uq v5 false (Zc (Zd .eql .prim (AV.ro x1) (.int .i64 1)) fun v6=>some (v6,o,none)) (some (.bool true)) o none fun v7 h8 f9=>some (Z6 false o v7 h8 f9)) (Zc (Zd .eql .prim (AV.ro x0) (.int .i64 3)) fun v10=>ifK v10 (Qg (K Qv [(AV.ro x1),(.int .i64 0),(.int .i64 1000000000)] o) fun v11 h12 f13=>some (Z6 false o v11 h12 (Ze o.length none f13))) (some (Z6 false o (.bool false) o none))))
theorem Zga (G:GT)(K:KT)(L:Nat)(x0 x1:AV)(o:HP):fnK G K Zl9 L Fs [x0,x1] o=Ck G K L x0 x1 o:=by kernel_rfl
theorem Zis {C:Cfg}{x0 x1:AV}:RunT C Rq Fs [x0,x1] (fun K=>Ck C.G K C.L x0 x1):=runT rfl fun _ _=>Zga ..
def Np (G:GT)(K:KT)(L:Nat)(x0 x1:AV)(o:HP):KR :=
  Zc (Zf o (AV.ro x1)) fun v0=>Qg (K Gt [(AV.ro x0),(.int .i64 32),(.fn Y0 [v0] [])] o) fun v1 h2 f3=>some (Z6 false o v1 h2 (Ze o.length none f3))
theorem Zdv (G:GT)(K:KT)(L:Nat)(x0 x1:AV)(o:HP):fnK G K Zi0 L PM [x0,x1] o=Np G K L x0 x1 o:=by kernel_rfl
theorem Zfa {C:Cfg}{x0 x1:AV}:RunT C Qk PM [x0,x1] (fun K=>Np C.G K C.L x0 x1):=runT rfl fun _ _=>Zdv ..
def Nq (G:GT)(K:KT)(L:Nat)(x0 x1:AV)(o:HP):KR :=
  Zc (Zf o (AV.ro x0)) fun v0=>Zc (Zp 1 (AV.ro x1)) fun v1=>Zc (Zf o v1) fun v2=>Qg (K V6 [v0,v2] o) fun v3 h4 f5=>some (Z6 false o v3 h4 (Ze o.length none f5))
theorem Zdw (G:GT)(K:KT)(L:Nat)(x0 x1:AV)(o:HP):fnK G K Zi1 L PN [x0,x1] o=Nq G K L x0 x1 o:=by kernel_rfl
theorem Zfb {C:Cfg}{x0 x1:AV}:RunT C Iy PN [x0,x1] (fun K=>Nq C.G K C.L x0 x1):=runT rfl fun _ _=>Zdw ..
def Nr (G:GT)(K:KT)(L:Nat)(x0 x1:AV)(o:HP):KR :=
  Zc (Zp 2 (AV.ro x0)) fun v0=>Zc (Zf o v0) fun v1=>Qg (K V3 [v1,(.int .i64 32),(.fn Kz [] [(AV.ro x1),(AV.ro x0)])] o) fun v2 h3 f4=>some (Z6 false o v2 h3 (Ze o.length none f4))
theorem Zdx (G:GT)(K:KT)(L:Nat)(x0 x1:AV)(o:HP):fnK G K Zi2 L PO [x0,x1] o=Nr G K L x0 x1 o:=by kernel_rfl
theorem Zfc {C:Cfg}{x0 x1:AV}:RunT C Iz PO [x0,x1] (fun K=>Nr C.G K C.L x0 x1):=runT rfl fun _ _=>Zdx ..
def Nt (G:GT)(K:KT)(L:Nat)(x0 x1:AV)(o:HP):KR :=
  Zc (Zp 3 (AV.ro x0)) fun v0=>Zc (Zf o v0) fun v1=>Qg (K VN [v1,(.int .i64 32),(.fn K3 [] [(AV.ro x1)])] o) fun v2 h3 f4=>some (Z6 false o v2 h3 (Ze o.length none f4))
theorem Zdy (G:GT)(K:KT)(L:Nat)(x0 x1:AV)(o:HP):fnK G K Zi3 L PP [x0,x1] o=Nt G K L x0 x1 o:=by kernel_rfl
theorem Zfd {C:Cfg}{x0 x1:AV}:RunT C I1 PP [x0,x1] (fun K=>Nt C.G K C.L x0 x1):=runT rfl fun _ _=>Zdy ..
def Nu (G:GT)(K:KT)(L:Nat)(x0 x1:AV)(o:HP):KR :=
  Zc (Zp 4 (AV.ro x0)) fun v0=>Zc (Zf o v0) fun v1=>Qg (K Jh [v1,(.int .i64 32),(.fn K4 [] [(AV.ro x1)])] o) fun v2 h3 f4=>some (Z6 false o v2 h3 (Ze o.length none f4))
theorem Zdz (G:GT)(K:KT)(L:Nat)(x0 x1:AV)(o:HP):fnK G K Zi4 L PQ [x0,x1] o=Nu G K L x0 x1 o:=by kernel_rfl
theorem Zfe {C:Cfg}{x0 x1:AV}:RunT C I4 PQ [x0,x1] (fun K=>Nu C.G K C.L x0 x1):=runT rfl fun _ _=>Zdz ..
def Nw (G:GT)(K:KT)(L:Nat)(x0 x1:AV)(o:HP):KR :=
  Zc (Zf o (AV.ro x0)) fun v0=>Zc (Zp 5 (AV.ro x1)) fun v1=>Zc (Zf o v1) fun v2=>Qg (Vh K v0 [v2] o) fun v3 h4 f5=>some (Z6 false o v3 h4 (Ze o.length none f5))
theorem Zd0 (G:GT)(K:KT)(L:Nat)(x0 x1:AV)(o:HP):fnK G K Zi5 L PR [x0,x1] o=Nw G K L x0 x1 o:=by kernel_rfl
theorem Zff {C:Cfg}{x0 x1:AV}:RunT C I5 PR [x0,x1] (fun K=>Nw C.G K C.L x0 x1):=runT rfl fun _ _=>Zd0 ..
def Ny (G:GT)(K:KT)(L:Nat)(x0 x1:AV)(o:HP):KR :=
  Zc (Zf o (AV.ro x0)) fun v0=>Zc (Zp 6 (AV.ro x1)) fun v1=>Zc (Zf o v1) fun v2=>Qg (Vh K v0 [v2] o) fun v3 h4 f5=>some (Z6 false o v3 h4 (Ze o.length none f5))
theorem Zd1 (G:GT)(K:KT)(L:Nat)(x0 x1:AV)(o:HP):fnK G K Zi6 L PS [x0,x1] o=Ny G K L x0 x1 o:=by kernel_rfl
theorem Zfg {C:Cfg}{x0 x1:AV}:RunT C I6 PS [x0,x1] (fun K=>Ny C.G K C.L x0 x1):=runT rfl fun _ _=>Zd1 ..
def Nz (G:GT)(K:KT)(L:Nat)(x0 x1:AV)(o:HP):KR :=
  Zc (Zf o (AV.ro x0)) fun v0=>Zc (Zp 7 (AV.ro x1)) fun v1=>Zc (Zf o v1) fun v2=>Qg (Vh K v0 [v2] o) fun v3 h4 f5=>some (Z6 false o v3 h4 (Ze o.length none f5))
theorem Zd2 (G:GT)(K:KT)(L:Nat)(x0 x1:AV)(o:HP):fnK G K Zi7 L PT [x0,x1] o=Nz G K L x0 x1 o:=by kernel_rfl
theorem Zfh {C:Cfg}{x0 x1:AV}:RunT C I7 PT [x0,x1] (fun K=>Nz C.G K C.L x0 x1):=runT rfl fun _ _=>Zd2 ..
def N7 (G:GT)(K:KT)(L:Nat)(x0 x1:AV)(o:HP):KR :=
  Zc (Zf o (AV.ro x0)) fun v0=>Zc (Zp 8 (AV.ro x1)) fun v1=>Zc (Zf o v1) fun v2=>Qg (Vh K v0 [v2] o) fun v3 h4 f5=>some (Z6 false o v3 h4 (Ze o.length none f5))
theorem Zd3 (G:GT)(K:KT)(L:Nat)(x0 x1:AV)(o:HP):fnK G K Zi8 L PU [x0,x1] o=N7 G K L x0 x1 o:=by kernel_rfl
theorem Zfi {C:Cfg}{x0 x1:AV}:RunT C I8 PU [x0,x1] (fun K=>N7 C.G K C.L x0 x1):=runT rfl fun _ _=>Zd3 ..
def D8 (G:GT)(K:KT)(L:Nat)(x0 x1:AV)(o:HP):KR :=
  Zc (Zf o (AV.ro x0)) fun v0=>Zc (Zp 9 (AV.ro x1)) fun v1=>Zc (Zf o v1) fun v2=>Qg (Vh K v0 [v2] o) fun v3 h4 f5=>some (Z6 false o v3 h4 (Ze o.length none f5))
theorem Zco (G:GT)(K:KT)(L:Nat)(x0 x1:AV)(o:HP):fnK G K Zhj L BZ [x0,x1] o=D8 G K L x0 x1 o:=by kernel_rfl
theorem Zej {C:Cfg}{x0 x1:AV}:RunT C Gw BZ [x0,x1] (fun K=>D8 C.G K C.L x0 x1):=runT rfl fun _ _=>Zco ..
def D9 (G:GT)(K:KT)(L:Nat)(x0 x1:AV)(o:HP):KR :=
  Zc (Zp 10 (AV.ro x0)) fun v0=>Zc (Zf o v0) fun v1=>Qg (K JA [v1,(.int .i64 16),(.fn UE [] [(AV.ro x1)])] o) fun v2 h3 f4=>some (Z6 false o v2 h3 (Ze o.length none f4))
theorem Zcp (G:GT)(K:KT)(L:Nat)(x0 x1:AV)(o:HP):fnK G K Zhk L Da [x0,x1] o=D9 G K L x0 x1 o:=by kernel_rfl
theorem Zek {C:Cfg}{x0 x1:AV}:RunT C Gx Da [x0,x1] (fun K=>D9 C.G K C.L x0 x1):=runT rfl fun _ _=>Zcp ..
def DC (G:GT)(K:KT)(L:Nat)(x0:AV)(o:HP):KR :=
  Zc (Zp 11 (AV.ro x0)) fun v0=>Zc (Zf o v0) fun v1=>Qg (K Hw [v1,(.int .i64 32),(.fn OH [] [(AV.ro x0)])] o) fun v2 h3 f4=>some (Z6 false o v2 h3 (Ze o.length none f4))
theorem Zcq (G:GT)(K:KT)(L:Nat)(x0:AV)(o:HP):fnK G K Zhl L Db [x0] o=DC G K L x0 o:=by kernel_rfl
theorem Zel {C:Cfg}{x0:AV}:RunT C Og Db [x0] (fun K=>DC C.G K C.L x0):=runT rfl fun _ _=>Zcq ..
def DD (G:GT)(K:KT)(L:Nat)(x0:AV)(o:HP):KR :=
  Zc (Z8 o 13 (AV.ro x0)) fun v0=>Qg (K AR [v0] o) fun v1 h2 f3=>some (Z6 false o v1 h2 (Ze o.length none f3))
theorem Zcr (G:GT)(K:KT)(L:Nat)(x0:AV)(o:HP):fnK G K Zhm L Dc [x0] o=DD G K L x0 o:=by kernel_rfl
theorem Zem {C:Cfg}{x0:AV}:RunT C Oh Dc [x0] (fun K=>DD C.G K C.L x0):=runT rfl fun _ _=>Zcr ..
def K7 (G:GT)(K:KT)(L:Nat)(o:HP)(q:HP)(g:Eff):KR :=
  some (Z6 false o (.int .i64 0) q g)
theorem Zbt (G:GT)(K:KT)(L:Nat)(o:HP) :Z9 G 18 o.length K VX L Ab (Y5 VX Uw o) (Y5 VX Uw o) []=fun e q g=>K7 G K L o  q g:=by kernel_rfl
def VC (G:GT)(K:KT)(L:Nat)(o:HP)(k0:HP→Eff→KR):Nat→AV→AV→AV→HP→Eff→KR
  | 0,_,_,_,_,_=>none
  | m + 1,x6,x7,x8,q,g=>Zc (Zd .lss .prim x8 x7) fun v1=>ifK v1 (Zc (Qf (.slice 1) x6 x8) fun v2=>Zc (Zf q v2) fun v3=>Qg (Vh K v3 [] q) fun v4 h5 f6=>Zc (Zd .neq .prim (AV.ro v4) (.int .i64 0)) fun v7=>ifK v7 (some (Z6 false o v4 h5 (Ze o.length g f6))) (Zc (Zd .add .prim x8 (.int .i64 1)) fun v8=>VC G K L o k0 m x6 x7 v8 h5 (Ze o.length g f6))) (k0  q g)
theorem Zbv (G:GT)(K:KT)(L:Nat)(o:HP)(k0:HP→Eff→KR) :∀ m,VW (fun n'=>Z9 G 18 o.length K VX L NQ n' (Y5 VX Uw o) [(0,(fun e q g=>k0 q g))]) m=fun e q g=>VC G K L o k0 m (e 6).rd (e 7).rd (e 8).rd q g:=lpI rfl fun _=>by kernel_rfl
theorem Zbu (G:GT)(K:KT)(L:Nat)(o:HP)(k0:HP→Eff→KR)(zn:Kj):Z9 G 18 o.length K VX L Ac zn (Y5 VX Uw o) [(0,(fun e q g=>k0 q g))]=fun e q g=>VC G K L o k0 L (e 6).rd (e 7).rd (e 8).rd q g:=Zbv G K L o k0 L
def Ez (G:GT)(K:KT)(L:Nat)(x0:AV)(o:HP):KR :=
  Zc (Yy o .slice (AV.ro x0)) fun v0=>VC G K L o (K7 G K L o) L (AV.ro x0) v0 (.int .i64 0) o none
theorem ZeJ (G:GT)(K:KT)(L:Nat)(x0:AV)(o:HP):fnK G K VX L Uw [x0] o=Ez G K L x0 o:=by
 show Z9 G 18 o.length K VX L Eo (Y5 VX Uw o) (Y5 VX Uw o) [] (Df [x0]) o none=_
 simp only [Eo,Yh,ZB,ZC,ZX]
 rw [Zbt G K L o ,Zbu G K L o (K7 G K L o) _]
 kernel_rfl
theorem ZgN {C:Cfg}{x0:AV}:RunT C SQ Uw [x0] (fun K=>Ez C.G K C.L x0):=runT rfl fun _ _=>ZeJ ..
def N9 (G:GT)(K:KT)(L:Nat)(x0 x1 x2:AV)(o:HP):KR :=
  Zc (Zd .geq .prim (AV.ro x0) (AV.ro x1)) fun v0=>Uq v0 true (Zc (Zd .leq .prim (AV.ro x0) (AV.ro x2)) fun v1=>some (v1,o,none)) (some (.bool false)) o none fun v2 h3 f4=>some (Z6 false o v2 h3 f4)
theorem Zd5 (G:GT)(K:KT)(L:Nat)(x0 x1 x2:AV)(o:HP):fnK G K ZiA L PW [x0,x1,x2] o=N9 G K L x0 x1 x2 o:=by kernel_rfl
theorem Zfk {C:Cfg}{x0 x1 x2:AV}:RunT C Qv PW [x0,x1,x2] (fun K=>N9 C.G K C.L x0 x1 x2):=runT rfl fun _ _=>Zd5 ..
def Zbh (G:GT)(K:KT)(L:Nat)(x0 x1:AV)(o:HP):KR :=
  Zc (GA 6 (AV.ro x0)) fun v1=>JE (o ++ [.cells v1 EK]) fun h0=>Zc (GA 6 (AV.ro x1)) fun v3=>JE (h0 ++ [.cells v3 EK]) fun h2=>Zc (Zp 0 (.ptr (o).length 0)) fun v4=>Zc (Zf h2 v4) fun v5=>Zc (Zp 0 (.ptr (h0).length 0)) fun v6=>Zc (Zf h2 v6) fun v7=>Zc (Zd .eql .prim v5 v7) fun v8=>Uq v8 true (Zc (Zp 1 (.ptr (o).length 0)) fun v9=>Zc (Zf h2 v9) fun v10=>Zc (Zp 1 (.ptr (h0).length 0)) fun v11=>Zc (Zf h2 v11) fun v12=>Zc (Zd .eql .prim v10 v12) fun v13=>some (v13,h2,none)) (some (.bool false)) h2 none fun v14 h15 f16=>Uq (AV.ro v14) true (Zc (Zp 2 (.ptr (o).length 0)) fun v17=>Zc (Zf h15 v17) fun v18=>Zc (Zp 2 (.ptr (h0).length 0)) fun v19=>Zc (Zf h15 v19) fun v20=>Zc (Zd .eql .prim v18 v20) fun v21=>some (v21,h15,f16)) (some (.bool false)) h15 f16 fun v22 h23 f24=>Uq (AV.ro v22) true (Zc (Zp 3 (.ptr (o).length 0)) fun v25=>Zc (Zf h23 v25) fun v26=>Zc (Zp 3 (.ptr (h0).length 0)) fun v27=>Zc (Zf h23 v27) fun v28=>Zc (Zd .eql .prim v26 v28) fun v29=>some (v29,h23,f24)) (some (.bool false)) h23 f24 fun v30 h31 f32=>Uq (AV.ro v30) true (Zc (Zp 4 (.ptr (o).length 0)) fun v33=>Zc (Zf h31 v33) fun v34=>Zc (Zp 4 (.ptr (h0).length 0)) fun v35=>Zc (Zf h31 v35) fun v36=>Qg (K XU [v34,v36] h31) fun v37 h38 f39=>some ((AV.ro v37),h38,(Ze o.length f32 f39))) (some (.bool false)) h31 f32 fun v40 h41 f42=>Uq (AV.ro v40) true (Zc (Zp 5 (.ptr (o).length 0)) fun v43=>Zc (Zf h41 v43) fun v44=>Zc (Zp 5 (.ptr (h0).length 0)) fun v45=>Zc (Zf h41 v45) fun v46=>Qg (K XU [v44,v46] h41) fun v47 h48 f49=>some ((AV.ro v47),h48,(Ze o.length f42 f49))) (some (.bool false)) h41 f42 fun v50 h51 f52=>some (Z6 false o v50 h51 f52)
theorem ZhU (G:GT)(K:KT)(L:Nat)(x0 x1:AV)(o:HP):fnK G K ZmD L ZaU [x0,x1] o=Zbh G K L x0 x1 o:=by kernel_rfl
theorem ZjE {C:Cfg}{x0 x1:AV}:RunT C BI ZaU [x0,x1] (fun K=>Zbh C.G K C.L x0 x1):=runT rfl fun _ _=>ZhU ..
def Vb (G:GT)(K:KT)(L:Nat)(o:HP)(q:HP)(g:Eff):KR :=
  some (Z6 false o (.bool true) q g)
theorem R4 (G:GT)(K:KT)(L:Nat)(o:HP) :Z9 G 26 o.length K Wn L Ou (Y5 Wn Qh o) (Y5 Wn Qh o) []=fun e q g=>Vb G K L o  q g:=by kernel_rfl
def Qc (G:GT)(K:KT)(L:Nat)(o:HP)(k0:HP→Eff→KR):Nat→AV→AV→AV→AV→HP→Eff→KR
  | 0,_,_,_,_,_,_=>none
  | m + 1,x0,x1,x12,x13,q,g=>Zc (Zd .lss .prim x13 x12) fun v4=>ifK v4 (Zc (Qf (.slice 1) x0 x13) fun v5=>Zc (Zf q v5) fun v6=>Zc (Qf (.slice 1) x1 x13) fun v7=>Zc (Zf q v7) fun v8=>Zc (Zd .neq .prim v6 v8) fun v9=>ifK v9 (some (Z6 false o (.bool false) q g)) (Zc (Zd .add .prim x13 (.int .i64 1)) fun v10=>Qc G K L o k0 m x0 x1 x12 v10 q g)) (k0  q g)
theorem R6 (G:GT)(K:KT)(L:Nat)(o:HP)(k0:HP→Eff→KR) :∀ m,VW (fun n'=>Z9 G 26 o.length K Wn L IQ n' (Y5 Wn Qh o) [(0,(fun e q g=>k0 q g))]) m=fun e q g=>Qc G K L o k0 m (e 0).rd (e 1).rd (e 12).rd (e 13).rd q g:=lpI rfl fun _=>by kernel_rfl
theorem R5 (G:GT)(K:KT)(L:Nat)(o:HP)(k0:HP→Eff→KR)(zn:Kj):Z9 G 26 o.length K Wn L Ov zn (Y5 Wn Qh o) [(0,(fun e q g=>k0 q g))]=fun e q g=>Qc G K L o k0 L (e 0).rd (e 1).rd (e 12).rd (e 13).rd q g:=R6 G K L o k0 L
def Ue (G:GT)(K:KT)(L:Nat)(x0 x1:AV)(o:HP):KR :=
  Zc (Yy o .slice (AV.ro x0)) fun v0=>Zc (Yy o .slice (AV.ro x1)) fun v1=>Zc (Zd .neq .prim v0 v1) fun v2=>ifK v2 (some (Z6 false o (.bool false) o none)) (Zc (Yy o .slice (AV.ro x0)) fun v3=>Qc G K L o (Vb G K L o) L (AV.ro x0) (AV.ro x1) v3 (.int .i64 0) o none)
theorem DI (G:GT)(K:KT)(L:Nat)(x0 x1:AV)(o:HP):fnK G K Wn L Qh [x0,x1] o=Ue G K L x0 x1 o:=by
 show Z9 G 26 o.length K Wn L GH (Y5 Wn Qh o) (Y5 Wn Qh o) [] (Df [x0,x1]) o none=_
 simp only [GH,Yh,ZB,ZC,ZX]
 rw [R4 G K L o ,R5 G K L o (Vb G K L o) _]
 kernel_rfl
theorem Pi {C:Cfg}{x0 x1:AV}:RunT C XU Qh [x0,x1] (fun K=>Ue C.G K C.L x0 x1):=runT rfl fun _ _=>DI ..
def ZjD (G:GT)(K:KT)(L:Nat)(x0:AV)(o:HP):KR :=
  Zc (Zd .geq .prim (AV.ro x0) (.int .i64 (-1000000000000))) fun v0=>Uq v0 true (Zc (Zd .leq .prim (AV.ro x0) (.int .i64 1000000000000)) fun v1=>some (v1,o,none)) (some (.bool false)) o none fun v2 h3 f4=>some (Z6 false o v2 h3 f4)
theorem Zmn (G:GT)(K:KT)(L:Nat)(x0:AV)(o:HP):fnK G K Zre L Zj0 [x0] o=ZjD G K L x0 o:=by kernel_rfl
theorem Zoc {C:Cfg}{x0:AV}:RunT C Zaj Zj0 [x0] (fun K=>ZjD C.G K C.L x0):=runT rfl fun _ _=>Zmn ..
def Vm (G:GT)(K:KT)(L:Nat)(o:HP)(q:HP)(g:Eff):KR :=
  some (Z6 false o (.int .i64 0) q g)
theorem Pf (G:GT)(K:KT)(L:Nat)(o:HP) :Z9 G 27 o.length K Qq L ML (Y5 Qq Xa o) (Y5 Qq Xa o) []=fun e q g=>Vm G K L o  q g:=by kernel_rfl
def Qt (G:GT)(K:KT)(L:Nat)(o:HP)(k0:HP→Eff→KR):Nat→AV→AV→AV→AV→HP→Eff→KR
  | 0,_,_,_,_,_,_=>none
  | m + 1,x2,x14,x15,x16,q,g=>Zc (Zd .lss .prim x16 x15) fun v3=>ifK v3 (Zc (Qf (.slice 1) x14 x16) fun v4=>Zc (Zf q v4) fun v5=>Qg (Vh K x2 [v5] q) fun v6 h7 f8=>Zc (Zd .neq .prim (AV.ro v6) (.int .i64 0)) fun v9=>ifK v9 (some (Z6 false o v6 h7 (Ze o.length g f8))) (Zc (Zd .add .prim x16 (.int .i64 1)) fun v10=>Qt G K L o k0 m x2 x14 x15 v10 h7 (Ze o.length g f8))) (k0  q g)
theorem Ph (G:GT)(K:KT)(L:Nat)(o:HP)(k0:HP→Eff→KR) :∀ m,VW (fun n'=>Z9 G 27 o.length K Qq L Mr n' (Y5 Qq Xa o) [(0,(fun e q g=>k0 q g))]) m=fun e q g=>Qt G K L o k0 m (e 2).rd (e 14).rd (e 15).rd (e 16).rd q g:=lpI rfl fun _=>by kernel_rfl
theorem Pg (G:GT)(K:KT)(L:Nat)(o:HP)(k0:HP→Eff→KR)(zn:Kj):Z9 G 27 o.length K Qq L MM zn (Y5 Qq Xa o) [(0,(fun e q g=>k0 q g))]=fun e q g=>Qt G K L o k0 L (e 2).rd (e 14).rd (e 15).rd (e 16).rd q g:=Ph G K L o k0 L
def Gv (G:GT)(K:KT)(L:Nat)(x0 x1 x2:AV)(o:HP):KR :=
  Zc (Yy o .slice (AV.ro x0)) fun v0=>Zc (Zd .gtr .prim v0 (AV.ro x1)) fun v1=>ifK v1 (some (Z6 false o (.int .i64 6) o none)) (Zc (Yy o .slice (AV.ro x0)) fun v2=>Qt G K L o (Vm G K L o) L (AV.ro x2) (AV.ro x0) v2 (.int .i64 0) o none)
theorem Ey (G:GT)(K:KT)(L:Nat)(x0 x1 x2:AV)(o:HP):fnK G K Qq L Xa [x0,x1,x2] o=Gv G K L x0 x1 x2 o:=by
 show Z9 G 27 o.length K Qq L Tg (Y5 Qq Xa o) (Y5 Qq Xa o) [] (Df [x0,x1,x2]) o none=_
 simp only [Tg,Yh,ZB,ZC,ZX]
 rw [Pf G K L o ,Pg G K L o (Vm G K L o) _]
 kernel_rfl
theorem L9 {C:Cfg}{x0 x1 x2:AV}:RunT C Gt Xa [x0,x1,x2] (fun K=>Gv C.G K C.L x0 x1 x2):=runT rfl fun _ _=>Ey ..
def TT (G:GT)(K:KT)(L:Nat)(x0 x1 x2:AV)(o:HP):KR :=
  Zc (GA 17 (AV.ro x0)) fun v1=>JE (o ++ [.cells v1 WL]) fun h0=>Zc (Zf h0 (AV.ro x1)) fun v2=>Zc (Zp 0 (.ptr (o).length 0)) fun v3=>Zc (Zf h0 v3) fun v4=>Qg (K Y0 [v2,v4] h0) fun v5 h6 f7=>Zc (Zd .neq .prim (AV.ro v5) (.int .i64 0)) fun v8=>ifK v8 (some (Z6 false o v5 h6 (Ze o.length none f7))) (Zc (Zp 1 (.ptr (o).length 0)) fun v9=>Zc (Zf h6 v9) fun v10=>Qg (K Qv [v10,(.int .i64 0),(.int .i64 1000)] h6) fun v11 h12 f13=>Zc (JG .not (AV.ro v11)) fun v14=>ifK v14 (some (Z6 false o (.int .i64 2) h12 (Ze o.length (Ze o.length none f7) f13))) (Zc (Z8 h12 17 (.ptr (o).length 0)) fun v15=>Qg (K RJ [v15] h12) fun v16 h17 f18=>Zc (Zd .neq .prim (AV.ro v16) (.int .i64 0)) fun v19=>ifK v19 (some (Z6 false o v16 h17 (Ze o.length (Ze o.length (Ze o.length none f7) f13) f18))) (Zc (Z8 h17 13 (AV.ro x2)) fun v20=>Zc (Zp 4 (.ptr (o).length 0)) fun v21=>Zc (Z8 h17 13 v21) fun v22=>Qg (K RI [v20,v22] h17) fun v23 h24 f25=>some (Z6 false o v23 h24 (Ze o.length (Ze o.length (Ze o.length (Ze o.length none f7) f13) f18) f25)))))
theorem Zby (G:GT)(K:KT)(L:Nat)(x0 x1 x2:AV)(o:HP):fnK G K Zfo L RP [x0,x1,x2] o=TT G K L x0 x1 x2 o:=by kernel_rfl
theorem P8 {C:Cfg}{x0 x1 x2:AV}:RunT C Kz RP [x0,x1,x2] (fun K=>TT C.G K C.L x0 x1 x2):=runT rfl fun _ _=>Zby ..
def Qj (G:GT)(K:KT)(L:Nat)(o:HP)(q:HP)(g:Eff):KR :=
  some (Z6 false o (.int .i64 0) q g)
theorem Tz (G:GT)(K:KT)(L:Nat)(o:HP) :Z9 G 27 o.length K Yv L KI (Y5 Yv YF o) (Y5 Yv YF o) []=fun e q g=>Qj G K L o  q g:=by kernel_rfl
def Y2 (G:GT)(K:KT)(L:Nat)(o:HP)(k0:HP→Eff→KR):Nat→AV→AV→AV→AV→HP→Eff→KR
  | 0,_,_,_,_,_,_=>none
  | m + 1,x2,x14,x15,x16,q,g=>Zc (Zd .lss .prim x16 x15) fun v3=>ifK v3 (Zc (Qf (.slice 17) x14 x16) fun v4=>Zc (Z8 q 17 v4) fun v5=>JE (q ++ [.cells [(.str []),(.int .i64 0),(.own 2 []),(.int .i64 0),(.str []),(.int .i64 0),(.int .i64 0),(.int .i64 0),(.int .i64 0),(.own 1 []),(.own 1 []),(.int .i64 0),(.int .i64 0),(.int .i64 0),(.int .i64 0),(.own 1 []),(.own 1 [])] WL]) fun h6=>GQ (stV o.length 17 (.ptr (q).length 0) v5 h6 g) fun h7 f8=>Zc (Z8 h7 17 (.ptr (q).length 0)) fun v9=>Qg (Vh K x2 [v9] h7) fun v10 h11 f12=>Zc (Zd .neq .prim (AV.ro v10) (.int .i64 0)) fun v13=>ifK v13 (some (Z6 false o v10 h11 (Ze o.length f8 f12))) (Zc (Zd .add .prim x16 (.int .i64 1)) fun v14=>Y2 G K L o k0 m x2 x14 x15 v14 h11 (Ze o.length f8 f12))) (k0  q g)
theorem TA (G:GT)(K:KT)(L:Nat)(o:HP)(k0:HP→Eff→KR) :∀ m,VW (fun n'=>Z9 G 27 o.length K Yv L Kr n' (Y5 Yv YF o) [(0,(fun e q g=>k0 q g))]) m=fun e q g=>Y2 G K L o k0 m (e 2).rd (e 14).rd (e 15).rd (e 16).rd q g:=lpI rfl fun _=>by kernel_rfl
theorem T9 (G:GT)(K:KT)(L:Nat)(o:HP)(k0:HP→Eff→KR)(zn:Kj):Z9 G 27 o.length K Yv L KJ zn (Y5 Yv YF o) [(0,(fun e q g=>k0 q g))]=fun e q g=>Y2 G K L o k0 L (e 2).rd (e 14).rd (e 15).rd (e 16).rd q g:=TA G K L o k0 L
def V5 (G:GT)(K:KT)(L:Nat)(x0 x1 x2:AV)(o:HP):KR :=
  Zc (Yy o .slice (AV.ro x0)) fun v0=>Zc (Zd .gtr .prim v0 (AV.ro x1)) fun v1=>ifK v1 (some (Z6 false o (.int .i64 6) o none)) (Zc (Yy o .slice (AV.ro x0)) fun v2=>Y2 G K L o (Qj G K L o) L (AV.ro x2) (AV.ro x0) v2 (.int .i64 0) o none)
theorem MR (G:GT)(K:KT)(L:Nat)(x0 x1 x2:AV)(o:HP):fnK G K Yv L YF [x0,x1,x2] o=V5 G K L x0 x1 x2 o:=by
 show Z9 G 27 o.length K Yv L JI (Y5 Yv YF o) (Y5 Yv YF o) [] (Df [x0,x1,x2]) o none=_
 simp only [JI,Yh,ZB,ZC,ZX]
 rw [Tz G K L o ,T9 G K L o (Qj G K L o) _]
 kernel_rfl
theorem Gn {C:Cfg}{x0 x1 x2:AV}:RunT C V3 YF [x0,x1,x2] (fun K=>V5 C.G K C.L x0 x1 x2):=runT rfl fun _ _=>MR ..
def TU (G:GT)(K:KT)(L:Nat)(x0 x1:AV)(o:HP):KR :=
  Zc (GA 3 (AV.ro x0)) fun v1=>JE (o ++ [.cells v1 Xd]) fun h0=>Zc (Zf h0 (AV.ro x1)) fun v2=>Zc (Zp 0 (.ptr (o).length 0)) fun v3=>Zc (Zf h0 v3) fun v4=>Qg (K Y0 [v2,v4] h0) fun v5 h6 f7=>Zc (Zd .neq .prim (AV.ro v5) (.int .i64 0)) fun v8=>ifK v8 (some (Z6 false o v5 h6 (Ze o.length none f7))) (Zc (Zp 1 (.ptr (o).length 0)) fun v9=>Zc (Zf h6 v9) fun v10=>Qg (K Qv [v10,(.int .i64 1),(.int .i64 1000)] h6) fun v11 h12 f13=>Zc (JG .not (AV.ro v11)) fun v14=>ifK v14 (some (Z6 false o (.int .i64 2) h12 (Ze o.length (Ze o.length none f7) f13))) (Zc (Zp 2 (.ptr (o).length 0)) fun v15=>Zc (Zf h12 v15) fun v16=>Zc (Zd .lss .prim v16 (.int .i64 1)) fun v17=>Uq v17 false (Zc (Zp 2 (.ptr (o).length 0)) fun v18=>Zc (Zf h12 v18) fun v19=>Zc (Zd .gtr .prim v19 (.int .i64 3)) fun v20=>some (v20,h12,(Ze o.length (Ze o.length none f7) f13))) (some (.bool true)) h12 (Ze o.length (Ze o.length none f7) f13) fun v21 h22 f23=>ifK (AV.ro v21) (some (Z6 false o (.int .i64 1) h22 f23)) (some (Z6 false o (.int .i64 0) h22 f23))))
theorem Zbz (G:GT)(K:KT)(L:Nat)(x0 x1:AV)(o:HP):fnK G K Zfp L RQ [x0,x1] o=TU G K L x0 x1 o:=by kernel_rfl
theorem P9 {C:Cfg}{x0 x1:AV}:RunT C K3 RQ [x0,x1] (fun K=>TU C.G K C.L x0 x1):=runT rfl fun _ _=>Zbz ..
def QB (G:GT)(K:KT)(L:Nat)(o:HP)(q:HP)(g:Eff):KR :=
  some (Z6 false o (.int .i64 0) q g)
theorem MS (G:GT)(K:KT)(L:Nat)(o:HP) :Z9 G 27 o.length K Y8 L Hl (Y5 Y8 WF o) (Y5 Y8 WF o) []=fun e q g=>QB G K L o  q g:=by kernel_rfl
def YH (G:GT)(K:KT)(L:Nat)(o:HP)(k0:HP→Eff→KR):Nat→AV→AV→AV→AV→HP→Eff→KR
  | 0,_,_,_,_,_,_=>none
  | m + 1,x2,x14,x15,x16,q,g=>Zc (Zd .lss .prim x16 x15) fun v3=>ifK v3 (Zc (Qf (.slice 3) x14 x16) fun v4=>Zc (Z8 q 3 v4) fun v5=>JE (q ++ [.cells [(.str []),(.int .i64 0),(.int .i64 0)] Xd]) fun h6=>GQ (stV o.length 3 (.ptr (q).length 0) v5 h6 g) fun h7 f8=>Zc (Z8 h7 3 (.ptr (q).length 0)) fun v9=>Qg (Vh K x2 [v9] h7) fun v10 h11 f12=>Zc (Zd .neq .prim (AV.ro v10) (.int .i64 0)) fun v13=>ifK v13 (some (Z6 false o v10 h11 (Ze o.length f8 f12))) (Zc (Zd .add .prim x16 (.int .i64 1)) fun v14=>YH G K L o k0 m x2 x14 x15 v14 h11 (Ze o.length f8 f12))) (k0  q g)
theorem MV (G:GT)(K:KT)(L:Nat)(o:HP)(k0:HP→Eff→KR) :∀ m,VW (fun n'=>Z9 G 27 o.length K Y8 L GG n' (Y5 Y8 WF o) [(0,(fun e q g=>k0 q g))]) m=fun e q g=>YH G K L o k0 m (e 2).rd (e 14).rd (e 15).rd (e 16).rd q g:=lpI rfl fun _=>by kernel_rfl
theorem MU (G:GT)(K:KT)(L:Nat)(o:HP)(k0:HP→Eff→KR)(zn:Kj):Z9 G 27 o.length K Y8 L Hm zn (Y5 Y8 WF o) [(0,(fun e q g=>k0 q g))]=fun e q g=>YH G K L o k0 L (e 2).rd (e 14).rd (e 15).rd (e 16).rd q g:=MV G K L o k0 L
def VT (G:GT)(K:KT)(L:Nat)(x0 x1 x2:AV)(o:HP):KR :=
  Zc (Yy o .slice (AV.ro x0)) fun v0=>Zc (Zd .gtr .prim v0 (AV.ro x1)) fun v1=>ifK v1 (some (Z6 false o (.int .i64 6) o none)) (Zc (Yy o .slice (AV.ro x0)) fun v2=>YH G K L o (QB G K L o) L (AV.ro x2) (AV.ro x0) v2 (.int .i64 0) o none)
theorem R3 (G:GT)(K:KT)(L:Nat)(x0 x1 x2:AV)(o:HP):fnK G K Y8 L WF [x0,x1,x2] o=VT G K L x0 x1 x2 o:=by
 show Z9 G 27 o.length K Y8 L UM (Y5 Y8 WF o) (Y5 Y8 WF o) [] (Df [x0,x1,x2]) o none=_
 simp only [UM,Yh,ZB,ZC,ZX]
 rw [MS G K L o ,MU G K L o (QB G K L o) _]
 kernel_rfl
theorem Ir {C:Cfg}{x0 x1 x2:AV}:RunT C VN WF [x0,x1,x2] (fun K=>VT C.G K C.L x0 x1 x2):=runT rfl fun _ _=>R3 ..
def TV (G:GT)(K:KT)(L:Nat)(x0 x1:AV)(o:HP):KR :=
  Zc (GA 3 (AV.ro x0)) fun v1=>JE (o ++ [.cells v1 Vg]) fun h0=>Zc (Zf h0 (AV.ro x1)) fun v2=>Zc (Zp 0 (.ptr (o).length 0)) fun v3=>Zc (Zf h0 v3) fun v4=>Qg (K Y0 [v2,v4] h0) fun v5 h6 f7=>Zc (Zd .neq .prim (AV.ro v5) (.int .i64 0)) fun v8=>ifK v8 (some (Z6 false o v5 h6 (Ze o.length none f7))) (Zc (Zp 1 (.ptr (o).length 0)) fun v9=>Zc (Zf h6 v9) fun v10=>Qg (K Qv [v10,(.int .i64 1),(.int .i64 1000)] h6) fun v11 h12 f13=>Zc (JG .not (AV.ro v11)) fun v14=>Uq v14 false (Zc (Zp 2 (.ptr (o).length 0)) fun v15=>Zc (Zf h12 v15) fun v16=>Qg (K Qv [v16,(.int .i64 1),(.int .i64 1000)] h12) fun v17 h18 f19=>Zc (JG .not (AV.ro v17)) fun v20=>some (v20,h18,(Ze o.length (Ze o.length (Ze o.length none f7) f13) f19))) (some (.bool true)) h12 (Ze o.length (Ze o.length none f7) f13) fun v21 h22 f23=>ifK (AV.ro v21) (some (Z6 false o (.int .i64 2) h22 f23)) (some (Z6 false o (.int .i64 0) h22 f23)))
theorem Zb0 (G:GT)(K:KT)(L:Nat)(x0 x1:AV)(o:HP):fnK G K Zfq L RS [x0,x1] o=TV G K L x0 x1 o:=by kernel_rfl
theorem PD {C:Cfg}{x0 x1:AV}:RunT C K4 RS [x0,x1] (fun K=>TV C.G K C.L x0 x1):=runT rfl fun _ _=>Zb0 ..
def QI (G:GT)(K:KT)(L:Nat)(o:HP)(q:HP)(g:Eff):KR :=
  some (Z6 false o (.int .i64 0) q g)
theorem Lh (G:GT)(K:KT)(L:Nat)(o:HP) :Z9 G 27 o.length K YD L Ih (Y5 YD WP o) (Y5 YD WP o) []=fun e q g=>QI G K L o  q g:=by kernel_rfl
def YL (G:GT)(K:KT)(L:Nat)(o:HP)(k0:HP→Eff→KR):Nat→AV→AV→AV→AV→HP→Eff→KR
  | 0,_,_,_,_,_,_=>none
  | m + 1,x2,x14,x15,x16,q,g=>Zc (Zd .lss .prim x16 x15) fun v3=>ifK v3 (Zc (Qf (.slice 3) x14 x16) fun v4=>Zc (Z8 q 3 v4) fun v5=>JE (q ++ [.cells [(.str []),(.int .i64 0),(.int .i64 0)] Vg]) fun h6=>GQ (stV o.length 3 (.ptr (q).length 0) v5 h6 g) fun h7 f8=>Zc (Z8 h7 3 (.ptr (q).length 0)) fun v9=>Qg (Vh K x2 [v9] h7) fun v10 h11 f12=>Zc (Zd .neq .prim (AV.ro v10) (.int .i64 0)) fun v13=>ifK v13 (some (Z6 false o v10 h11 (Ze o.length f8 f12))) (Zc (Zd .add .prim x16 (.int .i64 1)) fun v14=>YL G K L o k0 m x2 x14 x15 v14 h11 (Ze o.length f8 f12))) (k0  q g)
theorem Lj (G:GT)(K:KT)(L:Nat)(o:HP)(k0:HP→Eff→KR) :∀ m,VW (fun n'=>Z9 G 27 o.length K YD L Hf n' (Y5 YD WP o) [(0,(fun e q g=>k0 q g))]) m=fun e q g=>YL G K L o k0 m (e 2).rd (e 14).rd (e 15).rd (e 16).rd q g:=lpI rfl fun _=>by kernel_rfl
theorem Li (G:GT)(K:KT)(L:Nat)(o:HP)(k0:HP→Eff→KR)(zn:Kj):Z9 G 27 o.length K YD L Ii zn (Y5 YD WP o) [(0,(fun e q g=>k0 q g))]=fun e q g=>YL G K L o k0 L (e 2).rd (e 14).rd (e 15).rd (e 16).rd q g:=Lj G K L o k0 L
def Ji (G:GT)(K:KT)(L:Nat)(x0 x1 x2:AV)(o:HP):KR :=
  Zc (Yy o .slice (AV.ro x0)) fun v0=>Zc (Zd .gtr .prim v0 (AV.ro x1)) fun v1=>ifK v1 (some (Z6 false o (.int .i64 6) o none)) (Zc (Yy o .slice (AV.ro x0)) fun v2=>YL G K L o (QI G K L o) L (AV.ro x2) (AV.ro x0) v2 (.int .i64 0) o none)
theorem RV (G:GT)(K:KT)(L:Nat)(x0 x1 x2:AV)(o:HP):fnK G K YD L WP [x0,x1,x2] o=Ji G K L x0 x1 x2 o:=by
 show Z9 G 27 o.length K YD L Ku (Y5 YD WP o) (Y5 YD WP o) [] (Df [x0,x1,x2]) o none=_
 simp only [Ku,Yh,ZB,ZC,ZX]
 rw [Lh G K L o ,Li G K L o (QI G K L o) _]
 kernel_rfl
theorem IR {C:Cfg}{x0 x1 x2:AV}:RunT C Jh WP [x0,x1,x2] (fun K=>Ji C.G K C.L x0 x1 x2):=runT rfl fun _ _=>RV ..
def OO (G:GT)(K:KT)(L:Nat)(x0 x1:AV)(o:HP):KR :=
  Zc (GA 4 (AV.ro x0)) fun v1=>JE (o ++ [.cells v1 QQ]) fun h0=>Zc (Zf h0 (AV.ro x1)) fun v2=>Zc (Zp 0 (.ptr (o).length 0)) fun v3=>Zc (Zf h0 v3) fun v4=>Qg (K Y0 [v2,v4] h0) fun v5 h6 f7=>Zc (Zd .neq .prim (AV.ro v5) (.int .i64 0)) fun v8=>ifK v8 (some (Z6 false o v5 h6 (Ze o.length none f7))) (Zc (Z8 h6 4 (.ptr (o).length 0)) fun v9=>Qg (K BK [v9] h6) fun v10 h11 f12=>some (Z6 false o v10 h11 (Ze o.length (Ze o.length none f7) f12)))
theorem Zav (G:GT)(K:KT)(L:Nat)(x0 x1:AV)(o:HP):fnK G K Zeq L LC [x0,x1] o=OO G K L x0 x1 o:=by kernel_rfl
theorem DV {C:Cfg}{x0 x1:AV}:RunT C UE LC [x0,x1] (fun K=>OO C.G K C.L x0 x1):=runT rfl fun _ _=>Zav ..
def QS (G:GT)(K:KT)(L:Nat)(o:HP)(q:HP)(g:Eff):KR :=
  some (Z6 false o (.int .i64 0) q g)
theorem LM (G:GT)(K:KT)(L:Nat)(o:HP) :Z9 G 27 o.length K YK L IM (Y5 YK WZ o) (Y5 YK WZ o) []=fun e q g=>QS G K L o  q g:=by kernel_rfl
def WA (G:GT)(K:KT)(L:Nat)(o:HP)(k0:HP→Eff→KR):Nat→AV→AV→AV→AV→HP→Eff→KR
  | 0,_,_,_,_,_,_=>none
  | m + 1,x2,x14,x15,x16,q,g=>Zc (Zd .lss .prim x16 x15) fun v3=>ifK v3 (Zc (Qf (.slice 4) x14 x16) fun v4=>Zc (Z8 q 4 v4) fun v5=>JE (q ++ [.cells [(.str []),(.own 2 []),(.own 2 []),(.own 21 [])] QQ]) fun h6=>GQ (stV o.length 4 (.ptr (q).length 0) v5 h6 g) fun h7 f8=>Zc (Z8 h7 4 (.ptr (q).length 0)) fun v9=>Qg (Vh K x2 [v9] h7) fun v10 h11 f12=>Zc (Zd .neq .prim (AV.ro v10) (.int .i64 0)) fun v13=>ifK v13 (some (Z6 false o v10 h11 (Ze o.length f8 f12))) (Zc (Zd .add .prim x16 (.int .i64 1)) fun v14=>WA G K L o k0 m x2 x14 x15 v14 h11 (Ze o.length f8 f12))) (k0  q g)
theorem LQ (G:GT)(K:KT)(L:Nat)(o:HP)(k0:HP→Eff→KR) :∀ m,VW (fun n'=>Z9 G 27 o.length K YK L Ij n' (Y5 YK WZ o) [(0,(fun e q g=>k0 q g))]) m=fun e q g=>WA G K L o k0 m (e 2).rd (e 14).rd (e 15).rd (e 16).rd q g:=lpI rfl fun _=>by kernel_rfl
theorem LP (G:GT)(K:KT)(L:Nat)(o:HP)(k0:HP→Eff→KR)(zn:Kj):Z9 G 27 o.length K YK L IP zn (Y5 YK WZ o) [(0,(fun e q g=>k0 q g))]=fun e q g=>WA G K L o k0 L (e 2).rd (e 14).rd (e 15).rd (e 16).rd q g:=LQ G K L o k0 L
def JB (G:GT)(K:KT)(L:Nat)(x0 x1 x2:AV)(o:HP):KR :=
  Zc (Yy o .slice (AV.ro x0)) fun v0=>Zc (Zd .gtr .prim v0 (AV.ro x1)) fun v1=>ifK v1 (some (Z6 false o (.int .i64 6) o none)) (Zc (Yy o .slice (AV.ro x0)) fun v2=>WA G K L o (QS G K L o) L (AV.ro x2) (AV.ro x0) v2 (.int .i64 0) o none)
theorem Bu (G:GT)(K:KT)(L:Nat)(x0 x1 x2:AV)(o:HP):fnK G K YK L WZ [x0,x1,x2] o=JB G K L x0 x1 x2 o:=by
 show Z9 G 27 o.length K YK L Ga (Y5 YK WZ o) (Y5 YK WZ o) [] (Df [x0,x1,x2]) o none=_
 simp only [Ga,Yh,ZB,ZC,ZX]
 rw [LM G K L o ,LP G K L o (QS G K L o) _]
 kernel_rfl
theorem O9 {C:Cfg}{x0 x1 x2:AV}:RunT C JA WZ [x0,x1,x2] (fun K=>JB C.G K C.L x0 x1 x2):=runT rfl fun _ _=>Bu ..
def LU (G:GT)(K:KT)(L:Nat)(x0 x1:AV)(o:HP):KR :=
  Zc (GA 5 (AV.ro x0)) fun v1=>JE (o ++ [.cells v1 OD]) fun h0=>Zc (Z8 h0 13 (AV.ro x1)) fun v2=>Zc (Z8 h0 5 (.ptr (o).length 0)) fun v3=>Qg (K SV [v2,v3] h0) fun v4 h5 f6=>some (Z6 false o v4 h5 (Ze o.length none f6))
theorem Zaw (G:GT)(K:KT)(L:Nat)(x0 x1:AV)(o:HP):fnK G K Zer L LF [x0,x1] o=LU G K L x0 x1 o:=by kernel_rfl
theorem ZbK {C:Cfg}{x0 x1:AV}:RunT C OH LF [x0,x1] (fun K=>LU C.G K C.L x0 x1):=runT rfl fun _ _=>Zaw ..
def Vv (G:GT)(K:KT)(L:Nat)(o:HP)(q:HP)(g:Eff):KR :=
  some (Z6 false o (.int .i64 0) q g)
theorem RY (G:GT)(K:KT)(L:Nat)(o:HP) :Z9 G 27 o.length K WH L OY (Y5 WH Qr o) (Y5 WH Qr o) []=fun e q g=>Vv G K L o  q g:=by kernel_rfl
def QH (G:GT)(K:KT)(L:Nat)(o:HP)(k0:HP→Eff→KR):Nat→AV→AV→AV→AV→HP→Eff→KR
  | 0,_,_,_,_,_,_=>none
  | m + 1,x2,x14,x15,x16,q,g=>Zc (Zd .lss .prim x16 x15) fun v3=>ifK v3 (Zc (Qf (.slice 5) x14 x16) fun v4=>Zc (Z8 q 5 v4) fun v5=>JE (q ++ [.cells [(.str []),(.own 1 []),(.int .i64 0),(.int .i64 0),(.int .i64 0)] OD]) fun h6=>GQ (stV o.length 5 (.ptr (q).length 0) v5 h6 g) fun h7 f8=>Zc (Z8 h7 5 (.ptr (q).length 0)) fun v9=>Qg (Vh K x2 [v9] h7) fun v10 h11 f12=>Zc (Zd .neq .prim (AV.ro v10) (.int .i64 0)) fun v13=>ifK v13 (some (Z6 false o v10 h11 (Ze o.length f8 f12))) (Zc (Zd .add .prim x16 (.int .i64 1)) fun v14=>QH G K L o k0 m x2 x14 x15 v14 h11 (Ze o.length f8 f12))) (k0  q g)
theorem Ba (G:GT)(K:KT)(L:Nat)(o:HP)(k0:HP→Eff→KR) :∀ m,VW (fun n'=>Z9 G 27 o.length K WH L Oq n' (Y5 WH Qr o) [(0,(fun e q g=>k0 q g))]) m=fun e q g=>QH G K L o k0 m (e 2).rd (e 14).rd (e 15).rd (e 16).rd q g:=lpI rfl fun _=>by kernel_rfl
theorem RZ (G:GT)(K:KT)(L:Nat)(o:HP)(k0:HP→Eff→KR)(zn:Kj):Z9 G 27 o.length K WH L OZ zn (Y5 WH Qr o) [(0,(fun e q g=>k0 q g))]=fun e q g=>QH G K L o k0 L (e 2).rd (e 14).rd (e 15).rd (e 16).rd q g:=Ba G K L o k0 L
def H8 (G:GT)(K:KT)(L:Nat)(x0 x1 x2:AV)(o:HP):KR :=
  Zc (Yy o .slice (AV.ro x0)) fun v0=>Zc (Zd .gtr .prim v0 (AV.ro x1)) fun v1=>ifK v1 (some (Z6 false o (.int .i64 6) o none)) (Zc (Yy o .slice (AV.ro x0)) fun v2=>QH G K L o (Vv G K L o) L (AV.ro x2) (AV.ro x0) v2 (.int .i64 0) o none)
theorem Pd (G:GT)(K:KT)(L:Nat)(x0 x1 x2:AV)(o:HP):fnK G K WH L Qr [x0,x1,x2] o=H8 G K L x0 x1 x2 o:=by
 show Z9 G 27 o.length K WH L H6 (Y5 WH Qr o) (Y5 WH Qr o) [] (Df [x0,x1,x2]) o none=_
 simp only [H6,Yh,ZB,ZC,ZX]
 rw [RY G K L o ,RZ G K L o (Vv G K L o) _]
 kernel_rfl
theorem NG {C:Cfg}{x0 x1 x2:AV}:RunT C Hw Qr [x0,x1,x2] (fun K=>H8 C.G K C.L x0 x1 x2):=runT rfl fun _ _=>Pd ..
def Cm (G:GT)(K:KT)(L:Nat)(x0:AV)(o:HP):KR :=
  Zc (GA 13 (AV.ro x0)) fun v1=>JE (o ++ [.cells v1 Zb]) fun h0=>JE (h0 ++ [.map []]) fun h2=>JE (h2 ++ [.cells [.nilm] Qz]) fun h3=>GQ (Zfu o.length (.ptr (h2).length 0) (.map (h0).length) h3 none) fun h4 f5=>Zc (Zp 12 (.ptr (o).length 0)) fun v6=>Zc (Zf h4 v6) fun v7=>Qg (K K8 [v7,(.int .i64 32),(.fn Iw [] [(.ptr (h2).length 0),(.ptr (o).length 0)])] h4) fun v8 h9 f10=>some (Z6 false o v8 h9 (Ze o.length f5 f10))
theorem Zgb (G:GT)(K:KT)(L:Nat)(x0:AV)(o:HP):fnK G K ZlA L Fu [x0] o=Cm G K L x0 o:=by kernel_rfl
theorem Zit {C:Cfg}{x0:AV}:RunT C AR Fu [x0] (fun K=>Cm C.G K C.L x0):=runT rfl fun _ _=>Zgb ..
def VH (G:GT)(K:KT)(L:Nat)(o:HP)(q:HP)(g:Eff):KR :=
  some (Z6 false o (.int .i64 0) q g)
theorem AB (G:GT)(K:KT)(L:Nat)(o:HP) :Z9 G 58 o.length K WN L Dl (Y5 WN Xc o) (Y5 WN Xc o) []=fun e q g=>VH G K L o  q g:=by kernel_rfl
def VG (G:GT)(K:KT)(L:Nat)(o:HP)(kn:AV→AV→AV→AV→HP→Eff→KR)(x1:AV)(x23:AV)(x24:AV)(x25:AV)(q:HP)(g:Eff):KR :=
  Zc (Zd .add .prim x25 (.int .i64 1)) fun v23=>kn x1 x23 x24 v23 q g
theorem AA (G:GT)(K:KT)(L:Nat)(o:HP)(kn:AV→AV→AV→AV→HP→Eff→KR)(z1:Kj):Z9 G 58 o.length K WN L Dk (fun e q g=>kn (e 1).rd (e 23).rd (e 24).rd (e 25).rd q g) (Y5 WN Xc o) [(1,z1)]=fun e q g=>VG G K L o kn (e 1).rd (e 23).rd (e 24).rd (e 25).rd q g:=by kernel_rfl
def J2 (G:GT)(K:KT)(L:Nat)(o:HP)(kn:AV→AV→AV→AV→HP→Eff→KR)(x1:AV)(x3:AV)(x4:AV)(x23:AV)(x24:AV)(x25:AV)(x30:AV)(q:HP)(g:Eff):KR :=
  ifK x30 (some (Z6 false o (.int .i64 2) q g)) (Zc (Zd .gtr .prim x3 (.int .i64 0)) fun v29=>Uq v29 true (Zc (Zp 0 x4) fun v30=>Zc (Zf q v30) fun v31=>Zc (Zp 2 x1) fun v32=>Zc (Zf q v32) fun v33=>Zc (Zd .sub .prim x3 (.int .i64 1)) fun v34=>Zc (Qf (.slice 2) v33 v34) fun v35=>Zc (Zp 0 v35) fun v36=>Zc (Zf q v36) fun v37=>Zc (Zd .leq .prim v31 v37) fun v38=>some (v38,q,g)) (some (.bool false)) q g fun v39 h40 f41=>ifK (AV.ro v39) (some (Z6 false o (.int .i64 12) h40 f41)) (kn x1 x23 x24 x25 h40 f41))
theorem A9 (G:GT)(K:KT)(L:Nat)(o:HP)(kn:AV→AV→AV→AV→HP→Eff→KR)(z3 z2 z1:Kj):Z9 G 58 o.length K WN L Dj (fun e q g=>kn (e 1).rd (e 23).rd (e 24).rd (e 25).rd q g) (Y5 WN Xc o) [(3,z3),(2,z2),(1,z1)]=fun e q g=>J2 G K L o kn (e 1).rd (e 3).rd (e 4).rd (e 23).rd (e 24).rd (e 25).rd (e 30).rd q g:=by kernel_rfl
def Q6 (G:GT)(K:KT)(L:Nat)(o:HP)(k1:HP→Eff→KR):Nat→AV→AV→AV→AV→HP→Eff→KR
  | 0,_,_,_,_,_,_=>none
  | m + 1,x1,x23,x24,x25,q,g=>Zc (Zd .lss .prim x25 x24) fun v22=>ifK v22 (Zc (Qf (.slice 2) x23 x25) fun v24=>Zc (Z8 q 2 v24) fun v25=>JE (q ++ [.cells [(.int .i64 0),(.int .i64 0)] Zdf]) fun h26=>GQ (stV o.length 2 (.ptr (q).length 0) v25 h26 g) fun h27 f28=>Zc (Zp 0 (.ptr (q).length 0)) fun v42=>Zc (Zf h27 v42) fun v43=>Zc (Zp 3 x1) fun v44=>Zc (Zf h27 v44) fun v45=>Zc (Zd .sub .prim v45 (.int .i64 1)) fun v46=>Qg (K Qv [v43,(.int .i64 0),v46] h27) fun v47 h48 f49=>Zc (JG .not (AV.ro v47)) fun v50=>ifK v50 (J2 G K L o (VG G K L o (Q6 G K L o k1 m)) x1 x25 (.ptr (q).length 0) x23 x24 x25 v50 h48 (Ze o.length f28 f49)) (Zc (Zp 1 (.ptr (q).length 0)) fun v51=>Zc (Zf h48 v51) fun v52=>Qg (K Qv [v52,(.int .i64 0),(.int .i64 1000)] h48) fun v53 h54 f55=>Zc (JG .not (AV.ro v53)) fun v56=>J2 G K L o (VG G K L o (Q6 G K L o k1 m)) x1 x25 (.ptr (q).length 0) x23 x24 x25 v56 h54 (Ze o.length (Ze o.length f28 f49) f55))) (k1  q g)
theorem AJ (G:GT)(K:KT)(L:Nat)(o:HP)(k1:HP→Eff→KR) :∀ m,VW (fun n'=>Z9 G 58 o.length K WN L Gu n' (Y5 WN Xc o) [(1,(fun e q g=>k1 q g))]) m=fun e q g=>Q6 G K L o k1 m (e 1).rd (e 23).rd (e 24).rd (e 25).rd q g:=by
 intro m
 induction m with
 | zero=>rfl
 | succ m ih =>
  show Z9 G 58 o.length K WN L Gu (VW _ m) (Y5 WN Xc o) [(1,(fun e q g=>k1 q g))]=_
  rw [ih]
  simp only [Gu,Yh,ZB,ZC,ZX]
  rw [AA G K L o (Q6 G K L o k1 m) _,A9 G K L o (VG G K L o (Q6 G K L o k1 m)) _ _ _]
  kernel_rfl
theorem AC (G:GT)(K:KT)(L:Nat)(o:HP)(k1:HP→Eff→KR)(zn:Kj):Z9 G 58 o.length K WN L Dm zn (Y5 WN Xc o) [(1,(fun e q g=>k1 q g))]=fun e q g=>Q6 G K L o k1 L (e 1).rd (e 23).rd (e 24).rd (e 25).rd q g:=AJ G K L o k1 L
def TS (G:GT)(K:KT)(L:Nat)(x0:AV)(o:HP):KR :=
  Zc (GA 17 (AV.ro x0)) fun v1=>JE (o ++ [.cells v1 WL]) fun h0=>Zc (Zp 2 (.ptr (o).length 0)) fun v2=>Zc (Zf h0 v2) fun v3=>Zc (Yy h0 .slice v3) fun v4=>Zc (Zd .eql .prim v4 (.int .i64 0)) fun v5=>ifK v5 (Zc (Zp 3 (.ptr (o).length 0)) fun v6=>Zc (Zf h0 v6) fun v7=>Zc (Zd .neq .prim v7 (.int .i64 0)) fun v8=>ifK v8 (some (Z6 false o (.int .i64 1) h0 none)) (some (Z6 false o (.int .i64 0) h0 none))) (Zc (Zp 2 (.ptr (o).length 0)) fun v9=>Zc (Zf h0 v9) fun v10=>Zc (Yy h0 .slice v10) fun v11=>Zc (Zd .gtr .prim v11 (.int .i64 20)) fun v12=>ifK v12 (some (Z6 false o (.int .i64 6) h0 none)) (Zc (Zp 3 (.ptr (o).length 0)) fun v13=>Zc (Zf h0 v13) fun v14=>Qg (K Qv [v14,(.int .i64 1),(.int .i64 1000000000)] h0) fun v15 h16 f17=>Zc (JG .not (AV.ro v15)) fun v18=>ifK v18 (some (Z6 false o (.int .i64 2) h16 (Ze o.length none f17))) (Zc (Zp 2 (.ptr (o).length 0)) fun v19=>Zc (Zf h16 v19) fun v20=>Zc (Yy h16 .slice v20) fun v21=>Q6 G K L o (VH G K L o) L (.ptr (o).length 0) v20 v21 (.int .i64 0) h16 (Ze o.length none f17))))
theorem Zbx (G:GT)(K:KT)(L:Nat)(x0:AV)(o:HP):fnK G K WN L Xc [x0] o=TS G K L x0 o:=by
 show Z9 G 58 o.length K WN L RU (Y5 WN Xc o) (Y5 WN Xc o) [] (Df [x0]) o none=_
 simp only [RU,Yh,ZB,ZC,ZX]
 rw [AB G K L o ,AC G K L o (VH G K L o) _]
 kernel_rfl
theorem ZcW {C:Cfg}{x0:AV}:RunT C RJ Xc [x0] (fun K=>TS C.G K C.L x0):=runT rfl fun _ _=>Zbx ..
def Be (G:GT)(K:KT)(L:Nat)(x0 x1:AV)(o:HP):KR :=
  Zc (GA 13 (AV.ro x0)) fun v1=>JE (o ++ [.cells v1 Zb]) fun h0=>Zc (GA 13 (AV.ro x1)) fun v3=>JE (h0 ++ [.cells v3 Zmb]) fun h2=>Zc (Zp 0 (.ptr (h0).length 0)) fun v4=>Zc (Zf h2 v4) fun v5=>Zc (Zd .eql .prim v5 (.str [])) fun v6=>Uq v6 true (Zc (Zp 1 (.ptr (h0).length 0)) fun v7=>Zc (Z8 h2 6 v7) fun v8=>Zc (fill [(.int .i64 0),(.int .i64 0),(.int .i64 0),(.int .i64 0),(.own 1 []),(.own 1 [])] []) fun v9=>Qg (K BI [v8,(.agg v9)] h2) fun v10 h11 f12=>Zc (JG .not (AV.ro v10)) fun v13=>Uq v13 false (Zc (Zp 7 (.ptr (h0).length 0)) fun v14=>Zc (Z8 h11 6 v14) fun v15=>Zc (fill [(.int .i64 0),(.int .i64 0),(.int .i64 0),(.int .i64 0),(.own 1 []),(.own 1 [])] []) fun v16=>Qg (K BI [v15,(.agg v16)] h11) fun v17 h18 f19=>Zc (JG .not (AV.ro v17)) fun v20=>some (v20,h18,(Ze o.length (Ze o.length none f12) f19))) (some (.bool true)) h11 (Ze o.length none f12) fun v21 h22 f23=>some ((AV.ro v21),h22,f23)) (some (.bool false)) h2 none fun v24 h25 f26=>ifK (AV.ro v24) (some (Z6 false o (.int .i64 1) h25 f26)) (Zc (Zp 0 (.ptr (h0).length 0)) fun v27=>Zc (Zf h25 v27) fun v28=>Zc (Zd .eql .prim v28 (.str [])) fun v29=>ifK v29 (some (Z6 false o (.int .i64 0) h25 f26)) (Zc (Zp 6 (.ptr (o).length 0)) fun v30=>Zc (Zf h25 v30) fun v31=>Zc (Zp 0 (.ptr (h0).length 0)) fun v32=>Zc (Zf h25 v32) fun v33=>Qg (K XL [v31,v33] h25) fun v34 h35 f36=>Zc (JG .not (AV.ro v34)) fun v37=>ifK v37 (some (Z6 false o (.int .i64 5) h35 (Ze o.length f26 f36))) (Zc (Zp 1 (.ptr (h0).length 0)) fun v38=>Zc (Z8 h35 6 v38) fun v39=>Qg (K U7 [v39] h35) fun v40 h41 f42=>Zc (Zd .neq .prim (AV.ro v40) (.int .i64 0)) fun v43=>ifK v43 (some (Z6 false o v40 h41 (Ze o.length (Ze o.length f26 f36) f42))) (Zc (Zp 7 (.ptr (h0).length 0)) fun v44=>Zc (Z8 h41 6 v44) fun v45=>Qg (K U7 [v45] h41) fun v46 h47 f48=>some (Z6 false o v46 h47 (Ze o.length (Ze o.length (Ze o.length f26 f36) f42) f48))))))
theorem Zbs (G:GT)(K:KT)(L:Nat)(x0 x1:AV)(o:HP):fnK G K Zfm L RN [x0,x1] o=Be G K L x0 x1 o:=by kernel_rfl
theorem ZcU {C:Cfg}{x0 x1:AV}:RunT C RI RN [x0,x1] (fun K=>Be C.G K C.L x0 x1):=runT rfl fun _ _=>Zbs ..
def KQ (G:GT)(K:KT)(L:Nat)(o:HP)(x1:AV)(q:HP)(g:Eff):KR :=
  Zc (Zp 3 x1) fun v18=>Zc (Zf q v18) fun v19=>Qg (K Pn [v19] q) fun v20 h21 f22=>some (Z6 false o v20 h21 (Ze o.length g f22))
theorem Cn (G:GT)(K:KT)(L:Nat)(o:HP) :Z9 G 48 o.length K Ve L Ps (Y5 Ve VP o) (Y5 Ve VP o) []=fun e q g=>KQ G K L o (e 1).rd q g:=by kernel_rfl
def XN (G:GT)(K:KT)(L:Nat)(o:HP)(k0:AV→HP→Eff→KR):Nat→AV→AV→AV→AV→AV→HP→Eff→KR
  | 0,_,_,_,_,_,_,_=>none
  | m + 1,x1,x3,x27,x28,x29,q,g=>Zc (Zd .lss .prim x29 x28) fun v33=>ifK v33 (Zc (Qf (.slice 2) x27 x29) fun v34=>Zc (Z8 q 2 v34) fun v35=>JE (q ++ [.cells [(.str []),(.int .i64 0)] Zah]) fun h36=>GQ (stV o.length 2 (.ptr (q).length 0) v35 h36 g) fun h37 f38=>Zc (Zp 0 (.ptr (q).length 0)) fun v39=>Zc (Zf h37 v39) fun v40=>Qg (K Y0 [x3,v40] h37) fun v41 h42 f43=>Zc (Zd .neq .prim (AV.ro v41) (.int .i64 0)) fun v44=>ifK v44 (some (Z6 false o v41 h42 (Ze o.length f38 f43))) (Zc (Zp 1 (.ptr (q).length 0)) fun v45=>Zc (Zf h42 v45) fun v46=>Qg (K M9 [v46] h42) fun v47 h48 f49=>Zc (JG .not (AV.ro v47)) fun v50=>ifK v50 (some (Z6 false o (.int .i64 1) h48 (Ze o.length (Ze o.length f38 f43) f49))) (Zc (Zd .add .prim x29 (.int .i64 1)) fun v51=>XN G K L o k0 m x1 x3 x27 x28 v51 h48 (Ze o.length (Ze o.length f38 f43) f49)))) (k0 x1 q g)
theorem Cq (G:GT)(K:KT)(L:Nat)(o:HP)(k0:AV→HP→Eff→KR) :∀ m,VW (fun n'=>Z9 G 48 o.length K Ve L Di n' (Y5 Ve VP o) [(0,(fun e q g=>k0 (e 1).rd q g))]) m=fun e q g=>XN G K L o k0 m (e 1).rd (e 3).rd (e 27).rd (e 28).rd (e 29).rd q g:=lpI rfl fun _=>by kernel_rfl
theorem Co (G:GT)(K:KT)(L:Nat)(o:HP)(k0:AV→HP→Eff→KR)(zn:Kj):Z9 G 48 o.length K Ve L Pt zn (Y5 Ve VP o) [(0,(fun e q g=>k0 (e 1).rd q g))]=fun e q g=>XN G K L o k0 L (e 1).rd (e 3).rd (e 27).rd (e 28).rd (e 29).rd q g:=Cq G K L o k0 L
def MW (G:GT)(K:KT)(L:Nat)(x0:AV)(o:HP):KR :=
  Zc (GA 4 (AV.ro x0)) fun v1=>JE (o ++ [.cells v1 QQ]) fun h0=>Zc (Zp 1 (.ptr (o).length 0)) fun v2=>Zc (Zf h0 v2) fun v3=>Zc (Yy h0 .slice v3) fun v4=>Zc (Zd .gtr .prim v4 (.int .i64 6)) fun v5=>Uq v5 false (Zc (Zp 1 (.ptr (o).length 0)) fun v6=>Zc (Zf h0 v6) fun v7=>Zc (Yy h0 .slice v7) fun v8=>Zc (Zp 2 (.ptr (o).length 0)) fun v9=>Zc (Zf h0 v9) fun v10=>Zc (Yy h0 .slice v10) fun v11=>Zc (Zd .add .prim v8 v11) fun v12=>Zc (Zd .gtr .prim v12 (.int .i64 16)) fun v13=>some (v13,h0,none)) (some (.bool true)) h0 none fun v14 h15 f16=>ifK (AV.ro v14) (some (Z6 false o (.int .i64 6) h15 f16)) (JE (h15 ++ [.map []]) fun h17=>Zc (Zp 1 (.ptr (o).length 0)) fun v23=>Zc (Zf h17 v23) fun v24=>Zc (Zp 2 (.ptr (o).length 0)) fun v25=>Zc (Zf h17 v25) fun v26=>GQ (Zeb Zk4 1 [v24,v26] h17) fun v27 h28=>Qg (K Vx [(AV.ro v27)] h28) fun v29 h30 f31=>Zc (Yy h30 .slice (AV.ro v29)) fun v32=>XN G K L o (KQ G K L o) L (.ptr (o).length 0) (.map (h15).length) (AV.ro v29) v32 (.int .i64 0) h30 (Ze o.length f16 f31))
theorem Zcn (G:GT)(K:KT)(L:Nat)(x0:AV)(o:HP):fnK G K Ve L VP [x0] o=MW G K L x0 o:=by
 show Z9 G 48 o.length K Ve L Dh (Y5 Ve VP o) (Y5 Ve VP o) [] (Df [x0]) o none=_
 simp only [Dh,Yh,ZB,ZC,ZX]
 rw [Cn G K L o ,Co G K L o (KQ G K L o) _]
 kernel_rfl
theorem Zei {C:Cfg}{x0:AV}:RunT C BK VP [x0] (fun K=>MW C.G K C.L x0):=runT rfl fun _ _=>Zcn ..
def Ip (G:GT)(K:KT)(L:Nat)(o:HP)(x3:AV)(q:HP)(g:Eff):KR :=
  Zc (Zp 2 x3) fun v21=>Zc (Zf q v21) fun v22=>Qg (K Qv [v22,(.int .i64 0),(.int .i64 1000000000)] q) fun v23 h24 f25=>Zc (JG .not (AV.ro v23)) fun v26=>Uq v26 false (Zc (Zp 3 x3) fun v27=>Zc (Zf h24 v27) fun v28=>Qg (K Qv [v28,(.int .i64 0),(.int .i64 1000000000)] h24) fun v29 h30 f31=>Zc (JG .not (AV.ro v29)) fun v32=>some (v32,h30,(Ze o.length (Ze o.length g f25) f31))) (some (.bool true)) h24 (Ze o.length g f25) fun v33 h34 f35=>Uq (AV.ro v33) false (Zc (Zp 4 x3) fun v36=>Zc (Zf h34 v36) fun v37=>Qg (K Qv [v37,(.int .i64 0),(.int .i64 1000000000)] h34) fun v38 h39 f40=>Zc (JG .not (AV.ro v38)) fun v41=>some (v41,h39,(Ze o.length f35 f40))) (some (.bool true)) h34 f35 fun v42 h43 f44=>Uq (AV.ro v42) false (Zc (Zp 3 x3) fun v45=>Zc (Zf h43 v45) fun v46=>Zc (Zd .eql .prim v46 (.int .i64 0)) fun v47=>Uq v47 true (Zc (Zp 4 x3) fun v48=>Zc (Zf h43 v48) fun v49=>Zc (Zd .neq .prim v49 (.int .i64 0)) fun v50=>some (v50,h43,f44)) (some (.bool false)) h43 f44 fun v51 h52 f53=>some ((AV.ro v51),h52,f53)) (some (.bool true)) h43 f44 fun v54 h55 f56=>ifK (AV.ro v54) (some (Z6 false o (.int .i64 2) h55 f56)) (some (Z6 false o (.int .i64 0) h55 f56))
theorem Zb1 (G:GT)(K:KT)(L:Nat)(o:HP) :Z9 G 70 o.length K VY L Ad (Y5 VY Ux o) (Y5 VY Ux o) []=fun e q g=>Ip G K L o (e 3).rd q g:=by kernel_rfl
def Ui (G:GT)(K:KT)(L:Nat)(o:HP)(k0:AV→HP→Eff→KR):Nat→AV→AV→AV→AV→AV→HP→Eff→KR
  | 0,_,_,_,_,_,_,_=>none
  | m + 1,x3,x6,x28,x29,x30,q,g=>Zc (Zd .lss .prim x30 x29) fun v60=>ifK v60 (Zc (Qf (.slice 1) x28 x30) fun v61=>Zc (Zf q v61) fun v62=>Zc (Qf (.slice 2) x6 x30) fun v63=>Zc (Zp 1 v63) fun v64=>Zc (Zf q v64) fun v65=>Qg (K Rq [v65,v62] q) fun v66 h67 f68=>Zc (JG .not (AV.ro v66)) fun v69=>ifK v69 (some (Z6 false o (.int .i64 2) h67 (Ze o.length g f68))) (Zc (Zd .add .prim x30 (.int .i64 1)) fun v70=>Ui G K L o k0 m x3 x6 x28 x29 v70 h67 (Ze o.length g f68))) (k0 x3 q g)
theorem Zb3 (G:GT)(K:KT)(L:Nat)(o:HP)(k0:AV→HP→Eff→KR) :∀ m,VW (fun n'=>Z9 G 70 o.length K VY L NR n' (Y5 VY Ux o) [(0,(fun e q g=>k0 (e 3).rd q g))]) m=fun e q g=>Ui G K L o k0 m (e 3).rd (e 6).rd (e 28).rd (e 29).rd (e 30).rd q g:=lpI rfl fun _=>by kernel_rfl
theorem Zb2 (G:GT)(K:KT)(L:Nat)(o:HP)(k0:AV→HP→Eff→KR)(zn:Kj):Z9 G 70 o.length K VY L Ae zn (Y5 VY Ux o) [(0,(fun e q g=>k0 (e 3).rd q g))]=fun e q g=>Ui G K L o k0 L (e 3).rd (e 6).rd (e 28).rd (e 29).rd (e 30).rd q g:=Zb3 G K L o k0 L
def MX (G:GT)(K:KT)(L:Nat)(x0 x1:AV)(o:HP):KR :=
  Zc (GA 13 (AV.ro x0)) fun v1=>JE (o ++ [.cells v1 Zb]) fun h0=>Zc (GA 5 (AV.ro x1)) fun v3=>JE (h0 ++ [.cells v3 OD]) fun h2=>Zc (Z8 h2 13 (.ptr (o).length 0)) fun v4=>Zc (Zp 0 (.ptr (h0).length 0)) fun v5=>Zc (Zf h2 v5) fun v6=>Qg (K V7 [v4,v6] h2) fun v7 h8 f9=>Zc (Zd .lss .prim (AV.ro v7) (.int .i64 0)) fun v10=>ifK v10 (some (Z6 false o (.int .i64 5) h8 (Ze o.length none f9))) (Zc (Zp 10 (.ptr (o).length 0)) fun v11=>Zc (Zf h8 v11) fun v12=>Zc (Qf (.slice 4) v12 (AV.ro v7)) fun v13=>Zc (Zp 1 v13) fun v14=>Zc (Zf h8 v14) fun v15=>Zc (Zp 1 (.ptr (h0).length 0)) fun v16=>Zc (Zf h8 v16) fun v17=>Zc (Yy h8 .slice v17) fun v18=>Zc (Yy h8 .slice v15) fun v19=>Zc (Zd .neq .prim v18 v19) fun v20=>ifK v20 (some (Z6 false o (.int .i64 8) h8 (Ze o.length none f9))) (Zc (Zp 1 (.ptr (h0).length 0)) fun v57=>Zc (Zf h8 v57) fun v58=>Zc (Yy h8 .slice v58) fun v59=>Ui G K L o (Ip G K L o) L (.ptr (h0).length 0) v15 v58 v59 (.int .i64 0) h8 (Ze o.length none f9)))
theorem ZeN (G:GT)(K:KT)(L:Nat)(x0 x1:AV)(o:HP):fnK G K VY L Ux [x0,x1] o=MX G K L x0 x1 o:=by
 show Z9 G 70 o.length K VY L Ep (Y5 VY Ux o) (Y5 VY Ux o) [] (Df [x0,x1]) o none=_
 simp only [Ep,Yh,ZB,ZC,ZX]
 rw [Zb1 G K L o ,Zb2 G K L o (Ip G K L o) _]
 kernel_rfl
theorem ZgR {C:Cfg}{x0 x1:AV}:RunT C SV Ux [x0,x1] (fun K=>MX C.G K C.L x0 x1):=runT rfl fun _ _=>ZeN ..
def Rm (G:GT)(K:KT)(L:Nat)(x0 x1 x2:AV)(o:HP):KR :=
  Zc (GA 3 (AV.ro x0)) fun v1=>JE (o ++ [.cells v1 Re]) fun h0=>Zc (Zf h0 (AV.ro x1)) fun v2=>Zc (Zp 0 (.ptr (o).length 0)) fun v3=>Zc (Zf h0 v3) fun v4=>Qg (K Y0 [v2,v4] h0) fun v5 h6 f7=>Zc (Zd .neq .prim (AV.ro v5) (.int .i64 0)) fun v8=>ifK v8 (some (Z6 false o v5 h6 (Ze o.length none f7))) (Zc (Zp 1 (.ptr (o).length 0)) fun v9=>Zc (Zf h6 v9) fun v10=>Zc (Yy h6 .slice v10) fun v11=>Zc (Zd .eql .prim v11 (.int .i64 0)) fun v12=>ifK v12 (some (Z6 false o (.int .i64 7) h6 (Ze o.length none f7))) (Zc (Zp 1 (.ptr (o).length 0)) fun v13=>Zc (Zf h6 v13) fun v14=>Qg (K I9 [v14,(.int .i64 8),(.fn TQ [] [(AV.ro x2)])] h6) fun v15 h16 f17=>Zc (Zd .neq .prim (AV.ro v15) (.int .i64 0)) fun v18=>ifK v18 (some (Z6 false o v15 h16 (Ze o.length (Ze o.length none f7) f17))) (Zc (Zp 2 (.ptr (o).length 0)) fun v19=>Zc (Zf h16 v19) fun v20=>Qg (K Zaj [v20] h16) fun v21 h22 f23=>Zc (JG .not (AV.ro v21)) fun v24=>ifK v24 (some (Z6 false o (.int .i64 2) h22 (Ze o.length (Ze o.length (Ze o.length none f7) f17) f23))) (some (Z6 false o (.int .i64 0) h22 (Ze o.length (Ze o.length (Ze o.length none f7) f17) f23))))))
theorem Zdu (G:GT)(K:KT)(L:Nat)(x0 x1 x2:AV)(o:HP):fnK G K Ziz L PL [x0,x1,x2] o=Rm G K L x0 x1 x2 o:=by kernel_rfl
theorem Ar {C:Cfg}{x0 x1 x2:AV}:RunT C Iw PL [x0,x1,x2] (fun K=>Rm C.G K C.L x0 x1 x2):=runT rfl fun _ _=>Zdu ..
def XW (G:GT)(K:KT)(L:Nat)(o:HP)(q:HP)(g:Eff):KR :=
  some (Z6 false o (.int .i64 0) q g)
theorem Dw (G:GT)(K:KT)(L:Nat)(o:HP) :Z9 G 27 o.length K Qe L Mo (Y5 Qe QK o) (Y5 Qe QK o) []=fun e q g=>XW G K L o  q g:=by kernel_rfl
def Qi (G:GT)(K:KT)(L:Nat)(o:HP)(k0:HP→Eff→KR):Nat→AV→AV→AV→AV→HP→Eff→KR
  | 0,_,_,_,_,_,_=>none
  | m + 1,x2,x14,x15,x16,q,g=>Zc (Zd .lss .prim x16 x15) fun v3=>ifK v3 (Zc (Qf (.slice 3) x14 x16) fun v4=>Zc (Z8 q 3 v4) fun v5=>JE (q ++ [.cells [(.str []),(.own 3 []),(.int .i64 0)] Re]) fun h6=>GQ (stV o.length 3 (.ptr (q).length 0) v5 h6 g) fun h7 f8=>Zc (Z8 h7 3 (.ptr (q).length 0)) fun v9=>Qg (Vh K x2 [v9] h7) fun v10 h11 f12=>Zc (Zd .neq .prim (AV.ro v10) (.int .i64 0)) fun v13=>ifK v13 (some (Z6 false o v10 h11 (Ze o.length f8 f12))) (Zc (Zd .add .prim x16 (.int .i64 1)) fun v14=>Qi G K L o k0 m x2 x14 x15 v14 h11 (Ze o.length f8 f12))) (k0  q g)
theorem Dy (G:GT)(K:KT)(L:Nat)(o:HP)(k0:HP→Eff→KR) :∀ m,VW (fun n'=>Z9 G 27 o.length K Qe L Tq n' (Y5 Qe QK o) [(0,(fun e q g=>k0 q g))]) m=fun e q g=>Qi G K L o k0 m (e 2).rd (e 14).rd (e 15).rd (e 16).rd q g:=lpI rfl fun _=>by kernel_rfl
theorem Dx (G:GT)(K:KT)(L:Nat)(o:HP)(k0:HP→Eff→KR)(zn:Kj):Z9 G 27 o.length K Qe L Mq zn (Y5 Qe QK o) [(0,(fun e q g=>k0 q g))]=fun e q g=>Qi G K L o k0 L (e 2).rd (e 14).rd (e 15).rd (e 16).rd q g:=Dy G K L o k0 L
def KP (G:GT)(K:KT)(L:Nat)(x0 x1 x2:AV)(o:HP):KR :=
  Zc (Yy o .slice (AV.ro x0)) fun v0=>Zc (Zd .gtr .prim v0 (AV.ro x1)) fun v1=>ifK v1 (some (Z6 false o (.int .i64 6) o none)) (Zc (Yy o .slice (AV.ro x0)) fun v2=>Qi G K L o (XW G K L o) L (AV.ro x2) (AV.ro x0) v2 (.int .i64 0) o none)
theorem Sq (G:GT)(K:KT)(L:Nat)(x0 x1 x2:AV)(o:HP):fnK G K Qe L QK [x0,x1,x2] o=KP G K L x0 x1 x2 o:=by
 show Z9 G 27 o.length K Qe L Oo (Y5 Qe QK o) (Y5 Qe QK o) [] (Df [x0,x1,x2]) o none=_
 simp only [Oo,Yh,ZB,ZC,ZX]
 rw [Dw G K L o ,Dx G K L o (XW G K L o) _]
 kernel_rfl
theorem Ld {C:Cfg}{x0 x1 x2:AV}:RunT C K8 QK [x0,x1,x2] (fun K=>KP C.G K C.L x0 x1 x2):=runT rfl fun _ _=>Sq ..
def Rl (G:GT)(K:KT)(L:Nat)(o:HP)(q:HP)(g:Eff):KR :=
  some (Z6 false o (.bool true) q g)
theorem Zdp (G:GT)(K:KT)(L:Nat)(o:HP) :Z9 G 52 o.length K UZ L Za4 (Y5 UZ Hz o) (Y5 UZ Hz o) []=fun e q g=>Rl G K L o  q g:=by kernel_rfl
def Tx (G:GT)(K:KT)(L:Nat)(o:HP)(k0:HP→Eff→KR):Nat→AV→AV→AV→AV→HP→Eff→KR
  | 0,_,_,_,_,_,_=>none
  | m + 1,x3,x36,x37,x38,q,g=>Zc (Zd .lss .prim x38 x37) fun v38=>ifK v38 (Zc (Qf (.slice 4) x36 x38) fun v39=>Zc (Z8 q 4 v39) fun v40=>JE (q ++ [.cells [(.int .i64 0),(.str []),(.int .i64 0),(.own 4 [])] Qm]) fun h41=>GQ (stV o.length 4 (.ptr (q).length 0) v40 h41 g) fun h42 f43=>Zc (Z8 h42 4 (.ptr (q).length 0)) fun v44=>Zc (Zp 3 x3) fun v45=>Zc (Zf h42 v45) fun v46=>Zc (Qf (.slice 4) v46 x38) fun v47=>Zc (Z8 h42 4 v47) fun v48=>Qg (Vf K SK [v44,v48] h42) fun v49 h50 f51=>Zc (JG .not (AV.ro v49)) fun v52=>ifK v52 (some (Z6 false o (.bool false) h50 (Ze o.length f43 f51))) (Zc (Zd .add .prim x38 (.int .i64 1)) fun v53=>Tx G K L o k0 m x3 x36 x37 v53 h50 (Ze o.length f43 f51))) (k0  q g)
theorem Zdr (G:GT)(K:KT)(L:Nat)(o:HP)(k0:HP→Eff→KR) :∀ m,VW (fun n'=>Z9 G 52 o.length K UZ L F9 n' (Y5 UZ Hz o) [(0,(fun e q g=>k0 q g))]) m=fun e q g=>Tx G K L o k0 m (e 3).rd (e 36).rd (e 37).rd (e 38).rd q g:=lpI rfl fun _=>by kernel_rfl
theorem Zdq (G:GT)(K:KT)(L:Nat)(o:HP)(k0:HP→Eff→KR)(zn:Kj):Z9 G 52 o.length K UZ L Za5 zn (Y5 UZ Hz o) [(0,(fun e q g=>k0 q g))]=fun e q g=>Tx G K L o k0 L (e 3).rd (e 36).rd (e 37).rd (e 38).rd q g:=Zdr G K L o k0 L
def Ev (G:GT)(K:KT)(L:Nat)(x0 x1:AV)(o:HP):KR :=
  Zc (GA 4 (AV.ro x0)) fun v1=>JE (o ++ [.cells v1 Qm]) fun h0=>Zc (GA 4 (AV.ro x1)) fun v3=>JE (h0 ++ [.cells v3 Qm]) fun h2=>Zc (Zp 0 (.ptr (o).length 0)) fun v4=>Zc (Zf h2 v4) fun v5=>Zc (Zp 0 (.ptr (h0).length 0)) fun v6=>Zc (Zf h2 v6) fun v7=>Zc (Zd .neq .prim v5 v7) fun v8=>Uq v8 false (Zc (Zp 1 (.ptr (o).length 0)) fun v9=>Zc (Zf h2 v9) fun v10=>Zc (Zp 1 (.ptr (h0).length 0)) fun v11=>Zc (Zf h2 v11) fun v12=>Zc (Zd .neq .prim v10 v12) fun v13=>some (v13,h2,none)) (some (.bool true)) h2 none fun v14 h15 f16=>Uq (AV.ro v14) false (Zc (Zp 2 (.ptr (o).length 0)) fun v17=>Zc (Zf h15 v17) fun v18=>Zc (Zp 2 (.ptr (h0).length 0)) fun v19=>Zc (Zf h15 v19) fun v20=>Zc (Zd .neq .prim v18 v20) fun v21=>some (v21,h15,f16)) (some (.bool true)) h15 f16 fun v22 h23 f24=>Uq (AV.ro v22) false (Zc (Zp 3 (.ptr (o).length 0)) fun v25=>Zc (Zf h23 v25) fun v26=>Zc (Yy h23 .slice v26) fun v27=>Zc (Zp 3 (.ptr (h0).length 0)) fun v28=>Zc (Zf h23 v28) fun v29=>Zc (Yy h23 .slice v29) fun v30=>Zc (Zd .neq .prim v27 v30) fun v31=>some (v31,h23,f24)) (some (.bool true)) h23 f24 fun v32 h33 f34=>ifK (AV.ro v32) (some (Z6 false o (.bool false) h33 f34)) (Zc (Zp 3 (.ptr (o).length 0)) fun v35=>Zc (Zf h33 v35) fun v36=>Zc (Yy h33 .slice v36) fun v37=>Tx G K L o (Rl G K L o) L (.ptr (h0).length 0) v36 v37 (.int .i64 0) h33 f34)
theorem ZhV (G:GT)(K:KT)(L:Nat)(x0 x1:AV)(o:HP):fnK G K UZ L Hz [x0,x1] o=Ev G K L x0 x1 o:=by
 show Z9 G 52 o.length K UZ L Zbc (Y5 UZ Hz o) (Y5 UZ Hz o) [] (Df [x0,x1]) o none=_
 simp only [Zbc,Yh,ZB,ZC,ZX]
 rw [Zdp G K L o ,Zdq G K L o (Rl G K L o) _]
 kernel_rfl
theorem ZjP {C:Cfg}{x0 x1:AV}:RunT C SK Hz [x0,x1] (fun K=>Ev C.G K C.L x0 x1):=runT rfl fun _ _=>ZhV ..
def VV (G:GT)(K:KT)(L:Nat)(x0 x1:AV)(o:HP):KR :=
  Qg (K WE [(AV.ro x0),(AV.ro x1)] o) fun v0 h1 f2=>Zc (Zd .geq .prim (AV.ro v0) (.int .i64 0)) fun v3=>some (Z6 false o v3 h1 (Ze o.length none f2))
theorem TG (G:GT)(K:KT)(L:Nat)(x0 x1:AV)(o:HP):fnK G K Lf L VQ [x0,x1] o=VV G K L x0 x1 o:=by kernel_rfl
theorem Mj {C:Cfg}{x0 x1:AV}:RunT C XL VQ [x0,x1] (fun K=>VV C.G K C.L x0 x1):=runT rfl fun _ _=>TG ..
def Cc (G:GT)(K:KT)(L:Nat)(x0:AV)(o:HP):KR :=
  Zc (GA 6 (AV.ro x0)) fun v1=>JE (o ++ [.cells v1 EK]) fun h0=>Zc (Z8 h0 6 (.ptr (o).length 0)) fun v2=>Qg (K SH [v2] h0) fun v3 h4 f5=>Zc (JG .not (AV.ro v3)) fun v6=>ifK v6 (some (Z6 false o (.int .i64 1) h4 (Ze o.length none f5))) (Zc (Zp 0 (.ptr (o).length 0)) fun v7=>Zc (Zf h4 v7) fun v8=>Zc (Zd .eql .prim v8 (.int .i64 1)) fun v9=>ifK v9 (Zc (Zp 1 (.ptr (o).length 0)) fun v10=>Zc (Zf h4 v10) fun v11=>GQ (Zeb ZaP 1 [v11] h4) fun v12 h13=>Qg (K Ut [(.int .i64 0),(.int .i64 1000000000),(AV.ro v12)] h13) fun v14 h15 f16=>Zc (JG .not (AV.ro v14)) fun v17=>ifK v17 (some (Z6 false o (.int .i64 2) h15 (Ze o.length (Ze o.length none f5) f16))) (some (Z6 false o (.int .i64 0) h15 (Ze o.length (Ze o.length none f5) f16)))) (Zc (Zd .eql .prim v8 (.int .i64 2)) fun v18=>ifK v18 (Zc (Zp 1 (.ptr (o).length 0)) fun v19=>Zc (Zf h4 v19) fun v20=>Zc (Zp 2 (.ptr (o).length 0)) fun v21=>Zc (Zf h4 v21) fun v22=>GQ (Zeb ZaP 1 [v20,v22] h4) fun v23 h24=>Qg (K Ut [(.int .i64 0),(.int .i64 1000000000),(AV.ro v23)] h24) fun v25 h26 f27=>Uq (AV.ro v25) true (Zc (Zp 1 (.ptr (o).length 0)) fun v28=>Zc (Zf h26 v28) fun v29=>Zc (Zp 2 (.ptr (o).length 0)) fun v30=>Zc (Zf h26 v30) fun v31=>Zc (Zd .leq .prim v29 v31) fun v32=>some (v32,h26,(Ze o.length (Ze o.length none f5) f27))) (some (.bool false)) h26 (Ze o.length (Ze o.length none f5) f27) fun v33 h34 f35=>Zc (JG .not (AV.ro v33)) fun v36=>ifK v36 (some (Z6 false o (.int .i64 2) h34 f35)) (some (Z6 false o (.int .i64 0) h34 f35))) (Zc (Zd .eql .prim v8 (.int .i64 4)) fun v37=>ifK v37 (Zc (Zp 3 (.ptr (o).length 0)) fun v38=>Zc (Zf h4 v38) fun v39=>GQ (Zeb ZaP 1 [v39] h4) fun v40 h41=>Qg (K Ut [(.int .i64 1),(.int .i64 20),(AV.ro v40)] h41) fun v42 h43 f44=>Uq (AV.ro v42) true (Zc (Zp 1 (.ptr (o).length 0)) fun v45=>Zc (Zf h43 v45) fun v46=>Zc (Zp 2 (.ptr (o).length 0)) fun v47=>Zc (Zf h43 v47) fun v48=>GQ (Zeb ZaP 1 [v46,v48] h43) fun v49 h50=>Qg (K Ut [(.int .i64 0),(.int .i64 1000000),(AV.ro v49)] h50) fun v51 h52 f53=>some ((AV.ro v51),h52,(Ze o.length (Ze o.length (Ze o.length none f5) f44) f53))) (some (.bool false)) h43 (Ze o.length (Ze o.length none f5) f44) fun v54 h55 f56=>Uq (AV.ro v54) true (Zc (Zp 1 (.ptr (o).length 0)) fun v57=>Zc (Zf h55 v57) fun v58=>Zc (Zp 2 (.ptr (o).length 0)) fun v59=>Zc (Zf h55 v59) fun v60=>Zc (Zd .leq .prim v58 v60) fun v61=>some (v61,h55,f56)) (some (.bool false)) h55 f56 fun v62 h63 f64=>Zc (JG .not (AV.ro v62)) fun v65=>ifK v65 (some (Z6 false o (.int .i64 2) h63 f64)) (some (Z6 false o (.int .i64 0) h63 f64))) (Zc (Zd .eql .prim v8 (.int .i64 5)) fun v66=>ifK v66 (Zc (Zp 1 (.ptr (o).length 0)) fun v67=>Zc (Zf h4 v67) fun v68=>Zc (Zp 2 (.ptr (o).length 0)) fun v69=>Zc (Zf h4 v69) fun v70=>GQ (Zeb ZaP 1 [v68,v70] h4) fun v71 h72=>Qg (K Ut [(.int .i64 1),(.int .i64 1000),(AV.ro v71)] h72) fun v73 h74 f75=>Zc (JG .not (AV.ro v73)) fun v76=>ifK v76 (some (Z6 false o (.int .i64 2) h74 (Ze o.length (Ze o.length none f5) f75))) (some (Z6 false o (.int .i64 0) h74 (Ze o.length (Ze o.length none f5) f75)))) (Zc (Zd .eql .prim v8 (.int .i64 3)) fun v77=>ifK v77 (Zc (Zp 4 (.ptr (o).length 0)) fun v78=>Zc (Zf h4 v78) fun v79=>Zc (Yy h4 .slice v79) fun v80=>Zc (Zp 5 (.ptr (o).length 0)) fun v81=>Zc (Zf h4 v81) fun v82=>Zc (Yy h4 .slice v82) fun v83=>Zc (Zd .neq .prim v80 v83) fun v84=>ifK v84 (some (Z6 false o (.int .i64 8) h4 (Ze o.length none f5))) (Zc (Zd .eql .prim v80 (.int .i64 0)) fun v85=>ifK v85 (some (Z6 false o (.int .i64 7) h4 (Ze o.length none f5))) (Zc (Zd .gtr .prim v80 (.int .i64 20)) fun v86=>ifK v86 (some (Z6 false o (.int .i64 6) h4 (Ze o.length none f5))) (Zc (Zp 4 (.ptr (o).length 0)) fun v87=>Zc (Zf h4 v87) fun v88=>Qg (K Ut [(.int .i64 0),(.int .i64 1000000000),v88] h4) fun v89 h90 f91=>Uq (AV.ro v89) true (Zc (Zp 5 (.ptr (o).length 0)) fun v92=>Zc (Zf h90 v92) fun v93=>Qg (K Ut [(.int .i64 1),(.int .i64 1000),v93] h90) fun v94 h95 f96=>some ((AV.ro v94),h95,(Ze o.length (Ze o.length (Ze o.length none f5) f91) f96))) (some (.bool false)) h90 (Ze o.length (Ze o.length none f5) f91) fun v97 h98 f99=>Zc (JG .not (AV.ro v97)) fun v100=>ifK v100 (some (Z6 false o (.int .i64 2) h98 f99)) (some (Z6 false o (.int .i64 0) h98 f99)))))) (Zc (JG .not (.bool false)) fun v101=>ifK v101 (some (Z6 false o (.int .i64 2) h4 (Ze o.length none f5))) (some (Z6 false o (.int .i64 0) h4 (Ze o.length none f5)))))))))
theorem ZfT (G:GT)(K:KT)(L:Nat)(x0:AV)(o:HP):fnK G K Zl4 L Fg [x0] o=Cc G K L x0 o:=by kernel_rfl
theorem Zia {C:Cfg}{x0:AV}:RunT C U7 Fg [x0] (fun K=>Cc C.G K C.L x0):=runT rfl fun _ _=>ZfT ..
def QE (G:GT)(K:KT)(L:Nat)(o:HP)(y6:AV)(q:HP)(g:Eff):KR :=
  some (Z6 false o y6 q g)
theorem HY (G:GT)(K:KT)(L:Nat)(o:HP) :Z9 G 36 o.length K Zi L J5 (Y5 Zi Z7 o) (Y5 Zi Z7 o) []=fun e q g=>QE G K L o (e 6).val q g:=by kernel_rfl
def WY (G:GT)(K:KT)(L:Nat)(o:HP)(k2:AV→HP→Eff→KR):Nat→AV→AV→AV→AV→HP→Eff→KR
  | 0,_,_,_,_,_,_=>none
  | m + 1,y6,x25,x26,x27,q,g=>Zc (Zd .lss .prim x27 x26) fun v4=>ifK v4 (Zc (Qf (.slice 1) x25 x27) fun v5=>Zc (Zf q v5) fun v6=>Zc (Zo6 2 24 y6 v6 q) fun v7=>Zc (Zd .add .prim x27 (.int .i64 1)) fun v8=>WY G K L o k2 m v7 x25 x26 v8 q g) (k2 y6 q g)
theorem Ic (G:GT)(K:KT)(L:Nat)(o:HP)(k2:AV→HP→Eff→KR) :∀ m,VW (fun n'=>Z9 G 36 o.length K Zi L Jo n' (Y5 Zi Z7 o) [(2,(fun e q g=>k2 (e 6).val q g))]) m=fun e q g=>WY G K L o k2 m (e 6).val (e 25).rd (e 26).rd (e 27).rd q g:=lpI rfl fun _=>by kernel_rfl
theorem Ib (G:GT)(K:KT)(L:Nat)(o:HP)(k2:AV→HP→Eff→KR)(zn:Kj):Z9 G 36 o.length K Zi L J7 zn (Y5 Zi Z7 o) [(2,(fun e q g=>k2 (e 6).val q g))]=fun e q g=>WY G K L o k2 L (e 6).val (e 25).rd (e 26).rd (e 27).rd q g:=Ic G K L o k2 L
def QD (G:GT)(K:KT)(L:Nat)(o:HP)(x0:AV)(x3:AV)(q:HP)(g:Eff):KR :=
  Qg (K XD [(.own 2 []),x3] q) fun v0 h1 f2=>Zc (Yy h1 .slice x0) fun v3=>WY G K L o (QE G K L o) L v0 x0 v3 (.int .i64 0) h1 (Ze o.length g f2)
theorem HV (G:GT)(K:KT)(L:Nat)(o:HP) :Z9 G 36 o.length K Zi L XQ (Y5 Zi Z7 o) (Y5 Zi Z7 o) []=fun e q g=>QD G K L o (e 0).rd (e 3).rd q g:=by
 simp only [XQ,Yh,ZB,ZC,ZX]
 rw [HY G K L o ,Ib G K L o (QE G K L o) _]
 kernel_rfl
def WX (G:GT)(K:KT)(L:Nat)(o:HP)(k0:AV→AV→HP→Eff→KR):Nat→AV→AV→AV→AV→AV→HP→Eff→KR
  | 0,_,_,_,_,_,_,_=>none
  | m + 1,x0,x3,x9,x10,x11,q,g=>Zc (Zd .lss .prim x11 x10) fun v10=>ifK v10 (Zc (Qf (.slice 1) x9 x11) fun v11=>Zc (Zf q v11) fun v12=>Zc (Yy q .slice v12) fun v13=>Zc (Zd .add .prim x3 v13) fun v14=>Zc (Zd .lss .prim v14 (.int .i64 0)) fun v15=>ifK v15 (none) (Zc (Zd .add .prim x11 (.int .i64 1)) fun v16=>WX G K L o k0 m x0 v14 x9 x10 v16 q g)) (k0 x0 x3 q g)
theorem Ia (G:GT)(K:KT)(L:Nat)(o:HP)(k0:AV→AV→HP→Eff→KR) :∀ m,VW (fun n'=>Z9 G 36 o.length K Zi L Jn n' (Y5 Zi Z7 o) [(0,(fun e q g=>k0 (e 0).rd (e 3).rd q g))]) m=fun e q g=>WX G K L o k0 m (e 0).rd (e 3).rd (e 9).rd (e 10).rd (e 11).rd q g:=lpI rfl fun _=>by kernel_rfl
theorem HZ (G:GT)(K:KT)(L:Nat)(o:HP)(k0:AV→AV→HP→Eff→KR)(zn:Kj):Z9 G 36 o.length K Zi L J6 zn (Y5 Zi Z7 o) [(0,(fun e q g=>k0 (e 0).rd (e 3).rd q g))]=fun e q g=>WX G K L o k0 L (e 0).rd (e 3).rd (e 9).rd (e 10).rd (e 11).rd q g:=Ia G K L o k0 L
def Vz (G:GT)(K:KT)(L:Nat)(x0:AV)(o:HP):KR :=
  Zc (Yy o .slice (AV.ro x0)) fun v9=>WX G K L o (QD G K L o) L (AV.ro x0) (.int .i64 0) (AV.ro x0) v9 (.int .i64 0) o none
theorem IX (G:GT)(K:KT)(L:Nat)(x0:AV)(o:HP):fnK G K Zi L Z7 [x0] o=Vz G K L x0 o:=by
 show Z9 G 36 o.length K Zi L Vy (Y5 Zi Z7 o) (Y5 Zi Z7 o) [] (Df [x0]) o none=_
 simp only [Vy,Yh,ZB,ZC,ZX]
 rw [HV G K L o ,HZ G K L o (QD G K L o) _]
 kernel_rfl
theorem OB {C:Cfg}{x0:AV}:RunT C Vx Z7 [x0] (fun K=>Vz C.G K C.L x0):=runT rfl fun _ _=>IX ..
def Ct (G:GT)(K:KT)(L:Nat)(x0:AV)(o:HP):KR :=
  Qg (K U9 [(AV.ro x0)] o) fun v0 h1 f2=>Zc (Zd .gtr .prim (AV.ro v0) (.int .i64 200)) fun v3=>ifK v3 (some (Z6 false o (.int .i64 6) h1 (Ze o.length none f2))) (Qg (K UA [(AV.ro x0)] h1) fun v4 h5 f6=>Zc (Zd .gtr .prim (AV.ro v4) (.int .i64 12)) fun v7=>ifK v7 (some (Z6 false o (.int .i64 11) h5 (Ze o.length (Ze o.length none f2) f6))) (Qg (K UB [(AV.ro x0)] h5) fun v8 h9 f10=>some (Z6 false o v8 h9 (Ze o.length (Ze o.length (Ze o.length none f2) f6) f10))))
theorem Zge (G:GT)(K:KT)(L:Nat)(x0:AV)(o:HP):fnK G K ZlC L Fw [x0] o=Ct G K L x0 o:=by kernel_rfl
theorem ZiE {C:Cfg}{x0:AV}:RunT C Pn Fw [x0] (fun K=>Ct C.G K C.L x0):=runT rfl fun _ _=>Zge ..
def Bf (G:GT)(K:KT)(L:Nat)(x0 x1:AV)(o:HP):KR :=
  Zc (GA 3 (AV.ro x0)) fun v1=>JE (o ++ [.cells v1 Ml]) fun h0=>Zc (Z8 h0 13 (AV.ro x1)) fun v2=>Zc (Z8 h0 3 (.ptr (o).length 0)) fun v3=>Qg (K AX [v2,v3] h0) fun v4 h5 f6=>some (Z6 false o v4 h5 (Ze o.length none f6))
theorem Zbw (G:GT)(K:KT)(L:Nat)(x0 x1:AV)(o:HP):fnK G K Zfn L RO [x0,x1] o=Bf G K L x0 x1 o:=by kernel_rfl
theorem ZcV {C:Cfg}{x0 x1:AV}:RunT C TQ RO [x0,x1] (fun K=>Bf C.G K C.L x0 x1):=runT rfl fun _ _=>Zbw ..
def VB (G:GT)(K:KT)(L:Nat)(o:HP)(q:HP)(g:Eff):KR :=
  some (Z6 false o (.int .i64 0) q g)
theorem Bv (G:GT)(K:KT)(L:Nat)(o:HP) :Z9 G 27 o.length K WU L Tv (Y5 WU QA o) (Y5 WU QA o) []=fun e q g=>VB G K L o  q g:=by kernel_rfl
def QP (G:GT)(K:KT)(L:Nat)(o:HP)(k0:HP→Eff→KR):Nat→AV→AV→AV→AV→HP→Eff→KR
  | 0,_,_,_,_,_,_=>none
  | m + 1,x2,x14,x15,x16,q,g=>Zc (Zd .lss .prim x16 x15) fun v3=>ifK v3 (Zc (Qf (.slice 3) x14 x16) fun v4=>Zc (Z8 q 3 v4) fun v5=>JE (q ++ [.cells [(.int .i64 0),(.str []),(.str [])] Ml]) fun h6=>GQ (stV o.length 3 (.ptr (q).length 0) v5 h6 g) fun h7 f8=>Zc (Z8 h7 3 (.ptr (q).length 0)) fun v9=>Qg (Vh K x2 [v9] h7) fun v10 h11 f12=>Zc (Zd .neq .prim (AV.ro v10) (.int .i64 0)) fun v13=>ifK v13 (some (Z6 false o v10 h11 (Ze o.length f8 f12))) (Zc (Zd .add .prim x16 (.int .i64 1)) fun v14=>QP G K L o k0 m x2 x14 x15 v14 h11 (Ze o.length f8 f12))) (k0  q g)
theorem Bz (G:GT)(K:KT)(L:Nat)(o:HP)(k0:HP→Eff→KR) :∀ m,VW (fun n'=>Z9 G 27 o.length K WU L Ta n' (Y5 WU QA o) [(0,(fun e q g=>k0 q g))]) m=fun e q g=>QP G K L o k0 m (e 2).rd (e 14).rd (e 15).rd (e 16).rd q g:=lpI rfl fun _=>by kernel_rfl
theorem Bw (G:GT)(K:KT)(L:Nat)(o:HP)(k0:HP→Eff→KR)(zn:Kj):Z9 G 27 o.length K WU L Tw zn (Y5 WU QA o) [(0,(fun e q g=>k0 q g))]=fun e q g=>QP G K L o k0 L (e 2).rd (e 14).rd (e 15).rd (e 16).rd q g:=Bz G K L o k0 L
def IG (G:GT)(K:KT)(L:Nat)(x0 x1 x2:AV)(o:HP):KR :=
  Zc (Yy o .slice (AV.ro x0)) fun v0=>Zc (Zd .gtr .prim v0 (AV.ro x1)) fun v1=>ifK v1 (some (Z6 false o (.int .i64 6) o none)) (Zc (Yy o .slice (AV.ro x0)) fun v2=>QP G K L o (VB G K L o) L (AV.ro x2) (AV.ro x0) v2 (.int .i64 0) o none)
theorem Nn (G:GT)(K:KT)(L:Nat)(x0 x1 x2:AV)(o:HP):fnK G K WU L QA [x0,x1,x2] o=IG G K L x0 x1 x2 o:=by
 show Z9 G 27 o.length K WU L IC (Y5 WU QA o) (Y5 WU QA o) [] (Df [x0,x1,x2]) o none=_
 simp only [IC,Yh,ZB,ZC,ZX]
 rw [Bv G K L o ,Bw G K L o (VB G K L o) _]
 kernel_rfl
theorem SB {C:Cfg}{x0 x1 x2:AV}:RunT C I9 QA [x0,x1,x2] (fun K=>IG C.G K C.L x0 x1 x2):=runT rfl fun _ _=>Nn ..
def Im (G:GT)(K:KT)(L:Nat)(o:HP)(q:HP)(g:Eff):KR :=
  some (Z6 false o (.bool false) q g)
theorem Zbj (G:GT)(K:KT)(L:Nat)(o:HP) :Z9 G 54 o.length K U2 L ER (Y5 U2 KA o) (Y5 U2 KA o) []=fun e q g=>Im G K L o  q g:=by kernel_rfl
def TR (G:GT)(K:KT)(L:Nat)(o:HP)(x1:AV)(x3:AV)(y3:AV)(x13:AV)(x27:AV)(q:HP)(g:Eff):KR :=
  ifK x27 (Uq x3 true (Zc (Zp 3 x1) fun v25=>Zc (Zf q v25) fun v26=>Zc (Zd .eql .prim v26 (.int .i64 0)) fun v27=>some (v27,q,g)) (some (.bool false)) q g fun v28 h29 f30=>some (Z6 false o v28 h29 f30)) (Zc (Zd .eql .prim x13 (.int .i64 4)) fun v31=>ifK v31 (some (Z6 false o y3 q g)) (Zc (Zd .eql .prim x13 (.int .i64 3)) fun v32=>ifK v32 (Zc (Zp 1 x1) fun v33=>Zc (Zf q v33) fun v34=>Zc (Zd .eql .prim v34 (.int .i64 0)) fun v35=>Uq v35 true (Zc (Zp 2 x1) fun v36=>Zc (Zf q v36) fun v37=>Zc (Zd .eql .prim v37 (.int .i64 0)) fun v38=>some (v38,q,g)) (some (.bool false)) q g fun v39 h40 f41=>Uq (AV.ro v39) true (Zc (Zp 3 x1) fun v42=>Zc (Zf h40 v42) fun v43=>Zc (Zd .eql .prim v43 (.int .i64 0)) fun v44=>some (v44,h40,f41)) (some (.bool false)) h40 f41 fun v45 h46 f47=>some (Z6 false o v45 h46 f47)) (Im G K L o   q g)))
theorem Zbi (G:GT)(K:KT)(L:Nat)(o:HP) :Z9 G 54 o.length K U2 L EQ (fun e q g=>(Im G K L o) q g) (Y5 U2 KA o) [(0,(fun e q g=>(Im G K L o) q g))]=fun e q g=>TR G K L o (e 1).rd (e 3).rd (e 3).val (e 13).rd (e 27).rd q g:=by kernel_rfl
def Et (G:GT)(K:KT)(L:Nat)(x0:AV)(o:HP):KR :=
  Zc (GA 6 (AV.ro x0)) fun v1=>JE (o ++ [.cells v1 EK]) fun h0=>Zc (Zp 4 (.ptr (o).length 0)) fun v2=>Zc (Zf h0 v2) fun v3=>Zc (Yy h0 .slice v3) fun v4=>Zc (Zp 5 (.ptr (o).length 0)) fun v5=>Zc (Zf h0 v5) fun v6=>Zc (Yy h0 .slice v6) fun v7=>Zc (Zd .add .prim v4 v7) fun v8=>Zc (Zd .eql .prim v8 (.int .i64 0)) fun v9=>Zc (Zp 0 (.ptr (o).length 0)) fun v10=>Zc (Zf h0 v10) fun v11=>Zc (Zd .eql .prim v11 (.int .i64 1)) fun v12=>ifK v12 (Uq v9 true (Zc (Zp 2 (.ptr (o).length 0)) fun v13=>Zc (Zf h0 v13) fun v14=>Zc (Zd .eql .prim v14 (.int .i64 0)) fun v15=>some (v15,h0,none)) (some (.bool false)) h0 none fun v16 h17 f18=>Uq (AV.ro v16) true (Zc (Zp 3 (.ptr (o).length 0)) fun v19=>Zc (Zf h17 v19) fun v20=>Zc (Zd .eql .prim v20 (.int .i64 0)) fun v21=>some (v21,h17,f18)) (some (.bool false)) h17 f18 fun v22 h23 f24=>some (Z6 false o v22 h23 f24)) (Zc (Zd .eql .prim v11 (.int .i64 2)) fun v48=>ifK v48 (TR G K L o  (.ptr (o).length 0) v9 v9 v11 v48 h0 none) (Zc (Zd .eql .prim v11 (.int .i64 5)) fun v49=>TR G K L o  (.ptr (o).length 0) v9 v9 v11 v49 h0 none))
theorem ZeD (G:GT)(K:KT)(L:Nat)(x0:AV)(o:HP):fnK G K U2 L KA [x0] o=Et G K L x0 o:=by
 show Z9 G 54 o.length K U2 L Em (Y5 U2 KA o) (Y5 U2 KA o) [] (Df [x0]) o none=_
 simp only [Em,Yh,ZB,ZC,ZX]
 rw [Zbj G K L o ,Zbi G K L o]
 kernel_rfl
theorem Zgl {C:Cfg}{x0:AV}:RunT C SH KA [x0] (fun K=>Et C.G K C.L x0):=runT rfl fun _ _=>ZeD ..
def Eu (G:GT)(K:KT)(L:Nat)(x0 x1 x2:AV)(o:HP):KR :=
  Zc (GA 1 (AV.ro x0)) fun v1=>JE (o ++ [.cells v1 ZaP]) fun h0=>Zc (GA 1 (AV.ro x1)) fun v3=>JE (h0 ++ [.cells v3 ZaP]) fun h2=>Qg (K Jw [(AV.ro x2),(.fn M7 [] [(.ptr (o).length 0),(.ptr (h0).length 0)])] h2) fun v4 h5 f6=>Zc (JG .not (AV.ro v4)) fun v7=>some (Z6 false o v7 h5 (Ze o.length none f6))
theorem ZeE (G:GT)(K:KT)(L:Nat)(x0 x1 x2:AV)(o:HP):fnK G K Zkg L Ec [x0,x1,x2] o=Eu G K L x0 x1 x2 o:=by kernel_rfl
theorem Zgm {C:Cfg}{x0 x1 x2:AV}:RunT C Ut Ec [x0,x1,x2] (fun K=>Eu C.G K C.L x0 x1 x2):=runT rfl fun _ _=>ZeE ..
def O3 (G:GT)(K:KT)(L:Nat)(o:HP)(y3:AV)(q:HP)(g:Eff):KR :=
  some (Z6 false o y3 q g)
theorem Zcw (G:GT)(K:KT)(L:Nat)(o:HP) :Z9 G 25 o.length K JW L FM (Y5 JW KF o) (Y5 JW KF o) []=fun e q g=>O3 G K L o (e 3).val q g:=by kernel_rfl
def UT (G:GT)(K:KT)(L:Nat)(o:HP)(k0:AV→HP→Eff→KR):Nat→AV→AV→AV→AV→AV→HP→Eff→KR
  | 0,_,_,_,_,_,_,_=>none
  | m + 1,x3,y3,x8,x9,x10,q,g=>Zc (Zd .lss .prim x10 x9) fun v2=>ifK v2 (Zc (Qf (.slice 21) x8 x10) fun v3=>Zc (Z8 q 21 v3) fun v4=>JE (q ++ [.cells [(.int .i64 0),(.str []),(.str []),(.int .i64 0),(.str []),(.int .i64 0),(.own 4 []),(.int .i64 0),(.str []),(.int .i64 0),(.own 4 []),(.own 4 []),(.int .i64 0),(.int .i64 0),(.int .i64 0),(.int .i64 0),(.own 1 []),(.own 1 []),(.bool false),(.own 21 []),(.own 21 [])] Jb]) fun h5=>GQ (stV o.length 21 (.ptr (q).length 0) v4 h5 g) fun h6 f7=>Zc (Zp 19 (.ptr (q).length 0)) fun v8=>Zc (Zf h6 v8) fun v9=>Qg (Vf K U9 [v9] h6) fun v10 h11 f12=>Zc (Zp 20 (.ptr (q).length 0)) fun v13=>Zc (Zf h11 v13) fun v14=>Qg (Vf K U9 [v14] h11) fun v15 h16 f17=>Zc (Zd .add .prim (AV.ro v10) (AV.ro v15)) fun v18=>Zc (Zd .add .prim x3 v18) fun v19=>Zc (Zd .add .prim x10 (.int .i64 1)) fun v20=>UT G K L o k0 m v19 v19 x8 x9 v20 h16 (Ze o.length (Ze o.length f7 f12) f17)) (k0 y3 q g)
theorem Zcy (G:GT)(K:KT)(L:Nat)(o:HP)(k0:AV→HP→Eff→KR) :∀ m,VW (fun n'=>Z9 G 25 o.length K JW L Ah n' (Y5 JW KF o) [(0,(fun e q g=>k0 (e 3).val q g))]) m=fun e q g=>UT G K L o k0 m (e 3).rd (e 3).val (e 8).rd (e 9).rd (e 10).rd q g:=lpI rfl fun _=>by kernel_rfl
theorem Zcx (G:GT)(K:KT)(L:Nat)(o:HP)(k0:AV→HP→Eff→KR)(zn:Kj):Z9 G 25 o.length K JW L FN zn (Y5 JW KF o) [(0,(fun e q g=>k0 (e 3).val q g))]=fun e q g=>UT G K L o k0 L (e 3).rd (e 3).val (e 8).rd (e 9).rd (e 10).rd q g:=Zcy G K L o k0 L
def Cu (G:GT)(K:KT)(L:Nat)(x0:AV)(o:HP):KR :=
  Zc (Yy o .slice (AV.ro x0)) fun v0=>Zc (Yy o .slice (AV.ro x0)) fun v1=>UT G K L o (O3 G K L o) L v0 v0 (AV.ro x0) v1 (.int .i64 0) o none
theorem Zgf (G:GT)(K:KT)(L:Nat)(x0:AV)(o:HP):fnK G K JW L KF [x0] o=Cu G K L x0 o:=by
 show Z9 G 25 o.length K JW L FL (Y5 JW KF o) (Y5 JW KF o) [] (Df [x0]) o none=_
 simp only [FL,Yh,ZB,ZC,ZX]
 rw [Zcw G K L o ,Zcx G K L o (O3 G K L o) _]
 kernel_rfl
theorem ZiF {C:Cfg}{x0:AV}:RunT C U9 KF [x0] (fun K=>Cu C.G K C.L x0):=runT rfl fun _ _=>Zgf ..
def O4 (G:GT)(K:KT)(L:Nat)(o:HP)(y3:AV)(q:HP)(g:Eff):KR :=
  some (Z6 false o y3 q g)
theorem Zcz (G:GT)(K:KT)(L:Nat)(o:HP) :Z9 G 24 o.length K JX L FP (Y5 JX KG o) (Y5 JX KG o) []=fun e q g=>O4 G K L o (e 3).val q g:=by kernel_rfl
def UU (G:GT)(K:KT)(L:Nat)(o:HP)(k0:AV→HP→Eff→KR):Nat→AV→AV→AV→AV→AV→HP→Eff→KR
  | 0,_,_,_,_,_,_,_=>none
  | m + 1,x3,y3,x6,x7,x8,q,g=>Zc (Zd .lss .prim x8 x7) fun v1=>ifK v1 (Zc (Qf (.slice 21) x6 x8) fun v2=>Zc (Z8 q 21 v2) fun v3=>JE (q ++ [.cells [(.int .i64 0),(.str []),(.str []),(.int .i64 0),(.str []),(.int .i64 0),(.own 4 []),(.int .i64 0),(.str []),(.int .i64 0),(.own 4 []),(.own 4 []),(.int .i64 0),(.int .i64 0),(.int .i64 0),(.int .i64 0),(.own 1 []),(.own 1 []),(.bool false),(.own 21 []),(.own 21 [])] Jb]) fun h4=>GQ (stV o.length 21 (.ptr (q).length 0) v3 h4 g) fun h5 f6=>Zc (Zp 19 (.ptr (q).length 0)) fun v7=>Zc (Zf h5 v7) fun v8=>Qg (Vf K UA [v8] h5) fun v9 h10 f11=>Zc (Zd .add .prim (.int .i64 1) (AV.ro v9)) fun v12=>Zc (Zp 20 (.ptr (q).length 0)) fun v13=>Zc (Zf h10 v13) fun v14=>Qg (Vf K UA [v14] h10) fun v15 h16 f17=>Zc (Zd .add .prim (.int .i64 1) (AV.ro v15)) fun v18=>Zc (ZrS [x3,v12,v18]) fun v19=>Zc (Zd .add .prim x8 (.int .i64 1)) fun v20=>UU G K L o k0 m v19 v19 x6 x7 v20 h16 (Ze o.length (Ze o.length f6 f11) f17)) (k0 y3 q g)
theorem Zc1 (G:GT)(K:KT)(L:Nat)(o:HP)(k0:AV→HP→Eff→KR) :∀ m,VW (fun n'=>Z9 G 24 o.length K JX L Ai n' (Y5 JX KG o) [(0,(fun e q g=>k0 (e 3).val q g))]) m=fun e q g=>UU G K L o k0 m (e 3).rd (e 3).val (e 6).rd (e 7).rd (e 8).rd q g:=lpI rfl fun _=>by kernel_rfl
theorem Zc0 (G:GT)(K:KT)(L:Nat)(o:HP)(k0:AV→HP→Eff→KR)(zn:Kj):Z9 G 24 o.length K JX L FQ zn (Y5 JX KG o) [(0,(fun e q g=>k0 (e 3).val q g))]=fun e q g=>UU G K L o k0 L (e 3).rd (e 3).val (e 6).rd (e 7).rd (e 8).rd q g:=Zc1 G K L o k0 L
def Cv (G:GT)(K:KT)(L:Nat)(x0:AV)(o:HP):KR :=
  Zc (Yy o .slice (AV.ro x0)) fun v0=>UU G K L o (O4 G K L o) L (.int .i64 0) (.int .i64 0) (AV.ro x0) v0 (.int .i64 0) o none
theorem Zgg (G:GT)(K:KT)(L:Nat)(x0:AV)(o:HP):fnK G K JX L KG [x0] o=Cv G K L x0 o:=by
 show Z9 G 24 o.length K JX L FO (Y5 JX KG o) (Y5 JX KG o) [] (Df [x0]) o none=_
 simp only [FO,Yh,ZB,ZC,ZX]
 rw [Zcz G K L o ,Zc0 G K L o (O4 G K L o) _]
 kernel_rfl
theorem ZiG {C:Cfg}{x0:AV}:RunT C UA KG [x0] (fun K=>Cv C.G K C.L x0):=runT rfl fun _ _=>Zgg ..
def O5 (G:GT)(K:KT)(L:Nat)(o:HP)(q:HP)(g:Eff):KR :=
  some (Z6 false o (.int .i64 0) q g)
theorem Zc2 (G:GT)(K:KT)(L:Nat)(o:HP) :Z9 G 49 o.length K JY L FT (Y5 JY KH o) (Y5 JY KH o) []=fun e q g=>O5 G K L o  q g:=by kernel_rfl
def UV (G:GT)(K:KT)(L:Nat)(o:HP)(k0:HP→Eff→KR):Nat→AV→AV→AV→HP→Eff→KR
  | 0,_,_,_,_,_=>none
  | m + 1,x10,x11,x12,q,g=>Zc (Zd .lss .prim x12 x11) fun v1=>ifK v1 (Zc (Qf (.slice 21) x10 x12) fun v2=>Zc (Z8 q 21 v2) fun v3=>JE (q ++ [.cells [(.int .i64 0),(.str []),(.str []),(.int .i64 0),(.str []),(.int .i64 0),(.own 4 []),(.int .i64 0),(.str []),(.int .i64 0),(.own 4 []),(.own 4 []),(.int .i64 0),(.int .i64 0),(.int .i64 0),(.int .i64 0),(.own 1 []),(.own 1 []),(.bool false),(.own 21 []),(.own 21 [])] Jb]) fun h4=>GQ (stV o.length 21 (.ptr (q).length 0) v3 h4 g) fun h5 f6=>Zc (Zp 0 (.ptr (q).length 0)) fun v7=>Zc (Zf h5 v7) fun v8=>Qg (K SY [v8] h5) fun v9 h10 f11=>Zc (Jk (AV.ro v9) 0) fun v12=>Zc (Jk (AV.ro v9) 1) fun v13=>JE (h10 ++ [.cells [(.bool false),(.bool false),(.bool false),(.bool false),(.bool false),(.bool false),(.bool false),(.bool false),(.bool false)] Gj]) fun h14=>GQ (stV o.length 9 (.ptr (h10).length 0) v12 h14 (Ze o.length f6 f11)) fun h15 f16=>Zc (JG .not v13) fun v17=>Uq v17 false (Zc (Z8 h15 21 (.ptr (q).length 0)) fun v18=>Zc (Z8 h15 9 (.ptr (h10).length 0)) fun v19=>Qg (K SX [v18,v19] h15) fun v20 h21 f22=>Zc (JG .not (AV.ro v20)) fun v23=>some (v23,h21,(Ze o.length f16 f22))) (some (.bool true)) h15 f16 fun v24 h25 f26=>ifK (AV.ro v24) (some (Z6 false o (.int .i64 1) h25 f26)) (Zc (Z8 h25 21 (.ptr (q).length 0)) fun v27=>Zc (Z8 h25 9 (.ptr (h10).length 0)) fun v28=>Qg (K Po [v27,v28] h25) fun v29 h30 f31=>Zc (Zd .neq .prim (AV.ro v29) (.int .i64 0)) fun v32=>ifK v32 (some (Z6 false o v29 h30 (Ze o.length f26 f31))) (Zc (Zp 19 (.ptr (q).length 0)) fun v33=>Zc (Zf h30 v33) fun v34=>Qg (K UB [v34] h30) fun v35 h36 f37=>Zc (Zd .neq .prim (AV.ro v35) (.int .i64 0)) fun v38=>ifK v38 (some (Z6 false o v35 h36 (Ze o.length (Ze o.length f26 f31) f37))) (Zc (Zp 20 (.ptr (q).length 0)) fun v39=>Zc (Zf h36 v39) fun v40=>Qg (K UB [v40] h36) fun v41 h42 f43=>Zc (Zd .neq .prim (AV.ro v41) (.int .i64 0)) fun v44=>ifK v44 (some (Z6 false o v41 h42 (Ze o.length (Ze o.length (Ze o.length f26 f31) f37) f43))) (Zc (Zd .add .prim x12 (.int .i64 1)) fun v45=>UV G K L o k0 m x10 x11 v45 h42 (Ze o.length (Ze o.length (Ze o.length f26 f31) f37) f43)))))) (k0  q g)
theorem Zc4 (G:GT)(K:KT)(L:Nat)(o:HP)(k0:HP→Eff→KR) :∀ m,VW (fun n'=>Z9 G 49 o.length K JY L Aj n' (Y5 JY KH o) [(0,(fun e q g=>k0 q g))]) m=fun e q g=>UV G K L o k0 m (e 10).rd (e 11).rd (e 12).rd q g:=lpI rfl fun _=>by kernel_rfl
theorem Zc3 (G:GT)(K:KT)(L:Nat)(o:HP)(k0:HP→Eff→KR)(zn:Kj):Z9 G 49 o.length K JY L FU zn (Y5 JY KH o) [(0,(fun e q g=>k0 q g))]=fun e q g=>UV G K L o k0 L (e 10).rd (e 11).rd (e 12).rd q g:=Zc4 G K L o k0 L
def Cw (G:GT)(K:KT)(L:Nat)(x0:AV)(o:HP):KR :=
  Zc (Yy o .slice (AV.ro x0)) fun v0=>UV G K L o (O5 G K L o) L (AV.ro x0) v0 (.int .i64 0) o none
theorem Zgh (G:GT)(K:KT)(L:Nat)(x0:AV)(o:HP):fnK G K JY L KH [x0] o=Cw G K L x0 o:=by
 show Z9 G 49 o.length K JY L FR (Y5 JY KH o) (Y5 JY KH o) [] (Df [x0]) o none=_
 simp only [FR,Yh,ZB,ZC,ZX]
 rw [Zc2 G K L o ,Zc3 G K L o (O5 G K L o) _]
 kernel_rfl
theorem ZiH {C:Cfg}{x0:AV}:RunT C UB KH [x0] (fun K=>Cw C.G K C.L x0):=runT rfl fun _ _=>Zgh ..
def VU (G:GT)(K:KT)(L:Nat)(o:HP)(x3:AV)(x5:AV)(q:HP)(g:Eff):KR :=
  Zc (JG .not x5) fun v4=>ifK v4 (some (Z6 false o (.int .i64 5) q g)) (Zc (Zp 0 x3) fun v5=>Zc (Zf q v5) fun v6=>Qg (K Qv [v6,(.int .i64 (-1000)),(.int .i64 1000)] q) fun v7 h8 f9=>Zc (JG .not (AV.ro v7)) fun v10=>Uq v10 false (Zc (Zp 0 x3) fun v11=>Zc (Zf h8 v11) fun v12=>Zc (Zd .eql .prim v12 (.int .i64 0)) fun v13=>some (v13,h8,(Ze o.length g f9))) (some (.bool true)) h8 (Ze o.length g f9) fun v14 h15 f16=>ifK (AV.ro v14) (some (Z6 false o (.int .i64 2) h15 f16)) (some (Z6 false o (.int .i64 0) h15 f16)))
theorem Zcu (G:GT)(K:KT)(L:Nat)(o:HP) :Z9 G 45 o.length K JV L FD (Y5 JV KE o) (Y5 JV KE o) []=fun e q g=>VU G K L o (e 3).rd (e 5).rd q g:=by kernel_rfl
def O0 (G:GT)(K:KT)(L:Nat)(o:HP)(x2:AV)(x3:AV)(x7:AV)(x17:AV)(q:HP)(g:Eff):KR :=
  ifK x17 (Zc (Zp 3 x2) fun v26=>Zc (Zf q v26) fun v27=>Qg (K Q4 [v27,(.fn Tm [] [x3])] q) fun v28 h29 f30=>VU G K L o  x3 (AV.ro v28) h29 (Ze o.length g f30)) (Zc (Zd .eql .prim x7 (.str [99,111,117,110,116,101,100])) fun v31=>ifK v31 (Zc (Zp 9 x2) fun v32=>Zc (Zf q v32) fun v33=>Zc (Zp 2 x3) fun v34=>Zc (Zf q v34) fun v35=>Qg (K XL [v33,v35] q) fun v36 h37 f38=>VU G K L o  x3 (AV.ro v36) h37 (Ze o.length g f38)) (some (Z6 false o (.int .i64 1) q g)))
theorem Zct (G:GT)(K:KT)(L:Nat)(o:HP) :Z9 G 45 o.length K JV L FC (fun e q g=>(VU G K L o) (e 3).rd (e 5).rd q g) (Y5 JV KE o) [(0,(fun e q g=>(VU G K L o) (e 3).rd (e 5).rd q g))]=fun e q g=>O0 G K L o (e 2).rd (e 3).rd (e 7).rd (e 17).rd q g:=by kernel_rfl
def Oz (G:GT)(K:KT)(L:Nat)(o:HP)(x2:AV)(x3:AV)(x7:AV)(x8:AV)(q:HP)(g:Eff):KR :=
  ifK x8 (Zc (Z8 q 13 x2) fun v19=>Zc (Zp 2 x3) fun v20=>Zc (Zf q v20) fun v21=>Qg (K V7 [v19,v21] q) fun v22 h23 f24=>Zc (Zd .geq .prim (AV.ro v22) (.int .i64 0)) fun v25=>VU G K L o  x3 v25 h23 (Ze o.length g f24)) (Zc (Zd .eql .prim x7 (.str [115,116,111,114,101,100])) fun v39=>ifK v39 (O0 G K L o  x2 x3 x7 v39 q g) (Zc (Zd .eql .prim x7 (.str [101,110,116,101,114,101,100])) fun v40=>ifK v40 (O0 G K L o  x2 x3 x7 v40 q g) (Zc (Zd .eql .prim x7 (.str [108,101,102,116])) fun v41=>O0 G K L o  x2 x3 x7 v41 q g)))
theorem Zcs (G:GT)(K:KT)(L:Nat)(o:HP) :Z9 G 45 o.length K JV L Dn (fun e q g=>(VU G K L o) (e 3).rd (e 5).rd q g) (Y5 JV KE o) [(0,(fun e q g=>(VU G K L o) (e 3).rd (e 5).rd q g))]=fun e q g=>Oz G K L o (e 2).rd (e 3).rd (e 7).rd (e 8).rd q g:=by
 simp only [Dn,Yh,ZB,ZC,ZX]
 rw [Zct G K L o]
 kernel_rfl
def Cs (G:GT)(K:KT)(L:Nat)(x0 x1:AV)(o:HP):KR :=
  Zc (GA 13 (AV.ro x0)) fun v1=>JE (o ++ [.cells v1 Zb]) fun h0=>Zc (GA 3 (AV.ro x1)) fun v3=>JE (h0 ++ [.cells v3 Ml]) fun h2=>Zc (Zp 1 (.ptr (h0).length 0)) fun v17=>Zc (Zf h2 v17) fun v18=>Zc (Zd .eql .prim v18 (.str [99,114,101,97,116,101,100])) fun v42=>ifK v42 (Oz G K L o  (.ptr (o).length 0) (.ptr (h0).length 0) v18 v42 h2 none) (Zc (Zd .eql .prim v18 (.str [101,110,100,101,100])) fun v43=>ifK v43 (Oz G K L o  (.ptr (o).length 0) (.ptr (h0).length 0) v18 v43 h2 none) (Zc (Zd .eql .prim v18 (.str [105,110,115,105,100,101])) fun v44=>Oz G K L o  (.ptr (o).length 0) (.ptr (h0).length 0) v18 v44 h2 none))
theorem Zgd (G:GT)(K:KT)(L:Nat)(x0 x1:AV)(o:HP):fnK G K JV L KE [x0,x1] o=Cs G K L x0 x1 o:=by
 show Z9 G 45 o.length K JV L FB (Y5 JV KE o) (Y5 JV KE o) [] (Df [x0,x1]) o none=_
 simp only [FB,Yh,ZB,ZC,ZX]
 rw [Zcu G K L o ,Zcs G K L o]
 kernel_rfl
theorem Ziv {C:Cfg}{x0 x1:AV}:RunT C AX KE [x0,x1] (fun K=>Cs C.G K C.L x0 x1):=runT rfl fun _ _=>Zgd ..
def Du (G:GT)(K:KT)(L:Nat)(x0 x1 x2:AV)(o:HP):KR :=
  Zc (Zf o (AV.ro x1)) fun v0=>Zc (Zd .lss .prim (AV.ro x0) v0) fun v1=>Uq v1 false (Zc (Zf o (AV.ro x2)) fun v2=>Zc (Zd .gtr .prim (AV.ro x0) v2) fun v3=>some (v3,o,none)) (some (.bool true)) o none fun v4 h5 f6=>some (Z6 false o v4 h5 f6)
theorem ZbZ (G:GT)(K:KT)(L:Nat)(x0 x1 x2:AV)(o:HP):fnK G K Zhb L BO [x0,x1,x2] o=Du G K L x0 x1 x2 o:=by kernel_rfl
theorem ZdP {C:Cfg}{x0 x1 x2:AV}:RunT C M7 BO [x0,x1,x2] (fun K=>Du C.G K C.L x0 x1 x2):=runT rfl fun _ _=>ZbZ ..
def J3 (G:GT)(K:KT)(L:Nat)(x0 x1:AV)(o:HP):KR :=
  Qg (K Uv [(AV.ro x0),(AV.ro x1)] o) fun v0 h1 f2=>Zc (Zd .geq .prim (AV.ro v0) (.int .i64 0)) fun v3=>some (Z6 false o v3 h1 (Ze o.length none f2))
theorem M0 (G:GT)(K:KT)(L:Nat)(x0 x1:AV)(o:HP):fnK G K Rb L Jz [x0,x1] o=J3 G K L x0 x1 o:=by kernel_rfl
theorem Lg {C:Cfg}{x0 x1:AV}:RunT C Jw Jz [x0,x1] (fun K=>J3 C.G K C.L x0 x1):=runT rfl fun _ _=>M0 ..
def Gi (G:GT)(K:KT)(L:Nat)(o:HP)(x2:AV)(y2:AV)(q:HP)(g:Eff):KR :=
  Zc (fill [(.bool false),(.bool false),(.bool false),(.bool false),(.bool false),(.bool false),(.bool false),(.bool false),(.bool false)] []) fun v1=>GQ (stV o.length 9 x2 (.agg v1) q g) fun h2 f3=>Zc (Z8 h2 9 y2) fun v4=>some (Z6 false o (.tup [(AV.nm v4),(AV.nm (.bool false))]) h2 f3)
theorem ZdO (G:GT)(K:KT)(L:Nat)(o:HP) :Z9 G 46 o.length K Kb L ZaD (Y5 Kb H5 o) (Y5 Kb H5 o) []=fun e q g=>Gi G K L o (e 2).rd (e 2).val q g:=by kernel_rfl
def Rn (G:GT)(K:KT)(L:Nat)(o:HP)(x2:AV)(y2:AV)(x4:AV)(x32:AV)(q:HP)(g:Eff):KR :=
  ifK x32 (Zc (fill [(.bool false),(.bool false),(.bool false),(.bool false),(.bool false),(.bool false),(.bool false),(.bool false),(.bool false)] [(0,1,AV.nm (.bool true))]) fun v39=>GQ (stV o.length 9 x2 (.agg v39) q g) fun h40 f41=>Zc (Z8 h40 9 y2) fun v42=>some (Z6 false o (.tup [(AV.nm v42),(AV.nm (.bool true))]) h40 f41)) (Zc (Zd .eql .prim x4 (.int .i64 13)) fun v43=>ifK v43 (Zc (fill [(.bool false),(.bool false),(.bool false),(.bool false),(.bool false),(.bool false),(.bool false),(.bool false),(.bool false)] [(0,1,AV.nm (.bool true)),(1,1,AV.nm (.bool true)),(2,1,AV.nm (.bool true)),(4,1,AV.nm (.bool true))]) fun v44=>GQ (stV o.length 9 x2 (.agg v44) q g) fun h45 f46=>Zc (Z8 h45 9 y2) fun v47=>some (Z6 false o (.tup [(AV.nm v47),(AV.nm (.bool true))]) h45 f46)) (Zc (Zd .eql .prim x4 (.int .i64 14)) fun v48=>ifK v48 (Zc (fill [(.bool false),(.bool false),(.bool false),(.bool false),(.bool false),(.bool false),(.bool false),(.bool false),(.bool false)] [(0,1,AV.nm (.bool true)),(2,1,AV.nm (.bool true)),(4,1,AV.nm (.bool true))]) fun v49=>GQ (stV o.length 9 x2 (.agg v49) q g) fun h50 f51=>Zc (Z8 h50 9 y2) fun v52=>some (Z6 false o (.tup [(AV.nm v52),(AV.nm (.bool true))]) h50 f51)) (Zc (Zd .eql .prim x4 (.int .i64 18)) fun v53=>ifK v53 (Zc (fill [(.bool false),(.bool false),(.bool false),(.bool false),(.bool false),(.bool false),(.bool false),(.bool false),(.bool false)] []) fun v54=>GQ (stV o.length 9 x2 (.agg v54) q g) fun h55 f56=>Zc (Z8 h55 9 y2) fun v57=>some (Z6 false o (.tup [(AV.nm v57),(AV.nm (.bool true))]) h55 f56)) (Gi G K L o  x2 y2 q g))))
theorem ZdN (G:GT)(K:KT)(L:Nat)(o:HP) :Z9 G 46 o.length K Kb L ZaC (fun e q g=>(Gi G K L o) (e 2).rd (e 2).val q g) (Y5 Kb H5 o) [(0,(fun e q g=>(Gi G K L o) (e 2).rd (e 2).val q g))]=fun e q g=>Rn G K L o (e 2).rd (e 2).val (e 4).rd (e 32).rd q g:=by kernel_rfl
def JC (G:GT)(K:KT)(L:Nat)(o:HP)(x2:AV)(y2:AV)(x4:AV)(x5:AV)(q:HP)(g:Eff):KR :=
  ifK x5 (Zc (fill [(.bool false),(.bool false),(.bool false),(.bool false),(.bool false),(.bool false),(.bool false),(.bool false),(.bool false)] [(0,1,AV.nm (.bool true)),(2,1,AV.nm (.bool true))]) fun v5=>GQ (stV o.length 9 x2 (.agg v5) q g) fun h6 f7=>Zc (Z8 h6 9 y2) fun v8=>some (Z6 false o (.tup [(AV.nm v8),(AV.nm (.bool true))]) h6 f7)) (Zc (Zd .eql .prim x4 (.int .i64 2)) fun v9=>ifK v9 (Zc (fill [(.bool false),(.bool false),(.bool false),(.bool false),(.bool false),(.bool false),(.bool false),(.bool false),(.bool false)] [(0,1,AV.nm (.bool true)),(1,1,AV.nm (.bool true)),(5,1,AV.nm (.bool true))]) fun v10=>GQ (stV o.length 9 x2 (.agg v10) q g) fun h11 f12=>Zc (Z8 h11 9 y2) fun v13=>some (Z6 false o (.tup [(AV.nm v13),(AV.nm (.bool true))]) h11 f12)) (Zc (Zd .eql .prim x4 (.int .i64 3)) fun v14=>ifK v14 (Zc (fill [(.bool false),(.bool false),(.bool false),(.bool false),(.bool false),(.bool false),(.bool false),(.bool false),(.bool false)] [(2,1,AV.nm (.bool true)),(7,1,AV.nm (.bool true)),(8,1,AV.nm (.bool true))]) fun v15=>GQ (stV o.length 9 x2 (.agg v15) q g) fun h16 f17=>Zc (Z8 h16 9 y2) fun v18=>some (Z6 false o (.tup [(AV.nm v18),(AV.nm (.bool true))]) h16 f17)) (Zc (Zd .eql .prim x4 (.int .i64 4)) fun v19=>ifK v19 (Zc (fill [(.bool false),(.bool false),(.bool false),(.bool false),(.bool false),(.bool false),(.bool false),(.bool false),(.bool false)] [(2,1,AV.nm (.bool true)),(7,1,AV.nm (.bool true))]) fun v20=>GQ (stV o.length 9 x2 (.agg v20) q g) fun h21 f22=>Zc (Z8 h21 9 y2) fun v23=>some (Z6 false o (.tup [(AV.nm v23),(AV.nm (.bool true))]) h21 f22)) (Zc (Zd .eql .prim x4 (.int .i64 5)) fun v24=>ifK v24 (Zc (fill [(.bool false),(.bool false),(.bool false),(.bool false),(.bool false),(.bool false),(.bool false),(.bool false),(.bool false)] [(2,1,AV.nm (.bool true))]) fun v25=>GQ (stV o.length 9 x2 (.agg v25) q g) fun h26 f27=>Zc (Z8 h26 9 y2) fun v28=>some (Z6 false o (.tup [(AV.nm v28),(AV.nm (.bool true))]) h26 f27)) (Zc (Zd .eql .prim x4 (.int .i64 6)) fun v29=>ifK v29 (Zc (fill [(.bool false),(.bool false),(.bool false),(.bool false),(.bool false),(.bool false),(.bool false),(.bool false),(.bool false)] [(0,1,AV.nm (.bool true)),(2,1,AV.nm (.bool true)),(3,1,AV.nm (.bool true)),(6,1,AV.nm (.bool true))]) fun v30=>GQ (stV o.length 9 x2 (.agg v30) q g) fun h31 f32=>Zc (Z8 h31 9 y2) fun v33=>some (Z6 false o (.tup [(AV.nm v33),(AV.nm (.bool true))]) h31 f32)) (Zc (Zd .eql .prim x4 (.int .i64 9)) fun v34=>ifK v34 (Zc (fill [(.bool false),(.bool false),(.bool false),(.bool false),(.bool false),(.bool false),(.bool false),(.bool false),(.bool false)] [(0,1,AV.nm (.bool true)),(1,1,AV.nm (.bool true))]) fun v35=>GQ (stV o.length 9 x2 (.agg v35) q g) fun h36 f37=>Zc (Z8 h36 9 y2) fun v38=>some (Z6 false o (.tup [(AV.nm v38),(AV.nm (.bool true))]) h36 f37)) (Zc (Zd .eql .prim x4 (.int .i64 10)) fun v58=>ifK v58 (Rn G K L o  x2 y2 x4 v58 q g) (Zc (Zd .eql .prim x4 (.int .i64 11)) fun v59=>Rn G K L o  x2 y2 x4 v59 q g))))))))
theorem ZdM (G:GT)(K:KT)(L:Nat)(o:HP) :Z9 G 46 o.length K Kb L Nc (fun e q g=>(Gi G K L o) (e 2).rd (e 2).val q g) (Y5 Kb H5 o) [(0,(fun e q g=>(Gi G K L o) (e 2).rd (e 2).val q g))]=fun e q g=>JC G K L o (e 2).rd (e 2).val (e 4).rd (e 5).rd q g:=by
 simp only [Nc,Yh,ZB,ZC,ZX]
 rw [ZdN G K L o]
 kernel_rfl
def Zb9 (G:GT)(K:KT)(L:Nat)(x0:AV)(o:HP):KR :=
  JE (o ++ [.cells [(.bool false),(.bool false),(.bool false),(.bool false),(.bool false),(.bool false),(.bool false),(.bool false),(.bool false)] Gj]) fun h0=>Zc (Zd .eql .prim (AV.ro x0) (.int .i64 1)) fun v60=>ifK v60 (JC G K L o  (.ptr (o).length 0) (.ptr (o).length 0) (AV.ro x0) v60 h0 none) (Zc (Zd .eql .prim (AV.ro x0) (.int .i64 7)) fun v61=>ifK v61 (JC G K L o  (.ptr (o).length 0) (.ptr (o).length 0) (AV.ro x0) v61 h0 none) (Zc (Zd .eql .prim (AV.ro x0) (.int .i64 8)) fun v62=>ifK v62 (JC G K L o  (.ptr (o).length 0) (.ptr (o).length 0) (AV.ro x0) v62 h0 none) (Zc (Zd .eql .prim (AV.ro x0) (.int .i64 12)) fun v63=>ifK v63 (JC G K L o  (.ptr (o).length 0) (.ptr (o).length 0) (AV.ro x0) v63 h0 none) (Zc (Zd .eql .prim (AV.ro x0) (.int .i64 15)) fun v64=>ifK v64 (JC G K L o  (.ptr (o).length 0) (.ptr (o).length 0) (AV.ro x0) v64 h0 none) (Zc (Zd .eql .prim (AV.ro x0) (.int .i64 16)) fun v65=>ifK v65 (JC G K L o  (.ptr (o).length 0) (.ptr (o).length 0) (AV.ro x0) v65 h0 none) (Zc (Zd .eql .prim (AV.ro x0) (.int .i64 17)) fun v66=>JC G K L o  (.ptr (o).length 0) (.ptr (o).length 0) (AV.ro x0) v66 h0 none))))))
theorem ZhZ (G:GT)(K:KT)(L:Nat)(x0:AV)(o:HP):fnK G K Kb L H5 [x0] o=Zb9 G K L x0 o:=by
 show Z9 G 46 o.length K Kb L Zbe (Y5 Kb H5 o) (Y5 Kb H5 o) [] (Df [x0]) o none=_
 simp only [Zbe,Yh,ZB,ZC,ZX]
 rw [ZdO G K L o ,ZdM G K L o]
 kernel_rfl
theorem Zk1 {C:Cfg}{x0:AV}:RunT C SY H5 [x0] (fun K=>Zb9 C.G K C.L x0):=runT rfl fun _ _=>ZhZ ..
def Zb8 (G:GT)(K:KT)(L:Nat)(x0 x1:AV)(o:HP):KR :=
  Zc (GA 21 (AV.ro x0)) fun v1=>JE (o ++ [.cells v1 Jb]) fun h0=>Zc (GA 9 (AV.ro x1)) fun v3=>JE (h0 ++ [.cells v3 Gj]) fun h2=>Zc (Zp 0 (.ptr (h0).length 0)) fun v4=>Zc (Zf h2 v4) fun v5=>Uq v5 false (Zc (Zp 1 (.ptr (o).length 0)) fun v6=>Zc (Zf h2 v6) fun v7=>Zc (Zd .eql .prim v7 (.str [])) fun v8=>some (v8,h2,none)) (some (.bool true)) h2 none fun v9 h10 f11=>Uq (AV.ro v9) true (Zc (Zp 1 (.ptr (h0).length 0)) fun v12=>Zc (Zf h10 v12) fun v13=>Uq v13 false (Zc (Zp 2 (.ptr (o).length 0)) fun v14=>Zc (Zf h10 v14) fun v15=>Zc (Zd .eql .prim v15 (.str [])) fun v16=>some (v16,h10,f11)) (some (.bool true)) h10 f11 fun v17 h18 f19=>some ((AV.ro v17),h18,f19)) (some (.bool false)) h10 f11 fun v20 h21 f22=>Uq (AV.ro v20) true (Zc (Zp 2 (.ptr (h0).length 0)) fun v23=>Zc (Zf h21 v23) fun v24=>Uq v24 false (Zc (Zp 3 (.ptr (o).length 0)) fun v25=>Zc (Z8 h21 4 v25) fun v26=>Qg (Vh K (AV.ro (.fn OI [] [])) [v26] h21) fun v27 h28 f29=>some ((AV.ro v27),h28,(Ze o.length f22 f29))) (some (.bool true)) h21 f22 fun v30 h31 f32=>some ((AV.ro v30),h31,f32)) (some (.bool false)) h21 f22 fun v33 h34 f35=>Uq (AV.ro v33) true (Zc (Zp 3 (.ptr (h0).length 0)) fun v36=>Zc (Zf h34 v36) fun v37=>Uq v37 false (Zc (Zp 7 (.ptr (o).length 0)) fun v38=>Zc (Z8 h34 4 v38) fun v39=>Qg (Vh K (AV.ro (.fn OI [] [])) [v39] h34) fun v40 h41 f42=>some ((AV.ro v40),h41,(Ze o.length f35 f42))) (some (.bool true)) h34 f35 fun v43 h44 f45=>some ((AV.ro v43),h44,f45)) (some (.bool false)) h34 f35 fun v46 h47 f48=>Uq (AV.ro v46) true (Zc (Zp 4 (.ptr (h0).length 0)) fun v49=>Zc (Zf h47 v49) fun v50=>Uq v50 false (Zc (Zp 11 (.ptr (o).length 0)) fun v51=>Zc (Zf h47 v51) fun v52=>Zc (Yy h47 .slice v52) fun v53=>Zc (Zd .eql .prim v53 (.int .i64 0)) fun v54=>some (v54,h47,f48)) (some (.bool true)) h47 f48 fun v55 h56 f57=>some ((AV.ro v55),h56,f57)) (some (.bool false)) h47 f48 fun v58 h59 f60=>Uq (AV.ro v58) true (Zc (Zp 5 (.ptr (h0).length 0)) fun v61=>Zc (Zf h59 v61) fun v62=>Uq v62 false (Zc (Zp 12 (.ptr (o).length 0)) fun v63=>Zc (Z8 h59 6 v63) fun v64=>Zc (fill [(.int .i64 0),(.int .i64 0),(.int .i64 0),(.int .i64 0),(.own 1 []),(.own 1 [])] []) fun v65=>Qg (K BI [v64,(.agg v65)] h59) fun v66 h67 f68=>some ((AV.ro v66),h67,(Ze o.length f60 f68))) (some (.bool true)) h59 f60 fun v69 h70 f71=>some ((AV.ro v69),h70,f71)) (some (.bool false)) h59 f60 fun v72 h73 f74=>Uq (AV.ro v72) true (Zc (Zp 6 (.ptr (h0).length 0)) fun v75=>Zc (Zf h73 v75) fun v76=>Uq v76 false (Zc (Zp 18 (.ptr (o).length 0)) fun v77=>Zc (Zf h73 v77) fun v78=>Zc (JG .not v78) fun v79=>some (v79,h73,f74)) (some (.bool true)) h73 f74 fun v80 h81 f82=>some ((AV.ro v80),h81,f82)) (some (.bool false)) h73 f74 fun v83 h84 f85=>Uq (AV.ro v83) true (Zc (Zp 7 (.ptr (h0).length 0)) fun v86=>Zc (Zf h84 v86) fun v87=>Uq v87 false (Zc (Zp 19 (.ptr (o).length 0)) fun v88=>Zc (Zf h84 v88) fun v89=>Zc (Yy h84 .slice v89) fun v90=>Zc (Zd .eql .prim v90 (.int .i64 0)) fun v91=>some (v91,h84,f85)) (some (.bool true)) h84 f85 fun v92 h93 f94=>some ((AV.ro v92),h93,f94)) (some (.bool false)) h84 f85 fun v95 h96 f97=>Uq (AV.ro v95) true (Zc (Zp 8 (.ptr (h0).length 0)) fun v98=>Zc (Zf h96 v98) fun v99=>Uq v99 false (Zc (Zp 20 (.ptr (o).length 0)) fun v100=>Zc (Zf h96 v100) fun v101=>Zc (Yy h96 .slice v101) fun v102=>Zc (Zd .eql .prim v102 (.int .i64 0)) fun v103=>some (v103,h96,f97)) (some (.bool true)) h96 f97 fun v104 h105 f106=>some ((AV.ro v104),h105,f106)) (some (.bool false)) h96 f97 fun v107 h108 f109=>some (Z6 false o v107 h108 f109)
theorem ZhY (G:GT)(K:KT)(L:Nat)(x0 x1:AV)(o:HP):fnK G K ZmF L ZaW [x0,x1] o=Zb8 G K L x0 x1 o:=by kernel_rfl
theorem Zk0 {C:Cfg}{x0 x1:AV}:RunT C SX ZaW [x0,x1] (fun K=>Zb8 C.G K C.L x0 x1):=runT rfl fun _ _=>ZhY ..
def O6 (G:GT)(K:KT)(L:Nat)(o:HP)(x2:AV)(x3:AV)(q:HP)(g:Eff):KR :=
  Zc (Zp 5 x3) fun v8=>Zc (Zf q v8) fun v9=>ifK v9 (Zc (Zp 12 x2) fun v10=>Zc (Z8 q 6 v10) fun v11=>Qg (K U7 [v11] q) fun v12 h13 f14=>some (Z6 false o v12 h13 (Ze o.length g f14))) (some (Z6 false o (.int .i64 0) q g))
theorem Zc7 (G:GT)(K:KT)(L:Nat)(o:HP) :Z9 G 89 o.length K WO L FW (Y5 WO X7 o) (Y5 WO X7 o) []=fun e q g=>O6 G K L o (e 2).rd (e 3).rd q g:=by kernel_rfl
def UX (G:GT)(K:KT)(L:Nat)(o:HP)(k4:AV→AV→HP→Eff→KR):Nat→AV→AV→AV→AV→AV→HP→Eff→KR
  | 0,_,_,_,_,_,_,_=>none
  | m + 1,x2,x3,x72,x73,x74,q,g=>Zc (Zd .lss .prim x74 x73) fun v18=>ifK v18 (Zc (Qf (.slice 4) x72 x74) fun v19=>Zc (Z8 q 4 v19) fun v20=>JE (q ++ [.cells [(.int .i64 0),(.str []),(.int .i64 0),(.own 4 [])] Qm]) fun h21=>GQ (stV o.length 4 (.ptr (q).length 0) v20 h21 g) fun h22 f23=>Zc (Z8 h22 4 (.ptr (q).length 0)) fun v24=>Qg (K U8 [v24] h22) fun v25 h26 f27=>Zc (Zd .neq .prim (AV.ro v25) (.int .i64 0)) fun v28=>ifK v28 (some (Z6 false o v25 h26 (Ze o.length f23 f27))) (Zc (Zd .add .prim x74 (.int .i64 1)) fun v29=>UX G K L o k4 m x2 x3 x72 x73 v29 h26 (Ze o.length f23 f27))) (k4 x2 x3 q g)
theorem ZcD (G:GT)(K:KT)(L:Nat)(o:HP)(k4:AV→AV→HP→Eff→KR) :∀ m,VW (fun n'=>Z9 G 89 o.length K WO L Am n' (Y5 WO X7 o) [(4,(fun e q g=>k4 (e 2).rd (e 3).rd q g))]) m=fun e q g=>UX G K L o k4 m (e 2).rd (e 3).rd (e 72).rd (e 73).rd (e 74).rd q g:=lpI rfl fun _=>by kernel_rfl
theorem ZcC (G:GT)(K:KT)(L:Nat)(o:HP)(k4:AV→AV→HP→Eff→KR)(zn:Kj):Z9 G 89 o.length K WO L FZ zn (Y5 WO X7 o) [(4,(fun e q g=>k4 (e 2).rd (e 3).rd q g))]=fun e q g=>UX G K L o k4 L (e 2).rd (e 3).rd (e 72).rd (e 73).rd (e 74).rd q g:=ZcD G K L o k4 L
def GM (G:GT)(K:KT)(L:Nat)(o:HP)(x2:AV)(x3:AV)(q:HP)(g:Eff):KR :=
  Zc (Zp 11 x2) fun v4=>Zc (Zf q v4) fun v5=>Zc (Yy q .slice v5) fun v6=>Zc (Zd .gtr .prim v6 (.int .i64 6)) fun v7=>ifK v7 (some (Z6 false o (.int .i64 6) q g)) (Zc (Zp 11 x2) fun v15=>Zc (Zf q v15) fun v16=>Zc (Yy q .slice v16) fun v17=>UX G K L o (O6 G K L o) L x2 x3 v16 v17 (.int .i64 0) q g)
theorem Zc6 (G:GT)(K:KT)(L:Nat)(o:HP) :Z9 G 89 o.length K WO L Dq (Y5 WO X7 o) (Y5 WO X7 o) []=fun e q g=>GM G K L o (e 2).rd (e 3).rd q g:=by
 simp only [Dq,Yh,ZB,ZC,ZX]
 rw [Zc7 G K L o ,ZcC G K L o (O6 G K L o) _]
 kernel_rfl
def UW (G:GT)(K:KT)(L:Nat)(o:HP)(k2:AV→AV→HP→Eff→KR):Nat→AV→AV→AV→AV→AV→HP→Eff→KR
  | 0,_,_,_,_,_,_,_=>none
  | m + 1,x2,x3,x51,x52,x53,q,g=>Zc (Zd .lss .prim x53 x52) fun v43=>ifK v43 (Zc (Qf (.slice 5) x51 x53) fun v44=>Zc (Z8 q 5 v44) fun v45=>JE (q ++ [.cells [(.bool false),(.int .i64 0),(.str []),(.int .i64 0),(.own 4 [])] WM]) fun h46=>GQ (stV o.length 5 (.ptr (q).length 0) v45 h46 g) fun h47 f48=>Zc (Zp 0 (.ptr (q).length 0)) fun v49=>Zc (Zf h47 v49) fun v50=>Zc (JG .not v50) fun v51=>ifK v51 (Zc (Zd .add .prim x53 (.int .i64 1)) fun v52=>UW G K L o k2 m x2 x3 x51 x52 v52 h47 f48) (Zc (Zp 1 (.ptr (q).length 0)) fun v53=>Zc (Z8 h47 4 v53) fun v54=>Qg (K U8 [v54] h47) fun v55 h56 f57=>Zc (Zd .neq .prim (AV.ro v55) (.int .i64 0)) fun v58=>ifK v58 (some (Z6 false o v55 h56 (Ze o.length f48 f57))) (Zc (Zd .add .prim x53 (.int .i64 1)) fun v59=>UW G K L o k2 m x2 x3 x51 x52 v59 h56 (Ze o.length f48 f57)))) (k2 x2 x3 q g)
theorem ZcB (G:GT)(K:KT)(L:Nat)(o:HP)(k2:AV→AV→HP→Eff→KR) :∀ m,VW (fun n'=>Z9 G 89 o.length K WO L Al n' (Y5 WO X7 o) [(2,(fun e q g=>k2 (e 2).rd (e 3).rd q g))]) m=fun e q g=>UW G K L o k2 m (e 2).rd (e 3).rd (e 51).rd (e 52).rd (e 53).rd q g:=lpI rfl fun _=>by kernel_rfl
theorem ZcA (G:GT)(K:KT)(L:Nat)(o:HP)(k2:AV→AV→HP→Eff→KR)(zn:Kj):Z9 G 89 o.length K WO L FY zn (Y5 WO X7 o) [(2,(fun e q g=>k2 (e 2).rd (e 3).rd q g))]=fun e q g=>UW G K L o k2 L (e 2).rd (e 3).rd (e 51).rd (e 52).rd (e 53).rd q g:=ZcB G K L o k2 L
def GL (G:GT)(K:KT)(L:Nat)(o:HP)(x2:AV)(x3:AV)(q:HP)(g:Eff):KR :=
  Zc (Zp 2 x3) fun v30=>Zc (Zf q v30) fun v31=>Zc (Zp 3 x2) fun v32=>Zc (Z8 q 4 v32) fun v33=>Zc (fill [(.bool false),(.int .i64 0),(.str []),(.int .i64 0),(.own 4 [])] [(0,1,AV.nm v31),(1,4,AV.nm v33)]) fun v34=>Zc (Zp 3 x3) fun v35=>Zc (Zf q v35) fun v36=>Zc (Zp 7 x2) fun v37=>Zc (Z8 q 4 v37) fun v38=>Zc (fill [(.bool false),(.int .i64 0),(.str []),(.int .i64 0),(.own 4 [])] [(0,1,AV.nm v36),(1,4,AV.nm v38)]) fun v39=>GQ (Zeb WM 5 [(.agg v34),(.agg v39)] q) fun v40 h41=>Zc (Yy h41 .slice (AV.ro v40)) fun v42=>UW G K L o (GM G K L o) L x2 x3 (AV.ro v40) v42 (.int .i64 0) h41 g
theorem Zc5 (G:GT)(K:KT)(L:Nat)(o:HP) :Z9 G 89 o.length K WO L Dp (Y5 WO X7 o) (Y5 WO X7 o) []=fun e q g=>GL G K L o (e 2).rd (e 3).rd q g:=by
 simp only [Dp,Yh,ZB,ZC,ZX]
 rw [Zc6 G K L o ,ZcA G K L o (GM G K L o) _]
 kernel_rfl
def GN (G:GT)(K:KT)(L:Nat)(o:HP)(k0:AV→AV→HP→Eff→KR):Nat→AV→AV→AV→AV→AV→HP→Eff→KR
  | 0,_,_,_,_,_,_,_=>none
  | m + 1,x2,x3,x24,x25,x26,q,g=>Zc (Zd .lss .prim x26 x25) fun v73=>ifK v73 (Zc (Qf (.slice 2) x24 x26) fun v74=>Zc (Z8 q 2 v74) fun v75=>JE (q ++ [.cells [(.bool false),(.str [])] WB]) fun h76=>GQ (stV o.length 2 (.ptr (q).length 0) v75 h76 g) fun h77 f78=>Zc (Zp 1 (.ptr (q).length 0)) fun v79=>Zc (Zf h77 v79) fun v80=>Qg (K K9 [v80] h77) fun v81 h82 f83=>Zc (Zp 0 (.ptr (q).length 0)) fun v84=>Zc (Zf h82 v84) fun v85=>Uq v85 true (Zc (Zd .neq .prim (AV.ro v81) (.int .i64 0)) fun v86=>some (v86,h82,(Ze o.length f78 f83))) (some (.bool false)) h82 (Ze o.length f78 f83) fun v87 h88 f89=>ifK (AV.ro v87) (some (Z6 false o v81 h88 f89)) (Zc (Zd .add .prim x26 (.int .i64 1)) fun v90=>GN G K L o k0 m x2 x3 x24 x25 v90 h88 f89)) (k0 x2 x3 q g)
theorem Zc9 (G:GT)(K:KT)(L:Nat)(o:HP)(k0:AV→AV→HP→Eff→KR) :∀ m,VW (fun n'=>Z9 G 89 o.length K WO L Ak n' (Y5 WO X7 o) [(0,(fun e q g=>k0 (e 2).rd (e 3).rd q g))]) m=fun e q g=>GN G K L o k0 m (e 2).rd (e 3).rd (e 24).rd (e 25).rd (e 26).rd q g:=lpI rfl fun _=>by kernel_rfl
theorem Zc8 (G:GT)(K:KT)(L:Nat)(o:HP)(k0:AV→AV→HP→Eff→KR)(zn:Kj):Z9 G 89 o.length K WO L FX zn (Y5 WO X7 o) [(0,(fun e q g=>k0 (e 2).rd (e 3).rd q g))]=fun e q g=>GN G K L o k0 L (e 2).rd (e 3).rd (e 24).rd (e 25).rd (e 26).rd q g:=Zc9 G K L o k0 L
def Cx (G:GT)(K:KT)(L:Nat)(x0 x1:AV)(o:HP):KR :=
  Zc (GA 21 (AV.ro x0)) fun v1=>JE (o ++ [.cells v1 Jb]) fun h0=>Zc (GA 9 (AV.ro x1)) fun v3=>JE (h0 ++ [.cells v3 Gj]) fun h2=>Zc (Zp 0 (.ptr (h0).length 0)) fun v60=>Zc (Zf h2 v60) fun v61=>Zc (Zp 1 (.ptr (o).length 0)) fun v62=>Zc (Zf h2 v62) fun v63=>Zc (fill [(.bool false),(.str [])] [(0,1,AV.nm v61),(1,1,AV.nm v63)]) fun v64=>Zc (Zp 1 (.ptr (h0).length 0)) fun v65=>Zc (Zf h2 v65) fun v66=>Zc (Zp 2 (.ptr (o).length 0)) fun v67=>Zc (Zf h2 v67) fun v68=>Zc (fill [(.bool false),(.str [])] [(0,1,AV.nm v66),(1,1,AV.nm v68)]) fun v69=>GQ (Zeb WB 2 [(.agg v64),(.agg v69)] h2) fun v70 h71=>Zc (Yy h71 .slice (AV.ro v70)) fun v72=>GN G K L o (GL G K L o) L (.ptr (o).length 0) (.ptr (h0).length 0) (AV.ro v70) v72 (.int .i64 0) h71 none
theorem Zgi (G:GT)(K:KT)(L:Nat)(x0 x1:AV)(o:HP):fnK G K WO L X7 [x0,x1] o=Cx G K L x0 x1 o:=by
 show Z9 G 89 o.length K WO L FV (Y5 WO X7 o) (Y5 WO X7 o) [] (Df [x0,x1]) o none=_
 simp only [FV,Yh,ZB,ZC,ZX]
 rw [Zc5 G K L o ,Zc8 G K L o (GL G K L o) _]
 kernel_rfl
theorem ZiI {C:Cfg}{x0 x1:AV}:RunT C Po X7 [x0,x1] (fun K=>Cx C.G K C.L x0 x1):=runT rfl fun _ _=>Zgi ..
def N8 (G:GT)(K:KT)(L:Nat)(x0 x1:AV)(o:HP):KR :=
  Zc (GA 3 (AV.ro x0)) fun v1=>JE (o ++ [.cells v1 Xd]) fun h0=>Zc (Zp 0 (.ptr (o).length 0)) fun v2=>Zc (Zf h0 v2) fun v3=>Zc (Zp 2 (AV.ro x1)) fun v4=>Zc (Zf h0 v4) fun v5=>Zc (Zd .eql .prim v3 v5) fun v6=>some (Z6 false o v6 h0 none)
theorem Zd4 (G:GT)(K:KT)(L:Nat)(x0 x1:AV)(o:HP):fnK G K Zi9 L PV [x0,x1] o=N8 G K L x0 x1 o:=by kernel_rfl
theorem Zfj {C:Cfg}{x0 x1:AV}:RunT C Tm PV [x0,x1] (fun K=>N8 C.G K C.L x0 x1):=runT rfl fun _ _=>Zd4 ..
def Q7 (G:GT)(K:KT)(L:Nat)(x0 x1:AV)(o:HP):KR :=
  Qg (K WV [(AV.ro x0),(AV.ro x1)] o) fun v0 h1 f2=>Zc (Zd .geq .prim (AV.ro v0) (.int .i64 0)) fun v3=>some (Z6 false o v3 h1 (Ze o.length none f2))
theorem Uk (G:GT)(K:KT)(L:Nat)(x0 x1:AV)(o:HP):fnK G K Ka L Q5 [x0,x1] o=Q7 G K L x0 x1 o:=by kernel_rfl
theorem U5 {C:Cfg}{x0 x1:AV}:RunT C Q4 Q5 [x0,x1] (fun K=>Q7 C.G K C.L x0 x1):=runT rfl fun _ _=>Uk ..
def Xm (G:GT)(K:KT)(L:Nat)(o:HP)(q:HP)(g:Eff):KR :=
  some (Z6 false o (.int .i64 (-1)) q g)
theorem M3 (G:GT)(K:KT)(L:Nat)(o:HP) :Z9 G 19 o.length K Y3 L GJ (Y5 Y3 W9 o) (Y5 Y3 W9 o) []=fun e q g=>Xm G K L o  q g:=by kernel_rfl
def WW (G:GT)(K:KT)(L:Nat)(o:HP)(k0:HP→Eff→KR):Nat→AV→AV→AV→AV→HP→Eff→KR
  | 0,_,_,_,_,_,_=>none
  | m + 1,x0,x1,x7,x8,q,g=>Zc (Zd .lss .prim x8 x7) fun v1=>ifK v1 (Zc (Qf (.slice 1) x0 x8) fun v2=>Zc (Zf q v2) fun v3=>Qg (Vh K x1 [v3] q) fun v4 h5 f6=>ifK (AV.ro v4) (some (Z6 false o x8 h5 (Ze o.length g f6))) (Zc (Zd .add .prim x8 (.int .i64 1)) fun v7=>WW G K L o k0 m x0 x1 x7 v7 h5 (Ze o.length g f6))) (k0  q g)
theorem M5 (G:GT)(K:KT)(L:Nat)(o:HP)(k0:HP→Eff→KR) :∀ m,VW (fun n'=>Z9 G 19 o.length K Y3 L Gl n' (Y5 Y3 W9 o) [(0,(fun e q g=>k0 q g))]) m=fun e q g=>WW G K L o k0 m (e 0).rd (e 1).rd (e 7).rd (e 8).rd q g:=lpI rfl fun _=>by kernel_rfl
theorem M4 (G:GT)(K:KT)(L:Nat)(o:HP)(k0:HP→Eff→KR)(zn:Kj):Z9 G 19 o.length K Y3 L GK zn (Y5 Y3 W9 o) [(0,(fun e q g=>k0 q g))]=fun e q g=>WW G K L o k0 L (e 0).rd (e 1).rd (e 7).rd (e 8).rd q g:=M5 G K L o k0 L
def U1 (G:GT)(K:KT)(L:Nat)(x0 x1:AV)(o:HP):KR :=
  Zc (Yy o .slice (AV.ro x0)) fun v0=>WW G K L o (Xm G K L o) L (AV.ro x0) (AV.ro x1) v0 (.int .i64 0) o none
theorem LV (G:GT)(K:KT)(L:Nat)(x0 x1:AV)(o:HP):fnK G K Y3 L W9 [x0,x1] o=U1 G K L x0 x1 o:=by
 show Z9 G 19 o.length K Y3 L Uz (Y5 Y3 W9 o) (Y5 Y3 W9 o) [] (Df [x0,x1]) o none=_
 simp only [Uz,Yh,ZB,ZC,ZX]
 rw [M3 G K L o ,M4 G K L o (Xm G K L o) _]
 kernel_rfl
theorem RD {C:Cfg}{x0 x1:AV}:RunT C Uv W9 [x0,x1] (fun K=>U1 C.G K C.L x0 x1):=runT rfl fun _ _=>LV ..
def EA (G:GT)(K:KT)(L:Nat)(x0:AV)(o:HP):KR :=
  Zc (GA 4 (AV.ro x0)) fun v1=>JE (o ++ [.cells v1 Qm]) fun h0=>Zc (Z8 h0 4 (.ptr (o).length 0)) fun v2=>Zc (fill [(.int .i64 0),(.str []),(.int .i64 0),(.own 4 [])] []) fun v3=>Qg (K SK [v2,(.agg v3)] h0) fun v4 h5 f6=>some (Z6 false o v4 h5 (Ze o.length none f6))
theorem ZeP (G:GT)(K:KT)(L:Nat)(x0:AV)(o:HP):fnK G K Zkn L Ej [x0] o=EA G K L x0 o:=by kernel_rfl
theorem Zh6 {C:Cfg}{x0:AV}:RunT C OI Ej [x0] (fun K=>EA C.G K C.L x0):=runT rfl fun _ _=>ZeP ..
def Ce (G:GT)(K:KT)(L:Nat)(x0:AV)(o:HP):KR :=
  Zc (GA 4 (AV.ro x0)) fun v1=>JE (o ++ [.cells v1 Qm]) fun h0=>Zc (fill [(.bool false)] []) fun v2=>Zc (Z8 h0 4 (.ptr (o).length 0)) fun v3=>Qg (K TW [(.agg v2),v3] h0) fun v4 h5 f6=>some (Z6 false o v4 h5 (Ze o.length none f6))
theorem ZfU (G:GT)(K:KT)(L:Nat)(x0:AV)(o:HP):fnK G K Zl5 L Fh [x0] o=Ce G K L x0 o:=by kernel_rfl
theorem Zim {C:Cfg}{x0:AV}:RunT C U8 Fh [x0] (fun K=>Ce C.G K C.L x0):=runT rfl fun _ _=>ZfU ..
def Me (G:GT)(K:KT)(L:Nat)(x0 x1:AV)(o:HP):KR :=
  Zc (GA 1 (AV.ro x0)) fun v1=>JE (o ++ [.cells v1 Hr]) fun h0=>Zc (GA 4 (AV.ro x1)) fun v3=>JE (h0 ++ [.cells v3 Qm]) fun h2=>Zc (Z8 h2 4 (.ptr (h0).length 0)) fun v4=>Qg (K Oc [v4] h2) fun v5 h6 f7=>Zc (Zd .gtr .prim (AV.ro v5) (.int .i64 60)) fun v8=>ifK v8 (some (Z6 false o (.int .i64 6) h6 (Ze o.length none f7))) (Zc (Z8 h6 4 (.ptr (h0).length 0)) fun v9=>Qg (K Ob [v9] h6) fun v10 h11 f12=>Zc (Zd .gtr .prim (AV.ro v10) (.int .i64 12)) fun v13=>ifK v13 (some (Z6 false o (.int .i64 11) h11 (Ze o.length (Ze o.length none f7) f12))) (Zc (Z8 h11 1 (.ptr (o).length 0)) fun v14=>Zc (Z8 h11 4 (.ptr (h0).length 0)) fun v15=>Qg (K VE [v14,v15] h11) fun v16 h17 f18=>some (Z6 false o v16 h17 (Ze o.length (Ze o.length (Ze o.length none f7) f12) f18))))
theorem Ay (G:GT)(K:KT)(L:Nat)(x0 x1:AV)(o:HP):fnK G K ZbM L TZ [x0,x1] o=Me G K L x0 x1 o:=by kernel_rfl
theorem Fa {C:Cfg}{x0 x1:AV}:RunT C TW TZ [x0,x1] (fun K=>Me C.G K C.L x0 x1):=runT rfl fun _ _=>Ay ..
def Oy (G:GT)(K:KT)(L:Nat)(o:HP)(y3:AV)(q:HP)(g:Eff):KR :=
  some (Z6 false o y3 q g)
theorem Zcd (G:GT)(K:KT)(L:Nat)(o:HP) :Z9 G 19 o.length K JU L F7 (Y5 JU KD o) (Y5 JU KD o) []=fun e q g=>Oy G K L o (e 3).val q g:=by kernel_rfl
def UQ (G:GT)(K:KT)(L:Nat)(o:HP)(k0:AV→HP→Eff→KR):Nat→AV→AV→AV→AV→AV→HP→Eff→KR
  | 0,_,_,_,_,_,_,_=>none
  | m + 1,x3,y3,x7,x8,x9,q,g=>Zc (Zd .lss .prim x9 x8) fun v5=>ifK v5 (Zc (Qf (.slice 4) x7 x9) fun v6=>Zc (Z8 q 4 v6) fun v7=>JE (q ++ [.cells [(.int .i64 0),(.str []),(.int .i64 0),(.own 4 [])] Qm]) fun h8=>GQ (stV o.length 4 (.ptr (q).length 0) v7 h8 g) fun h9 f10=>Zc (Z8 h9 4 (.ptr (q).length 0)) fun v11=>Qg (K Oc [v11] h9) fun v12 h13 f14=>Zc (Zd .add .prim x3 (AV.ro v12)) fun v15=>Zc (Zd .add .prim x9 (.int .i64 1)) fun v16=>UQ G K L o k0 m v15 v15 x7 x8 v16 h13 (Ze o.length f10 f14)) (k0 y3 q g)
theorem Zcf (G:GT)(K:KT)(L:Nat)(o:HP)(k0:AV→HP→Eff→KR) :∀ m,VW (fun n'=>Z9 G 19 o.length K JU L ET n' (Y5 JU KD o) [(0,(fun e q g=>k0 (e 3).val q g))]) m=fun e q g=>UQ G K L o k0 m (e 3).rd (e 3).val (e 7).rd (e 8).rd (e 9).rd q g:=lpI rfl fun _=>by kernel_rfl
theorem Zce (G:GT)(K:KT)(L:Nat)(o:HP)(k0:AV→HP→Eff→KR)(zn:Kj):Z9 G 19 o.length K JU L F8 zn (Y5 JU KD o) [(0,(fun e q g=>k0 (e 3).val q g))]=fun e q g=>UQ G K L o k0 L (e 3).rd (e 3).val (e 7).rd (e 8).rd (e 9).rd q g:=Zcf G K L o k0 L
def Cg (G:GT)(K:KT)(L:Nat)(x0:AV)(o:HP):KR :=
  Zc (GA 4 (AV.ro x0)) fun v1=>JE (o ++ [.cells v1 Qm]) fun h0=>Zc (Zp 3 (.ptr (o).length 0)) fun v2=>Zc (Zf h0 v2) fun v3=>Zc (Yy h0 .slice v3) fun v4=>UQ G K L o (Oy G K L o) L (.int .i64 1) (.int .i64 1) v3 v4 (.int .i64 0) h0 none
theorem ZfW (G:GT)(K:KT)(L:Nat)(x0:AV)(o:HP):fnK G K JU L KD [x0] o=Cg G K L x0 o:=by
 show Z9 G 19 o.length K JU L F6 (Y5 JU KD o) (Y5 JU KD o) [] (Df [x0]) o none=_
 simp only [F6,Yh,ZB,ZC,ZX]
 rw [Zcd G K L o ,Zce G K L o (Oy G K L o) _]
 kernel_rfl
theorem Zio {C:Cfg}{x0:AV}:RunT C Oc KD [x0] (fun K=>Cg C.G K C.L x0):=runT rfl fun _ _=>ZfW ..
def Ox (G:GT)(K:KT)(L:Nat)(o:HP)(x3:AV)(q:HP)(g:Eff):KR :=
  Zc (Zd .add .prim x3 (.int .i64 1)) fun v2=>some (Z6 false o v2 q g)
theorem Zca (G:GT)(K:KT)(L:Nat)(o:HP) :Z9 G 20 o.length K JS L F4 (Y5 JS KC o) (Y5 JS KC o) []=fun e q g=>Ox G K L o (e 3).rd q g:=by kernel_rfl
def UO (G:GT)(K:KT)(L:Nat)(o:HP)(k0:AV→HP→Eff→KR):Nat→AV→AV→AV→AV→HP→Eff→KR
  | 0,_,_,_,_,_,_=>none
  | m + 1,x3,x7,x8,x9,q,g=>Zc (Zd .lss .prim x9 x8) fun v6=>ifK v6 (Zc (Qf (.slice 4) x7 x9) fun v7=>Zc (Z8 q 4 v7) fun v8=>JE (q ++ [.cells [(.int .i64 0),(.str []),(.int .i64 0),(.own 4 [])] Qm]) fun h9=>GQ (stV o.length 4 (.ptr (q).length 0) v8 h9 g) fun h10 f11=>Zc (Z8 h10 4 (.ptr (q).length 0)) fun v12=>Qg (K Ob [v12] h10) fun v13 h14 f15=>Zc (ZrS [x3,(AV.ro v13)]) fun v16=>Zc (Zd .add .prim x9 (.int .i64 1)) fun v17=>UO G K L o k0 m v16 x7 x8 v17 h14 (Ze o.length f11 f15)) (k0 x3 q g)
theorem Zcc (G:GT)(K:KT)(L:Nat)(o:HP)(k0:AV→HP→Eff→KR) :∀ m,VW (fun n'=>Z9 G 20 o.length K JS L ES n' (Y5 JS KC o) [(0,(fun e q g=>k0 (e 3).rd q g))]) m=fun e q g=>UO G K L o k0 m (e 3).rd (e 7).rd (e 8).rd (e 9).rd q g:=lpI rfl fun _=>by kernel_rfl
theorem Zcb (G:GT)(K:KT)(L:Nat)(o:HP)(k0:AV→HP→Eff→KR)(zn:Kj):Z9 G 20 o.length K JS L F5 zn (Y5 JS KC o) [(0,(fun e q g=>k0 (e 3).rd q g))]=fun e q g=>UO G K L o k0 L (e 3).rd (e 7).rd (e 8).rd (e 9).rd q g:=Zcc G K L o k0 L
def Cf (G:GT)(K:KT)(L:Nat)(x0:AV)(o:HP):KR :=
  Zc (GA 4 (AV.ro x0)) fun v1=>JE (o ++ [.cells v1 Qm]) fun h0=>Zc (Zp 3 (.ptr (o).length 0)) fun v3=>Zc (Zf h0 v3) fun v4=>Zc (Yy h0 .slice v4) fun v5=>UO G K L o (Ox G K L o) L (.int .i64 0) v4 v5 (.int .i64 0) h0 none
theorem ZfV (G:GT)(K:KT)(L:Nat)(x0:AV)(o:HP):fnK G K JS L KC [x0] o=Cf G K L x0 o:=by
 show Z9 G 20 o.length K JS L F3 (Y5 JS KC o) (Y5 JS KC o) [] (Df [x0]) o none=_
 simp only [F3,Yh,ZB,ZC,ZX]
 rw [Zca G K L o ,Zcb G K L o (Ox G K L o) _]
 kernel_rfl
theorem Zin {C:Cfg}{x0:AV}:RunT C Ob KC [x0] (fun K=>Cf C.G K C.L x0):=runT rfl fun _ _=>ZfV ..
def Jr (G:GT)(K:KT)(L:Nat)(o:HP)(q:HP)(g:Eff):KR :=
  some (Z6 false o (.int .i64 0) q g)
theorem Nf (G:GT)(K:KT)(L:Nat)(o:HP) :Z9 G 29 o.length K Q8 L Lt (Y5 Q8 XE o) (Y5 Q8 XE o) []=fun e q g=>Jr G K L o  q g:=by kernel_rfl
def XK (G:GT)(K:KT)(L:Nat)(o:HP)(k0:HP→Eff→KR):Nat→AV→AV→AV→AV→HP→Eff→KR
  | 0,_,_,_,_,_,_=>none
  | m + 1,x2,x16,x17,x18,q,g=>Zc (Zd .lss .prim x18 x17) fun v13=>ifK v13 (Zc (Qf (.slice 4) x16 x18) fun v14=>Zc (Z8 q 4 v14) fun v15=>JE (q ++ [.cells [(.int .i64 0),(.str []),(.int .i64 0),(.own 4 [])] Qm]) fun h16=>GQ (stV o.length 4 (.ptr (q).length 0) v15 h16 g) fun h17 f18=>Zc (Z8 h17 1 x2) fun v19=>Zc (Z8 h17 4 (.ptr (q).length 0)) fun v20=>Qg (K VE [v19,v20] h17) fun v21 h22 f23=>Zc (Zd .neq .prim (AV.ro v21) (.int .i64 0)) fun v24=>ifK v24 (some (Z6 false o v21 h22 (Ze o.length f18 f23))) (Zc (Zd .add .prim x18 (.int .i64 1)) fun v25=>XK G K L o k0 m x2 x16 x17 v25 h22 (Ze o.length f18 f23))) (k0  q g)
theorem Nh (G:GT)(K:KT)(L:Nat)(o:HP)(k0:HP→Eff→KR) :∀ m,VW (fun n'=>Z9 G 29 o.length K Q8 L MJ n' (Y5 Q8 XE o) [(0,(fun e q g=>k0 q g))]) m=fun e q g=>XK G K L o k0 m (e 2).rd (e 16).rd (e 17).rd (e 18).rd q g:=lpI rfl fun _=>by kernel_rfl
theorem Ng (G:GT)(K:KT)(L:Nat)(o:HP)(k0:HP→Eff→KR)(zn:Kj):Z9 G 29 o.length K Q8 L Lu zn (Y5 Q8 XE o) [(0,(fun e q g=>k0 q g))]=fun e q g=>XK G K L o k0 L (e 2).rd (e 16).rd (e 17).rd (e 18).rd q g:=Nh G K L o k0 L
def Mh (G:GT)(K:KT)(L:Nat)(x0 x1:AV)(o:HP):KR :=
  Zc (GA 1 (AV.ro x0)) fun v1=>JE (o ++ [.cells v1 Hr]) fun h0=>Zc (GA 4 (AV.ro x1)) fun v3=>JE (h0 ++ [.cells v3 Qm]) fun h2=>Zc (Z8 h2 1 (.ptr (o).length 0)) fun v4=>Zc (Z8 h2 4 (.ptr (h0).length 0)) fun v5=>Qg (K M6 [v4,v5] h2) fun v6 h7 f8=>Zc (Zd .neq .prim (AV.ro v6) (.int .i64 0)) fun v9=>ifK v9 (some (Z6 false o v6 h7 (Ze o.length none f8))) (Zc (Zp 3 (.ptr (h0).length 0)) fun v10=>Zc (Zf h7 v10) fun v11=>Zc (Yy h7 .slice v11) fun v12=>XK G K L o (Jr G K L o) L (.ptr (o).length 0) v11 v12 (.int .i64 0) h7 (Ze o.length none f8))
theorem A8 (G:GT)(K:KT)(L:Nat)(x0 x1:AV)(o:HP):fnK G K Q8 L XE [x0,x1] o=Mh G K L x0 x1 o:=by
 show Z9 G 29 o.length K Q8 L Md (Y5 Q8 XE o) (Y5 Q8 XE o) [] (Df [x0,x1]) o none=_
 simp only [Md,Yh,ZB,ZC,ZX]
 rw [Nf G K L o ,Ng G K L o (Jr G K L o) _]
 kernel_rfl
theorem Ff {C:Cfg}{x0 x1:AV}:RunT C VE XE [x0,x1] (fun K=>Mh C.G K C.L x0 x1):=runT rfl fun _ _=>A8 ..
def MP (G:GT)(K:KT)(L:Nat)(x0 x1:AV)(o:HP):KR :=
  Zc (GA 1 (AV.ro x0)) fun v1=>JE (o ++ [.cells v1 Hr]) fun h0=>Zc (GA 4 (AV.ro x1)) fun v3=>JE (h0 ++ [.cells v3 Qm]) fun h2=>Zc (Z8 h2 1 (.ptr (o).length 0)) fun v4=>Zc (Zp 0 (.ptr (h0).length 0)) fun v5=>Zc (Zf h2 v5) fun v6=>Qg (Vf K TY [v4,v6] h2) fun v7 h8 f9=>Zc (JG .not (AV.ro v7)) fun v10=>Uq v10 false (Zc (Zp 3 (.ptr (h0).length 0)) fun v11=>Zc (Zf h8 v11) fun v12=>Zc (Yy h8 .slice v12) fun v13=>Zc (Zp 0 (.ptr (h0).length 0)) fun v14=>Zc (Zf h8 v14) fun v15=>Qg (Vf K BJ [v15] h8) fun v16 h17 f18=>Zc (Zd .neq .prim v13 (AV.ro v16)) fun v19=>some (v19,h17,(Ze o.length (Ze o.length none f9) f18))) (some (.bool true)) h8 (Ze o.length none f9) fun v20 h21 f22=>Uq (AV.ro v20) false (Zc (Zp 1 (.ptr (h0).length 0)) fun v23=>Zc (Zf h21 v23) fun v24=>Zc (Zd .neq .prim v24 (.str [])) fun v25=>Uq v25 true (Zc (Z8 h21 1 (.ptr (o).length 0)) fun v26=>Zc (Zp 0 (.ptr (h0).length 0)) fun v27=>Zc (Zf h21 v27) fun v28=>Qg (Vf K Ht [v26,v28] h21) fun v29 h30 f31=>Zc (JG .not (AV.ro v29)) fun v32=>some (v32,h30,(Ze o.length f22 f31))) (some (.bool false)) h21 f22 fun v33 h34 f35=>some ((AV.ro v33),h34,f35)) (some (.bool true)) h21 f22 fun v36 h37 f38=>ifK (AV.ro v36) (some (Z6 false o (.int .i64 1) h37 f38)) (Zc (Zp 0 (.ptr (h0).length 0)) fun v39=>Zc (Zf h37 v39) fun v40=>Zc (Zd .eql .prim v40 (.int .i64 1)) fun v41=>ifK v41 (Zc (Zp 2 (.ptr (h0).length 0)) fun v42=>Zc (Zf h37 v42) fun v43=>Qg (K Zaj [v43] h37) fun v44 h45 f46=>Zc (JG .not (AV.ro v44)) fun v47=>ifK v47 (some (Z6 false o (.int .i64 2) h45 (Ze o.length f38 f46))) (some (Z6 false o (.int .i64 0) h45 (Ze o.length f38 f46)))) (Zc (Z8 h37 1 (.ptr (o).length 0)) fun v48=>Zc (Zp 0 (.ptr (h0).length 0)) fun v49=>Zc (Zf h37 v49) fun v50=>Qg (K Oa [v48,v50] h37) fun v51 h52 f53=>Zc (Jk (AV.ro v51) 0) fun v54=>Zc (Jk (AV.ro v51) 1) fun v55=>Zc (Jk (AV.ro v51) 2) fun v56=>Zc (JG .not v56) fun v57=>Uq v57 true (Zc (Zp 2 (.ptr (h0).length 0)) fun v58=>Zc (Zf h52 v58) fun v59=>Zc (Zd .neq .prim v59 (.int .i64 0)) fun v60=>some (v60,h52,(Ze o.length f38 f53))) (some (.bool false)) h52 (Ze o.length f38 f53) fun v61 h62 f63=>ifK (AV.ro v61) (some (Z6 false o (.int .i64 1) h62 f63)) (Uq v56 true (Zc (Zp 2 (.ptr (h0).length 0)) fun v64=>Zc (Zf h62 v64) fun v65=>Zc (Zd .lss .prim v65 v54) fun v66=>Uq v66 false (Zc (Zp 2 (.ptr (h0).length 0)) fun v67=>Zc (Zf h62 v67) fun v68=>Zc (Zd .gtr .prim v68 v55) fun v69=>some (v69,h62,f63)) (some (.bool true)) h62 f63 fun v70 h71 f72=>some ((AV.ro v70),h71,f72)) (some (.bool false)) h62 f63 fun v73 h74 f75=>ifK (AV.ro v73) (some (Z6 false o (.int .i64 2) h74 f75)) (Zc (Z8 h74 1 (.ptr (o).length 0)) fun v76=>Zc (Zp 0 (.ptr (h0).length 0)) fun v77=>Zc (Zf h74 v77) fun v78=>Qg (K Ht [v76,v78] h74) fun v79 h80 f81=>ifK (AV.ro v79) (Zc (Zp 1 (.ptr (h0).length 0)) fun v82=>Zc (Zf h80 v82) fun v83=>Qg (K K9 [v83] h80) fun v84 h85 f86=>some (Z6 false o v84 h85 (Ze o.length (Ze o.length f75 f81) f86))) (some (Z6 false o (.int .i64 0) h80 (Ze o.length f75 f81)))))))
theorem Cb (G:GT)(K:KT)(L:Nat)(x0 x1:AV)(o:HP):fnK G K ZcZ L MI [x0,x1] o=MP G K L x0 x1 o:=by kernel_rfl
theorem Zas {C:Cfg}{x0 x1:AV}:RunT C M6 MI [x0,x1] (fun K=>MP C.G K C.L x0 x1):=runT rfl fun _ _=>Cb ..
def Mf (G:GT)(K:KT)(L:Nat)(x0 x1:AV)(o:HP):KR :=
  Zc (GA 1 (AV.ro x0)) fun v1=>JE (o ++ [.cells v1 Hr]) fun h0=>Zc (Zd .eql .prim (AV.ro x1) (.int .i64 3)) fun v2=>ifK v2 (Zc (Zp 0 (.ptr (o).length 0)) fun v3=>Zc (Zf h0 v3) fun v4=>Zc (JG .not v4) fun v5=>some (Z6 false o v5 h0 none)) (Zc (Zd .eql .prim (AV.ro x1) (.int .i64 25)) fun v6=>ifK v6 (ifK v6 (Zc (Zp 0 (.ptr (o).length 0)) fun v7=>Zc (Zf h0 v7) fun v8=>some (Z6 false o v8 h0 none)) (Qg (K BJ [(AV.ro x1)] h0) fun v9 h10 f11=>Zc (Zd .geq .prim (AV.ro v9) (.int .i64 0)) fun v12=>some (Z6 false o v12 h10 (Ze o.length none f11)))) (Zc (Zd .eql .prim (AV.ro x1) (.int .i64 26)) fun v13=>ifK v13 (Zc (Zp 0 (.ptr (o).length 0)) fun v14=>Zc (Zf h0 v14) fun v15=>some (Z6 false o v15 h0 none)) (Qg (K BJ [(AV.ro x1)] h0) fun v16 h17 f18=>Zc (Zd .geq .prim (AV.ro v16) (.int .i64 0)) fun v19=>some (Z6 false o v19 h17 (Ze o.length none f18)))))
theorem Az (G:GT)(K:KT)(L:Nat)(x0 x1:AV)(o:HP):fnK G K ZbN L Ma [x0,x1] o=Mf G K L x0 x1 o:=by kernel_rfl
theorem Fb {C:Cfg}{x0 x1:AV}:RunT C TY Ma [x0,x1] (fun K=>Mf C.G K C.L x0 x1):=runT rfl fun _ _=>Az ..
def Zbk (G:GT)(K:KT)(L:Nat)(x0:AV)(o:HP):KR :=
  Zc (Zd .eql .prim (AV.ro x0) (.int .i64 1)) fun v0=>Uq v0 false (Zc (Zd .eql .prim (AV.ro x0) (.int .i64 2)) fun v1=>some (v1,o,none)) (some (.bool true)) o none fun v2 h3 f4=>Uq (AV.ro v2) false (Zc (Zd .eql .prim (AV.ro x0) (.int .i64 3)) fun v5=>some (v5,h3,f4)) (some (.bool true)) h3 f4 fun v6 h7 f8=>Uq (AV.ro v6) false (Zc (Zd .eql .prim (AV.ro x0) (.int .i64 4)) fun v9=>some (v9,h7,f8)) (some (.bool true)) h7 f8 fun v10 h11 f12=>ifK (AV.ro v10) (some (Z6 false o (.int .i64 0) h11 f12)) (Zc (Zd .geq .prim (AV.ro x0) (.int .i64 5)) fun v13=>Uq v13 true (Zc (Zd .leq .prim (AV.ro x0) (.int .i64 8)) fun v14=>some (v14,h11,f12)) (some (.bool false)) h11 f12 fun v15 h16 f17=>ifK (AV.ro v15) (some (Z6 false o (.int .i64 1) h16 f17)) (Zc (Zd .geq .prim (AV.ro x0) (.int .i64 9)) fun v18=>Uq v18 true (Zc (Zd .leq .prim (AV.ro x0) (.int .i64 21)) fun v19=>some (v19,h16,f17)) (some (.bool false)) h16 f17 fun v20 h21 f22=>ifK (AV.ro v20) (some (Z6 false o (.int .i64 2) h21 f22)) (Zc (Zd .geq .prim (AV.ro x0) (.int .i64 22)) fun v23=>Uq v23 true (Zc (Zd .leq .prim (AV.ro x0) (.int .i64 26)) fun v24=>some (v24,h21,f22)) (some (.bool false)) h21 f22 fun v25 h26 f27=>ifK (AV.ro v25) (some (Z6 false o (.int .i64 0) h26 f27)) (some (Z6 false o (.int .i64 (-1)) h26 f27)))))
theorem ZhW (G:GT)(K:KT)(L:Nat)(x0:AV)(o:HP):fnK G K ZmE L ZaV [x0] o=Zbk G K L x0 o:=by kernel_rfl
theorem ZjQ {C:Cfg}{x0:AV}:RunT C BJ ZaV [x0] (fun K=>Zbk C.G K C.L x0):=runT rfl fun _ _=>ZhW ..
def Mg (G:GT)(K:KT)(L:Nat)(x0 x1:AV)(o:HP):KR :=
  Zc (GA 1 (AV.ro x0)) fun v1=>JE (o ++ [.cells v1 Hr]) fun h0=>Zc (Zd .eql .prim (AV.ro x1) (.int .i64 3)) fun v2=>Uq v2 false (Qg (K Bn [(AV.ro x1)] h0) fun v3 h4 f5=>Uq (AV.ro v3) true (Zc (Zp 0 (.ptr (o).length 0)) fun v6=>Zc (Zf h4 v6) fun v7=>Zc (JG .not v7) fun v8=>some (v8,h4,(Ze o.length none f5))) (some (.bool false)) h4 (Ze o.length none f5) fun v9 h10 f11=>some ((AV.ro v9),h10,f11)) (some (.bool true)) h0 none fun v12 h13 f14=>some (Z6 false o v12 h13 f14)
theorem A7 (G:GT)(K:KT)(L:Nat)(x0 x1:AV)(o:HP):fnK G K ZbO L Mc [x0,x1] o=Mg G K L x0 x1 o:=by kernel_rfl
theorem Fe {C:Cfg}{x0 x1:AV}:RunT C Ht Mc [x0,x1] (fun K=>Mg C.G K C.L x0 x1):=runT rfl fun _ _=>A7 ..
def Ow (G:GT)(K:KT)(L:Nat)(x0 x1:AV)(o:HP):KR :=
  Zc (GA 1 (AV.ro x0)) fun v1=>JE (o ++ [.cells v1 Hr]) fun h0=>Zc (Zd .eql .prim (AV.ro x1) (.int .i64 2)) fun v2=>ifK v2 (some (Z6 false o (.tup [(AV.nm (.int .i64 0)),(AV.nm (.int .i64 1)),(AV.nm (.bool true))]) h0 none)) (Zc (Zd .eql .prim (AV.ro x1) (.int .i64 25)) fun v3=>ifK v3 (some (Z6 false o (.tup [(AV.nm (.int .i64 0)),(AV.nm (.int .i64 15)),(AV.nm (.bool true))]) h0 none)) (Zc (Zd .eql .prim (AV.ro x1) (.int .i64 26)) fun v4=>ifK v4 (some (Z6 false o (.tup [(AV.nm (.int .i64 0)),(AV.nm (.int .i64 31)),(AV.nm (.bool true))]) h0 none)) (Qg (K Bn [(AV.ro x1)] h0) fun v5 h6 f7=>Uq (AV.ro v5) true (Zc (Zp 0 (.ptr (o).length 0)) fun v8=>Zc (Zf h6 v8) fun v9=>some (v9,h6,(Ze o.length none f7))) (some (.bool false)) h6 (Ze o.length none f7) fun v10 h11 f12=>ifK (AV.ro v10) (some (Z6 false o (.tup [(AV.nm (.int .i64 0)),(AV.nm (.int .i64 63)),(AV.nm (.bool true))]) h11 f12)) (some (Z6 false o (.tup [(AV.nm (.int .i64 0)),(AV.nm (.int .i64 0)),(AV.nm (.bool false))]) h11 f12)))))
theorem NU (G:GT)(K:KT)(L:Nat)(x0 x1:AV)(o:HP):fnK G K CV L Oi [x0,x1] o=Ow G K L x0 x1 o:=by kernel_rfl
theorem Eb {C:Cfg}{x0 x1:AV}:RunT C Oa Oi [x0,x1] (fun K=>Ow C.G K C.L x0 x1):=runT rfl fun _ _=>NU ..
def Ew (G:GT)(K:KT)(L:Nat)(x0:AV)(o:HP):KR :=
  Zc (Zd .geq .prim (AV.ro x0) (.int .i64 22)) fun v0=>Uq v0 true (Zc (Zd .leq .prim (AV.ro x0) (.int .i64 24)) fun v1=>some (v1,o,none)) (some (.bool false)) o none fun v2 h3 f4=>some (Z6 false o v2 h3 f4)
theorem ZeF (G:GT)(K:KT)(L:Nat)(x0:AV)(o:HP):fnK G K Zkh L Ed [x0] o=Ew G K L x0 o:=by kernel_rfl
theorem Zg6 {C:Cfg}{x0:AV}:RunT C Bn Ed [x0] (fun K=>Ew C.G K C.L x0):=runT rfl fun _ _=>ZeF ..
end Go.Proofs.YtlmfmmclnboglaaGreat
end
section
namespace Go.Proofs.YtlmfmmclnboglaaGreat
open Go Go.RowKit Go.Proofs.YtlmfmmclnboglaaGreat.Abs
set_option linter.all false
set_option maxRecDepth 100000
def cT (f:FuncId):Option AFn:=(tab.find? (·.1 == f)).map (·.2)
structure Ud (C:Cfg):Prop where
 T:C.T=cT
 L:9223372036854775808≤C.L
 G:∀ (n:Int) (hp:List Zk),0≤n→n≤1000→C.T XD=none∧C.O XD [.own 2 [],.int .i64 n] hp=some (.own 2 [],hp,none)
def nameOf:List AV→List UInt8
 | .str s :: _=>s
 | _=>[]
def isN (name:List UInt8)(r:List AV):Bool:=decide (nameOf r=name)
def Xb (p:List AV→Bool):List (List AV)→Nat→Int
 | [],_=>-1
 | r :: rs,i=>if p r=true then (i:Int) else Xb p rs (i + 1)
def Zdh (W:Nat)(rows:List (List AV)):Prop:=rows.length≤8796093022208∧∀ r ∈ rows,r.length=W∧r.map AV.ro=r∧r=.str (nameOf r) :: r.tail
theorem Pv (K:FuncId→List AV→List Zk→KR)(f:FuncId)(c:List AV)(args:List AV)(hp:List Zk):Vh K (.fn f [] c) args hp=K f (args ++ c.map AV.nm) hp:=rfl
section
variable {C:Cfg}(hC:Ud C)
include hC
theorem Ho (n:Nat)(hp0:List Zk)(fv:AV)(p:List AV→Bool)(rows:List (List AV))(hl:rows.length≤4611686018427387)(hrow:∀ r ∈ rows,r.length=3∧r.map AV.ro=r)(hf:∀ r ∈ rows,Vh (Za C n) fv [.agg r] hp0=some (.bool (p r),hp0,none)):∀ (r q:List (List AV)) (m:Nat),rows=q ++ r→r.length < m →
  Yf C.G (Za C n) C.L hp0 (WS C.G (Za C n) C.L hp0) m (.lst 3 rows) fv (.int .i64 rows.length) (.int .i64 q.length) hp0 none=some (.int .i64 (Xb p r q.length),hp0,none)
 | _,_,0,_,h=>by omega
 | [],q,m + 1,hs,_=>by
  have hlen:(rows.length:Int)=q.length:=by rw [hs]; simp
  simp only [Yf,WS,Wm,Wj,Wl,Xo,ZN,ZM,Zz,Zy,Yq,Yp,Xn,Zg,Wq,ZP,ZQ,Ym,YU,YW,YT,YV,YS,YX,Yr,Ws,Wy,Wt,Wv,Wp,Wz,Ww,Wu,Wx,Xw,ZR,Yo,YY,Wi,YZ,We,Y4,Wh,Wd,Xr,Xe,Xk,Xh,Gz,G9,G8,G7,G6,G5,GU,GV,Xt,Xv,Wo,Xu,GR,Xg,Xj,Xf,Xi,Option.map_some,Xy,Xx,Xq,Xp,Xl,Xz,Zm,ZI,Yi,Yl,Yj,Yk,Yg,ZJ,ZL,Zx,ZK,YR,YQ,Yn,hlen,Int.lt_irrefl,decide_false,Bool.false_eq_true,if_false,Xb]
 | x :: r,q,m + 1,hs,hm=>by
  have hlen:(rows.length:Int)=q.length + (r.length + 1):=by rw [hs]; simp
  have hlt:(q.length:Int) < q.length + (r.length + 1):=by omega
  have hql:q.length + (r.length + 1)≤4611686018427387:=by rw [hs] at hl; simpa using hl
  have hg:rows[q.length]? = some x:=by rw [hs]; simp
  have hmem:x ∈ rows:=by rw [hs]; simp
  obtain ⟨w1,w2⟩:=hrow x hmem
  have hro:(x.take 3).map AV.ro=x:=by rw [List.take_of_length_le (by omega),w2]
  have hc:=hf x hmem
  have ih:=Ho n hp0 fv p rows hl hrow hf r (q ++ [x]) m (by rw [hs]; simp) (by simpa using hm)
  simp only [List.length_append,List.length_cons,List.length_nil,Nat.zero_add] at ih
  rw [hlen] at ih ⊢
  have hwr:=U6 q.length (by omega)
  have hld:=EE hp0 3 x (by omega)
  cases hpx:p x with
  | true =>
   rw [hpx] at hc
   simp only [Yf,Wm,Wj,Wl,Xo,ZN,ZM,Zz,Zy,Yq,Yp,Xn,Zg,Wq,ZP,ZQ,Ym,YU,YW,YT,YV,YS,YX,Yr,Ws,Wy,Wt,Wv,Wp,Wz,Ww,Wu,Wx,Xw,ZR,Yo,YY,Wi,YZ,We,Y4,Wh,Wd,Xr,Xe,Xk,Xh,Gz,G9,G8,G7,G6,G5,GU,GV,Xt,Xv,Wo,Xu,GR,Xg,Xj,Xf,Xi,Option.map_some,Xy,Xx,Xq,Xp,Xl,Xz,Zm,ZI,Yi,Yl,Yj,Yk,Yg,ZJ,ZL,Zx,ZK,YR,YQ,Yn,hlt,decide_true,if_true,Qd,hg,hld,hro,hc,Xb,hpx]
  | false =>
   rw [hpx] at hc
   simp only [Yf,Wm,Wj,Wl,Xo,ZN,ZM,Zz,Zy,Yq,Yp,Xn,Zg,Wq,ZP,ZQ,Ym,YU,YW,YT,YV,YS,YX,Yr,Ws,Wy,Wt,Wv,Wp,Wz,Ww,Wu,Wx,Xw,ZR,Yo,YY,Wi,YZ,We,Y4,Wh,Wd,Xr,Xe,Xk,Xh,Gz,G9,G8,G7,G6,G5,GU,GV,Xt,Xv,Wo,Xu,GR,Xg,Xj,Xf,Xi,Option.map_some,Xy,Xx,Xq,Xp,Xl,Xz,Zm,ZI,Yi,Yl,Yj,Yk,Yg,ZJ,ZL,Zx,ZK,YR,YQ,Yn,hlt,decide_true,if_true,Qd,hg,hld,hro,hc,Xb,hpx,Bool.false_eq_true,if_false,hwr]
   exact ih
theorem NB (n:Nat)(hp:List Zk)(f:FuncId)(c:List AV)(p:List AV→Bool)(rows:List (List AV))(hl:rows.length≤4611686018427387)(hrow:∀ r ∈ rows,r.length=3∧r.map AV.ro=r)(hf:∀ r ∈ rows,Za C n f ([.agg r] ++ c.map AV.nm) hp=some (.bool (p r),hp,none)) :
  Za C (n + 1) Vk [.lst 3 rows,.fn f [] c] hp=some (.int .i64 (Xb p rows 0),hp,none):=by
 refine IZ (by rw [hC.T]; rfl) ?_
 have h:=Ho hC n hp (.fn f [] c) p rows hl hrow (fun r hr=>by rw [Pv]; exact hf r hr) rows [] C.L rfl (by have:=hC.L; omega)
 simp only [Vn,Wm,Wj,Wl,Xo,ZN,ZM,Zz,Zy,Yq,Yp,Xn,Zg,Wq,ZP,ZQ,Ym,YU,YW,YT,YV,YS,YX,Yr,Ws,Wy,Wt,Wv,Wp,Wz,Ww,Wu,Wx,Xw,ZR,Yo,YY,Wi,YZ,We,Y4,Wh,Wd,Xr,Xe,Xk,Xh,Gz,G9,G8,G7,G6,G5,GU,GV,Xt,Xv,Wo,Xu,GR,Xg,Xj,Xf,Xi,Option.map_some,Xy,Xx,Xq,Xp,Xl,Xz,Zm,ZI,Yi,Yl,Yj,Yk,Yg,ZJ,ZL,Zx,ZK,YR,YQ,Yn]
 exact h
theorem Ug (n:Nat)(hp0:List Zk)(fv:AV)(p:List AV→Bool)(rows:List (List AV))(hl:rows.length≤4611686018427387)(hrow:∀ r ∈ rows,r.length=13∧r.map AV.ro=r)(hf:∀ r ∈ rows,Vh (Za C n) fv [.agg r] hp0=some (.bool (p r),hp0,none)):∀ (r q:List (List AV)) (m:Nat),rows=q ++ r→r.length < m →
  ZU C.G (Za C n) C.L hp0 (YC C.G (Za C n) C.L hp0) m (.lst 13 rows) fv (.int .i64 rows.length) (.int .i64 q.length) hp0 none=some (.int .i64 (Xb p r q.length),hp0,none)
 | _,_,0,_,h=>by omega
 | [],q,m + 1,hs,_=>by
  have hlen:(rows.length:Int)=q.length:=by rw [hs]; simp
  simp only [ZU,YC,Wm,Wj,Wl,Xo,ZN,ZM,Zz,Zy,Yq,Yp,Xn,Zg,Wq,ZP,ZQ,Ym,YU,YW,YT,YV,YS,YX,Yr,Ws,Wy,Wt,Wv,Wp,Wz,Ww,Wu,Wx,Xw,ZR,Yo,YY,Wi,YZ,We,Y4,Wh,Wd,Xr,Xe,Xk,Xh,Gz,G9,G8,G7,G6,G5,GU,GV,Xt,Xv,Wo,Xu,GR,Xg,Xj,Xf,Xi,Option.map_some,Xy,Xx,Xq,Xp,Xl,Xz,Zm,ZI,Yi,Yl,Yj,Yk,Yg,ZJ,ZL,Zx,ZK,YR,YQ,Yn,hlen,Int.lt_irrefl,decide_false,Bool.false_eq_true,if_false,Xb]
 | x :: r,q,m + 1,hs,hm=>by
  have hlen:(rows.length:Int)=q.length + (r.length + 1):=by rw [hs]; simp
  have hlt:(q.length:Int) < q.length + (r.length + 1):=by omega
  have hql:q.length + (r.length + 1)≤4611686018427387:=by rw [hs] at hl; simpa using hl
  have hg:rows[q.length]? = some x:=by rw [hs]; simp
  have hmem:x ∈ rows:=by rw [hs]; simp
  obtain ⟨w1,w2⟩:=hrow x hmem
  have hro:(x.take 13).map AV.ro=x:=by rw [List.take_of_length_le (by omega),w2]
  have hc:=hf x hmem
  have ih:=Ug n hp0 fv p rows hl hrow hf r (q ++ [x]) m (by rw [hs]; simp) (by simpa using hm)
  simp only [List.length_append,List.length_cons,List.length_nil,Nat.zero_add] at ih
  rw [hlen] at ih ⊢
  have hwr:=U6 q.length (by omega)
  have hld:=EE hp0 13 x (by omega)
  cases hpx:p x with
  | true =>
   rw [hpx] at hc
   simp only [ZU,Wm,Wj,Wl,Xo,ZN,ZM,Zz,Zy,Yq,Yp,Xn,Zg,Wq,ZP,ZQ,Ym,YU,YW,YT,YV,YS,YX,Yr,Ws,Wy,Wt,Wv,Wp,Wz,Ww,Wu,Wx,Xw,ZR,Yo,YY,Wi,YZ,We,Y4,Wh,Wd,Xr,Xe,Xk,Xh,Gz,G9,G8,G7,G6,G5,GU,GV,Xt,Xv,Wo,Xu,GR,Xg,Xj,Xf,Xi,Option.map_some,Xy,Xx,Xq,Xp,Xl,Xz,Zm,ZI,Yi,Yl,Yj,Yk,Yg,ZJ,ZL,Zx,ZK,YR,YQ,Yn,hlt,decide_true,if_true,Qd,hg,hld,hro,hc,Xb,hpx]
  | false =>
   rw [hpx] at hc
   simp only [ZU,Wm,Wj,Wl,Xo,ZN,ZM,Zz,Zy,Yq,Yp,Xn,Zg,Wq,ZP,ZQ,Ym,YU,YW,YT,YV,YS,YX,Yr,Ws,Wy,Wt,Wv,Wp,Wz,Ww,Wu,Wx,Xw,ZR,Yo,YY,Wi,YZ,We,Y4,Wh,Wd,Xr,Xe,Xk,Xh,Gz,G9,G8,G7,G6,G5,GU,GV,Xt,Xv,Wo,Xu,GR,Xg,Xj,Xf,Xi,Option.map_some,Xy,Xx,Xq,Xp,Xl,Xz,Zm,ZI,Yi,Yl,Yj,Yk,Yg,ZJ,ZL,Zx,ZK,YR,YQ,Yn,hlt,decide_true,if_true,Qd,hg,hld,hro,hc,Xb,hpx,Bool.false_eq_true,if_false,hwr]
   exact ih
theorem Lb (n:Nat)(hp:List Zk)(f:FuncId)(c:List AV)(p:List AV→Bool)(rows:List (List AV))(hl:rows.length≤4611686018427387)(hrow:∀ r ∈ rows,r.length=13∧r.map AV.ro=r)(hf:∀ r ∈ rows,Za C n f ([.agg r] ++ c.map AV.nm) hp=some (.bool (p r),hp,none)) :
  Za C (n + 1) QV [.lst 13 rows,.fn f [] c] hp=some (.int .i64 (Xb p rows 0),hp,none):=by
 refine KX (by rw [hC.T]; rfl) ?_
 have h:=Ug hC n hp (.fn f [] c) p rows hl hrow (fun r hr=>by rw [Pv]; exact hf r hr) rows [] C.L rfl (by have:=hC.L; omega)
 simp only [QZ,Wm,Wj,Wl,Xo,ZN,ZM,Zz,Zy,Yq,Yp,Xn,Zg,Wq,ZP,ZQ,Ym,YU,YW,YT,YV,YS,YX,Yr,Ws,Wy,Wt,Wv,Wp,Wz,Ww,Wu,Wx,Xw,ZR,Yo,YY,Wi,YZ,We,Y4,Wh,Wd,Xr,Xe,Xk,Xh,Gz,G9,G8,G7,G6,G5,GU,GV,Xt,Xv,Wo,Xu,GR,Xg,Xj,Xf,Xi,Option.map_some,Xy,Xx,Xq,Xp,Xl,Xz,Zm,ZI,Yi,Yl,Yj,Yk,Yg,ZJ,ZL,Zx,ZK,YR,YQ,Yn]
 exact h
theorem UC (n:Nat)(hp0:List Zk)(fv:AV)(p:List AV→Bool)(rows:List (List AV))(hl:rows.length≤4611686018427387)(hrow:∀ r ∈ rows,r.length=4∧r.map AV.ro=r)(hf:∀ r ∈ rows,Vh (Za C n) fv [.agg r] hp0=some (.bool (p r),hp0,none)):∀ (r q:List (List AV)) (m:Nat),rows=q ++ r→r.length < m →
  ZW C.G (Za C n) C.L hp0 (YJ C.G (Za C n) C.L hp0) m (.lst 4 rows) fv (.int .i64 rows.length) (.int .i64 q.length) hp0 none=some (.int .i64 (Xb p r q.length),hp0,none)
 | _,_,0,_,h=>by omega
 | [],q,m + 1,hs,_=>by
  have hlen:(rows.length:Int)=q.length:=by rw [hs]; simp
  simp only [ZW,YJ,Wm,Wj,Wl,Xo,ZN,ZM,Zz,Zy,Yq,Yp,Xn,Zg,Wq,ZP,ZQ,Ym,YU,YW,YT,YV,YS,YX,Yr,Ws,Wy,Wt,Wv,Wp,Wz,Ww,Wu,Wx,Xw,ZR,Yo,YY,Wi,YZ,We,Y4,Wh,Wd,Xr,Xe,Xk,Xh,Gz,G9,G8,G7,G6,G5,GU,GV,Xt,Xv,Wo,Xu,GR,Xg,Xj,Xf,Xi,Option.map_some,Xy,Xx,Xq,Xp,Xl,Xz,Zm,ZI,Yi,Yl,Yj,Yk,Yg,ZJ,ZL,Zx,ZK,YR,YQ,Yn,hlen,Int.lt_irrefl,decide_false,Bool.false_eq_true,if_false,Xb]
 | x :: r,q,m + 1,hs,hm=>by
  have hlen:(rows.length:Int)=q.length + (r.length + 1):=by rw [hs]; simp
  have hlt:(q.length:Int) < q.length + (r.length + 1):=by omega
  have hql:q.length + (r.length + 1)≤4611686018427387:=by rw [hs] at hl; simpa using hl
  have hg:rows[q.length]? = some x:=by rw [hs]; simp
  have hmem:x ∈ rows:=by rw [hs]; simp
  obtain ⟨w1,w2⟩:=hrow x hmem
  have hro:(x.take 4).map AV.ro=x:=by rw [List.take_of_length_le (by omega),w2]
  have hc:=hf x hmem
  have ih:=UC n hp0 fv p rows hl hrow hf r (q ++ [x]) m (by rw [hs]; simp) (by simpa using hm)
  simp only [List.length_append,List.length_cons,List.length_nil,Nat.zero_add] at ih
  rw [hlen] at ih ⊢
  have hwr:=U6 q.length (by omega)
  have hld:=EE hp0 4 x (by omega)
  cases hpx:p x with
  | true =>
   rw [hpx] at hc
   simp only [ZW,Wm,Wj,Wl,Xo,ZN,ZM,Zz,Zy,Yq,Yp,Xn,Zg,Wq,ZP,ZQ,Ym,YU,YW,YT,YV,YS,YX,Yr,Ws,Wy,Wt,Wv,Wp,Wz,Ww,Wu,Wx,Xw,ZR,Yo,YY,Wi,YZ,We,Y4,Wh,Wd,Xr,Xe,Xk,Xh,Gz,G9,G8,G7,G6,G5,GU,GV,Xt,Xv,Wo,Xu,GR,Xg,Xj,Xf,Xi,Option.map_some,Xy,Xx,Xq,Xp,Xl,Xz,Zm,ZI,Yi,Yl,Yj,Yk,Yg,ZJ,ZL,Zx,ZK,YR,YQ,Yn,hlt,decide_true,if_true,Qd,hg,hld,hro,hc,Xb,hpx]
  | false =>
   rw [hpx] at hc
   simp only [ZW,Wm,Wj,Wl,Xo,ZN,ZM,Zz,Zy,Yq,Yp,Xn,Zg,Wq,ZP,ZQ,Ym,YU,YW,YT,YV,YS,YX,Yr,Ws,Wy,Wt,Wv,Wp,Wz,Ww,Wu,Wx,Xw,ZR,Yo,YY,Wi,YZ,We,Y4,Wh,Wd,Xr,Xe,Xk,Xh,Gz,G9,G8,G7,G6,G5,GU,GV,Xt,Xv,Wo,Xu,GR,Xg,Xj,Xf,Xi,Option.map_some,Xy,Xx,Xq,Xp,Xl,Xz,Zm,ZI,Yi,Yl,Yj,Yk,Yg,ZJ,ZL,Zx,ZK,YR,YQ,Yn,hlt,decide_true,if_true,Qd,hg,hld,hro,hc,Xb,hpx,Bool.false_eq_true,if_false,hwr]
   exact ih
theorem LW (n:Nat)(hp:List Zk)(f:FuncId)(c:List AV)(p:List AV→Bool)(rows:List (List AV))(hl:rows.length≤4611686018427387)(hrow:∀ r ∈ rows,r.length=4∧r.map AV.ro=r)(hf:∀ r ∈ rows,Za C n f ([.agg r] ++ c.map AV.nm) hp=some (.bool (p r),hp,none)) :
  Za C (n + 1) X4 [.lst 4 rows,.fn f [] c] hp=some (.int .i64 (Xb p rows 0),hp,none):=by
 refine Gs (by rw [hC.T]; rfl) ?_
 have h:=UC hC n hp (.fn f [] c) p rows hl hrow (fun r hr=>by rw [Pv]; exact hf r hr) rows [] C.L rfl (by have:=hC.L; omega)
 simp only [X6,Wm,Wj,Wl,Xo,ZN,ZM,Zz,Zy,Yq,Yp,Xn,Zg,Wq,ZP,ZQ,Ym,YU,YW,YT,YV,YS,YX,Yr,Ws,Wy,Wt,Wv,Wp,Wz,Ww,Wu,Wx,Xw,ZR,Yo,YY,Wi,YZ,We,Y4,Wh,Wd,Xr,Xe,Xk,Xh,Gz,G9,G8,G7,G6,G5,GU,GV,Xt,Xv,Wo,Xu,GR,Xg,Xj,Xf,Xi,Option.map_some,Xy,Xx,Xq,Xp,Xl,Xz,Zm,ZI,Yi,Yl,Yj,Yk,Yg,ZJ,ZL,Zx,ZK,YR,YQ,Yn]
 exact h
theorem Gm (n:Nat)(hp0:List Zk)(fv:AV)(p:List AV→Bool)(rows:List (List AV))(hl:rows.length≤4611686018427387)(hrow:∀ r ∈ rows,r.length=3∧r.map AV.ro=r)(hf:∀ r ∈ rows,Vh (Za C n) fv [.agg r] hp0=some (.bool (p r),hp0,none)):∀ (r q:List (List AV)) (m:Nat),rows=q ++ r→r.length < m →
  Yc C.G (Za C n) C.L hp0 (WG C.G (Za C n) C.L hp0) m (.lst 3 rows) fv (.int .i64 rows.length) (.int .i64 q.length) hp0 none=some (.int .i64 (Xb p r q.length),hp0,none)
 | _,_,0,_,h=>by omega
 | [],q,m + 1,hs,_=>by
  have hlen:(rows.length:Int)=q.length:=by rw [hs]; simp
  simp only [Yc,WG,Wm,Wj,Wl,Xo,ZN,ZM,Zz,Zy,Yq,Yp,Xn,Zg,Wq,ZP,ZQ,Ym,YU,YW,YT,YV,YS,YX,Yr,Ws,Wy,Wt,Wv,Wp,Wz,Ww,Wu,Wx,Xw,ZR,Yo,YY,Wi,YZ,We,Y4,Wh,Wd,Xr,Xe,Xk,Xh,Gz,G9,G8,G7,G6,G5,GU,GV,Xt,Xv,Wo,Xu,GR,Xg,Xj,Xf,Xi,Option.map_some,Xy,Xx,Xq,Xp,Xl,Xz,Zm,ZI,Yi,Yl,Yj,Yk,Yg,ZJ,ZL,Zx,ZK,YR,YQ,Yn,hlen,Int.lt_irrefl,decide_false,Bool.false_eq_true,if_false,Xb]
 | x :: r,q,m + 1,hs,hm=>by
  have hlen:(rows.length:Int)=q.length + (r.length + 1):=by rw [hs]; simp
  have hlt:(q.length:Int) < q.length + (r.length + 1):=by omega
  have hql:q.length + (r.length + 1)≤4611686018427387:=by rw [hs] at hl; simpa using hl
  have hg:rows[q.length]? = some x:=by rw [hs]; simp
  have hmem:x ∈ rows:=by rw [hs]; simp
  obtain ⟨w1,w2⟩:=hrow x hmem
  have hro:(x.take 3).map AV.ro=x:=by rw [List.take_of_length_le (by omega),w2]
  have hc:=hf x hmem
  have ih:=Gm n hp0 fv p rows hl hrow hf r (q ++ [x]) m (by rw [hs]; simp) (by simpa using hm)
  simp only [List.length_append,List.length_cons,List.length_nil,Nat.zero_add] at ih
  rw [hlen] at ih ⊢
  have hwr:=U6 q.length (by omega)
  have hld:=EE hp0 3 x (by omega)
  cases hpx:p x with
  | true =>
   rw [hpx] at hc
   simp only [Yc,Wm,Wj,Wl,Xo,ZN,ZM,Zz,Zy,Yq,Yp,Xn,Zg,Wq,ZP,ZQ,Ym,YU,YW,YT,YV,YS,YX,Yr,Ws,Wy,Wt,Wv,Wp,Wz,Ww,Wu,Wx,Xw,ZR,Yo,YY,Wi,YZ,We,Y4,Wh,Wd,Xr,Xe,Xk,Xh,Gz,G9,G8,G7,G6,G5,GU,GV,Xt,Xv,Wo,Xu,GR,Xg,Xj,Xf,Xi,Option.map_some,Xy,Xx,Xq,Xp,Xl,Xz,Zm,ZI,Yi,Yl,Yj,Yk,Yg,ZJ,ZL,Zx,ZK,YR,YQ,Yn,hlt,decide_true,if_true,Qd,hg,hld,hro,hc,Xb,hpx]
  | false =>
   rw [hpx] at hc
   simp only [Yc,Wm,Wj,Wl,Xo,ZN,ZM,Zz,Zy,Yq,Yp,Xn,Zg,Wq,ZP,ZQ,Ym,YU,YW,YT,YV,YS,YX,Yr,Ws,Wy,Wt,Wv,Wp,Wz,Ww,Wu,Wx,Xw,ZR,Yo,YY,Wi,YZ,We,Y4,Wh,Wd,Xr,Xe,Xk,Xh,Gz,G9,G8,G7,G6,G5,GU,GV,Xt,Xv,Wo,Xu,GR,Xg,Xj,Xf,Xi,Option.map_some,Xy,Xx,Xq,Xp,Xl,Xz,Zm,ZI,Yi,Yl,Yj,Yk,Yg,ZJ,ZL,Zx,ZK,YR,YQ,Yn,hlt,decide_true,if_true,Qd,hg,hld,hro,hc,Xb,hpx,Bool.false_eq_true,if_false,hwr]
   exact ih
theorem DK (n:Nat)(hp:List Zk)(f:FuncId)(c:List AV)(p:List AV→Bool)(rows:List (List AV))(hl:rows.length≤4611686018427387)(hrow:∀ r ∈ rows,r.length=3∧r.map AV.ro=r)(hf:∀ r ∈ rows,Za C n f ([.agg r] ++ c.map AV.nm) hp=some (.bool (p r),hp,none)) :
  Za C (n + 1) XP [.lst 3 rows,.fn f [] c] hp=some (.int .i64 (Xb p rows 0),hp,none):=by
 refine Iu (by rw [hC.T]; rfl) ?_
 have h:=Gm hC n hp (.fn f [] c) p rows hl hrow (fun r hr=>by rw [Pv]; exact hf r hr) rows [] C.L rfl (by have:=hC.L; omega)
 simp only [XT,Wm,Wj,Wl,Xo,ZN,ZM,Zz,Zy,Yq,Yp,Xn,Zg,Wq,ZP,ZQ,Ym,YU,YW,YT,YV,YS,YX,Yr,Ws,Wy,Wt,Wv,Wp,Wz,Ww,Wu,Wx,Xw,ZR,Yo,YY,Wi,YZ,We,Y4,Wh,Wd,Xr,Xe,Xk,Xh,Gz,G9,G8,G7,G6,G5,GU,GV,Xt,Xv,Wo,Xu,GR,Xg,Xj,Xf,Xi,Option.map_some,Xy,Xx,Xq,Xp,Xl,Xz,Zm,ZI,Yi,Yl,Yj,Yk,Yg,ZJ,ZL,Zx,ZK,YR,YQ,Yn]
 exact h
theorem VD (n:Nat)(hp0:List Zk)(fv:AV)(p:List AV→Bool)(rows:List (List AV))(hl:rows.length≤4611686018427387)(hrow:∀ r ∈ rows,r.length=17∧r.map AV.ro=r)(hf:∀ r ∈ rows,Vh (Za C n) fv [.agg r] hp0=some (.bool (p r),hp0,none)):∀ (r q:List (List AV)) (m:Nat),rows=q ++ r→r.length < m →
  Z5 C.G (Za C n) C.L hp0 (Yu C.G (Za C n) C.L hp0) m (.lst 17 rows) fv (.int .i64 rows.length) (.int .i64 q.length) hp0 none=some (.int .i64 (Xb p r q.length),hp0,none)
 | _,_,0,_,h=>by omega
 | [],q,m + 1,hs,_=>by
  have hlen:(rows.length:Int)=q.length:=by rw [hs]; simp
  simp only [Z5,Yu,Wm,Wj,Wl,Xo,ZN,ZM,Zz,Zy,Yq,Yp,Xn,Zg,Wq,ZP,ZQ,Ym,YU,YW,YT,YV,YS,YX,Yr,Ws,Wy,Wt,Wv,Wp,Wz,Ww,Wu,Wx,Xw,ZR,Yo,YY,Wi,YZ,We,Y4,Wh,Wd,Xr,Xe,Xk,Xh,Gz,G9,G8,G7,G6,G5,GU,GV,Xt,Xv,Wo,Xu,GR,Xg,Xj,Xf,Xi,Option.map_some,Xy,Xx,Xq,Xp,Xl,Xz,Zm,ZI,Yi,Yl,Yj,Yk,Yg,ZJ,ZL,Zx,ZK,YR,YQ,Yn,hlen,Int.lt_irrefl,decide_false,Bool.false_eq_true,if_false,Xb]
 | x :: r,q,m + 1,hs,hm=>by
  have hlen:(rows.length:Int)=q.length + (r.length + 1):=by rw [hs]; simp
  have hlt:(q.length:Int) < q.length + (r.length + 1):=by omega
  have hql:q.length + (r.length + 1)≤4611686018427387:=by rw [hs] at hl; simpa using hl
  have hg:rows[q.length]? = some x:=by rw [hs]; simp
  have hmem:x ∈ rows:=by rw [hs]; simp
  obtain ⟨w1,w2⟩:=hrow x hmem
  have hro:(x.take 17).map AV.ro=x:=by rw [List.take_of_length_le (by omega),w2]
  have hc:=hf x hmem
  have ih:=VD n hp0 fv p rows hl hrow hf r (q ++ [x]) m (by rw [hs]; simp) (by simpa using hm)
  simp only [List.length_append,List.length_cons,List.length_nil,Nat.zero_add] at ih
  rw [hlen] at ih ⊢
  have hwr:=U6 q.length (by omega)
  have hld:=EE hp0 17 x (by omega)
  cases hpx:p x with
  | true =>
   rw [hpx] at hc
   simp only [Z5,Wm,Wj,Wl,Xo,ZN,ZM,Zz,Zy,Yq,Yp,Xn,Zg,Wq,ZP,ZQ,Ym,YU,YW,YT,YV,YS,YX,Yr,Ws,Wy,Wt,Wv,Wp,Wz,Ww,Wu,Wx,Xw,ZR,Yo,YY,Wi,YZ,We,Y4,Wh,Wd,Xr,Xe,Xk,Xh,Gz,G9,G8,G7,G6,G5,GU,GV,Xt,Xv,Wo,Xu,GR,Xg,Xj,Xf,Xi,Option.map_some,Xy,Xx,Xq,Xp,Xl,Xz,Zm,ZI,Yi,Yl,Yj,Yk,Yg,ZJ,ZL,Zx,ZK,YR,YQ,Yn,hlt,decide_true,if_true,Qd,hg,hld,hro,hc,Xb,hpx]
  | false =>
   rw [hpx] at hc
   simp only [Z5,Wm,Wj,Wl,Xo,ZN,ZM,Zz,Zy,Yq,Yp,Xn,Zg,Wq,ZP,ZQ,Ym,YU,YW,YT,YV,YS,YX,Yr,Ws,Wy,Wt,Wv,Wp,Wz,Ww,Wu,Wx,Xw,ZR,Yo,YY,Wi,YZ,We,Y4,Wh,Wd,Xr,Xe,Xk,Xh,Gz,G9,G8,G7,G6,G5,GU,GV,Xt,Xv,Wo,Xu,GR,Xg,Xj,Xf,Xi,Option.map_some,Xy,Xx,Xq,Xp,Xl,Xz,Zm,ZI,Yi,Yl,Yj,Yk,Yg,ZJ,ZL,Zx,ZK,YR,YQ,Yn,hlt,decide_true,if_true,Qd,hg,hld,hro,hc,Xb,hpx,Bool.false_eq_true,if_false,hwr]
   exact ih
theorem IJ (n:Nat)(hp:List Zk)(f:FuncId)(c:List AV)(p:List AV→Bool)(rows:List (List AV))(hl:rows.length≤4611686018427387)(hrow:∀ r ∈ rows,r.length=17∧r.map AV.ro=r)(hf:∀ r ∈ rows,Za C n f ([.agg r] ++ c.map AV.nm) hp=some (.bool (p r),hp,none)) :
  Za C (n + 1) Qn [.lst 17 rows,.fn f [] c] hp=some (.int .i64 (Xb p rows 0),hp,none):=by
 refine Ub (by rw [hC.T]; rfl) ?_
 have h:=VD hC n hp (.fn f [] c) p rows hl hrow (fun r hr=>by rw [Pv]; exact hf r hr) rows [] C.L rfl (by have:=hC.L; omega)
 simp only [Qp,Wm,Wj,Wl,Xo,ZN,ZM,Zz,Zy,Yq,Yp,Xn,Zg,Wq,ZP,ZQ,Ym,YU,YW,YT,YV,YS,YX,Yr,Ws,Wy,Wt,Wv,Wp,Wz,Ww,Wu,Wx,Xw,ZR,Yo,YY,Wi,YZ,We,Y4,Wh,Wd,Xr,Xe,Xk,Xh,Gz,G9,G8,G7,G6,G5,GU,GV,Xt,Xv,Wo,Xu,GR,Xg,Xj,Xf,Xi,Option.map_some,Xy,Xx,Xq,Xp,Xl,Xz,Zm,ZI,Yi,Yl,Yj,Yk,Yg,ZJ,ZL,Zx,ZK,YR,YQ,Yn]
 exact h
theorem J8 (n:Nat)(hp0:List Zk)(fv:AV)(p:List AV→Bool)(rows:List (List AV))(hl:rows.length≤4611686018427387)(hrow:∀ r ∈ rows,r.length=3∧r.map AV.ro=r)(hf:∀ r ∈ rows,Vh (Za C n) fv [.agg r] hp0=some (.bool (p r),hp0,none)):∀ (r q:List (List AV)) (m:Nat),rows=q ++ r→r.length < m →
  ZF C.G (Za C n) C.L hp0 (Y7 C.G (Za C n) C.L hp0) m (.lst 3 rows) fv (.int .i64 rows.length) (.int .i64 q.length) hp0 none=some (.int .i64 (Xb p r q.length),hp0,none)
 | _,_,0,_,h=>by omega
 | [],q,m + 1,hs,_=>by
  have hlen:(rows.length:Int)=q.length:=by rw [hs]; simp
  simp only [ZF,Y7,Wm,Wj,Wl,Xo,ZN,ZM,Zz,Zy,Yq,Yp,Xn,Zg,Wq,ZP,ZQ,Ym,YU,YW,YT,YV,YS,YX,Yr,Ws,Wy,Wt,Wv,Wp,Wz,Ww,Wu,Wx,Xw,ZR,Yo,YY,Wi,YZ,We,Y4,Wh,Wd,Xr,Xe,Xk,Xh,Gz,G9,G8,G7,G6,G5,GU,GV,Xt,Xv,Wo,Xu,GR,Xg,Xj,Xf,Xi,Option.map_some,Xy,Xx,Xq,Xp,Xl,Xz,Zm,ZI,Yi,Yl,Yj,Yk,Yg,ZJ,ZL,Zx,ZK,YR,YQ,Yn,hlen,Int.lt_irrefl,decide_false,Bool.false_eq_true,if_false,Xb]
 | x :: r,q,m + 1,hs,hm=>by
  have hlen:(rows.length:Int)=q.length + (r.length + 1):=by rw [hs]; simp
  have hlt:(q.length:Int) < q.length + (r.length + 1):=by omega
  have hql:q.length + (r.length + 1)≤4611686018427387:=by rw [hs] at hl; simpa using hl
  have hg:rows[q.length]? = some x:=by rw [hs]; simp
  have hmem:x ∈ rows:=by rw [hs]; simp
  obtain ⟨w1,w2⟩:=hrow x hmem
  have hro:(x.take 3).map AV.ro=x:=by rw [List.take_of_length_le (by omega),w2]
  have hc:=hf x hmem
  have ih:=J8 n hp0 fv p rows hl hrow hf r (q ++ [x]) m (by rw [hs]; simp) (by simpa using hm)
  simp only [List.length_append,List.length_cons,List.length_nil,Nat.zero_add] at ih
  rw [hlen] at ih ⊢
  have hwr:=U6 q.length (by omega)
  have hld:=EE hp0 3 x (by omega)
  cases hpx:p x with
  | true =>
   rw [hpx] at hc
   simp only [ZF,Wm,Wj,Wl,Xo,ZN,ZM,Zz,Zy,Yq,Yp,Xn,Zg,Wq,ZP,ZQ,Ym,YU,YW,YT,YV,YS,YX,Yr,Ws,Wy,Wt,Wv,Wp,Wz,Ww,Wu,Wx,Xw,ZR,Yo,YY,Wi,YZ,We,Y4,Wh,Wd,Xr,Xe,Xk,Xh,Gz,G9,G8,G7,G6,G5,GU,GV,Xt,Xv,Wo,Xu,GR,Xg,Xj,Xf,Xi,Option.map_some,Xy,Xx,Xq,Xp,Xl,Xz,Zm,ZI,Yi,Yl,Yj,Yk,Yg,ZJ,ZL,Zx,ZK,YR,YQ,Yn,hlt,decide_true,if_true,Qd,hg,hld,hro,hc,Xb,hpx]
  | false =>
   rw [hpx] at hc
   simp only [ZF,Wm,Wj,Wl,Xo,ZN,ZM,Zz,Zy,Yq,Yp,Xn,Zg,Wq,ZP,ZQ,Ym,YU,YW,YT,YV,YS,YX,Yr,Ws,Wy,Wt,Wv,Wp,Wz,Ww,Wu,Wx,Xw,ZR,Yo,YY,Wi,YZ,We,Y4,Wh,Wd,Xr,Xe,Xk,Xh,Gz,G9,G8,G7,G6,G5,GU,GV,Xt,Xv,Wo,Xu,GR,Xg,Xj,Xf,Xi,Option.map_some,Xy,Xx,Xq,Xp,Xl,Xz,Zm,ZI,Yi,Yl,Yj,Yk,Yg,ZJ,ZL,Zx,ZK,YR,YQ,Yn,hlt,decide_true,if_true,Qd,hg,hld,hro,hc,Xb,hpx,Bool.false_eq_true,if_false,hwr]
   exact ih
theorem UY (n:Nat)(hp:List Zk)(f:FuncId)(c:List AV)(p:List AV→Bool)(rows:List (List AV))(hl:rows.length≤4611686018427387)(hrow:∀ r ∈ rows,r.length=3∧r.map AV.ro=r)(hf:∀ r ∈ rows,Za C n f ([.agg r] ++ c.map AV.nm) hp=some (.bool (p r),hp,none)) :
  Za C (n + 1) WV [.lst 3 rows,.fn f [] c] hp=some (.int .i64 (Xb p rows 0),hp,none):=by
 refine Kq (by rw [hC.T]; rfl) ?_
 have h:=J8 hC n hp (.fn f [] c) p rows hl hrow (fun r hr=>by rw [Pv]; exact hf r hr) rows [] C.L rfl (by have:=hC.L; omega)
 simp only [QM,Wm,Wj,Wl,Xo,ZN,ZM,Zz,Zy,Yq,Yp,Xn,Zg,Wq,ZP,ZQ,Ym,YU,YW,YT,YV,YS,YX,Yr,Ws,Wy,Wt,Wv,Wp,Wz,Ww,Wu,Wx,Xw,ZR,Yo,YY,Wi,YZ,We,Y4,Wh,Wd,Xr,Xe,Xk,Xh,Gz,G9,G8,G7,G6,G5,GU,GV,Xt,Xv,Wo,Xu,GR,Xg,Xj,Xf,Xi,Option.map_some,Xy,Xx,Xq,Xp,Xl,Xz,Zm,ZI,Yi,Yl,Yj,Yk,Yg,ZJ,ZL,Zx,ZK,YR,YQ,Yn]
 exact h
theorem Uf (n:Nat)(hp0:List Zk)(fv:AV)(p:List AV→Bool)(rows:List (List AV))(hl:rows.length≤4611686018427387)(hrow:∀ r ∈ rows,r.length=3∧r.map AV.ro=r)(hf:∀ r ∈ rows,Vh (Za C n) fv [.agg r] hp0=some (.bool (p r),hp0,none)):∀ (r q:List (List AV)) (m:Nat),rows=q ++ r→r.length < m →
  ZT C.G (Za C n) C.L hp0 (YB C.G (Za C n) C.L hp0) m (.lst 3 rows) fv (.int .i64 rows.length) (.int .i64 q.length) hp0 none=some (.int .i64 (Xb p r q.length),hp0,none)
 | _,_,0,_,h=>by omega
 | [],q,m + 1,hs,_=>by
  have hlen:(rows.length:Int)=q.length:=by rw [hs]; simp
  simp only [ZT,YB,Wm,Wj,Wl,Xo,ZN,ZM,Zz,Zy,Yq,Yp,Xn,Zg,Wq,ZP,ZQ,Ym,YU,YW,YT,YV,YS,YX,Yr,Ws,Wy,Wt,Wv,Wp,Wz,Ww,Wu,Wx,Xw,ZR,Yo,YY,Wi,YZ,We,Y4,Wh,Wd,Xr,Xe,Xk,Xh,Gz,G9,G8,G7,G6,G5,GU,GV,Xt,Xv,Wo,Xu,GR,Xg,Xj,Xf,Xi,Option.map_some,Xy,Xx,Xq,Xp,Xl,Xz,Zm,ZI,Yi,Yl,Yj,Yk,Yg,ZJ,ZL,Zx,ZK,YR,YQ,Yn,hlen,Int.lt_irrefl,decide_false,Bool.false_eq_true,if_false,Xb]
 | x :: r,q,m + 1,hs,hm=>by
  have hlen:(rows.length:Int)=q.length + (r.length + 1):=by rw [hs]; simp
  have hlt:(q.length:Int) < q.length + (r.length + 1):=by omega
  have hql:q.length + (r.length + 1)≤4611686018427387:=by rw [hs] at hl; simpa using hl
  have hg:rows[q.length]? = some x:=by rw [hs]; simp
  have hmem:x ∈ rows:=by rw [hs]; simp
  obtain ⟨w1,w2⟩:=hrow x hmem
  have hro:(x.take 3).map AV.ro=x:=by rw [List.take_of_length_le (by omega),w2]
  have hc:=hf x hmem
  have ih:=Uf n hp0 fv p rows hl hrow hf r (q ++ [x]) m (by rw [hs]; simp) (by simpa using hm)
  simp only [List.length_append,List.length_cons,List.length_nil,Nat.zero_add] at ih
  rw [hlen] at ih ⊢
  have hwr:=U6 q.length (by omega)
  have hld:=EE hp0 3 x (by omega)
  cases hpx:p x with
  | true =>
   rw [hpx] at hc
   simp only [ZT,Wm,Wj,Wl,Xo,ZN,ZM,Zz,Zy,Yq,Yp,Xn,Zg,Wq,ZP,ZQ,Ym,YU,YW,YT,YV,YS,YX,Yr,Ws,Wy,Wt,Wv,Wp,Wz,Ww,Wu,Wx,Xw,ZR,Yo,YY,Wi,YZ,We,Y4,Wh,Wd,Xr,Xe,Xk,Xh,Gz,G9,G8,G7,G6,G5,GU,GV,Xt,Xv,Wo,Xu,GR,Xg,Xj,Xf,Xi,Option.map_some,Xy,Xx,Xq,Xp,Xl,Xz,Zm,ZI,Yi,Yl,Yj,Yk,Yg,ZJ,ZL,Zx,ZK,YR,YQ,Yn,hlt,decide_true,if_true,Qd,hg,hld,hro,hc,Xb,hpx]
  | false =>
   rw [hpx] at hc
   simp only [ZT,Wm,Wj,Wl,Xo,ZN,ZM,Zz,Zy,Yq,Yp,Xn,Zg,Wq,ZP,ZQ,Ym,YU,YW,YT,YV,YS,YX,Yr,Ws,Wy,Wt,Wv,Wp,Wz,Ww,Wu,Wx,Xw,ZR,Yo,YY,Wi,YZ,We,Y4,Wh,Wd,Xr,Xe,Xk,Xh,Gz,G9,G8,G7,G6,G5,GU,GV,Xt,Xv,Wo,Xu,GR,Xg,Xj,Xf,Xi,Option.map_some,Xy,Xx,Xq,Xp,Xl,Xz,Zm,ZI,Yi,Yl,Yj,Yk,Yg,ZJ,ZL,Zx,ZK,YR,YQ,Yn,hlt,decide_true,if_true,Qd,hg,hld,hro,hc,Xb,hpx,Bool.false_eq_true,if_false,hwr]
   exact ih
theorem La (n:Nat)(hp:List Zk)(f:FuncId)(c:List AV)(p:List AV→Bool)(rows:List (List AV))(hl:rows.length≤4611686018427387)(hrow:∀ r ∈ rows,r.length=3∧r.map AV.ro=r)(hf:∀ r ∈ rows,Za C n f ([.agg r] ++ c.map AV.nm) hp=some (.bool (p r),hp,none)) :
  Za C (n + 1) QU [.lst 3 rows,.fn f [] c] hp=some (.int .i64 (Xb p rows 0),hp,none):=by
 refine KW (by rw [hC.T]; rfl) ?_
 have h:=Uf hC n hp (.fn f [] c) p rows hl hrow (fun r hr=>by rw [Pv]; exact hf r hr) rows [] C.L rfl (by have:=hC.L; omega)
 simp only [QY,Wm,Wj,Wl,Xo,ZN,ZM,Zz,Zy,Yq,Yp,Xn,Zg,Wq,ZP,ZQ,Ym,YU,YW,YT,YV,YS,YX,Yr,Ws,Wy,Wt,Wv,Wp,Wz,Ww,Wu,Wx,Xw,ZR,Yo,YY,Wi,YZ,We,Y4,Wh,Wd,Xr,Xe,Xk,Xh,Gz,G9,G8,G7,G6,G5,GU,GV,Xt,Xv,Wo,Xu,GR,Xg,Xj,Xf,Xi,Option.map_some,Xy,Xx,Xq,Xp,Xl,Xz,Zm,ZI,Yi,Yl,Yj,Yk,Yg,ZJ,ZL,Zx,ZK,YR,YQ,Yn]
 exact h
theorem ZdQ (n:Nat)(hp:List Zk)(s name:List UInt8)(r:List AV)(hr:r.length + 1=13)(g:Nat)(hg:hp[g]? = some (.cells [.str name] Y9)) :
  Za C (n + 1) Ri [.agg (.str s :: r),.ptr g 0] hp=some (.bool (decide (s=name)),hp,none):=by
 refine ZeZ (by rw [hC.T]; rfl) ?_
 have hlt:g < hp.length:=(List.getElem?_eq_some_iff.1 hg).1
 have hg':(hp ++ [Zk.cells (.str s :: r) Zb])[g]? = some (.cells [.str name] Y9):=by rw [List.getElem?_append_left hlt]; exact hg
 have l0:Zf (hp ++ [Zk.cells (.str s :: r) Zb]) (.ptr hp.length (0 + 0))=some (.str s):=EF hp _ _ 0
 have l1:Zf (hp ++ [Zk.cells (.str s :: r) Zb]) (.ptr g 0)=some (.str name):=XF hg' 0
 simp only [Nk,Wm,Wj,Wl,Xo,ZN,ZM,Zz,Zy,Yq,Yp,Xn,Zg,Wq,ZP,ZQ,Ym,YU,YW,YT,YV,YS,YX,Yr,Ws,Wy,Wt,Wv,Wp,Wz,Ww,Wu,Wx,Xw,ZR,Yo,YY,Wi,YZ,We,Y4,Wh,Wd,Xr,Xe,Xk,Xh,Gz,G9,G8,G7,G6,G5,GU,GV,Xt,Xv,Wo,Xu,GR,Xg,Xj,Xf,Xi,Option.map_some,Xy,Xx,Xq,Xp,Xl,Xz,Zm,ZI,Yi,Yl,Yj,Yk,Yg,ZJ,ZL,Zx,ZK,YR,YQ,Yn,GD 13 (.str s :: r) (by simpa using hr),l0,l1]
theorem Zax (n:Nat)(hp:List Zk)(s name:List UInt8)(r:List AV)(hr:r.length + 1=4)(g:Nat)(hg:hp[g]? = some (.cells [.str name] Y9)) :
  Za C (n + 1) OG [.agg (.str s :: r),.ptr g 0] hp=some (.bool (decide (s=name)),hp,none):=by
 refine ZbJ (by rw [hC.T]; rfl) ?_
 have hlt:g < hp.length:=(List.getElem?_eq_some_iff.1 hg).1
 have hg':(hp ++ [Zk.cells (.str s :: r) QQ])[g]? = some (.cells [.str name] Y9):=by rw [List.getElem?_append_left hlt]; exact hg
 have l0:Zf (hp ++ [Zk.cells (.str s :: r) QQ]) (.ptr hp.length (0 + 0))=some (.str s):=EF hp _ _ 0
 have l1:Zf (hp ++ [Zk.cells (.str s :: r) QQ]) (.ptr g 0)=some (.str name):=XF hg' 0
 simp only [LK,Wm,Wj,Wl,Xo,ZN,ZM,Zz,Zy,Yq,Yp,Xn,Zg,Wq,ZP,ZQ,Ym,YU,YW,YT,YV,YS,YX,Yr,Ws,Wy,Wt,Wv,Wp,Wz,Ww,Wu,Wx,Xw,ZR,Yo,YY,Wi,YZ,We,Y4,Wh,Wd,Xr,Xe,Xk,Xh,Gz,G9,G8,G7,G6,G5,GU,GV,Xt,Xv,Wo,Xu,GR,Xg,Xj,Xf,Xi,Option.map_some,Xy,Xx,Xq,Xp,Xl,Xz,Zm,ZI,Yi,Yl,Yj,Yk,Yg,ZJ,ZL,Zx,ZK,YR,YQ,Yn,GD 4 (.str s :: r) (by simpa using hr),l0,l1]
theorem ZcH (n:Nat)(hp:List Zk)(s name:List UInt8)(r:List AV)(hr:r.length + 1=3)(g:Nat)(hg:hp[g]? = some (.cells [.str name] Y9)) :
  Za C (n + 1) MB [.agg (.str s :: r),.ptr g 0] hp=some (.bool (decide (s=name)),hp,none):=by
 refine Zee (by rw [hC.T]; rfl) ?_
 have hlt:g < hp.length:=(List.getElem?_eq_some_iff.1 hg).1
 have hg':(hp ++ [Zk.cells (.str s :: r) KY])[g]? = some (.cells [.str name] Y9):=by rw [List.getElem?_append_left hlt]; exact hg
 have l0:Zf (hp ++ [Zk.cells (.str s :: r) KY]) (.ptr hp.length (0 + 0))=some (.str s):=EF hp _ _ 0
 have l1:Zf (hp ++ [Zk.cells (.str s :: r) KY]) (.ptr g 0)=some (.str name):=XF hg' 0
 simp only [Dz,Wm,Wj,Wl,Xo,ZN,ZM,Zz,Zy,Yq,Yp,Xn,Zg,Wq,ZP,ZQ,Ym,YU,YW,YT,YV,YS,YX,Yr,Ws,Wy,Wt,Wv,Wp,Wz,Ww,Wu,Wx,Xw,ZR,Yo,YY,Wi,YZ,We,Y4,Wh,Wd,Xr,Xe,Xk,Xh,Gz,G9,G8,G7,G6,G5,GU,GV,Xt,Xv,Wo,Xu,GR,Xg,Xj,Xf,Xi,Option.map_some,Xy,Xx,Xq,Xp,Xl,Xz,Zm,ZI,Yi,Yl,Yj,Yk,Yg,ZJ,ZL,Zx,ZK,YR,YQ,Yn,GD 3 (.str s :: r) (by simpa using hr),l0,l1]
theorem ZcI (n:Nat)(hp:List Zk)(s name:List UInt8)(r:List AV)(hr:r.length + 1=17)(g:Nat)(hg:hp[g]? = some (.cells [.str name] Y9)) :
  Za C (n + 1) MC [.agg (.str s :: r),.ptr g 0] hp=some (.bool (decide (s=name)),hp,none):=by
 refine Zef (by rw [hC.T]; rfl) ?_
 have hlt:g < hp.length:=(List.getElem?_eq_some_iff.1 hg).1
 have hg':(hp ++ [Zk.cells (.str s :: r) WL])[g]? = some (.cells [.str name] Y9):=by rw [List.getElem?_append_left hlt]; exact hg
 have l0:Zf (hp ++ [Zk.cells (.str s :: r) WL]) (.ptr hp.length (0 + 0))=some (.str s):=EF hp _ _ 0
 have l1:Zf (hp ++ [Zk.cells (.str s :: r) WL]) (.ptr g 0)=some (.str name):=XF hg' 0
 simp only [D5,Wm,Wj,Wl,Xo,ZN,ZM,Zz,Zy,Yq,Yp,Xn,Zg,Wq,ZP,ZQ,Ym,YU,YW,YT,YV,YS,YX,Yr,Ws,Wy,Wt,Wv,Wp,Wz,Ww,Wu,Wx,Xw,ZR,Yo,YY,Wi,YZ,We,Y4,Wh,Wd,Xr,Xe,Xk,Xh,Gz,G9,G8,G7,G6,G5,GU,GV,Xt,Xv,Wo,Xu,GR,Xg,Xj,Xf,Xi,Option.map_some,Xy,Xx,Xq,Xp,Xl,Xz,Zm,ZI,Yi,Yl,Yj,Yk,Yg,ZJ,ZL,Zx,ZK,YR,YQ,Yn,GD 17 (.str s :: r) (by simpa using hr),l0,l1]
theorem ZcJ (n:Nat)(hp:List Zk)(s name:List UInt8)(r:List AV)(hr:r.length + 1=3)(g:Nat)(hg:hp[g]? = some (.cells [.str name] Y9)) :
  Za C (n + 1) ME [.agg (.str s :: r),.ptr g 0] hp=some (.bool (decide (s=name)),hp,none):=by
 refine Zeg (by rw [hC.T]; rfl) ?_
 have hlt:g < hp.length:=(List.getElem?_eq_some_iff.1 hg).1
 have hg':(hp ++ [Zk.cells (.str s :: r) Xd])[g]? = some (.cells [.str name] Y9):=by rw [List.getElem?_append_left hlt]; exact hg
 have l0:Zf (hp ++ [Zk.cells (.str s :: r) Xd]) (.ptr hp.length (0 + 0))=some (.str s):=EF hp _ _ 0
 have l1:Zf (hp ++ [Zk.cells (.str s :: r) Xd]) (.ptr g 0)=some (.str name):=XF hg' 0
 simp only [D6,Wm,Wj,Wl,Xo,ZN,ZM,Zz,Zy,Yq,Yp,Xn,Zg,Wq,ZP,ZQ,Ym,YU,YW,YT,YV,YS,YX,Yr,Ws,Wy,Wt,Wv,Wp,Wz,Ww,Wu,Wx,Xw,ZR,Yo,YY,Wi,YZ,We,Y4,Wh,Wd,Xr,Xe,Xk,Xh,Gz,G9,G8,G7,G6,G5,GU,GV,Xt,Xv,Wo,Xu,GR,Xg,Xj,Xf,Xi,Option.map_some,Xy,Xx,Xq,Xp,Xl,Xz,Zm,ZI,Yi,Yl,Yj,Yk,Yg,ZJ,ZL,Zx,ZK,YR,YQ,Yn,GD 3 (.str s :: r) (by simpa using hr),l0,l1]
theorem ZcK (n:Nat)(hp:List Zk)(s name:List UInt8)(r:List AV)(hr:r.length + 1=3)(g:Nat)(hg:hp[g]? = some (.cells [.str name] Y9)) :
  Za C (n + 1) MF [.agg (.str s :: r),.ptr g 0] hp=some (.bool (decide (s=name)),hp,none):=by
 refine Zeh (by rw [hC.T]; rfl) ?_
 have hlt:g < hp.length:=(List.getElem?_eq_some_iff.1 hg).1
 have hg':(hp ++ [Zk.cells (.str s :: r) Vg])[g]? = some (.cells [.str name] Y9):=by rw [List.getElem?_append_left hlt]; exact hg
 have l0:Zf (hp ++ [Zk.cells (.str s :: r) Vg]) (.ptr hp.length (0 + 0))=some (.str s):=EF hp _ _ 0
 have l1:Zf (hp ++ [Zk.cells (.str s :: r) Vg]) (.ptr g 0)=some (.str name):=XF hg' 0
 simp only [D7,Wm,Wj,Wl,Xo,ZN,ZM,Zz,Zy,Yq,Yp,Xn,Zg,Wq,ZP,ZQ,Ym,YU,YW,YT,YV,YS,YX,Yr,Ws,Wy,Wt,Wv,Wp,Wz,Ww,Wu,Wx,Xw,ZR,Yo,YY,Wi,YZ,We,Y4,Wh,Wd,Xr,Xe,Xk,Xh,Gz,G9,G8,G7,G6,G5,GU,GV,Xt,Xv,Wo,Xu,GR,Xg,Xj,Xf,Xi,Option.map_some,Xy,Xx,Xq,Xp,Xl,Xz,Zm,ZI,Yi,Yl,Yj,Yk,Yg,ZJ,ZL,Zx,ZK,YR,YQ,Yn,GD 3 (.str s :: r) (by simpa using hr),l0,l1]
theorem Zex (n:Nat)(hp0:List Zk)(name:List UInt8)(rows:List (List AV))(hl:rows.length≤4611686018427387)(hrow:∀ r ∈ rows,r=[.str (nameOf r)]):∀ (r q:List (List AV)) (m:Nat),rows=q ++ r→r.length < m →
  YI C.G (Za C n) C.L hp0 (QN C.G (Za C n) C.L hp0) m (.lst 1 rows) (.str name) (.int .i64 rows.length) (.int .i64 q.length) hp0 none=some (.int .i64 (Xb (isN name) r q.length),hp0,none)
 | _,_,0,_,h=>by omega
 | [],q,m + 1,hs,_=>by
  have hlen:(rows.length:Int)=q.length:=by rw [hs]; simp
  simp only [YI,QN,Wm,Wj,Wl,Xo,ZN,ZM,Zz,Zy,Yq,Yp,Xn,Zg,Wq,ZP,ZQ,Ym,YU,YW,YT,YV,YS,YX,Yr,Ws,Wy,Wt,Wv,Wp,Wz,Ww,Wu,Wx,Xw,ZR,Yo,YY,Wi,YZ,We,Y4,Wh,Wd,Xr,Xe,Xk,Xh,Gz,G9,G8,G7,G6,G5,GU,GV,Xt,Xv,Wo,Xu,GR,Xg,Xj,Xf,Xi,Option.map_some,Xy,Xx,Xq,Xp,Xl,Xz,Zm,ZI,Yi,Yl,Yj,Yk,Yg,ZJ,ZL,Zx,ZK,YR,YQ,Yn,hlen,Int.lt_irrefl,decide_false,Bool.false_eq_true,if_false,Xb]
 | x :: r,q,m + 1,hs,hm=>by
  have hlen:(rows.length:Int)=q.length + (r.length + 1):=by rw [hs]; simp
  have hlt:(q.length:Int) < q.length + (r.length + 1):=by omega
  have hql:q.length + (r.length + 1)≤4611686018427387:=by rw [hs] at hl; simpa using hl
  have hx:=hrow x (by rw [hs]; simp)
  have hg:rows[q.length]? = some [.str (nameOf x)]:=by rw [← hx,hs]; simp
  have ih:=Zex n hp0 name rows hl hrow r (q ++ [x]) m (by rw [hs]; simp) (by simpa using hm)
  simp only [List.length_append,List.length_cons,List.length_nil,Nat.zero_add] at ih
  rw [hlen] at ih ⊢
  have hwr:=U6 q.length (by omega)
  by_cases hn:nameOf x=name
  ·have hp1:isN name x=true:=by simp [isN,hn]
   simp only [YI,Wm,Wj,Wl,Xo,ZN,ZM,Zz,Zy,Yq,Yp,Xn,Zg,Wq,ZP,ZQ,Ym,YU,YW,YT,YV,YS,YX,Yr,Ws,Wy,Wt,Wv,Wp,Wz,Ww,Wu,Wx,Xw,ZR,Yo,YY,Wi,YZ,We,Y4,Wh,Wd,Xr,Xe,Xk,Xh,Gz,G9,G8,G7,G6,G5,GU,GV,Xt,Xv,Wo,Xu,GR,Xg,Xj,Xf,Xi,Option.map_some,Xy,Xx,Xq,Xp,Xl,Xz,Zm,ZI,Yi,Yl,Yj,Yk,Yg,ZJ,ZL,Zx,ZK,YR,YQ,Yn,hlt,decide_true,if_true,Qd,hg,hn,Xb,hp1]
  ·have hp1:isN name x=false:=by simp [isN,hn]
   have hn':¬ name=nameOf x:=fun e=>hn e.symm
   simp only [YI,Wm,Wj,Wl,Xo,ZN,ZM,Zz,Zy,Yq,Yp,Xn,Zg,Wq,ZP,ZQ,Ym,YU,YW,YT,YV,YS,YX,Yr,Ws,Wy,Wt,Wv,Wp,Wz,Ww,Wu,Wx,Xw,ZR,Yo,YY,Wi,YZ,We,Y4,Wh,Wd,Xr,Xe,Xk,Xh,Gz,G9,G8,G7,G6,G5,GU,GV,Xt,Xv,Wo,Xu,GR,Xg,Xj,Xf,Xi,Option.map_some,Xy,Xx,Xq,Xp,Xl,Xz,Zm,ZI,Yi,Yl,Yj,Yk,Yg,ZJ,ZL,Zx,ZK,YR,YQ,Yn,hlt,decide_true,if_true,Qd,hg,hn',decide_false,Xb,hp1,Bool.false_eq_true,if_false,hwr]
   exact ih
theorem ZdR (n:Nat)(hp:List Zk)(name:List UInt8)(rows:List (List AV))(hl:rows.length≤4611686018427387)(hrow:∀ r ∈ rows,r=[.str (nameOf r)]) :
  Za C (n + 1) WE [.lst 1 rows,.str name] hp=some (.int .i64 (Xb (isN name) rows 0),hp,none):=by
 refine Ls (by rw [hC.T]; rfl) ?_
 have h:=Zex hC n hp name rows hl hrow rows [] C.L rfl (by have:=hC.L; omega)
 simp only [JR,Wm,Wj,Wl,Xo,ZN,ZM,Zz,Zy,Yq,Yp,Xn,Zg,Wq,ZP,ZQ,Ym,YU,YW,YT,YV,YS,YX,Yr,Ws,Wy,Wt,Wv,Wp,Wz,Ww,Wu,Wx,Xw,ZR,Yo,YY,Wi,YZ,We,Y4,Wh,Wd,Xr,Xe,Xk,Xh,Gz,G9,G8,G7,G6,G5,GU,GV,Xt,Xv,Wo,Xu,GR,Xg,Xj,Xf,Xi,Option.map_some,Xy,Xx,Xq,Xp,Xl,Xz,Zm,ZI,Yi,Yl,Yj,Yk,Yg,ZJ,ZL,Zx,ZK,YR,YQ,Yn]
 exact h
end
end Go.Proofs.YtlmfmmclnboglaaGreat
end
section
namespace Go.Proofs.YtlmfmmclnboglaaGreat
open Go Go.RowKit Go.Proofs.YtlmfmmclnboglaaGreat.Abs
set_option linter.all false
set_option maxRecDepth 100000
structure Ea where
 name:List UInt8
 vars:List (List AV)
 res:List (List AV)
 stores:List (List AV)
 belts:List (List AV)
 queues:List (List AV)
 streams:List (List AV)
 tallies:List (List AV)
 levels:List (List AV)
 counts:List (List AV)
 routines:List (List AV)
 starts:List (List AV)
 laws:List (List AV)
def Jg (s:Ea):List AV:=[.str s.name,.lst 3 s.vars,.lst 17 s.res,.lst 3 s.stores,.lst 3 s.belts,.lst 1 s.queues,.lst 1 s.streams,.lst 1 s.tallies,.lst 1 s.levels,.lst 1 s.counts,.lst 4 s.routines,.lst 5 s.starts,.lst 3 s.laws]
structure EN (s:Ea):Prop where
 vars:Zdh 3 s.vars
 res:Zdh 17 s.res
 stores:Zdh 3 s.stores
 belts:Zdh 3 s.belts
 queues:Zdh 1 s.queues
 streams:Zdh 1 s.streams
 tallies:Zdh 1 s.tallies
 levels:Zdh 1 s.levels
 counts:Zdh 1 s.counts
 routines:Zdh 4 s.routines
 starts:s.starts.length≤8796093022208
 laws:s.laws.length≤8796093022208
def nm1 (r:List AV):List AV:=[.str (nameOf r)]
theorem Rp {rows:List (List AV)}(h:Zdh 1 rows):rows.map nm1=rows∧∀ r ∈ rows,r=[.str (nameOf r)]:=by
 have key:∀ r ∈ rows,r=[.str (nameOf r)]:=fun r hr=>by
  obtain ⟨h1,h2,h3⟩:=h.2 r hr
  have:r.tail=[]:=by
   rw [h3] at h1
   exact List.eq_nil_of_length_eq_zero (by simpa using h1)
  rw [this] at h3; exact h3
 refine ⟨?_,key⟩
 have:rows.map nm1=rows.map id:=List.map_congr_left fun r hr=>(key r hr).symm
 simpa using this
def kinds (s:Ea):List (List UInt8×List (List AV)):=[([118,97,114],s.vars),([114,101,115,111,117,114,99,101],s.res),([115,116,111,114,101],s.stores),([98,101,108,116],s.belts),([113,117,101,117,101],s.queues),([115,116,114,101,97,109],s.streams),([116,97,108,108,121],s.tallies),([108,101,118,101,108],s.levels),([99,111,117,110,116],s.counts),([114,111,117,116,105,110,101],s.routines)]
def O8 (name:List UInt8):List (List UInt8×List (List AV))→List UInt8×Int
 | []=>([],-1)
 | (w,rows) :: l=>if 0≤Xb (isN name) rows 0 then (w,Xb (isN name) rows 0) else O8 name l
def ZcX (s:Ea):List (List (List AV)):=(kinds s).map fun p=>p.2.map nm1
theorem Zf8 (s:List UInt8):GA 1 (.str s)=some [.str s]:=rfl
theorem ZgG (k g n:Nat)(i:Nat)(h:i < n):Qf (.slice k) (.arr g 0 n k) (.int .i64 i)=some (.ptr g (i * k)):=by simp [Qf,h]
theorem ZcS (bs:Nat)(h:List Zk)(cs:List AV)(t:TypeId)(o:Nat)(v:AV)(ef:Eff)(hv:cs[o]? = some v)(hb:bs≤h.length):ZqH bs (.ptr h.length o) (h ++ [.cells cs t]) ef=some (v,h ++ [.cells (cs.set o v.ro) t],ef):=by
 have e:=ZY h (.cells cs t)
 simp only [ZqH,e,hv,Zfx]
 have:SE bs ef h.length 0=ef:=by simp [SE]; omega
 rw [this]
theorem Zar (bs:Nat)(h:List Zk)(cs:List AV)(t:TypeId)(o:Nat)(v:AV)(ef:Eff)(h1:v.one=true)(h2:o < cs.length)(hb:bs≤h.length):Zfu bs (.ptr h.length o) v (h ++ [.cells cs t]) ef=some (h ++ [.cells (cs.set o v) t],ef):=by
 have e:=ZY h (.cells cs t)
 simp only [Zfu,e,Zfx]
 have:SE bs ef h.length 0=ef:=by simp [SE]; omega
 simp [h1,h2,this]
theorem ZgK (e:TypeId)(s:List UInt8)(hp:List Zk):Zeb e 1 [.str s] hp=some (.own 1 [[.str s]],hp):=rfl
theorem Zf6 (r:List (List AV))(s:List UInt8)(hp:List Zk)(h:r.length + 1≤8796093022208):Zo6 1 16 (.own 1 r) (.lst 1 [[.str s]]) hp=some (.own 1 (r ++ [[.str s]])):=by
 have:(r.length + 1) * 16≤140737488355328:=by omega
 simp [Zo6,rowsOf,AV.noId1,this]
section
variable {C:Cfg}(hC:Ud C)
include hC
theorem ZiY (K:FuncId→List AV→List Zk→KR)(hp0:List Zk)(k0:AV→AV→AV→List Zk→Eff→KR)(y3:AV)(s:Ea)(hs:EN s):∀ (r q:List (List AV)) (m:Nat) (O:List AV),s.vars=q ++ r→r.length < m→O.length=10→O[0]? = some (.own 1 (q.map nm1)) →
  Gb C.G K C.L hp0 k0 m (.ptr hp0.length 0) (.arr (hp0.length + 1) 0 10 1) y3 (.int .i64 q.length) ((hp0 ++ [Zk.cells (Jg s) Zb]) ++ [.cells O YP]) none =
   k0 (.ptr hp0.length 0) (.arr (hp0.length + 1) 0 10 1) y3 ((hp0 ++ [Zk.cells (Jg s) Zb]) ++ [.cells (O.set 0 (.own 1 (s.vars.map nm1))) YP]) none
 | _,_,0,_,_,h,_,_=>by omega
 | [],q,m + 1,O,hr,_,hO,hq=>by
  have hlen:(s.vars.length:Int)=q.length:=by rw [hr]; simp
  have lf:∀ X:List AV,Zf ((hp0 ++ [Zk.cells (Jg s) Zb]) ++ [.cells X YP]) (.ptr hp0.length (0 + 1))=some (.lst 3 s.vars):=fun X=>XF (g := hp0.length) (cs := Jg s) (t := Zb) (by rw [List.getElem?_append_left (by simp)]; exact ZY _ _) 1
  have he:O.set 0 (.own 1 (s.vars.map nm1))=O:=by
   rw [hr,List.append_nil]
   refine List.ext_getElem? fun i=>?_
   rw [List.getElem?_set]
   split
   ·rename_i e; subst e; rw [if_pos (by omega),hq]
   ·rfl
  rw [he]
  simp only [Gb,Wm,Wj,Wl,Xo,ZN,ZM,Zz,Zy,Yq,Yp,Xn,Zg,Wq,ZP,ZQ,Ym,YU,YW,YT,YV,YS,YX,Yr,Ws,Wy,Wt,Wv,Wp,Wz,Ww,Wu,Wx,Xw,ZR,Yo,YY,Wi,YZ,We,Y4,Wh,Wd,Xr,Xe,Xk,Xh,Gz,G9,G8,G7,G6,G5,GU,GV,Xt,Xv,Wo,Xu,GR,Xg,Xj,Xf,Xi,Option.map_some,Xy,Xx,Xq,Xp,Xl,Xz,Zm,ZI,Yi,Yl,Yj,Yk,Yg,ZJ,ZL,Zx,ZK,YR,YQ,Yn,lf,hlen,Int.lt_irrefl,decide_false,Bool.false_eq_true,if_false]
 | x :: r,q,m + 1,O,hr,hm,hO,hq=>by
  have hlen:(s.vars.length:Int)=q.length + (r.length + 1):=by rw [hr]; simp
  have hlt:(q.length:Int) < q.length + (r.length + 1):=by omega
  have hql:q.length + (r.length + 1)≤8796093022208:=by have:=hs.vars.1; rw [hr] at this; simpa using this
  have hg:s.vars[q.length]? = some x:=by rw [hr]; simp
  have hx:=(hs.vars.2 x (by rw [hr]; simp)).2.2
  have lf:∀ X:List AV,Zf ((hp0 ++ [Zk.cells (Jg s) Zb]) ++ [.cells X YP]) (.ptr hp0.length (0 + 1))=some (.lst 3 s.vars):=fun X=>XF (g := hp0.length) (cs := Jg s) (t := Zb) (by rw [List.getElem?_append_left (by simp)]; exact ZY _ _) 1
  have hh:(hp0 ++ [Zk.cells (Jg s) Zb]).length=hp0.length + 1:=by simp
  have hia:Qf (.slice 1) (.arr (hp0.length + 1) 0 10 1) (.int .i64 0)=some (.ptr (hp0 ++ [Zk.cells (Jg s) Zb]).length 0):=by rw [hh]; exact ZgG 1 (hp0.length + 1) 10 0 (by omega)
  have hld:=ZcS hp0.length (hp0 ++ [Zk.cells (Jg s) Zb]) O YP 0 _ none hq (by simp)
  have hst:=fun (X:List AV) (hX:X.length=10)=>Zar hp0.length (hp0 ++ [Zk.cells (Jg s) Zb]) X YP 0 (.own 1 (q.map nm1 ++ [[.str (nameOf x)]])) none rfl (by omega) (by simp)
  have hap:=fun hp=>Zf6 (q.map nm1) (nameOf x) hp (by simp; omega)
  have lx:∀ hp,Zf hp (.ref (x.drop 0))=some (.str (nameOf x)):=fun hp=>by rw [hx]; rfl
  have ih:=ZiY K hp0 k0 y3 s hs r (q ++ [x]) m (O.set 0 (.own 1 (q.map nm1 ++ [[.str (nameOf x)]]))) (by rw [hr]; simp) (by simpa using hm) (by simpa using hO) (by rw [List.getElem?_set_self (by omega)]; simp [nm1])
  simp only [List.length_append,List.length_cons,List.length_nil,Nat.zero_add,List.set_set] at ih
  have hwr:=U6 q.length (by omega)
  simp only [Gb,Wm,Wj,Wl,Xo,ZN,ZM,Zz,Zy,Yq,Yp,Xn,Zg,Wq,ZP,ZQ,Ym,YU,YW,YT,YV,YS,YX,Yr,Ws,Wy,Wt,Wv,Wp,Wz,Ww,Wu,Wx,Xw,ZR,Yo,YY,Wi,YZ,We,Y4,Wh,Wd,Xr,Xe,Xk,Xh,Gz,G9,G8,G7,G6,G5,GU,GV,Xt,Xv,Wo,Xu,GR,Xg,Xj,Xf,Xi,Option.map_some,Xy,Xx,Xq,Xp,Xl,Xz,Zm,ZI,Yi,Yl,Yj,Yk,Yg,ZJ,ZL,Zx,ZK,YR,YQ,Yn,lf,hlen,hlt,decide_true,if_true,hia,hld,Qd,hg,lx,ZgK,hap,hst (O.set 0 (.lst 1 (q.map nm1))) (by simpa using hO),List.set_set,hwr,ih]
theorem ZiZ (K:FuncId→List AV→List Zk→KR)(hp0:List Zk)(k0:AV→AV→AV→List Zk→Eff→KR)(y3:AV)(s:Ea)(hs:EN s):∀ (r q:List (List AV)) (m:Nat) (O:List AV),s.res=q ++ r→r.length < m→O.length=10→O[1]? = some (.own 1 (q.map nm1)) →
  Gc C.G K C.L hp0 k0 m (.ptr hp0.length 0) (.arr (hp0.length + 1) 0 10 1) y3 (.int .i64 q.length) ((hp0 ++ [Zk.cells (Jg s) Zb]) ++ [.cells O YP]) none =
   k0 (.ptr hp0.length 0) (.arr (hp0.length + 1) 0 10 1) y3 ((hp0 ++ [Zk.cells (Jg s) Zb]) ++ [.cells (O.set 1 (.own 1 (s.res.map nm1))) YP]) none
 | _,_,0,_,_,h,_,_=>by omega
 | [],q,m + 1,O,hr,_,hO,hq=>by
  have hlen:(s.res.length:Int)=q.length:=by rw [hr]; simp
  have lf:∀ X:List AV,Zf ((hp0 ++ [Zk.cells (Jg s) Zb]) ++ [.cells X YP]) (.ptr hp0.length (0 + 2))=some (.lst 17 s.res):=fun X=>XF (g := hp0.length) (cs := Jg s) (t := Zb) (by rw [List.getElem?_append_left (by simp)]; exact ZY _ _) 2
  have he:O.set 1 (.own 1 (s.res.map nm1))=O:=by
   rw [hr,List.append_nil]
   refine List.ext_getElem? fun i=>?_
   rw [List.getElem?_set]
   split
   ·rename_i e; subst e; rw [if_pos (by omega),hq]
   ·rfl
  rw [he]
  simp only [Gc,Wm,Wj,Wl,Xo,ZN,ZM,Zz,Zy,Yq,Yp,Xn,Zg,Wq,ZP,ZQ,Ym,YU,YW,YT,YV,YS,YX,Yr,Ws,Wy,Wt,Wv,Wp,Wz,Ww,Wu,Wx,Xw,ZR,Yo,YY,Wi,YZ,We,Y4,Wh,Wd,Xr,Xe,Xk,Xh,Gz,G9,G8,G7,G6,G5,GU,GV,Xt,Xv,Wo,Xu,GR,Xg,Xj,Xf,Xi,Option.map_some,Xy,Xx,Xq,Xp,Xl,Xz,Zm,ZI,Yi,Yl,Yj,Yk,Yg,ZJ,ZL,Zx,ZK,YR,YQ,Yn,lf,hlen,Int.lt_irrefl,decide_false,Bool.false_eq_true,if_false]
 | x :: r,q,m + 1,O,hr,hm,hO,hq=>by
  have hlen:(s.res.length:Int)=q.length + (r.length + 1):=by rw [hr]; simp
  have hlt:(q.length:Int) < q.length + (r.length + 1):=by omega
  have hql:q.length + (r.length + 1)≤8796093022208:=by have:=hs.res.1; rw [hr] at this; simpa using this
  have hg:s.res[q.length]? = some x:=by rw [hr]; simp
  have hx:=(hs.res.2 x (by rw [hr]; simp)).2.2
  have lf:∀ X:List AV,Zf ((hp0 ++ [Zk.cells (Jg s) Zb]) ++ [.cells X YP]) (.ptr hp0.length (0 + 2))=some (.lst 17 s.res):=fun X=>XF (g := hp0.length) (cs := Jg s) (t := Zb) (by rw [List.getElem?_append_left (by simp)]; exact ZY _ _) 2
  have hh:(hp0 ++ [Zk.cells (Jg s) Zb]).length=hp0.length + 1:=by simp
  have hia:Qf (.slice 1) (.arr (hp0.length + 1) 0 10 1) (.int .i64 1)=some (.ptr (hp0 ++ [Zk.cells (Jg s) Zb]).length 1):=by rw [hh]; exact ZgG 1 (hp0.length + 1) 10 1 (by omega)
  have hld:=ZcS hp0.length (hp0 ++ [Zk.cells (Jg s) Zb]) O YP 1 _ none hq (by simp)
  have hst:=fun (X:List AV) (hX:X.length=10)=>Zar hp0.length (hp0 ++ [Zk.cells (Jg s) Zb]) X YP 1 (.own 1 (q.map nm1 ++ [[.str (nameOf x)]])) none rfl (by omega) (by simp)
  have hap:=fun hp=>Zf6 (q.map nm1) (nameOf x) hp (by simp; omega)
  have lx:∀ hp,Zf hp (.ref (x.drop 0))=some (.str (nameOf x)):=fun hp=>by rw [hx]; rfl
  have ih:=ZiZ K hp0 k0 y3 s hs r (q ++ [x]) m (O.set 1 (.own 1 (q.map nm1 ++ [[.str (nameOf x)]]))) (by rw [hr]; simp) (by simpa using hm) (by simpa using hO) (by rw [List.getElem?_set_self (by omega)]; simp [nm1])
  simp only [List.length_append,List.length_cons,List.length_nil,Nat.zero_add,List.set_set] at ih
  have hwr:=U6 q.length (by omega)
  simp only [Gc,Wm,Wj,Wl,Xo,ZN,ZM,Zz,Zy,Yq,Yp,Xn,Zg,Wq,ZP,ZQ,Ym,YU,YW,YT,YV,YS,YX,Yr,Ws,Wy,Wt,Wv,Wp,Wz,Ww,Wu,Wx,Xw,ZR,Yo,YY,Wi,YZ,We,Y4,Wh,Wd,Xr,Xe,Xk,Xh,Gz,G9,G8,G7,G6,G5,GU,GV,Xt,Xv,Wo,Xu,GR,Xg,Xj,Xf,Xi,Option.map_some,Xy,Xx,Xq,Xp,Xl,Xz,Zm,ZI,Yi,Yl,Yj,Yk,Yg,ZJ,ZL,Zx,ZK,YR,YQ,Yn,lf,hlen,hlt,decide_true,if_true,hia,hld,Qd,hg,lx,ZgK,hap,hst (O.set 1 (.lst 1 (q.map nm1))) (by simpa using hO),List.set_set,hwr,ih]
theorem Zja (K:FuncId→List AV→List Zk→KR)(hp0:List Zk)(k0:AV→AV→AV→List Zk→Eff→KR)(y3:AV)(s:Ea)(hs:EN s):∀ (r q:List (List AV)) (m:Nat) (O:List AV),s.stores=q ++ r→r.length < m→O.length=10→O[2]? = some (.own 1 (q.map nm1)) →
  Gd C.G K C.L hp0 k0 m (.ptr hp0.length 0) (.arr (hp0.length + 1) 0 10 1) y3 (.int .i64 q.length) ((hp0 ++ [Zk.cells (Jg s) Zb]) ++ [.cells O YP]) none =
   k0 (.ptr hp0.length 0) (.arr (hp0.length + 1) 0 10 1) y3 ((hp0 ++ [Zk.cells (Jg s) Zb]) ++ [.cells (O.set 2 (.own 1 (s.stores.map nm1))) YP]) none
 | _,_,0,_,_,h,_,_=>by omega
 | [],q,m + 1,O,hr,_,hO,hq=>by
  have hlen:(s.stores.length:Int)=q.length:=by rw [hr]; simp
  have lf:∀ X:List AV,Zf ((hp0 ++ [Zk.cells (Jg s) Zb]) ++ [.cells X YP]) (.ptr hp0.length (0 + 3))=some (.lst 3 s.stores):=fun X=>XF (g := hp0.length) (cs := Jg s) (t := Zb) (by rw [List.getElem?_append_left (by simp)]; exact ZY _ _) 3
  have he:O.set 2 (.own 1 (s.stores.map nm1))=O:=by
   rw [hr,List.append_nil]
   refine List.ext_getElem? fun i=>?_
   rw [List.getElem?_set]
   split
   ·rename_i e; subst e; rw [if_pos (by omega),hq]
   ·rfl
  rw [he]
  simp only [Gd,Wm,Wj,Wl,Xo,ZN,ZM,Zz,Zy,Yq,Yp,Xn,Zg,Wq,ZP,ZQ,Ym,YU,YW,YT,YV,YS,YX,Yr,Ws,Wy,Wt,Wv,Wp,Wz,Ww,Wu,Wx,Xw,ZR,Yo,YY,Wi,YZ,We,Y4,Wh,Wd,Xr,Xe,Xk,Xh,Gz,G9,G8,G7,G6,G5,GU,GV,Xt,Xv,Wo,Xu,GR,Xg,Xj,Xf,Xi,Option.map_some,Xy,Xx,Xq,Xp,Xl,Xz,Zm,ZI,Yi,Yl,Yj,Yk,Yg,ZJ,ZL,Zx,ZK,YR,YQ,Yn,lf,hlen,Int.lt_irrefl,decide_false,Bool.false_eq_true,if_false]
 | x :: r,q,m + 1,O,hr,hm,hO,hq=>by
  have hlen:(s.stores.length:Int)=q.length + (r.length + 1):=by rw [hr]; simp
  have hlt:(q.length:Int) < q.length + (r.length + 1):=by omega
  have hql:q.length + (r.length + 1)≤8796093022208:=by have:=hs.stores.1; rw [hr] at this; simpa using this
  have hg:s.stores[q.length]? = some x:=by rw [hr]; simp
  have hx:=(hs.stores.2 x (by rw [hr]; simp)).2.2
  have lf:∀ X:List AV,Zf ((hp0 ++ [Zk.cells (Jg s) Zb]) ++ [.cells X YP]) (.ptr hp0.length (0 + 3))=some (.lst 3 s.stores):=fun X=>XF (g := hp0.length) (cs := Jg s) (t := Zb) (by rw [List.getElem?_append_left (by simp)]; exact ZY _ _) 3
  have hh:(hp0 ++ [Zk.cells (Jg s) Zb]).length=hp0.length + 1:=by simp
  have hia:Qf (.slice 1) (.arr (hp0.length + 1) 0 10 1) (.int .i64 2)=some (.ptr (hp0 ++ [Zk.cells (Jg s) Zb]).length 2):=by rw [hh]; exact ZgG 1 (hp0.length + 1) 10 2 (by omega)
  have hld:=ZcS hp0.length (hp0 ++ [Zk.cells (Jg s) Zb]) O YP 2 _ none hq (by simp)
  have hst:=fun (X:List AV) (hX:X.length=10)=>Zar hp0.length (hp0 ++ [Zk.cells (Jg s) Zb]) X YP 2 (.own 1 (q.map nm1 ++ [[.str (nameOf x)]])) none rfl (by omega) (by simp)
  have hap:=fun hp=>Zf6 (q.map nm1) (nameOf x) hp (by simp; omega)
  have lx:∀ hp,Zf hp (.ref (x.drop 0))=some (.str (nameOf x)):=fun hp=>by rw [hx]; rfl
  have ih:=Zja K hp0 k0 y3 s hs r (q ++ [x]) m (O.set 2 (.own 1 (q.map nm1 ++ [[.str (nameOf x)]]))) (by rw [hr]; simp) (by simpa using hm) (by simpa using hO) (by rw [List.getElem?_set_self (by omega)]; simp [nm1])
  simp only [List.length_append,List.length_cons,List.length_nil,Nat.zero_add,List.set_set] at ih
  have hwr:=U6 q.length (by omega)
  simp only [Gd,Wm,Wj,Wl,Xo,ZN,ZM,Zz,Zy,Yq,Yp,Xn,Zg,Wq,ZP,ZQ,Ym,YU,YW,YT,YV,YS,YX,Yr,Ws,Wy,Wt,Wv,Wp,Wz,Ww,Wu,Wx,Xw,ZR,Yo,YY,Wi,YZ,We,Y4,Wh,Wd,Xr,Xe,Xk,Xh,Gz,G9,G8,G7,G6,G5,GU,GV,Xt,Xv,Wo,Xu,GR,Xg,Xj,Xf,Xi,Option.map_some,Xy,Xx,Xq,Xp,Xl,Xz,Zm,ZI,Yi,Yl,Yj,Yk,Yg,ZJ,ZL,Zx,ZK,YR,YQ,Yn,lf,hlen,hlt,decide_true,if_true,hia,hld,Qd,hg,lx,ZgK,hap,hst (O.set 2 (.lst 1 (q.map nm1))) (by simpa using hO),List.set_set,hwr,ih]
theorem Zjb (K:FuncId→List AV→List Zk→KR)(hp0:List Zk)(k0:AV→AV→AV→List Zk→Eff→KR)(y3:AV)(s:Ea)(hs:EN s):∀ (r q:List (List AV)) (m:Nat) (O:List AV),s.belts=q ++ r→r.length < m→O.length=10→O[3]? = some (.own 1 (q.map nm1)) →
  Gf C.G K C.L hp0 k0 m (.ptr hp0.length 0) (.arr (hp0.length + 1) 0 10 1) y3 (.int .i64 q.length) ((hp0 ++ [Zk.cells (Jg s) Zb]) ++ [.cells O YP]) none =
   k0 (.ptr hp0.length 0) (.arr (hp0.length + 1) 0 10 1) y3 ((hp0 ++ [Zk.cells (Jg s) Zb]) ++ [.cells (O.set 3 (.own 1 (s.belts.map nm1))) YP]) none
 | _,_,0,_,_,h,_,_=>by omega
 | [],q,m + 1,O,hr,_,hO,hq=>by
  have hlen:(s.belts.length:Int)=q.length:=by rw [hr]; simp
  have lf:∀ X:List AV,Zf ((hp0 ++ [Zk.cells (Jg s) Zb]) ++ [.cells X YP]) (.ptr hp0.length (0 + 4))=some (.lst 3 s.belts):=fun X=>XF (g := hp0.length) (cs := Jg s) (t := Zb) (by rw [List.getElem?_append_left (by simp)]; exact ZY _ _) 4
  have he:O.set 3 (.own 1 (s.belts.map nm1))=O:=by
   rw [hr,List.append_nil]
   refine List.ext_getElem? fun i=>?_
   rw [List.getElem?_set]
   split
   ·rename_i e; subst e; rw [if_pos (by omega),hq]
   ·rfl
  rw [he]
  simp only [Gf,Wm,Wj,Wl,Xo,ZN,ZM,Zz,Zy,Yq,Yp,Xn,Zg,Wq,ZP,ZQ,Ym,YU,YW,YT,YV,YS,YX,Yr,Ws,Wy,Wt,Wv,Wp,Wz,Ww,Wu,Wx,Xw,ZR,Yo,YY,Wi,YZ,We,Y4,Wh,Wd,Xr,Xe,Xk,Xh,Gz,G9,G8,G7,G6,G5,GU,GV,Xt,Xv,Wo,Xu,GR,Xg,Xj,Xf,Xi,Option.map_some,Xy,Xx,Xq,Xp,Xl,Xz,Zm,ZI,Yi,Yl,Yj,Yk,Yg,ZJ,ZL,Zx,ZK,YR,YQ,Yn,lf,hlen,Int.lt_irrefl,decide_false,Bool.false_eq_true,if_false]
 | x :: r,q,m + 1,O,hr,hm,hO,hq=>by
  have hlen:(s.belts.length:Int)=q.length + (r.length + 1):=by rw [hr]; simp
  have hlt:(q.length:Int) < q.length + (r.length + 1):=by omega
  have hql:q.length + (r.length + 1)≤8796093022208:=by have:=hs.belts.1; rw [hr] at this; simpa using this
  have hg:s.belts[q.length]? = some x:=by rw [hr]; simp
  have hx:=(hs.belts.2 x (by rw [hr]; simp)).2.2
  have lf:∀ X:List AV,Zf ((hp0 ++ [Zk.cells (Jg s) Zb]) ++ [.cells X YP]) (.ptr hp0.length (0 + 4))=some (.lst 3 s.belts):=fun X=>XF (g := hp0.length) (cs := Jg s) (t := Zb) (by rw [List.getElem?_append_left (by simp)]; exact ZY _ _) 4
  have hh:(hp0 ++ [Zk.cells (Jg s) Zb]).length=hp0.length + 1:=by simp
  have hia:Qf (.slice 1) (.arr (hp0.length + 1) 0 10 1) (.int .i64 3)=some (.ptr (hp0 ++ [Zk.cells (Jg s) Zb]).length 3):=by rw [hh]; exact ZgG 1 (hp0.length + 1) 10 3 (by omega)
  have hld:=ZcS hp0.length (hp0 ++ [Zk.cells (Jg s) Zb]) O YP 3 _ none hq (by simp)
  have hst:=fun (X:List AV) (hX:X.length=10)=>Zar hp0.length (hp0 ++ [Zk.cells (Jg s) Zb]) X YP 3 (.own 1 (q.map nm1 ++ [[.str (nameOf x)]])) none rfl (by omega) (by simp)
  have hap:=fun hp=>Zf6 (q.map nm1) (nameOf x) hp (by simp; omega)
  have lx:∀ hp,Zf hp (.ref (x.drop 0))=some (.str (nameOf x)):=fun hp=>by rw [hx]; rfl
  have ih:=Zjb K hp0 k0 y3 s hs r (q ++ [x]) m (O.set 3 (.own 1 (q.map nm1 ++ [[.str (nameOf x)]]))) (by rw [hr]; simp) (by simpa using hm) (by simpa using hO) (by rw [List.getElem?_set_self (by omega)]; simp [nm1])
  simp only [List.length_append,List.length_cons,List.length_nil,Nat.zero_add,List.set_set] at ih
  have hwr:=U6 q.length (by omega)
  simp only [Gf,Wm,Wj,Wl,Xo,ZN,ZM,Zz,Zy,Yq,Yp,Xn,Zg,Wq,ZP,ZQ,Ym,YU,YW,YT,YV,YS,YX,Yr,Ws,Wy,Wt,Wv,Wp,Wz,Ww,Wu,Wx,Xw,ZR,Yo,YY,Wi,YZ,We,Y4,Wh,Wd,Xr,Xe,Xk,Xh,Gz,G9,G8,G7,G6,G5,GU,GV,Xt,Xv,Wo,Xu,GR,Xg,Xj,Xf,Xi,Option.map_some,Xy,Xx,Xq,Xp,Xl,Xz,Zm,ZI,Yi,Yl,Yj,Yk,Yg,ZJ,ZL,Zx,ZK,YR,YQ,Yn,lf,hlen,hlt,decide_true,if_true,hia,hld,Qd,hg,lx,ZgK,hap,hst (O.set 3 (.lst 1 (q.map nm1))) (by simpa using hO),List.set_set,hwr,ih]
theorem Zjc (K:FuncId→List AV→List Zk→KR)(hp0:List Zk)(k0:AV→List Zk→Eff→KR)(y3:AV)(s:Ea)(hs:EN s):∀ (r q:List (List AV)) (m:Nat) (O:List AV),s.routines=q ++ r→r.length < m→O.length=10→O[9]? = some (.own 1 (q.map nm1)) →
  Gg C.G K C.L hp0 k0 m (.ptr hp0.length 0) (.arr (hp0.length + 1) 0 10 1) y3 (.int .i64 q.length) ((hp0 ++ [Zk.cells (Jg s) Zb]) ++ [.cells O YP]) none =
   k0 y3 ((hp0 ++ [Zk.cells (Jg s) Zb]) ++ [.cells (O.set 9 (.own 1 (s.routines.map nm1))) YP]) none
 | _,_,0,_,_,h,_,_=>by omega
 | [],q,m + 1,O,hr,_,hO,hq=>by
  have hlen:(s.routines.length:Int)=q.length:=by rw [hr]; simp
  have lf:∀ X:List AV,Zf ((hp0 ++ [Zk.cells (Jg s) Zb]) ++ [.cells X YP]) (.ptr hp0.length (0 + 10))=some (.lst 4 s.routines):=fun X=>XF (g := hp0.length) (cs := Jg s) (t := Zb) (by rw [List.getElem?_append_left (by simp)]; exact ZY _ _) 10
  have he:O.set 9 (.own 1 (s.routines.map nm1))=O:=by
   rw [hr,List.append_nil]
   refine List.ext_getElem? fun i=>?_
   rw [List.getElem?_set]
   split
   ·rename_i e; subst e; rw [if_pos (by omega),hq]
   ·rfl
  rw [he]
  simp only [Gg,Wm,Wj,Wl,Xo,ZN,ZM,Zz,Zy,Yq,Yp,Xn,Zg,Wq,ZP,ZQ,Ym,YU,YW,YT,YV,YS,YX,Yr,Ws,Wy,Wt,Wv,Wp,Wz,Ww,Wu,Wx,Xw,ZR,Yo,YY,Wi,YZ,We,Y4,Wh,Wd,Xr,Xe,Xk,Xh,Gz,G9,G8,G7,G6,G5,GU,GV,Xt,Xv,Wo,Xu,GR,Xg,Xj,Xf,Xi,Option.map_some,Xy,Xx,Xq,Xp,Xl,Xz,Zm,ZI,Yi,Yl,Yj,Yk,Yg,ZJ,ZL,Zx,ZK,YR,YQ,Yn,lf,hlen,Int.lt_irrefl,decide_false,Bool.false_eq_true,if_false]
 | x :: r,q,m + 1,O,hr,hm,hO,hq=>by
  have hlen:(s.routines.length:Int)=q.length + (r.length + 1):=by rw [hr]; simp
  have hlt:(q.length:Int) < q.length + (r.length + 1):=by omega
  have hql:q.length + (r.length + 1)≤8796093022208:=by have:=hs.routines.1; rw [hr] at this; simpa using this
  have hg:s.routines[q.length]? = some x:=by rw [hr]; simp
  have hx:=(hs.routines.2 x (by rw [hr]; simp)).2.2
  have lf:∀ X:List AV,Zf ((hp0 ++ [Zk.cells (Jg s) Zb]) ++ [.cells X YP]) (.ptr hp0.length (0 + 10))=some (.lst 4 s.routines):=fun X=>XF (g := hp0.length) (cs := Jg s) (t := Zb) (by rw [List.getElem?_append_left (by simp)]; exact ZY _ _) 10
  have hh:(hp0 ++ [Zk.cells (Jg s) Zb]).length=hp0.length + 1:=by simp
  have hia:Qf (.slice 1) (.arr (hp0.length + 1) 0 10 1) (.int .i64 9)=some (.ptr (hp0 ++ [Zk.cells (Jg s) Zb]).length 9):=by rw [hh]; exact ZgG 1 (hp0.length + 1) 10 9 (by omega)
  have hld:=ZcS hp0.length (hp0 ++ [Zk.cells (Jg s) Zb]) O YP 9 _ none hq (by simp)
  have hst:=fun (X:List AV) (hX:X.length=10)=>Zar hp0.length (hp0 ++ [Zk.cells (Jg s) Zb]) X YP 9 (.own 1 (q.map nm1 ++ [[.str (nameOf x)]])) none rfl (by omega) (by simp)
  have hap:=fun hp=>Zf6 (q.map nm1) (nameOf x) hp (by simp; omega)
  have lx:∀ hp,Zf hp (.ref (x.drop 0))=some (.str (nameOf x)):=fun hp=>by rw [hx]; rfl
  have ih:=Zjc K hp0 k0 y3 s hs r (q ++ [x]) m (O.set 9 (.own 1 (q.map nm1 ++ [[.str (nameOf x)]]))) (by rw [hr]; simp) (by simpa using hm) (by simpa using hO) (by rw [List.getElem?_set_self (by omega)]; simp [nm1])
  simp only [List.length_append,List.length_cons,List.length_nil,Nat.zero_add,List.set_set] at ih
  have hwr:=U6 q.length (by omega)
  simp only [Gg,Wm,Wj,Wl,Xo,ZN,ZM,Zz,Zy,Yq,Yp,Xn,Zg,Wq,ZP,ZQ,Ym,YU,YW,YT,YV,YS,YX,Yr,Ws,Wy,Wt,Wv,Wp,Wz,Ww,Wu,Wx,Xw,ZR,Yo,YY,Wi,YZ,We,Y4,Wh,Wd,Xr,Xe,Xk,Xh,Gz,G9,G8,G7,G6,G5,GU,GV,Xt,Xv,Wo,Xu,GR,Xg,Xj,Xf,Xi,Option.map_some,Xy,Xx,Xq,Xp,Xl,Xz,Zm,ZI,Yi,Yl,Yj,Yk,Yg,ZJ,ZL,Zx,ZK,YR,YQ,Yn,lf,hlen,hlt,decide_true,if_true,hia,hld,Qd,hg,lx,ZgK,hap,hst (O.set 9 (.lst 1 (q.map nm1))) (by simpa using hO),List.set_set,hwr,ih]
end
end Go.Proofs.YtlmfmmclnboglaaGreat
end
section
namespace Go.Proofs.YtlmfmmclnboglaaGreat
open Go Go.RowKit Go.Proofs.YtlmfmmclnboglaaGreat.Abs
set_option linter.all false
set_option maxRecDepth 100000
theorem Zpg (bs:Nat)(h:List Zk)(ty:TypeId)(hh:h.length=bs + 1)(a b c d e f g i j k:List (List AV)) :
  frz bs (h ++ [.cells [.own 1 a,.own 1 b,.own 1 c,.own 1 d,.lst 1 e,.lst 1 f,.lst 1 g,.lst 1 i,.lst 1 j,.own 1 k] ty]) (.arr (bs + 1) 0 10 1)=some (.lst 1 [[.lst 1 a],[.lst 1 b],[.lst 1 c],[.lst 1 d],[.lst 1 e],[.lst 1 f],[.lst 1 g],[.lst 1 i],[.lst 1 j],[.lst 1 k]]):=by
 rw [← hh]
 simp only [frz,ZdW,ZrN]
 rw [if_neg (by omega),ZY]
 simp [ZrN,chunk,AV.ro,AV.noId1]
theorem ZnY (h:List Zk):ZqL YP [(.own 1 [])] (.int .i64 10) h=some (.arr h.length 0 10 1,h ++ [.cells [.own 1 [],.own 1 [],.own 1 [],.own 1 [],.own 1 [],.own 1 [],.own 1 [],.own 1 [],.own 1 [],.own 1 []] YP]):=rfl
section
variable {C:Cfg}(hC:Ud C)
include hC
theorem ZoZ (n:Nat)(hp:List Zk)(s:Ea)(hs:EN s):Za C (n + 1) LA [.agg (Jg s)] hp=some (.lst 1 ((ZcX s).map fun l=>[.lst 1 l]),hp,none):=by
 refine Zkp (by rw [hC.T]; rfl) ?_
 have hL:=hC.L
 generalize Za C n=K
 have t0:=ZiY hC K hp (TB C.G K C.L hp) (.arr (hp.length + 1) 0 10 1) s hs s.vars [] C.L [.own 1 [],.own 1 [],.own 1 [],.own 1 [],.own 1 [],.own 1 [],.own 1 [],.own 1 [],.own 1 [],.own 1 []] rfl (by have:=hs.vars.1; omega) rfl rfl
 have t2:=ZiZ hC K hp (TC C.G K C.L hp) (.arr (hp.length + 1) 0 10 1) s hs s.res [] C.L [.own 1 (s.vars.map nm1),.own 1 [],.own 1 [],.own 1 [],.own 1 [],.own 1 [],.own 1 [],.own 1 [],.own 1 [],.own 1 []] rfl (by have:=hs.res.1; omega) rfl rfl
 have t4:=Zja hC K hp (TD C.G K C.L hp) (.arr (hp.length + 1) 0 10 1) s hs s.stores [] C.L [.own 1 (s.vars.map nm1),.own 1 (s.res.map nm1),.own 1 [],.own 1 [],.own 1 [],.own 1 [],.own 1 [],.own 1 [],.own 1 [],.own 1 []] rfl (by have:=hs.stores.1; omega) rfl rfl
 have t6:=Zjb hC K hp (TE C.G K C.L hp) (.arr (hp.length + 1) 0 10 1) s hs s.belts [] C.L [.own 1 (s.vars.map nm1),.own 1 (s.res.map nm1),.own 1 (s.stores.map nm1),.own 1 [],.own 1 [],.own 1 [],.own 1 [],.own 1 [],.own 1 [],.own 1 []] rfl (by have:=hs.belts.1; omega) rfl rfl
 have t8:=Zjc hC K hp (TF C.G K C.L hp) (.arr (hp.length + 1) 0 10 1) s hs s.routines [] C.L [.own 1 (s.vars.map nm1),.own 1 (s.res.map nm1),.own 1 (s.stores.map nm1),.own 1 (s.belts.map nm1),.lst 1 s.queues,.lst 1 s.streams,.lst 1 s.tallies,.lst 1 s.levels,.lst 1 s.counts,.own 1 []] rfl (by have:=hs.routines.1; omega) rfl rfl
 have hh:(hp ++ [Zk.cells (Jg s) Zb]).length=hp.length + 1:=by simp
 have lf:∀ (X:List AV) (i:Nat) (v:AV),(Jg s)[i]? = some v→Zf ((hp ++ [Zk.cells (Jg s) Zb]) ++ [.cells X YP]) (.ptr hp.length (0 + i))=some v.ro:=fun X i v hv=>by
  rw [Nat.zero_add,XF (g := hp.length) (cs := Jg s) (t := Zb) (by rw [List.getElem?_append_left (by simp)]; exact ZY _ _) i,hv]; rfl
 have hia:∀ k:Nat,k < 10→Qf (.slice 1) (.arr (hp.length + 1) 0 10 1) (.int .i64 k)=some (.ptr (hp ++ [Zk.cells (Jg s) Zb]).length (k * 1)):=fun k hk=>by rw [hh]; exact ZgG 1 (hp.length + 1) 10 k hk
 have hia4:Qf (.slice 1) (.arr (hp.length + 1) 0 10 1) (.int .i64 4)=some (.ptr (hp ++ [Zk.cells (Jg s) Zb]).length 4):=hia 4 (by omega)
 have hia5:Qf (.slice 1) (.arr (hp.length + 1) 0 10 1) (.int .i64 5)=some (.ptr (hp ++ [Zk.cells (Jg s) Zb]).length 5):=hia 5 (by omega)
 have hia6:Qf (.slice 1) (.arr (hp.length + 1) 0 10 1) (.int .i64 6)=some (.ptr (hp ++ [Zk.cells (Jg s) Zb]).length 6):=hia 6 (by omega)
 have hia7:Qf (.slice 1) (.arr (hp.length + 1) 0 10 1) (.int .i64 7)=some (.ptr (hp ++ [Zk.cells (Jg s) Zb]).length 7):=hia 7 (by omega)
 have hia8:Qf (.slice 1) (.arr (hp.length + 1) 0 10 1) (.int .i64 8)=some (.ptr (hp ++ [Zk.cells (Jg s) Zb]).length 8):=hia 8 (by omega)
 have hst:=fun (X:List AV) (k:Nat) (r:List (List AV)) (hk:k < X.length)=>Zar hp.length (hp ++ [Zk.cells (Jg s) Zb]) X YP k (.lst 1 r) none rfl hk (by simp)
 have f5:=fun X=>lf X 5 (.lst 1 s.queues) rfl
 have f6:=fun X=>lf X 6 (.lst 1 s.streams) rfl
 have f7:=fun X=>lf X 7 (.lst 1 s.tallies) rfl
 have f8:=fun X=>lf X 8 (.lst 1 s.levels) rfl
 have f9:=fun X=>lf X 9 (.lst 1 s.counts) rfl
 simp only [List.length_nil,List.set,List.map_nil] at t0 t2 t4 t6 t8
 have hz:(((0:Nat):Int))=0:=rfl
 simp only [Zb7,Wm,Wj,Wl,Xo,ZN,ZM,Zz,Zy,Yq,Yp,Xn,Zg,Wq,ZP,ZQ,Ym,YU,YW,YT,YV,YS,YX,Yr,Ws,Wy,Wt,Wv,Wp,Wz,Ww,Wu,Wx,Xw,ZR,Yo,YY,Wi,YZ,We,Y4,Wh,Wd,Xr,Xe,Xk,Xh,Gz,G9,G8,G7,G6,G5,GU,GV,Xt,Xv,Wo,Xu,GR,Xg,Xj,Xf,Xi,Option.map_some,Xy,Xx,Xq,Xp,Xl,Xz,Zm,ZI,Yi,Yl,Yj,Yk,Yg,ZJ,ZL,Zx,ZK,YR,YQ,Yn,GD 13 (Jg s) rfl,ZnY,hh]
 refine Eq.trans t0 ?_
 simp only [TB]
 refine Eq.trans t2 ?_
 simp only [TC]
 refine Eq.trans t4 ?_
 simp only [TD]
 refine Eq.trans t6 ?_
 simp only [TE,Wm,Wj,Wl,Xo,ZN,ZM,Zz,Zy,Yq,Yp,Xn,Zg,Wq,ZP,ZQ,Ym,YU,YW,YT,YV,YS,YX,Yr,Ws,Wy,Wt,Wv,Wp,Wz,Ww,Wu,Wx,Xw,ZR,Yo,YY,Wi,YZ,We,Y4,Wh,Wd,Xr,Xe,Xk,Xh,Gz,G9,G8,G7,G6,G5,GU,GV,Xt,Xv,Wo,Xu,GR,Xg,Xj,Xf,Xi,Option.map_some,Xy,Xx,Xq,Xp,Xl,Xz,Zm,ZI,Yi,Yl,Yj,Yk,Yg,ZJ,ZL,Zx,ZK,YR,YQ,Yn,f5,f6,f7,f8,f9,hia4,hia5,hia6,hia7,hia8]
 rw [hst _ 4 _ (by simp)]
 simp only [Wm,Wj,Wl,Xo,ZN,ZM,Zz,Zy,Yq,Yp,Xn,Zg,Wq,ZP,ZQ,Ym,YU,YW,YT,YV,YS,YX,Yr,Ws,Wy,Wt,Wv,Wp,Wz,Ww,Wu,Wx,Xw,ZR,Yo,YY,Wi,YZ,We,Y4,Wh,Wd,Xr,Xe,Xk,Xh,Gz,G9,G8,G7,G6,G5,GU,GV,Xt,Xv,Wo,Xu,GR,Xg,Xj,Xf,Xi,Option.map_some,Xy,Xx,Xq,Xp,Xl,Xz,Zm,ZI,Yi,Yl,Yj,Yk,Yg,ZJ,ZL,Zx,ZK,YR,YQ,Yn,List.set,f6]
 rw [hst _ 5 _ (by simp)]
 simp only [Wm,Wj,Wl,Xo,ZN,ZM,Zz,Zy,Yq,Yp,Xn,Zg,Wq,ZP,ZQ,Ym,YU,YW,YT,YV,YS,YX,Yr,Ws,Wy,Wt,Wv,Wp,Wz,Ww,Wu,Wx,Xw,ZR,Yo,YY,Wi,YZ,We,Y4,Wh,Wd,Xr,Xe,Xk,Xh,Gz,G9,G8,G7,G6,G5,GU,GV,Xt,Xv,Wo,Xu,GR,Xg,Xj,Xf,Xi,Option.map_some,Xy,Xx,Xq,Xp,Xl,Xz,Zm,ZI,Yi,Yl,Yj,Yk,Yg,ZJ,ZL,Zx,ZK,YR,YQ,Yn,List.set,f7]
 rw [hst _ 6 _ (by simp)]
 simp only [Wm,Wj,Wl,Xo,ZN,ZM,Zz,Zy,Yq,Yp,Xn,Zg,Wq,ZP,ZQ,Ym,YU,YW,YT,YV,YS,YX,Yr,Ws,Wy,Wt,Wv,Wp,Wz,Ww,Wu,Wx,Xw,ZR,Yo,YY,Wi,YZ,We,Y4,Wh,Wd,Xr,Xe,Xk,Xh,Gz,G9,G8,G7,G6,G5,GU,GV,Xt,Xv,Wo,Xu,GR,Xg,Xj,Xf,Xi,Option.map_some,Xy,Xx,Xq,Xp,Xl,Xz,Zm,ZI,Yi,Yl,Yj,Yk,Yg,ZJ,ZL,Zx,ZK,YR,YQ,Yn,List.set,f8]
 rw [hst _ 7 _ (by simp)]
 simp only [Wm,Wj,Wl,Xo,ZN,ZM,Zz,Zy,Yq,Yp,Xn,Zg,Wq,ZP,ZQ,Ym,YU,YW,YT,YV,YS,YX,Yr,Ws,Wy,Wt,Wv,Wp,Wz,Ww,Wu,Wx,Xw,ZR,Yo,YY,Wi,YZ,We,Y4,Wh,Wd,Xr,Xe,Xk,Xh,Gz,G9,G8,G7,G6,G5,GU,GV,Xt,Xv,Wo,Xu,GR,Xg,Xj,Xf,Xi,Option.map_some,Xy,Xx,Xq,Xp,Xl,Xz,Zm,ZI,Yi,Yl,Yj,Yk,Yg,ZJ,ZL,Zx,ZK,YR,YQ,Yn,List.set,f9]
 rw [hst _ 8 _ (by simp)]
 simp only [Wm,Wj,Wl,Xo,ZN,ZM,Zz,Zy,Yq,Yp,Xn,Zg,Wq,ZP,ZQ,Ym,YU,YW,YT,YV,YS,YX,Yr,Ws,Wy,Wt,Wv,Wp,Wz,Ww,Wu,Wx,Xw,ZR,Yo,YY,Wi,YZ,We,Y4,Wh,Wd,Xr,Xe,Xk,Xh,Gz,G9,G8,G7,G6,G5,GU,GV,Xt,Xv,Wo,Xu,GR,Xg,Xj,Xf,Xi,Option.map_some,Xy,Xx,Xq,Xp,Xl,Xz,Zm,ZI,Yi,Yl,Yj,Yk,Yg,ZJ,ZL,Zx,ZK,YR,YQ,Yn,List.set]
 refine Eq.trans t8 ?_
 simp only [TF,Zs1 (Zpg hp.length _ YP hh _ _ _ _ _ _ _ _ _ _)]
 simp only [ZcX,kinds,List.map_cons,List.map_nil,(Rp hs.queues).1,(Rp hs.streams).1,(Rp hs.tallies).1,(Rp hs.levels).1,(Rp hs.counts).1]
end
end Go.Proofs.YtlmfmmclnboglaaGreat
end
section
namespace Go.Proofs.YtlmfmmclnboglaaGreat
open Go Go.RowKit Go.Proofs.YtlmfmmclnboglaaGreat.Abs
set_option linter.all false
set_option maxRecDepth 100000
structure Mdl where
 name:List UInt8
 params:List (List AV)
 sites:List Ea
 links:List (List AV)
def Za0 (m:Mdl):List AV:=[.str m.name,.lst 3 m.params,.lst 13 (m.sites.map Jg),.lst 3 m.links]
structure ZrG (r:List AV):Prop where
 ex:∃ a b d,r=[.str a,.str b,.int .i64 d]
structure Zo9 (m:Mdl):Prop where
 params:m.params.length≤8796093022208
 sites:m.sites.length≤8796093022208
 site:∀ s ∈ m.sites,EN s
 links:m.links.length≤8796093022208
 link:∀ r ∈ m.links,ZrG r
def Ztr (name:List UInt8)(m:Mdl):Int:=Xb (isN name) (m.sites.map Jg) 0
def isL (a b:List UInt8)(r:List AV):Bool :=
 match r with
 | [.str x,.str y,.int .i64 _]=>decide (x=a) && decide (y=b)
 | _=>false
theorem Zph {hp:List Zk}{a b:Zk}:((hp ++ [a]) ++ [b])[hp.length]? = some a:=by
 rw [List.getElem?_append_left (by simp)]; exact ZY _ _
theorem ZlX (l:List Ea):∀ r ∈ l.map Jg,r.length=13∧r.map AV.ro=r∧r=.str (nameOf r) :: r.tail:=by
 intro r hr
 obtain ⟨s,_,rfl⟩:=List.mem_map.1 hr
 exact ⟨rfl,rfl,rfl⟩
section
variable {C:Cfg}(hC:Ud C)
include hC
theorem Zsw (n:Nat)(hp:List Zk)(m:Mdl)(name:List UInt8)(hm:Zo9 m):Za C (n + 3) Od [.agg (Za0 m),.str name] hp=some (.int .i64 (Ztr name m),hp,none):=by
 refine Zir (by rw [hC.T]; rfl) ?_
 have lf:Zf ((hp ++ [Zk.cells (Za0 m) Yd]) ++ [Zk.cells [.str name] Y9]) (.ptr hp.length (0 + 2))=some (.lst 13 (m.sites.map Jg)):=XF Zph 2
 have hg:((hp ++ [Zk.cells (Za0 m) Yd]) ++ [Zk.cells [.str name] Y9])[(hp ++ [Zk.cells (Za0 m) Yd]).length]? = some (.cells [.str name] Y9):=ZY _ _
 have hc:=Lb hC (n + 1) ((hp ++ [Zk.cells (Za0 m) Yd]) ++ [Zk.cells [.str name] Y9]) Ri [.ptr (hp ++ [Zk.cells (Za0 m) Yd]).length 0] (isN name) (m.sites.map Jg) (by have:=hm.sites; simp; omega) (fun r hr=>let ⟨a,b,_⟩:=ZlX m.sites r hr; ⟨a,b⟩) fun r hr=>by
  obtain ⟨h1,_,h3⟩:=ZlX m.sites r hr
  have:=ZdQ hC n ((hp ++ [Zk.cells (Za0 m) Yd]) ++ [Zk.cells [.str name] Y9]) (nameOf r) name r.tail (by rw [h3] at h1; simpa using h1) _ hg
  rw [← h3] at this
  exact this
 simp only [Cj,Wm,Wj,Wl,Xo,ZN,ZM,Zz,Zy,Yq,Yp,Xn,Zg,Wq,ZP,ZQ,Ym,YU,YW,YT,YV,YS,YX,Yr,Ws,Wy,Wt,Wv,Wp,Wz,Ww,Wu,Wx,Xw,ZR,Yo,YY,Wi,YZ,We,Y4,Wh,Wd,Xr,Xe,Xk,Xh,Gz,G9,G8,G7,G6,G5,GU,GV,Xt,Xv,Wo,Xu,GR,Xg,Xj,Xf,Xi,Option.map_some,Xy,Xx,Xq,Xp,Xl,Xz,Zm,ZI,Yi,Yl,Yj,Yk,Yg,ZJ,ZL,Zx,ZK,YR,YQ,Yn,GD 4 (Za0 m) rfl,Zf8,lf,hc]
 rfl
theorem ZiX (n:Nat)(hp:List Zk)(s:Ea)(name:List UInt8)(hs:EN s):Za C (n + 3) V7 [.agg (Jg s),.str name] hp=some (.int .i64 (Xb (isN name) s.routines 0),hp,none):=by
 refine Zec (by rw [hC.T]; rfl) ?_
 have lf:Zf ((hp ++ [Zk.cells (Jg s) Zb]) ++ [Zk.cells [.str name] Y9]) (.ptr hp.length (0 + 10))=some (.lst 4 s.routines):=XF Zph 10
 have hg:((hp ++ [Zk.cells (Jg s) Zb]) ++ [Zk.cells [.str name] Y9])[(hp ++ [Zk.cells (Jg s) Zb]).length]? = some (.cells [.str name] Y9):=ZY _ _
 have hc:=LW hC (n + 1) ((hp ++ [Zk.cells (Jg s) Zb]) ++ [Zk.cells [.str name] Y9]) OG [.ptr (hp ++ [Zk.cells (Jg s) Zb]).length 0] (isN name) s.routines (by have:=hs.routines.1; omega) (fun r hr=>let ⟨a,b,_⟩:=hs.routines.2 r hr; ⟨a,b⟩) fun r hr=>by
  obtain ⟨h1,_,h3⟩:=hs.routines.2 r hr
  have:=Zax hC n ((hp ++ [Zk.cells (Jg s) Zb]) ++ [Zk.cells [.str name] Y9]) (nameOf r) name r.tail (by rw [h3] at h1; simpa using h1) _ hg
  rw [← h3] at this
  exact this
 simp only [Dv,Wm,Wj,Wl,Xo,ZN,ZM,Zz,Zy,Yq,Yp,Xn,Zg,Wq,ZP,ZQ,Ym,YU,YW,YT,YV,YS,YX,Yr,Ws,Wy,Wt,Wv,Wp,Wz,Ww,Wu,Wx,Xw,ZR,Yo,YY,Wi,YZ,We,Y4,Wh,Wd,Xr,Xe,Xk,Xh,Gz,G9,G8,G7,G6,G5,GU,GV,Xt,Xv,Wo,Xu,GR,Xg,Xj,Xf,Xi,Option.map_some,Xy,Xx,Xq,Xp,Xl,Xz,Zm,ZI,Yi,Yl,Yj,Yk,Yg,ZJ,ZL,Zx,ZK,YR,YQ,Yn,GD 13 (Jg s) rfl,Zf8,lf,hc]
theorem Zpa (n:Nat)(hp:List Zk)(s:Ea)(name:List UInt8)(hs:EN s):Za C (n + 4) Bp [.agg (Jg s),.str name] hp=some (.tup [.str (O8 name (kinds s)).1,.int .i64 (O8 name (kinds s)).2],hp,none):=by
 refine ZgQ (by rw [hC.T]; rfl) ?_
 obtain ⟨H,hH⟩:∃ H,((hp ++ [Zk.cells (Jg s) Zb]) ++ [Zk.cells [.str name] Y9])=H:=⟨_,rfl⟩
 have hg:H[(hp ++ [Zk.cells (Jg s) Zb]).length]? = some (.cells [.str name] Y9):=by rw [← hH]; exact ZY _ _
 have hg0:H[hp.length]? = some (.cells (Jg s) Zb):=by rw [← hH]; exact Zph
 have lf:∀ (i:Nat) (v:AV),(Jg s)[i]? = some v→Zf H (.ptr hp.length (0 + i))=some v.ro:=fun i v hv=>by
  rw [Nat.zero_add,XF hg0 i,hv]; rfl
 have ln:Zf H (.ptr (hp ++ [Zk.cells (Jg s) Zb]).length 0)=some (.str name):=XF hg 0
 have la:Z8 H 13 (.ptr hp.length 0)=some (.agg (Jg s)):=CR hg0 13 0 (by simp [Jg])
 have f1:=lf 1 (.lst 3 s.vars) rfl
 have f2:=lf 2 (.lst 17 s.res) rfl
 have f3:=lf 3 (.lst 3 s.stores) rfl
 have f4:=lf 4 (.lst 3 s.belts) rfl
 have f5:=lf 5 (.lst 1 s.queues) rfl
 have f6:=lf 6 (.lst 1 s.streams) rfl
 have f7:=lf 7 (.lst 1 s.tallies) rfl
 have f8:=lf 8 (.lst 1 s.levels) rfl
 have f9:=lf 9 (.lst 1 s.counts) rfl
 have c1:=DK hC (n + 2) H MB [.ptr (hp ++ [Zk.cells (Jg s) Zb]).length 0] (isN name) s.vars (by have:=hs.vars.1; omega) (fun r hr=>let ⟨a,b,_⟩:=hs.vars.2 r hr; ⟨a,b⟩) fun r hr=>by
  obtain ⟨h1,_,h3⟩:=hs.vars.2 r hr
  have:=ZcH hC (n + 1) H (nameOf r) name r.tail (by rw [h3] at h1; simpa using h1) _ hg
  rw [← h3] at this
  exact this
 have c2:=IJ hC (n + 2) H MC [.ptr (hp ++ [Zk.cells (Jg s) Zb]).length 0] (isN name) s.res (by have:=hs.res.1; omega) (fun r hr=>let ⟨a,b,_⟩:=hs.res.2 r hr; ⟨a,b⟩) fun r hr=>by
  obtain ⟨h1,_,h3⟩:=hs.res.2 r hr
  have:=ZcI hC (n + 1) H (nameOf r) name r.tail (by rw [h3] at h1; simpa using h1) _ hg
  rw [← h3] at this
  exact this
 have c3:=UY hC (n + 2) H ME [.ptr (hp ++ [Zk.cells (Jg s) Zb]).length 0] (isN name) s.stores (by have:=hs.stores.1; omega) (fun r hr=>let ⟨a,b,_⟩:=hs.stores.2 r hr; ⟨a,b⟩) fun r hr=>by
  obtain ⟨h1,_,h3⟩:=hs.stores.2 r hr
  have:=ZcJ hC (n + 1) H (nameOf r) name r.tail (by rw [h3] at h1; simpa using h1) _ hg
  rw [← h3] at this
  exact this
 have c4:=La hC (n + 2) H MF [.ptr (hp ++ [Zk.cells (Jg s) Zb]).length 0] (isN name) s.belts (by have:=hs.belts.1; omega) (fun r hr=>let ⟨a,b,_⟩:=hs.belts.2 r hr; ⟨a,b⟩) fun r hr=>by
  obtain ⟨h1,_,h3⟩:=hs.belts.2 r hr
  have:=ZcK hC (n + 1) H (nameOf r) name r.tail (by rw [h3] at h1; simpa using h1) _ hg
  rw [← h3] at this
  exact this
 have c5:=ZdR hC (n + 2) H name s.queues (by have:=hs.queues.1; omega) (Rp hs.queues).2
 have c6:=ZdR hC (n + 2) H name s.streams (by have:=hs.streams.1; omega) (Rp hs.streams).2
 have c7:=ZdR hC (n + 2) H name s.tallies (by have:=hs.tallies.1; omega) (Rp hs.tallies).2
 have c8:=ZdR hC (n + 2) H name s.levels (by have:=hs.levels.1; omega) (Rp hs.levels).2
 have c9:=ZdR hC (n + 2) H name s.counts (by have:=hs.counts.1; omega) (Rp hs.counts).2
 have c10:=ZiX hC n H s name hs
 generalize Za C (n + 3)=K at *
 simp only [E9,Wm,Wj,Wl,Xo,ZN,ZM,Zz,Zy,Yq,Yp,Xn,Zg,Wq,ZP,ZQ,Ym,YU,YW,YT,YV,YS,YX,Yr,Ws,Wy,Wt,Wv,Wp,Wz,Ww,Wu,Wx,Xw,ZR,Yo,YY,Wi,YZ,We,Y4,Wh,Wd,Xr,Xe,Xk,Xh,Gz,G9,G8,G7,G6,G5,GU,GV,Xt,Xv,Wo,Xu,GR,Xg,Xj,Xf,Xi,Option.map_some,Xy,Xx,Xq,Xp,Xl,Xz,Zm,ZI,Yi,Yl,Yj,Yk,Yg,ZJ,ZL,Zx,ZK,YR,YQ,Yn,GD 13 (Jg s) rfl,Zf8,hH,f1,f2,f3,f4,f5,f6,f7,f8,f9,ln,la,c1,c2,c3,c4,c5,c6,c7,c8,c9,c10,kinds,O8]
 by_cases q1:0≤Xb (isN name) s.vars 0
 ·simp only [q1,decide_true,if_true]; rfl
 simp only [q1,decide_false,Bool.false_eq_true,if_false]
 by_cases q2:0≤Xb (isN name) s.res 0
 ·simp only [q2,decide_true,if_true]; rfl
 simp only [q2,decide_false,Bool.false_eq_true,if_false]
 by_cases q3:0≤Xb (isN name) s.stores 0
 ·simp only [q3,decide_true,if_true]; rfl
 simp only [q3,decide_false,Bool.false_eq_true,if_false]
 by_cases q4:0≤Xb (isN name) s.belts 0
 ·simp only [q4,decide_true,if_true]; rfl
 simp only [q4,decide_false,Bool.false_eq_true,if_false]
 by_cases q5:0≤Xb (isN name) s.queues 0
 ·simp only [q5,decide_true,if_true]; rfl
 simp only [q5,decide_false,Bool.false_eq_true,if_false]
 by_cases q6:0≤Xb (isN name) s.streams 0
 ·simp only [q6,decide_true,if_true]; rfl
 simp only [q6,decide_false,Bool.false_eq_true,if_false]
 by_cases q7:0≤Xb (isN name) s.tallies 0
 ·simp only [q7,decide_true,if_true]; rfl
 simp only [q7,decide_false,Bool.false_eq_true,if_false]
 by_cases q8:0≤Xb (isN name) s.levels 0
 ·simp only [q8,decide_true,if_true]; rfl
 simp only [q8,decide_false,Bool.false_eq_true,if_false]
 by_cases q9:0≤Xb (isN name) s.counts 0
 ·simp only [q9,decide_true,if_true]; rfl
 simp only [q9,decide_false,Bool.false_eq_true,if_false]
 by_cases q10:0≤Xb (isN name) s.routines 0
 ·simp only [q10,decide_true,if_true]; rfl
 simp only [q10,decide_false,Bool.false_eq_true,if_false]
 rfl
theorem Zsu (n:Nat)(hp:List Zk)(s:Ea)(name:List UInt8)(hs:EN s):Za C (n + 5) Mm [.agg (Jg s),.str name] hp=some (.str (O8 name (kinds s)).1,hp,none):=by
 refine Zip (by rw [hC.T]; rfl) ?_
 have la:Z8 (hp ++ [Zk.cells (Jg s) Zb]) 13 (.ptr hp.length 0)=some (.agg (Jg s)):=Znq 13 hp _ _ 0 (by simp [Jg])
 have hc:=Zpa hC n (hp ++ [Zk.cells (Jg s) Zb]) s name hs
 simp only [Ci,Wm,Wj,Wl,Xo,ZN,ZM,Zz,Zy,Yq,Yp,Xn,Zg,Wq,ZP,ZQ,Ym,YU,YW,YT,YV,YS,YX,Yr,Ws,Wy,Wt,Wv,Wp,Wz,Ww,Wu,Wx,Xw,ZR,Yo,YY,Wi,YZ,We,Y4,Wh,Wd,Xr,Xe,Xk,Xh,Gz,G9,G8,G7,G6,G5,GU,GV,Xt,Xv,Wo,Xu,GR,Xg,Xj,Xf,Xi,Option.map_some,Xy,Xx,Xq,Xp,Xl,Xz,Zm,ZI,Yi,Yl,Yj,Yk,Yg,ZJ,ZL,Zx,ZK,YR,YQ,Yn,GD 13 (Jg s) rfl,la,hc,List.getElem?_cons_zero,List.getElem?_cons_succ]
theorem Zq6 (n:Nat)(hp:List Zk)(s:Ea)(name:List UInt8)(hs:EN s):Za C (n + 5) OE [.agg (Jg s),.str name] hp=some (.int .i64 (O8 name (kinds s)).2,hp,none):=by
 refine ZgM (by rw [hC.T]; rfl) ?_
 have la:Z8 (hp ++ [Zk.cells (Jg s) Zb]) 13 (.ptr hp.length 0)=some (.agg (Jg s)):=Znq 13 hp _ _ 0 (by simp [Jg])
 have hc:=Zpa hC n (hp ++ [Zk.cells (Jg s) Zb]) s name hs
 simp only [Ex,Wm,Wj,Wl,Xo,ZN,ZM,Zz,Zy,Yq,Yp,Xn,Zg,Wq,ZP,ZQ,Ym,YU,YW,YT,YV,YS,YX,Yr,Ws,Wy,Wt,Wv,Wp,Wz,Ww,Wu,Wx,Xw,ZR,Yo,YY,Wi,YZ,We,Y4,Wh,Wd,Xr,Xe,Xk,Xh,Gz,G9,G8,G7,G6,G5,GU,GV,Xt,Xv,Wo,Xu,GR,Xg,Xj,Xf,Xi,Option.map_some,Xy,Xx,Xq,Xp,Xl,Xz,Zm,ZI,Yi,Yl,Yj,Yk,Yg,ZJ,ZL,Zx,ZK,YR,YQ,Yn,GD 13 (Jg s) rfl,la,hc,List.getElem?_cons_zero,List.getElem?_cons_succ]
end
end Go.Proofs.YtlmfmmclnboglaaGreat
end
section
namespace Go.Proofs.YtlmfmmclnboglaaGreat
open Go Go.RowKit Go.Proofs.YtlmfmmclnboglaaGreat.Abs
set_option linter.all false
set_option maxRecDepth 100000
def Zs5 (n:Int):Bool:=decide (97≤n) && decide (n≤122)
def Zso (n:Int):Bool:=Zs5 n || decide (n=95) || (decide (48≤n) && decide (n≤57))
def kws:List (List UInt8):=[[97,100,100],[97,102,116,101,114],[97,110,100],[97,116],[98,101,108,116],[98,111,111,108],[99,111,110,115,101,114,118,101],[99,111,110,115,116],[99,111,117,110,116],[99,121,99,108,101],[100,111,119,110],[100,114,97,119],[100,117,114],[101,108,115,101],[101,110,100],[101,118,101,114,121],[102,97,108,115,101],[102,97,117,108,116],[102,105,102,111],[102,114,101,101],[102,114,111,109],[103,101,111,109],[103,101,116],[104,111,108,100],[105,102],[105,110,116],[105,110,116,111],[108,101,97,115,116],[108,101,118,101,108],[108,105,102,111],[108,105,110,107],[108,111,99,97,108],[109,97,120],[109,105,110],[109,111,100,101,108],[110,111,116],[110,111,119],[111,98,115,101,114,118,101],[111,114],[112,97,114,97,109],[112,114,101,101,109,112,116],[112,114,105,111],[112,117,116],[113,117,101,117,101],[114,101,108,101,97,115,101],[114,101,115,111,117,114,99,101],[114,105,100,101],[114,111,117,116,105,110,101],[115,101,105,122,101],[115,101,110,100],[115,101,116],[115,104,105,102,116],[115,105,103,110,97,108],[115,105,116,101],[115,105,122,101],[115,112,97,119,110],[115,116,97,114,116],[115,116,111,112],[115,116,111,114,101],[115,116,114,101,97,109],[115,117,109],[116,97,98,108,101],[116,97,108,108,121],[116,105,99,107,115],[116,105,109,101],[116,114,117,101],[117,110,105,102,111,114,109],[117,110,116,105,108],[117,112],[118,97,114],[119,97,105,116],[119,97,105,116,105,110,103],[119,104,105,108,101]]
def kwB (s:List UInt8):Bool:=kws.any fun k=>decide (s=k)
def R9 (s:List UInt8):Int :=
 match s with
 | []=>3
 | c :: r=>if 24 < (c :: r).length∨Zs5 c.toNat=false∨kwB (c :: r)=true then 3 else if (c :: r).all (fun x=>Zso x.toNat) then 0 else 3
def inB (n:Int):Bool:=decide (-1000000000000≤n) && decide (n≤1000000000000)
theorem Zmu (s q r:List UInt8)(c:UInt8)(h:s=q ++ c :: r):Sz (.str s) (.int .i64 q.length)=some (.int .u8 c.toNat):=by
 subst h; simp [Sz]
theorem ZuF (b x:Bool)(hp:List Zk):(if b=true then some ((AV.bool true),hp,(none:Eff)) else some ((AV.bool x),hp,none))=some (.bool (b || x),hp,none):=by cases b <;> rfl
theorem ZtL (b x:Bool)(hp:List Zk):(if b=true then some ((AV.bool (b || false)),hp,(none:Eff)) else some ((AV.bool x),hp,none))=some (.bool (b || x),hp,none):=by cases b <;> rfl
theorem Zs4 {α:Type}(b:Bool)(x y z:α):(if b=true then (if b=true then x else y) else z)=if b=true then x else z:=by cases b <;> rfl
section
variable {C:Cfg}(hC:Ud C)
include hC
theorem Zsx (n:Nat)(x:Int)(hp:List Zk):Za C (n + 1) Zaj [.int .i64 x] hp=some (.bool (inB x),hp,none):=by
 refine Zoc (by rw [hC.T]; rfl) ?_
 by_cases h1:-1000000000000≤x <;> by_cases h2:x≤1000000000000 <;> simp [ZjD,Wm,Wj,Wl,Xo,ZN,ZM,Zz,Zy,Yq,Yp,Xn,Zg,Wq,ZP,ZQ,Ym,YU,YW,YT,YV,YS,YX,Yr,Ws,Wy,Wt,Wv,Wp,Wz,Ww,Wu,Wx,Xw,ZR,Yo,YY,Wi,YZ,We,Y4,Wh,Wd,Xr,Xe,Xk,Xh,Gz,G9,G8,G7,G6,G5,GU,GV,Xt,Xv,Wo,Xu,GR,Xg,Xj,Xf,Xi,Option.map_some,Xy,Xx,Xq,Xp,Xl,Xz,Zm,ZI,Yi,Yl,Yj,Yk,Yg,ZJ,ZL,Zx,ZK,YR,YQ,Yn,inB,h1,h2]
theorem Znm (n:Nat)(x:Int)(hp:List Zk):Za C (n + 1) Rj [.int .u8 x] hp=some (.bool (Zs5 x),hp,none):=by
 refine Zfl (by rw [hC.T]; rfl) ?_
 by_cases h1:97≤x <;> by_cases h2:x≤122 <;> simp [NA,Wm,Wj,Wl,Xo,ZN,ZM,Zz,Zy,Yq,Yp,Xn,Zg,Wq,ZP,ZQ,Ym,YU,YW,YT,YV,YS,YX,Yr,Ws,Wy,Wt,Wv,Wp,Wz,Ww,Wu,Wx,Xw,ZR,Yo,YY,Wi,YZ,We,Y4,Wh,Wd,Xr,Xe,Xk,Xh,Gz,G9,G8,G7,G6,G5,GU,GV,Xt,Xv,Wo,Xu,GR,Xg,Xj,Xf,Xi,Option.map_some,Xy,Xx,Xq,Xp,Xl,Xz,Zm,ZI,Yi,Yl,Yj,Yk,Yg,ZJ,ZL,Zx,ZK,YR,YQ,Yn,Zs5,h1,h2]
set_option maxHeartbeats 2000000 in
theorem ZoY (n:Nat)(s:List UInt8)(hp:List Zk):Za C (n + 1) BM [.str s] hp=some (.bool (kwB s),hp,none):=by
 refine Zen (by rw [hC.T]; rfl) ?_
 simp only [DF,Wm,Wj,Wl,Xo,ZN,ZM,Zz,Zy,Yq,Yp,Xn,Zg,Wq,ZP,ZQ,Ym,YU,YW,YT,YV,YS,YX,Yr,Ws,Wy,Wt,Wv,Wp,Wz,Ww,Wu,Wx,Xw,ZR,Yo,YY,Wi,YZ,We,Y4,Wh,Wd,Xr,Xe,Xk,Xh,Gz,G9,G8,G7,G6,G5,GU,GV,Xt,Xv,Wo,Xu,GR,Xg,Xj,Xf,Xi,Option.map_some,Xy,Xx,Xq,Xp,Xl,Xz,Zm,ZI,Yi,Yl,Yj,Yk,Yg,ZJ,ZL,Zx,ZK,YR,YQ,Yn,Zs4,ZuF,ZtL,kwB,kws,List.any_cons,List.any_nil]
theorem CF (n:Nat)(hp0:List Zk)(s:List UInt8)(hl:s.length≤140737488355328):∀ (r q:List UInt8) (m:Nat),s=q ++ r→r.length < m →
  Uj C.G (Za C (n + 1)) C.L hp0 (Iq C.G (Za C (n + 1)) C.L hp0) m (.str s) (.int .i64 s.length) (.int .i64 q.length) hp0 none=some (.int .i64 (if r.all (fun x=>Zso x.toNat) then 0 else 3),hp0,none)
 | _,_,0,_,h=>by omega
 | [],q,m + 1,hq,_=>by
  have hlen:(s.length:Int)=q.length:=by rw [hq]; simp
  simp only [Uj,Iq,Wm,Wj,Wl,Xo,ZN,ZM,Zz,Zy,Yq,Yp,Xn,Zg,Wq,ZP,ZQ,Ym,YU,YW,YT,YV,YS,YX,Yr,Ws,Wy,Wt,Wv,Wp,Wz,Ww,Wu,Wx,Xw,ZR,Yo,YY,Wi,YZ,We,Y4,Wh,Wd,Xr,Xe,Xk,Xh,Gz,G9,G8,G7,G6,G5,GU,GV,Xt,Xv,Wo,Xu,GR,Xg,Xj,Xf,Xi,Option.map_some,Xy,Xx,Xq,Xp,Xl,Xz,Zm,ZI,Yi,Yl,Yj,Yk,Yg,ZJ,ZL,Zx,ZK,YR,YQ,Yn,hlen,Int.lt_irrefl,decide_false,Bool.false_eq_true,if_false,List.all_nil,if_true]
 | c :: r,q,m + 1,hq,hm=>by
  have hlen:(s.length:Int)=q.length + (r.length + 1):=by rw [hq]; simp
  have hlt:(q.length:Int) < q.length + (r.length + 1):=by omega
  have hql:q.length + (r.length + 1)≤140737488355328:=by rw [hq] at hl; simpa using hl
  have hx:=Zmu s q r c hq
  have h1:=Znm hC n (c.toNat:Int) hp0
  have ih:=CF n hp0 s hl r (q ++ [c]) m (by rw [hq]; simp) (by simpa using hm)
  simp only [List.length_append,List.length_cons,List.length_nil,Nat.zero_add] at ih
  have hwr:=U6 q.length (by omega)
  rw [hlen] at ih ⊢
  have hch:Zso (c.toNat:Int)=(Zs5 (c.toNat:Int) || decide ((c.toNat:Int)=95) || (decide (48≤(c.toNat:Int)) && decide ((c.toNat:Int)≤57))):=rfl
  rw [List.all_cons,hch]
  have q4:decide (48≤(c.toNat:Int))=!decide ((c.toNat:Int) < 48):=by by_cases h:(c.toNat:Int) < 48 <;> simp [h] <;> omega
  have q5:decide ((c.toNat:Int)≤57)=!decide ((c.toNat:Int) > 57):=by by_cases h:(c.toNat:Int) > 57 <;> simp [h] <;> omega
  have q6:decide ((c.toNat:Int)≠95)=!decide ((c.toNat:Int)=95):=by by_cases h:(c.toNat:Int)=95 <;> simp [h]
  rw [q4,q5]
  obtain ⟨lb,hb⟩:∃ b,Zs5 (c.toNat:Int)=b:=⟨_,rfl⟩
  obtain ⟨b1,hb1⟩:∃ b,decide ((c.toNat:Int) < 48)=b:=⟨_,rfl⟩
  obtain ⟨b2,hb2⟩:∃ b,decide ((c.toNat:Int) > 57)=b:=⟨_,rfl⟩
  obtain ⟨b3,hb3⟩:∃ b,decide ((c.toNat:Int)=95)=b:=⟨_,rfl⟩
  cases lb <;> cases b1 <;> cases b2 <;> cases b3 <;> simp only [Uj,Wm,Wj,Wl,Xo,ZN,ZM,Zz,Zy,Yq,Yp,Xn,Zg,Wq,ZP,ZQ,Ym,YU,YW,YT,YV,YS,YX,Yr,Ws,Wy,Wt,Wv,Wp,Wz,Ww,Wu,Wx,Xw,ZR,Yo,YY,Wi,YZ,We,Y4,Wh,Wd,Xr,Xe,Xk,Xh,Gz,G9,G8,G7,G6,G5,GU,GV,Xt,Xv,Wo,Xu,GR,Xg,Xj,Xf,Xi,Option.map_some,Xy,Xx,Xq,Xp,Xl,Xz,Zm,ZI,Yi,Yl,Yj,Yk,Yg,ZJ,ZL,Zx,ZK,YR,YQ,Yn,hlt,decide_true,hx,h1,hb,hb1,hb2,hb3,q6,Bool.not_true,Bool.not_false,Bool.and_true,Bool.true_and,Bool.and_false,Bool.false_and,Bool.or_true,Bool.true_or,Bool.or_false,Bool.false_or,Bool.and_self,Bool.or_self,Bool.false_eq_true,Bool.true_eq_false,if_true,if_false,decide_true,decide_false,ne_eq,not_true_eq_false,not_false_eq_true,reduceCtorEq,hwr,ih]
theorem ZjL (n:Nat)(s:List UInt8)(hl:s.length≤140737488355328)(hp:List Zk):Za C (n + 2) K9 [.str s] hp=some (.int .i64 (R9 s),hp,none):=by
 refine ZgS (by rw [hC.T]; rfl) ?_
 cases s with
 | nil=>simp [H9,Wm,Wj,Wl,Xo,ZN,ZM,Zz,Zy,Yq,Yp,Xn,Zg,Wq,ZP,ZQ,Ym,YU,YW,YT,YV,YS,YX,Yr,Ws,Wy,Wt,Wv,Wp,Wz,Ww,Wu,Wx,Xw,ZR,Yo,YY,Wi,YZ,We,Y4,Wh,Wd,Xr,Xe,Xk,Xh,Gz,G9,G8,G7,G6,G5,GU,GV,Xt,Xv,Wo,Xu,GR,Xg,Xj,Xf,Xi,Option.map_some,Xy,Xx,Xq,Xp,Xl,Xz,Zm,ZI,Yi,Yl,Yj,Yk,Yg,ZJ,ZL,Zx,ZK,YR,YQ,Yn,R9]
 | cons c r =>
  have h0:decide (c :: r=([]:List UInt8))=false:=rfl
  have h1:=Znm hC n (c.toNat:Int) hp
  have h2:=ZoY hC n (c :: r) hp
  have hx:Sz (.str (c :: r)) (.int .i64 0)=some (.int .u8 c.toNat):=Zmu (c :: r) [] r c rfl
  have h3:=CF hC n hp (c :: r) hl (c :: r) [] C.L rfl (by have:=hC.L; omega)
  by_cases q1:24 < (c :: r).length
  ·have q1':(((c :: r).length:Nat):Int) > 24:=by omega
   simp only [H9,Wm,Wj,Wl,Xo,ZN,ZM,Zz,Zy,Yq,Yp,Xn,Zg,Wq,ZP,ZQ,Ym,YU,YW,YT,YV,YS,YX,Yr,Ws,Wy,Wt,Wv,Wp,Wz,Ww,Wu,Wx,Xw,ZR,Yo,YY,Wi,YZ,We,Y4,Wh,Wd,Xr,Xe,Xk,Xh,Gz,G9,G8,G7,G6,G5,GU,GV,Xt,Xv,Wo,Xu,GR,Xg,Xj,Xf,Xi,Option.map_some,Xy,Xx,Xq,Xp,Xl,Xz,Zm,ZI,Yi,Yl,Yj,Yk,Yg,ZJ,ZL,Zx,ZK,YR,YQ,Yn,h0,q1',R9,q1,true_or,Bool.not_true,Bool.not_false,Bool.and_true,Bool.true_and,Bool.and_false,Bool.false_and,Bool.or_true,Bool.true_or,Bool.or_false,Bool.false_or,Bool.and_self,Bool.or_self,Bool.false_eq_true,Bool.true_eq_false,if_true,if_false,decide_true,decide_false,ne_eq,not_true_eq_false,not_false_eq_true,reduceCtorEq]
  ·have q1':¬ (((c :: r).length:Nat):Int) > 24:=by omega
   cases q2:Zs5 (c.toNat:Int) with
   | false=>simp only [H9,Wm,Wj,Wl,Xo,ZN,ZM,Zz,Zy,Yq,Yp,Xn,Zg,Wq,ZP,ZQ,Ym,YU,YW,YT,YV,YS,YX,Yr,Ws,Wy,Wt,Wv,Wp,Wz,Ww,Wu,Wx,Xw,ZR,Yo,YY,Wi,YZ,We,Y4,Wh,Wd,Xr,Xe,Xk,Xh,Gz,G9,G8,G7,G6,G5,GU,GV,Xt,Xv,Wo,Xu,GR,Xg,Xj,Xf,Xi,Option.map_some,Xy,Xx,Xq,Xp,Xl,Xz,Zm,ZI,Yi,Yl,Yj,Yk,Yg,ZJ,ZL,Zx,ZK,YR,YQ,Yn,h0,q1',R9,q1,hx,h1,q2,true_or,or_true,Bool.not_true,Bool.not_false,Bool.and_true,Bool.true_and,Bool.and_false,Bool.false_and,Bool.or_true,Bool.true_or,Bool.or_false,Bool.false_or,Bool.and_self,Bool.or_self,Bool.false_eq_true,Bool.true_eq_false,if_true,if_false,decide_true,decide_false,ne_eq,not_true_eq_false,not_false_eq_true,reduceCtorEq]
   | true =>
    cases q3:kwB (c :: r) with
    | true=>simp only [H9,Wm,Wj,Wl,Xo,ZN,ZM,Zz,Zy,Yq,Yp,Xn,Zg,Wq,ZP,ZQ,Ym,YU,YW,YT,YV,YS,YX,Yr,Ws,Wy,Wt,Wv,Wp,Wz,Ww,Wu,Wx,Xw,ZR,Yo,YY,Wi,YZ,We,Y4,Wh,Wd,Xr,Xe,Xk,Xh,Gz,G9,G8,G7,G6,G5,GU,GV,Xt,Xv,Wo,Xu,GR,Xg,Xj,Xf,Xi,Option.map_some,Xy,Xx,Xq,Xp,Xl,Xz,Zm,ZI,Yi,Yl,Yj,Yk,Yg,ZJ,ZL,Zx,ZK,YR,YQ,Yn,h0,q1',R9,q1,hx,h1,q2,h2,q3,true_or,or_true,Bool.not_true,Bool.not_false,Bool.and_true,Bool.true_and,Bool.and_false,Bool.false_and,Bool.or_true,Bool.true_or,Bool.or_false,Bool.false_or,Bool.and_self,Bool.or_self,Bool.false_eq_true,Bool.true_eq_false,if_true,if_false,decide_true,decide_false,ne_eq,not_true_eq_false,not_false_eq_true,reduceCtorEq]
    | false=>simp only [H9,Wm,Wj,Wl,Xo,ZN,ZM,Zz,Zy,Yq,Yp,Xn,Zg,Wq,ZP,ZQ,Ym,YU,YW,YT,YV,YS,YX,Yr,Ws,Wy,Wt,Wv,Wp,Wz,Ww,Wu,Wx,Xw,ZR,Yo,YY,Wi,YZ,We,Y4,Wh,Wd,Xr,Xe,Xk,Xh,Gz,G9,G8,G7,G6,G5,GU,GV,Xt,Xv,Wo,Xu,GR,Xg,Xj,Xf,Xi,Option.map_some,Xy,Xx,Xq,Xp,Xl,Xz,Zm,ZI,Yi,Yl,Yj,Yk,Yg,ZJ,ZL,Zx,ZK,YR,YQ,Yn,h0,q1',R9,q1,hx,h1,q2,h2,q3,or_false,false_or,Bool.not_true,Bool.not_false,Bool.and_true,Bool.true_and,Bool.and_false,Bool.false_and,Bool.or_true,Bool.true_or,Bool.or_false,Bool.false_or,Bool.and_self,Bool.or_self,Bool.false_eq_true,Bool.true_eq_false,if_true,if_false,decide_true,decide_false,ne_eq,not_true_eq_false,not_false_eq_true,reduceCtorEq]; exact h3
end
end Go.Proofs.YtlmfmmclnboglaaGreat
end
