import Derived.Test.YtlmfmmclnboglaaGreatP2
set_option linter.all false
section
namespace Go.Proofs.YtlmfmmclnboglaaGreat
open Go Go.Proofs.YtlmfmmclnboglaaGreat.Abs
set_option maxRecDepth 100000
set_option maxHeartbeats 0
set_option linter.all false
theorem lpI {f:Jb→Jb}{D:Nat→Jb}(h0:(fun _ _ _=>none)=D 0)(hs:∀ m,f (D m)=D (m + 1)):∀ m,X4 f m=D m
  | 0=>h0
  | m + 1=>by
    show f (X4 f m)=_
    rw [lpI h0 hs m]; exact hs m
def RunT (C:Cfg) (f:FuncId) (a:AFn) (l:List AV) (D:KT→HP→KR):Prop:=C.T f=some a→∀ {n:Nat} {hp:HP} {r:AV×HP×Eff},D (Zc C n) hp=some r→Zc C (n + 1) f l hp=some r
theorem runT {C:Cfg} {f:FuncId} {a:AFn} {l:List AV} {D:KT→HP→KR} {P:List Nat} (hl:Nat.ble l.length a.ntmps=true) (he:∀ K hp,fnK C.G K P C.L a l hp=D K hp):RunT C f a l D:=fun h _ _ _ hr=>Z04 h (Nat.le_of_ble_eq_true hl) ((he ..).trans hr)
def Ij (G:GT)(K:KT)(L:Nat)(x0:AV)(o:HP):KR :=
  Za (JL 4 (AV.ro x0)) fun v1=>Vb (o ++ [.cells v1 ZV]) fun h0=>Za (Zp h0 4 (.ptr (o).length 0)) fun v2=>ZZ (K DT [v2] h0) fun v3 h4 f5=>Za (X8 .not (AV.ro v3)) fun v6=>ifK v6 (ZZ (K H5 [] h4) fun v7 h8 f9=>some (Zq false o v7 h8 (Zd o.length (Zd o.length none f5) f9))) (Za (Zp h4 4 (.ptr (o).length 0)) fun v10=>ZZ (ZG K Aq [v10] h4) fun v11 h12 f13=>Za (Zp h12 4 (.ptr (o).length 0)) fun v14=>ZZ (ZG K ZdG [v14] h12) fun v15 h16 f17=>Za (Zb .eql .prim (AV.ro v11) (AV.ro v15)) fun v18=>Qn v18 true (ZZ (ZG K H5 [] h16) fun v19 h20 f21=>some ((AV.ro v19),h20,(Zd o.length (Zd o.length (Zd o.length (Zd o.length none f5) f13) f17) f21))) (some (.bool false)) h16 (Zd o.length (Zd o.length (Zd o.length none f5) f13) f17) fun v22 h23 f24=>some (Zq false o (AV.ro v22) h23 f24))
theorem CF (G:GT)(K:KT)(L:Nat)(x0:AV)(o:HP):fnK G K Zft L Ld [x0] o=Ij G K L x0 o:=by kernel_rfl
theorem ZbK {C:Cfg}{x0:AV}:RunT C MU Ld [x0] (fun K=>Ij C.G K C.L x0):=runT rfl fun _ _=>CF ..
def Kr (G:GT)(K:KT)(L:Nat)(o:HP)(x3:AV)(q:HP)(g:Eff):KR :=
  Za (Zb .leq .prim x3 (.int .i64 120)) fun v20=>some (Zq false o v20 q g)
theorem Zey (G:GT)(K:KT)(L:Nat)(o:HP) :Zo G 68 o.length K WS L FX (ZH WS XD o) (ZH WS XD o) []=fun e q g=>Kr G K L o (e 3).rd q g:=by kernel_rfl
def Kq (G:GT)(K:KT)(L:Nat)(o:HP)(kn:AV→AV→AV→HP→Eff→KR)(x1:AV)(x3:AV)(x4:AV)(q:HP)(g:Eff):KR :=
  Za (Zb .add .prim x4 (.int .i64 1)) fun v25=>kn x1 x3 v25 q g
theorem Zex (G:GT)(K:KT)(L:Nat)(o:HP)(kn:AV→AV→AV→HP→Eff→KR)(z0:Jb):Zo G 68 o.length K WS L FW (fun e q g=>kn (e 1).rd (e 3).rd (e 4).rd q g) (ZH WS XD o) [(0,z0)]=fun e q g=>Kq G K L o kn (e 1).rd (e 3).rd (e 4).rd q g:=by kernel_rfl
def IG (G:GT)(K:KT)(L:Nat)(o:HP)(kn:AV→AV→AV→HP→Eff→KR)(x1:AV)(x3:AV)(x4:AV)(q:HP)(g:Eff):KR :=
  Za (Zg 2 x1) fun v33=>Za (Ze q v33) fun v34=>Za (Yy (.slice 13) v34 x4) fun v35=>Za (Zg 11 v35) fun v36=>Za (Ze q v36) fun v37=>Za (Z9 q .slice v37) fun v38=>Za (Zg 2 x1) fun v39=>Za (Ze q v39) fun v40=>Za (Yy (.slice 13) v40 x4) fun v41=>Za (Zg 12 v41) fun v42=>Za (Ze q v42) fun v43=>Za (Z9 q .slice v43) fun v44=>Za (Zb .add .prim v38 v44) fun v45=>Za (Zb .add .prim x3 v45) fun v46=>kn x1 v46 x4 q g
theorem Zew (G:GT)(K:KT)(L:Nat)(o:HP)(kn:AV→AV→AV→HP→Eff→KR)(z1 z0:Jb):Zo G 68 o.length K WS L FV (fun e q g=>kn (e 1).rd (e 3).rd (e 4).rd q g) (ZH WS XD o) [(1,z1),(0,z0)]=fun e q g=>IG G K L o kn (e 1).rd (e 3).rd (e 4).rd q g:=by kernel_rfl
def JP (G:GT)(K:KT)(L:Nat)(o:HP)(k2:AV→AV→AV→HP→Eff→KR):Nat→AV→AV→AV→AV→AV→HP→Eff→KR
  | 0,_,_,_,_,_,_,_=>none
  | m + 1,x1,x3,x4,x5,x6,q,g=>Za (Z9 q .slice x5) fun v47=>Za (Zb .lss .prim x6 v47) fun v48=>ifK v48 (Za (Yy (.slice 1) x5 x6) fun v49=>Za (Ze q v49) fun v50=>Za (Z9 q .slice v50) fun v51=>Za (Zb .add .prim x3 v51) fun v52=>Za (Zb .add .prim x6 (.int .i64 1)) fun v53=>JP G K L o k2 m x1 v52 x4 x5 v53 q g) (k2 x1 x3 x4 q g)
theorem Ze2 (G:GT)(K:KT)(L:Nat)(o:HP)(k2:AV→AV→AV→HP→Eff→KR)(z1 z0:Jb):∀ m,X4 (fun n'=>Zo G 68 o.length K WS L EK n' (ZH WS XD o) [(2,(fun e q g=>k2 (e 1).rd (e 3).rd (e 4).rd q g)),(1,z1),(0,z0)]) m=fun e q g=>JP G K L o k2 m (e 1).rd (e 3).rd (e 4).rd (e 5).rd (e 6).rd q g:=lpI rfl fun _=>by kernel_rfl
theorem Ze1 (G:GT)(K:KT)(L:Nat)(o:HP)(k2:AV→AV→AV→HP→Eff→KR)(z1 z0:Jb)(zn:Jb):Zo G 68 o.length K WS L FZ zn (ZH WS XD o) [(2,(fun e q g=>k2 (e 1).rd (e 3).rd (e 4).rd q g)),(1,z1),(0,z0)]=fun e q g=>JP G K L o k2 L (e 1).rd (e 3).rd (e 4).rd (e 5).rd (e 6).rd q g:=Ze2 G K L o k2 z1 z0 L
def X0 (G:GT)(K:KT)(L:Nat)(o:HP)(k0:AV→HP→Eff→KR):Nat→AV→AV→AV→HP→Eff→KR
  | 0,_,_,_,_,_=>none
  | m + 1,x1,x3,x4,q,g=>Za (Zg 2 x1) fun v21=>Za (Ze q v21) fun v22=>Za (Z9 q .slice v22) fun v23=>Za (Zb .lss .prim x4 v23) fun v24=>ifK v24 (Za (Zg 2 x1) fun v26=>Za (Ze q v26) fun v27=>Za (Yy (.slice 13) v27 x4) fun v28=>Za (Zp q 13 v28) fun v29=>ZZ (K MX [v29] q) fun v30 h31 f32=>JP G K L o (IG G K L o (Kq G K L o (X0 G K L o k0 m))) L x1 x3 x4 (AV.ro v30) (.int .i64 0) h31 (Zd o.length g f32)) (k0 x3 q g)
theorem Ze0 (G:GT)(K:KT)(L:Nat)(o:HP)(k0:AV→HP→Eff→KR) :∀ m,X4 (fun n'=>Zo G 68 o.length K WS L TC n' (ZH WS XD o) [(0,(fun e q g=>k0 (e 3).rd q g))]) m=fun e q g=>X0 G K L o k0 m (e 1).rd (e 3).rd (e 4).rd q g:=by
 intro m
 induction m with
 | zero=>rfl
 | succ m ih =>
  show Zo G 68 o.length K WS L TC (X4 _ m) (ZH WS XD o) [(0,(fun e q g=>k0 (e 3).rd q g))]=_
  rw [ih]
  simp only [TC,Z7,Zl,Zm,Zv]
  rw [Zex G K L o (X0 G K L o k0 m) _,Zew G K L o (Kq G K L o (X0 G K L o k0 m)) _ _,Ze1 G K L o (IG G K L o (Kq G K L o (X0 G K L o k0 m))) _ _ _]
  kernel_rfl
theorem Zez (G:GT)(K:KT)(L:Nat)(o:HP)(k0:AV→HP→Eff→KR)(zn:Jb):Zo G 68 o.length K WS L FY zn (ZH WS XD o) [(0,(fun e q g=>k0 (e 3).rd q g))]=fun e q g=>X0 G K L o k0 L (e 1).rd (e 3).rd (e 4).rd q g:=Ze0 G K L o k0 L
def TD (G:GT)(K:KT)(L:Nat)(x0:AV)(o:HP):KR :=
  Za (JL 4 (AV.ro x0)) fun v1=>Vb (o ++ [.cells v1 ZV]) fun h0=>Za (Zg 2 (.ptr (o).length 0)) fun v2=>Za (Ze h0 v2) fun v3=>Za (Z9 h0 .slice v3) fun v4=>Za (Zb .gtr .prim v4 (.int .i64 20)) fun v5=>Qn v5 false (Za (Zg 1 (.ptr (o).length 0)) fun v6=>Za (Ze h0 v6) fun v7=>Za (Z9 h0 .slice v7) fun v8=>Za (Zb .gtr .prim v8 (.int .i64 40)) fun v9=>some (v9,h0,none)) (some (.bool true)) h0 none fun v10 h11 f12=>Qn (AV.ro v10) false (Za (Zg 3 (.ptr (o).length 0)) fun v13=>Za (Ze h11 v13) fun v14=>Za (Z9 h11 .slice v14) fun v15=>Za (Zb .gtr .prim v15 (.int .i64 40)) fun v16=>some (v16,h11,f12)) (some (.bool true)) h11 f12 fun v17 h18 f19=>ifK (AV.ro v17) (some (Zq false o (.bool false) h18 f19)) (X0 G K L o (Kr G K L o) L (.ptr (o).length 0) (.int .i64 0) (.int .i64 0) h18 f19)
theorem ZjM (G:GT)(K:KT)(L:Nat)(x0:AV)(o:HP):fnK G K WS L XD [x0] o=TD G K L x0 o:=by
 show Zo G 68 o.length K WS L Fa (ZH WS XD o) (ZH WS XD o) [] (Md [x0]) o none=_
 simp only [Fa,Z7,Zl,Zm,Zv]
 rw [Zey G K L o ,Zez G K L o (Kr G K L o) _]
 kernel_rfl
theorem R7 {C:Cfg}{x0:AV}:RunT C DT XD [x0] (fun K=>TD C.G K C.L x0):=runT rfl fun _ _=>ZjM ..
def TE (G:GT)(K:KT)(L:Nat)(x0:AV)(o:HP):KR :=
  Za (JL 4 (AV.ro x0)) fun v1=>Vb (o ++ [.cells v1 ZV]) fun h0=>Za (Zg 0 (.ptr (o).length 0)) fun v2=>Za (Ze h0 v2) fun v3=>ZZ (K Kv [v3] h0) fun v4 h5 f6=>Za (Zb .neq .prim (AV.ro v4) (.int .i64 0)) fun v7=>ifK v7 (some (Zq false o v4 h5 (Zd o.length none f6))) (Vb (h5 ++ [.map []]) fun h8=>Za (Zg 1 (.ptr (o).length 0)) fun v9=>Za (Ze h8 v9) fun v10=>ZZ (K Vi [(.map (h5).length),v10] h8) fun v11 h12 f13=>Za (Zb .neq .prim (AV.ro v11) (.int .i64 0)) fun v14=>ifK v14 (some (Zq false o v11 h12 (Zd o.length (Zd o.length none f6) f13))) (Za (Zg 2 (.ptr (o).length 0)) fun v15=>Za (Ze h12 v15) fun v16=>Za (Z9 h12 .slice v16) fun v17=>Za (Zb .eql .prim v17 (.int .i64 0)) fun v18=>ifK v18 (some (Zq false o (.int .i64 7) h12 (Zd o.length (Zd o.length none f6) f13))) (Vb (h12 ++ [.map []]) fun h19=>Vb (h19 ++ [.cells [.nilm] Qm]) fun h20=>JJ (Zla o.length (.ptr (h19).length 0) (.map (h12).length) h20 (Zd o.length (Zd o.length none f6) f13)) fun h21 f22=>Za (Zg 2 (.ptr (o).length 0)) fun v23=>Za (Ze h21 v23) fun v24=>ZZ (K XU [v24,(.int .i64 16),(.fn U5 [] [(.ptr (h19).length 0)])] h21) fun v25 h26 f27=>Za (Zb .neq .prim (AV.ro v25) (.int .i64 0)) fun v28=>ifK v28 (some (Zq false o v25 h26 (Zd o.length f22 f27))) (Za (Zp h26 4 (.ptr (o).length 0)) fun v29=>ZZ (K Au [v29] h26) fun v30 h31 f32=>some (Zq false o v30 h31 (Zd o.length (Zd o.length f22 f27) f32))))))
theorem ZjN (G:GT)(K:KT)(L:Nat)(x0:AV)(o:HP):fnK G K Zrf L AL [x0] o=TE G K L x0 o:=by kernel_rfl
theorem Zm8 {C:Cfg}{x0:AV}:RunT C Aq AL [x0] (fun K=>TE C.G K C.L x0):=runT rfl fun _ _=>ZjN ..
def Mx (G:GT)(K:KT)(L:Nat)(o:HP)(x1:AV)(q:HP)(g:Eff):KR :=
  Za (Zp q 4 x1) fun v36=>ZZ (K ZdH [v36] q) fun v37 h38 f39=>some (Zq false o v37 h38 (Zd o.length g f39))
theorem Ziq (G:GT)(K:KT)(L:Nat)(o:HP) :Zo G 96 o.length K XB L ZcN (ZH XB Je o) (ZH XB Je o) []=fun e q g=>Mx G K L o (e 1).rd q g:=by kernel_rfl
def Uw (G:GT)(K:KT)(L:Nat)(o:HP)(k2:AV→HP→Eff→KR):Nat→AV→AV→AV→AV→HP→Eff→KR
  | 0,_,_,_,_,_,_=>none
  | m + 1,x1,x6,y6,x7,q,g=>Za (Zg 2 x1) fun v40=>Za (Ze q v40) fun v41=>Za (Z9 q .slice v41) fun v42=>Za (Zb .lss .prim x7 v42) fun v43=>ifK v43 (Za (Zg 2 x1) fun v44=>Za (Ze q v44) fun v45=>Za (Yy (.slice 13) v45 x7) fun v46=>Za (Zg 0 v46) fun v47=>Za (Ze q v47) fun v48=>ZZ (ZG K KS [v48,x6] q) fun v49 h50 f51=>Za (Zg 2 x1) fun v52=>Za (Ze h50 v52) fun v53=>Za (Yy (.slice 13) v53 x7) fun v54=>Za (Zp h50 13 v54) fun v55=>ZZ (ZG K Zca [v55] h50) fun v56 h57 f58=>ZZ (ZG K Qh [(AV.ro v49),(AV.ro v56)] h57) fun v59 h60 f61=>Za (Zb .neq .prim (AV.ro v59) (.int .i64 0)) fun v62=>ifK v62 (some (Zq false o (AV.ro v59) h60 (Zd o.length (Zd o.length (Zd o.length g f51) f58) f61))) (Za (Zg 2 x1) fun v63=>Za (Ze h60 v63) fun v64=>Za (Yy (.slice 13) v64 x7) fun v65=>Za (Zg 0 v65) fun v66=>Za (Ze h60 v66) fun v67=>JJ (ZbM QG 1 [v67] h60) fun v68 h69=>Za (Zpk 1 16 y6 (AV.ro v68) h69) fun v70=>Za (Zb .add .prim x7 (.int .i64 1)) fun v71=>Uw G K L o k2 m x1 (AV.ro v70) v70 v71 h69 (Zd o.length (Zd o.length (Zd o.length g f51) f58) f61))) (k2 x1 q g)
theorem Ziu (G:GT)(K:KT)(L:Nat)(o:HP)(k2:AV→HP→Eff→KR) :∀ m,X4 (fun n'=>Zo G 96 o.length K XB L ZaL n' (ZH XB Je o) [(2,(fun e q g=>k2 (e 1).rd q g))]) m=fun e q g=>Uw G K L o k2 m (e 1).rd (e 6).rd (e 6).val (e 7).rd q g:=lpI rfl fun _=>by kernel_rfl
theorem Zit (G:GT)(K:KT)(L:Nat)(o:HP)(k2:AV→HP→Eff→KR)(zn:Jb):Zo G 96 o.length K XB L ZcP zn (ZH XB Je o) [(2,(fun e q g=>k2 (e 1).rd q g))]=fun e q g=>Uw G K L o k2 L (e 1).rd (e 6).rd (e 6).val (e 7).rd q g:=Ziu G K L o k2 L
def Gd (G:GT)(K:KT)(L:Nat)(o:HP)(x1:AV)(q:HP)(g:Eff):KR :=
  Za (Zg 2 x1) fun v18=>Za (Ze q v18) fun v19=>Za (Z9 q .slice v19) fun v20=>Za (Zb .gtr .prim v20 (.int .i64 0)) fun v21=>ZZ (ZG K YH [v21,(.int .i64 7)] q) fun v22 h23 f24=>Za (Zg 2 x1) fun v25=>Za (Ze h23 v25) fun v26=>Za (Z9 h23 .slice v26) fun v27=>Za (Zb .leq .prim v27 (.int .i64 16)) fun v28=>ZZ (ZG K YH [v28,(.int .i64 6)] h23) fun v29 h30 f31=>ZZ (ZG K Qh [(AV.ro v22),(AV.ro v29)] h30) fun v32 h33 f34=>Za (Zb .neq .prim (AV.ro v32) (.int .i64 0)) fun v35=>ifK v35 (some (Zq false o (AV.ro v32) h33 (Zd o.length (Zd o.length (Zd o.length g f24) f31) f34))) (Uw G K L o (Mx G K L o) L x1 (.lst 1 []) (.own 1 []) (.int .i64 0) h33 (Zd o.length (Zd o.length (Zd o.length g f24) f31) f34))
theorem Zip (G:GT)(K:KT)(L:Nat)(o:HP) :Zo G 96 o.length K XB L SV (ZH XB Je o) (ZH XB Je o) []=fun e q g=>Gd G K L o (e 1).rd q g:=by
 simp only [SV,Z7,Zl,Zm,Zv]
 rw [Ziq G K L o ,Zit G K L o (Mx G K L o) _]
 kernel_rfl
def Uv (G:GT)(K:KT)(L:Nat)(o:HP)(k0:AV→HP→Eff→KR):Nat→AV→AV→AV→AV→HP→Eff→KR
  | 0,_,_,_,_,_,_=>none
  | m + 1,x1,x4,y4,x5,q,g=>Za (Zg 1 x1) fun v72=>Za (Ze q v72) fun v73=>Za (Z9 q .slice v73) fun v74=>Za (Zb .lss .prim x5 v74) fun v75=>ifK v75 (Za (Zg 1 x1) fun v76=>Za (Ze q v76) fun v77=>Za (Yy (.slice 3) v77 x5) fun v78=>Za (Zp q 3 v78) fun v79=>ZZ (K A8 [v79,x4] q) fun v80 h81 f82=>Za (Zb .neq .prim (AV.ro v80) (.int .i64 0)) fun v83=>ifK v83 (some (Zq false o v80 h81 (Zd o.length g f82))) (Za (Zg 1 x1) fun v84=>Za (Ze h81 v84) fun v85=>Za (Yy (.slice 3) v85 x5) fun v86=>Za (Zg 0 v86) fun v87=>Za (Ze h81 v87) fun v88=>JJ (ZbM QG 1 [v88] h81) fun v89 h90=>Za (Zpk 1 16 y4 (AV.ro v89) h90) fun v91=>Za (Zb .add .prim x5 (.int .i64 1)) fun v92=>Uv G K L o k0 m x1 (AV.ro v91) v91 v92 h90 (Zd o.length g f82))) (k0 x1 q g)
theorem Zis (G:GT)(K:KT)(L:Nat)(o:HP)(k0:AV→HP→Eff→KR) :∀ m,X4 (fun n'=>Zo G 96 o.length K XB L ZaK n' (ZH XB Je o) [(0,(fun e q g=>k0 (e 1).rd q g))]) m=fun e q g=>Uv G K L o k0 m (e 1).rd (e 4).rd (e 4).val (e 5).rd q g:=lpI rfl fun _=>by kernel_rfl
theorem Zir (G:GT)(K:KT)(L:Nat)(o:HP)(k0:AV→HP→Eff→KR)(zn:Jb):Zo G 96 o.length K XB L ZcO zn (ZH XB Je o) [(0,(fun e q g=>k0 (e 1).rd q g))]=fun e q g=>Uv G K L o k0 L (e 1).rd (e 4).rd (e 4).val (e 5).rd q g:=Zis G K L o k0 L
def Ta (G:GT)(K:KT)(L:Nat)(x0:AV)(o:HP):KR :=
  Za (JL 4 (AV.ro x0)) fun v1=>Vb (o ++ [.cells v1 ZV]) fun h0=>Za (Zg 0 (.ptr (o).length 0)) fun v2=>Za (Ze h0 v2) fun v3=>ZZ (ZG K H7 [v3] h0) fun v4 h5 f6=>Za (Zg 1 (.ptr (o).length 0)) fun v7=>Za (Ze h5 v7) fun v8=>Za (Z9 h5 .slice v8) fun v9=>Za (Zb .leq .prim v9 (.int .i64 32)) fun v10=>ZZ (ZG K YH [v10,(.int .i64 6)] h5) fun v11 h12 f13=>ZZ (ZG K Qh [(AV.ro v4),(AV.ro v11)] h12) fun v14 h15 f16=>Za (Zb .neq .prim (AV.ro v14) (.int .i64 0)) fun v17=>ifK v17 (some (Zq false o (AV.ro v14) h15 (Zd o.length (Zd o.length (Zd o.length none f6) f13) f16))) (Uv G K L o (Gd G K L o) L (.ptr (o).length 0) (.lst 1 []) (.own 1 []) (.int .i64 0) h15 (Zd o.length (Zd o.length (Zd o.length none f6) f13) f16))
theorem ZnY (G:GT)(K:KT)(L:Nat)(x0:AV)(o:HP):fnK G K XB L Je [x0] o=Ta G K L x0 o:=by
 show Zo G 96 o.length K XB L Zem (ZH XB Je o) (ZH XB Je o) [] (Md [x0]) o none=_
 simp only [Zem,Z7,Zl,Zm,Zv]
 rw [Zip G K L o ,Zir G K L o (Gd G K L o) _]
 kernel_rfl
theorem Zry {C:Cfg}{x0:AV}:RunT C ZdG Je [x0] (fun K=>Ta C.G K C.L x0):=runT rfl fun _ _=>ZnY ..
def Zbm (G:GT)(K:KT)(L:Nat)(x0 x1:AV)(o:HP):KR :=
  Za (JL 4 (AV.ro x0)) fun v1=>Vb (o ++ [.cells v1 ZV]) fun h0=>Za (JL 1 (AV.ro x1)) fun v3=>Vb (h0 ++ [.cells v3 QG]) fun h2=>Za (Zg 2 (.ptr (o).length 0)) fun v4=>Za (Ze h2 v4) fun v5=>ZZ (K QK [v5,(.fn BD [] [(.ptr (h0).length 0)])] h2) fun v6 h7 f8=>some (Zq false o v6 h7 (Zd o.length none f8))
theorem Zl9 (G:GT)(K:KT)(L:Nat)(x0 x1:AV)(o:HP):fnK G K ZsZ L Zan [x0,x1] o=Zbm G K L x0 x1 o:=by kernel_rfl
theorem Zo3 {C:Cfg}{x0 x1:AV}:RunT C BU Zan [x0,x1] (fun K=>Zbm C.G K C.L x0 x1):=runT rfl fun _ _=>Zl9 ..
def Rw (G:GT)(K:KT)(L:Nat)(o:HP)(q:HP)(g:Eff):KR :=
  some (Zq false o (.int .i64 (-1)) q g)
theorem Zkk (G:GT)(K:KT)(L:Nat)(o:HP) :Zo G 22 o.length K GV L ZfG (ZH GV TB o) (ZH GV TB o) []=fun e q g=>Rw G K L o  q g:=by kernel_rfl
def Iq (G:GT)(K:KT)(L:Nat)(o:HP)(k0:HP→Eff→KR):Nat→AV→AV→AV→AV→HP→Eff→KR
  | 0,_,_,_,_,_,_=>none
  | m + 1,x1,x2,x5,y5,q,g=>Za (Zg 2 x2) fun v2=>Za (Ze q v2) fun v3=>Za (Z9 q .slice v3) fun v4=>Za (Zb .lss .prim x5 v4) fun v5=>ifK v5 (Za (Zg 2 x2) fun v6=>Za (Ze q v6) fun v7=>Za (Yy (.slice 13) v7 x5) fun v8=>Za (Zg 0 v8) fun v9=>Za (Ze q v9) fun v10=>Za (Zb .eql .prim v10 x1) fun v11=>ifK v11 (some (Zq false o y5 q g)) (Za (Zb .add .prim x5 (.int .i64 1)) fun v12=>Iq G K L o k0 m x1 x2 v12 v12 q g)) (k0  q g)
theorem Zkm (G:GT)(K:KT)(L:Nat)(o:HP)(k0:HP→Eff→KR) :∀ m,X4 (fun n'=>Zo G 22 o.length K GV L ZcX n' (ZH GV TB o) [(0,(fun e q g=>k0 q g))]) m=fun e q g=>Iq G K L o k0 m (e 1).rd (e 2).rd (e 5).rd (e 5).val q g:=lpI rfl fun _=>by kernel_rfl
theorem Zkl (G:GT)(K:KT)(L:Nat)(o:HP)(k0:HP→Eff→KR)(zn:Jb):Zo G 22 o.length K GV L ZfH zn (ZH GV TB o) [(0,(fun e q g=>k0 q g))]=fun e q g=>Iq G K L o k0 L (e 1).rd (e 2).rd (e 5).rd (e 5).val q g:=Zkm G K L o k0 L
def ZiD (G:GT)(K:KT)(L:Nat)(x0 x1:AV)(o:HP):KR :=
  Za (JL 4 (AV.ro x0)) fun v1=>Vb (o ++ [.cells v1 ZV]) fun h0=>Iq G K L o (Rw G K L o) L (AV.ro x1) (.ptr (o).length 0) (.int .i64 0) (.int .i64 0) h0 none
theorem Zq0 (G:GT)(K:KT)(L:Nat)(x0 x1:AV)(o:HP):fnK G K GV L TB [x0,x1] o=ZiD G K L x0 x1 o:=by
 show Zo G 22 o.length K GV L Zhx (ZH GV TB o) (ZH GV TB o) [] (Md [x0,x1]) o none=_
 simp only [Zhx,Z7,Zl,Zm,Zv]
 rw [Zkk G K L o ,Zkl G K L o (Rw G K L o) _]
 kernel_rfl
theorem Zts {C:Cfg}{x0 x1:AV}:RunT C Po TB [x0,x1] (fun K=>ZiD C.G K C.L x0 x1):=runT rfl fun _ _=>Zq0 ..
def PW (G:GT)(K:KT)(L:Nat)(x0 x1:AV)(o:HP):KR :=
  Za (JL 13 (AV.ro x0)) fun v1=>Vb (o ++ [.cells v1 Zf]) fun h0=>Za (JL 1 (AV.ro x1)) fun v3=>Vb (h0 ++ [.cells v3 QG]) fun h2=>Za (Zg 10 (.ptr (o).length 0)) fun v4=>Za (Ze h2 v4) fun v5=>ZZ (K Xn [v5,(.fn Tu [] [(.ptr (h0).length 0)])] h2) fun v6 h7 f8=>some (Zq false o v6 h7 (Zd o.length none f8))
theorem Zgb (G:GT)(K:KT)(L:Nat)(x0 x1:AV)(o:HP):fnK G K ZmO L P9 [x0,x1] o=PW G K L x0 x1 o:=by kernel_rfl
theorem Zje {C:Cfg}{x0 x1:AV}:RunT C OC P9 [x0,x1] (fun K=>PW C.G K C.L x0 x1):=runT rfl fun _ _=>Zgb ..
def F7 (G:GT)(K:KT)(L:Nat)(x0 x1:AV)(o:HP):KR :=
  Za (JL 13 (AV.ro x0)) fun v1=>Vb (o ++ [.cells v1 Zf]) fun h0=>Za (Zp h0 13 (.ptr (o).length 0)) fun v2=>ZZ (K MX [v2] h0) fun v3 h4 f5=>Za (Yy (.slice 1) (AV.ro v3) (.int .i64 9)) fun v6=>Za (Ze h4 v6) fun v7=>ZZ (K Tw [v7,(AV.ro x1)] h4) fun v8 h9 f10=>some (Zq false o v8 h9 (Zd o.length (Zd o.length none f5) f10))
theorem Zkj (G:GT)(K:KT)(L:Nat)(x0 x1:AV)(o:HP):fnK G K Zrk L AU [x0,x1] o=F7 G K L x0 x1 o:=by kernel_rfl
theorem ZmY {C:Cfg}{x0 x1:AV}:RunT C DU AU [x0,x1] (fun K=>F7 C.G K C.L x0 x1):=runT rfl fun _ _=>Zkj ..
def Rv (G:GT)(K:KT)(L:Nat)(o:HP)(q:HP)(g:Eff):KR :=
  some (Zq false o (.str []) q g)
theorem Zkg (G:GT)(K:KT)(L:Nat)(o:HP) :Zo G 28 o.length K GU L ZfE (ZH GU TA o) (ZH GU TA o) []=fun e q g=>Rv G K L o  q g:=by kernel_rfl
def Ip (G:GT)(K:KT)(L:Nat)(o:HP)(k0:HP→Eff→KR):Nat→AV→AV→AV→AV→HP→Eff→KR
  | 0,_,_,_,_,_,_=>none
  | m + 1,x1,x5,x6,x7,q,g=>Za (Z9 q .slice x5) fun v8=>Za (Zb .lss .prim x7 v8) fun v9=>ifK v9 (Za (Yy (.slice 1) x5 x7) fun v10=>Za (Ze q v10) fun v11=>ZZ (K Tw [v11,x1] q) fun v12 h13 f14=>Za (Zb .geq .prim (AV.ro v12) (.int .i64 0)) fun v15=>ifK v15 (Za (Yy (.slice 1) x6 x7) fun v16=>Za (Ze h13 v16) fun v17=>some (Zq false o v17 h13 (Zd o.length g f14))) (Za (Zb .add .prim x7 (.int .i64 1)) fun v18=>Ip G K L o k0 m x1 x5 x6 v18 h13 (Zd o.length g f14))) (k0  q g)
theorem Zki (G:GT)(K:KT)(L:Nat)(o:HP)(k0:HP→Eff→KR) :∀ m,X4 (fun n'=>Zo G 28 o.length K GU L ZcQ n' (ZH GU TA o) [(0,(fun e q g=>k0 q g))]) m=fun e q g=>Ip G K L o k0 m (e 1).rd (e 5).rd (e 6).rd (e 7).rd q g:=lpI rfl fun _=>by kernel_rfl
theorem Zkh (G:GT)(K:KT)(L:Nat)(o:HP)(k0:HP→Eff→KR)(zn:Jb):Zo G 28 o.length K GU L ZfF zn (ZH GU TA o) [(0,(fun e q g=>k0 q g))]=fun e q g=>Ip G K L o k0 L (e 1).rd (e 5).rd (e 6).rd (e 7).rd q g:=Zki G K L o k0 L
def Ziw (G:GT)(K:KT)(L:Nat)(x0 x1:AV)(o:HP):KR :=
  Za (JL 13 (AV.ro x0)) fun v1=>Vb (o ++ [.cells v1 Zf]) fun h0=>Za (Zp h0 13 (.ptr (o).length 0)) fun v2=>ZZ (K MX [v2] h0) fun v3 h4 f5=>JJ (ZbM QG 1 [(.str [118,97,114]),(.str [114,101,115,111,117,114,99,101]),(.str [115,116,111,114,101]),(.str [98,101,108,116]),(.str [113,117,101,117,101]),(.str [115,116,114,101,97,109]),(.str [116,97,108,108,121]),(.str [108,101,118,101,108]),(.str [99,111,117,110,116]),(.str [114,111,117,116,105,110,101])] h4) fun v6 h7=>Ip G K L o (Rv G K L o) L (AV.ro x1) (AV.ro v3) (AV.ro v6) (.int .i64 0) h7 (Zd o.length none f5)
theorem Zqz (G:GT)(K:KT)(L:Nat)(x0 x1:AV)(o:HP):fnK G K GU L TA [x0,x1] o=Ziw G K L x0 x1 o:=by
 show Zo G 28 o.length K GU L Zhw (ZH GU TA o) (ZH GU TA o) [] (Md [x0,x1]) o none=_
 simp only [Zhw,Z7,Zl,Zm,Zv]
 rw [Zkg G K L o ,Zkh G K L o (Rv G K L o) _]
 kernel_rfl
theorem Ztr {C:Cfg}{x0 x1:AV}:RunT C ZbZ TA [x0,x1] (fun K=>Ziw C.G K C.L x0 x1):=runT rfl fun _ _=>Zqz ..
def M6 (G:GT)(K:KT)(L:Nat)(o:HP)(y3:AV)(q:HP)(g:Eff):KR :=
  some (Zq false o y3 q g)
theorem Zi1 (G:GT)(K:KT)(L:Nat)(o:HP) :Zo G 131 o.length K Yq L ZcR (ZH Yq Qb o) (ZH Yq Qb o) []=fun e q g=>M6 G K L o (e 3).val q g:=by kernel_rfl
def Gj (G:GT)(K:KT)(L:Nat)(o:HP)(k8:AV→HP→Eff→KR):Nat→AV→AV→AV→AV→HP→Eff→KR
  | 0,_,_,_,_,_,_=>none
  | m + 1,x1,x3,y3,x8,q,g=>Za (Zg 10 x1) fun v29=>Za (Ze q v29) fun v30=>Za (Z9 q .slice v30) fun v31=>Za (Zb .lss .prim x8 v31) fun v32=>ifK v32 (Za (Yy (.slice 1) x3 (.int .i64 9)) fun v33=>ZZ (Zzs o.length v33 q g) fun v34 h35 f36=>Za (Zg 10 x1) fun v37=>Za (Ze h35 v37) fun v38=>Za (Yy (.slice 4) v38 x8) fun v39=>Za (Zg 0 v39) fun v40=>Za (Ze h35 v40) fun v41=>JJ (ZbM QG 1 [v41] h35) fun v42 h43=>Za (Zpk 1 16 v34 (AV.ro v42) h43) fun v44=>Za (Yy (.slice 1) x3 (.int .i64 9)) fun v45=>JJ (Zla o.length v45 v44 h43 f36) fun h46 f47=>Za (Zb .add .prim x8 (.int .i64 1)) fun v48=>Gj G K L o k8 m x1 x3 y3 v48 h46 f47) (k8 y3 q g)
theorem ZiB (G:GT)(K:KT)(L:Nat)(o:HP)(k8:AV→HP→Eff→KR) :∀ m,X4 (fun n'=>Zo G 131 o.length K Yq L ZaQ n' (ZH Yq Qb o) [(8,(fun e q g=>k8 (e 3).val q g))]) m=fun e q g=>Gj G K L o k8 m (e 1).rd (e 3).rd (e 3).val (e 8).rd q g:=lpI rfl fun _=>by kernel_rfl
theorem ZiA (G:GT)(K:KT)(L:Nat)(o:HP)(k8:AV→HP→Eff→KR)(zn:Jb):Zo G 131 o.length K Yq L ZcW zn (ZH Yq Qb o) [(8,(fun e q g=>k8 (e 3).val q g))]=fun e q g=>Gj G K L o k8 L (e 1).rd (e 3).rd (e 3).val (e 8).rd q g:=ZiB G K L o k8 L
def M5 (G:GT)(K:KT)(L:Nat)(o:HP)(x1:AV)(x3:AV)(y3:AV)(q:HP)(g:Eff):KR :=
  Za (Zg 5 x1) fun v4=>Za (Ze q v4) fun v5=>Za (Yy (.slice 1) x3 (.int .i64 4)) fun v6=>JJ (Zla o.length v6 v5 q g) fun h7 f8=>Za (Zg 6 x1) fun v9=>Za (Ze h7 v9) fun v10=>Za (Yy (.slice 1) x3 (.int .i64 5)) fun v11=>JJ (Zla o.length v11 v10 h7 f8) fun h12 f13=>Za (Zg 7 x1) fun v14=>Za (Ze h12 v14) fun v15=>Za (Yy (.slice 1) x3 (.int .i64 6)) fun v16=>JJ (Zla o.length v16 v15 h12 f13) fun h17 f18=>Za (Zg 8 x1) fun v19=>Za (Ze h17 v19) fun v20=>Za (Yy (.slice 1) x3 (.int .i64 7)) fun v21=>JJ (Zla o.length v21 v20 h17 f18) fun h22 f23=>Za (Zg 9 x1) fun v24=>Za (Ze h22 v24) fun v25=>Za (Yy (.slice 1) x3 (.int .i64 8)) fun v26=>JJ (Zla o.length v26 v25 h22 f23) fun h27 f28=>Gj G K L o (M6 G K L o) L x1 x3 y3 (.int .i64 0) h27 f28
theorem Zi0 (G:GT)(K:KT)(L:Nat)(o:HP) :Zo G 131 o.length K Yq L Eb (ZH Yq Qb o) (ZH Yq Qb o) []=fun e q g=>M5 G K L o (e 1).rd (e 3).rd (e 3).val q g:=by
 simp only [Eb,Z7,Zl,Zm,Zv]
 rw [Zi1 G K L o ,ZiA G K L o (M6 G K L o) _]
 kernel_rfl
def Gi (G:GT)(K:KT)(L:Nat)(o:HP)(k6:AV→AV→AV→HP→Eff→KR):Nat→AV→AV→AV→AV→HP→Eff→KR
  | 0,_,_,_,_,_,_=>none
  | m + 1,x1,x3,y3,x7,q,g=>Za (Zg 4 x1) fun v49=>Za (Ze q v49) fun v50=>Za (Z9 q .slice v50) fun v51=>Za (Zb .lss .prim x7 v51) fun v52=>ifK v52 (Za (Yy (.slice 1) x3 (.int .i64 3)) fun v53=>ZZ (Zzs o.length v53 q g) fun v54 h55 f56=>Za (Zg 4 x1) fun v57=>Za (Ze h55 v57) fun v58=>Za (Yy (.slice 3) v58 x7) fun v59=>Za (Zg 0 v59) fun v60=>Za (Ze h55 v60) fun v61=>JJ (ZbM QG 1 [v61] h55) fun v62 h63=>Za (Zpk 1 16 v54 (AV.ro v62) h63) fun v64=>Za (Yy (.slice 1) x3 (.int .i64 3)) fun v65=>JJ (Zla o.length v65 v64 h63 f56) fun h66 f67=>Za (Zb .add .prim x7 (.int .i64 1)) fun v68=>Gi G K L o k6 m x1 x3 y3 v68 h66 f67) (k6 x1 x3 y3 q g)
theorem Zi9 (G:GT)(K:KT)(L:Nat)(o:HP)(k6:AV→AV→AV→HP→Eff→KR) :∀ m,X4 (fun n'=>Zo G 131 o.length K Yq L ZaP n' (ZH Yq Qb o) [(6,(fun e q g=>k6 (e 1).rd (e 3).rd (e 3).val q g))]) m=fun e q g=>Gi G K L o k6 m (e 1).rd (e 3).rd (e 3).val (e 7).rd q g:=lpI rfl fun _=>by kernel_rfl
theorem Zi8 (G:GT)(K:KT)(L:Nat)(o:HP)(k6:AV→AV→AV→HP→Eff→KR)(zn:Jb):Zo G 131 o.length K Yq L ZcV zn (ZH Yq Qb o) [(6,(fun e q g=>k6 (e 1).rd (e 3).rd (e 3).val q g))]=fun e q g=>Gi G K L o k6 L (e 1).rd (e 3).rd (e 3).val (e 7).rd q g:=Zi9 G K L o k6 L
def M4 (G:GT)(K:KT)(L:Nat)(o:HP)(x1:AV)(x3:AV)(y3:AV)(q:HP)(g:Eff):KR :=
  Gi G K L o (M5 G K L o) L x1 x3 y3 (.int .i64 0) q g
theorem Ziz (G:GT)(K:KT)(L:Nat)(o:HP) :Zo G 131 o.length K Yq L Ea (ZH Yq Qb o) (ZH Yq Qb o) []=fun e q g=>M4 G K L o (e 1).rd (e 3).rd (e 3).val q g:=by
 simp only [Ea,Z7,Zl,Zm,Zv]
 rw [Zi0 G K L o ,Zi8 G K L o (M5 G K L o) _]
 kernel_rfl
def Gh (G:GT)(K:KT)(L:Nat)(o:HP)(k4:AV→AV→AV→HP→Eff→KR):Nat→AV→AV→AV→AV→HP→Eff→KR
  | 0,_,_,_,_,_,_=>none
  | m + 1,x1,x3,y3,x6,q,g=>Za (Zg 3 x1) fun v69=>Za (Ze q v69) fun v70=>Za (Z9 q .slice v70) fun v71=>Za (Zb .lss .prim x6 v71) fun v72=>ifK v72 (Za (Yy (.slice 1) x3 (.int .i64 2)) fun v73=>ZZ (Zzs o.length v73 q g) fun v74 h75 f76=>Za (Zg 3 x1) fun v77=>Za (Ze h75 v77) fun v78=>Za (Yy (.slice 3) v78 x6) fun v79=>Za (Zg 0 v79) fun v80=>Za (Ze h75 v80) fun v81=>JJ (ZbM QG 1 [v81] h75) fun v82 h83=>Za (Zpk 1 16 v74 (AV.ro v82) h83) fun v84=>Za (Yy (.slice 1) x3 (.int .i64 2)) fun v85=>JJ (Zla o.length v85 v84 h83 f76) fun h86 f87=>Za (Zb .add .prim x6 (.int .i64 1)) fun v88=>Gh G K L o k4 m x1 x3 y3 v88 h86 f87) (k4 x1 x3 y3 q g)
theorem Zi7 (G:GT)(K:KT)(L:Nat)(o:HP)(k4:AV→AV→AV→HP→Eff→KR) :∀ m,X4 (fun n'=>Zo G 131 o.length K Yq L ZaO n' (ZH Yq Qb o) [(4,(fun e q g=>k4 (e 1).rd (e 3).rd (e 3).val q g))]) m=fun e q g=>Gh G K L o k4 m (e 1).rd (e 3).rd (e 3).val (e 6).rd q g:=lpI rfl fun _=>by kernel_rfl
theorem Zi6 (G:GT)(K:KT)(L:Nat)(o:HP)(k4:AV→AV→AV→HP→Eff→KR)(zn:Jb):Zo G 131 o.length K Yq L ZcU zn (ZH Yq Qb o) [(4,(fun e q g=>k4 (e 1).rd (e 3).rd (e 3).val q g))]=fun e q g=>Gh G K L o k4 L (e 1).rd (e 3).rd (e 3).val (e 6).rd q g:=Zi7 G K L o k4 L
def M3 (G:GT)(K:KT)(L:Nat)(o:HP)(x1:AV)(x3:AV)(y3:AV)(q:HP)(g:Eff):KR :=
  Gh G K L o (M4 G K L o) L x1 x3 y3 (.int .i64 0) q g
theorem Ziy (G:GT)(K:KT)(L:Nat)(o:HP) :Zo G 131 o.length K Yq L SY (ZH Yq Qb o) (ZH Yq Qb o) []=fun e q g=>M3 G K L o (e 1).rd (e 3).rd (e 3).val q g:=by
 simp only [SY,Z7,Zl,Zm,Zv]
 rw [Ziz G K L o ,Zi6 G K L o (M4 G K L o) _]
 kernel_rfl
def Gg (G:GT)(K:KT)(L:Nat)(o:HP)(k2:AV→AV→AV→HP→Eff→KR):Nat→AV→AV→AV→AV→HP→Eff→KR
  | 0,_,_,_,_,_,_=>none
  | m + 1,x1,x3,y3,x5,q,g=>Za (Zg 2 x1) fun v89=>Za (Ze q v89) fun v90=>Za (Z9 q .slice v90) fun v91=>Za (Zb .lss .prim x5 v91) fun v92=>ifK v92 (Za (Yy (.slice 1) x3 (.int .i64 1)) fun v93=>ZZ (Zzs o.length v93 q g) fun v94 h95 f96=>Za (Zg 2 x1) fun v97=>Za (Ze h95 v97) fun v98=>Za (Yy (.slice 17) v98 x5) fun v99=>Za (Zg 0 v99) fun v100=>Za (Ze h95 v100) fun v101=>JJ (ZbM QG 1 [v101] h95) fun v102 h103=>Za (Zpk 1 16 v94 (AV.ro v102) h103) fun v104=>Za (Yy (.slice 1) x3 (.int .i64 1)) fun v105=>JJ (Zla o.length v105 v104 h103 f96) fun h106 f107=>Za (Zb .add .prim x5 (.int .i64 1)) fun v108=>Gg G K L o k2 m x1 x3 y3 v108 h106 f107) (k2 x1 x3 y3 q g)
theorem Zi5 (G:GT)(K:KT)(L:Nat)(o:HP)(k2:AV→AV→AV→HP→Eff→KR) :∀ m,X4 (fun n'=>Zo G 131 o.length K Yq L ZaN n' (ZH Yq Qb o) [(2,(fun e q g=>k2 (e 1).rd (e 3).rd (e 3).val q g))]) m=fun e q g=>Gg G K L o k2 m (e 1).rd (e 3).rd (e 3).val (e 5).rd q g:=lpI rfl fun _=>by kernel_rfl
theorem Zi4 (G:GT)(K:KT)(L:Nat)(o:HP)(k2:AV→AV→AV→HP→Eff→KR)(zn:Jb):Zo G 131 o.length K Yq L ZcT zn (ZH Yq Qb o) [(2,(fun e q g=>k2 (e 1).rd (e 3).rd (e 3).val q g))]=fun e q g=>Gg G K L o k2 L (e 1).rd (e 3).rd (e 3).val (e 5).rd q g:=Zi5 G K L o k2 L
def M0 (G:GT)(K:KT)(L:Nat)(o:HP)(x1:AV)(x3:AV)(y3:AV)(q:HP)(g:Eff):KR :=
  Gg G K L o (M3 G K L o) L x1 x3 y3 (.int .i64 0) q g
theorem Zix (G:GT)(K:KT)(L:Nat)(o:HP) :Zo G 131 o.length K Yq L SX (ZH Yq Qb o) (ZH Yq Qb o) []=fun e q g=>M0 G K L o (e 1).rd (e 3).rd (e 3).val q g:=by
 simp only [SX,Z7,Zl,Zm,Zv]
 rw [Ziy G K L o ,Zi4 G K L o (M3 G K L o) _]
 kernel_rfl
def Gf (G:GT)(K:KT)(L:Nat)(o:HP)(k0:AV→AV→AV→HP→Eff→KR):Nat→AV→AV→AV→AV→HP→Eff→KR
  | 0,_,_,_,_,_,_=>none
  | m + 1,x1,x3,y3,x4,q,g=>Za (Zg 1 x1) fun v109=>Za (Ze q v109) fun v110=>Za (Z9 q .slice v110) fun v111=>Za (Zb .lss .prim x4 v111) fun v112=>ifK v112 (Za (Yy (.slice 1) x3 (.int .i64 0)) fun v113=>ZZ (Zzs o.length v113 q g) fun v114 h115 f116=>Za (Zg 1 x1) fun v117=>Za (Ze h115 v117) fun v118=>Za (Yy (.slice 3) v118 x4) fun v119=>Za (Zg 0 v119) fun v120=>Za (Ze h115 v120) fun v121=>JJ (ZbM QG 1 [v121] h115) fun v122 h123=>Za (Zpk 1 16 v114 (AV.ro v122) h123) fun v124=>Za (Yy (.slice 1) x3 (.int .i64 0)) fun v125=>JJ (Zla o.length v125 v124 h123 f116) fun h126 f127=>Za (Zb .add .prim x4 (.int .i64 1)) fun v128=>Gf G K L o k0 m x1 x3 y3 v128 h126 f127) (k0 x1 x3 y3 q g)
theorem Zi3 (G:GT)(K:KT)(L:Nat)(o:HP)(k0:AV→AV→AV→HP→Eff→KR) :∀ m,X4 (fun n'=>Zo G 131 o.length K Yq L ZaM n' (ZH Yq Qb o) [(0,(fun e q g=>k0 (e 1).rd (e 3).rd (e 3).val q g))]) m=fun e q g=>Gf G K L o k0 m (e 1).rd (e 3).rd (e 3).val (e 4).rd q g:=lpI rfl fun _=>by kernel_rfl
theorem Zi2 (G:GT)(K:KT)(L:Nat)(o:HP)(k0:AV→AV→AV→HP→Eff→KR)(zn:Jb):Zo G 131 o.length K Yq L ZcS zn (ZH Yq Qb o) [(0,(fun e q g=>k0 (e 1).rd (e 3).rd (e 3).val q g))]=fun e q g=>Gf G K L o k0 L (e 1).rd (e 3).rd (e 3).val (e 4).rd q g:=Zi3 G K L o k0 L
def ZeS (G:GT)(K:KT)(L:Nat)(x0:AV)(o:HP):KR :=
  Za (JL 13 (AV.ro x0)) fun v1=>Vb (o ++ [.cells v1 Zf]) fun h0=>JJ (Zzx YG [(.own 1 [])] (.int .i64 10) h0) fun v2 h3=>Gf G K L o (M0 G K L o) L (.ptr (o).length 0) v2 v2 (.int .i64 0) h3 none
theorem ZnZ (G:GT)(K:KT)(L:Nat)(x0:AV)(o:HP):fnK G K Yq L Qb [x0] o=ZeS G K L x0 o:=by
 show Zo G 131 o.length K Yq L Zen (ZH Yq Qb o) (ZH Yq Qb o) [] (Md [x0]) o none=_
 simp only [Zen,Z7,Zl,Zm,Zv]
 rw [Zix G K L o ,Zi2 G K L o (M0 G K L o) _]
 kernel_rfl
theorem Zrz {C:Cfg}{x0:AV}:RunT C MX Qb [x0] (fun K=>ZeS C.G K C.L x0):=runT rfl fun _ _=>ZnZ ..
def IJ (G:GT)(K:KT)(L:Nat)(o:HP)(q:HP)(g:Eff):KR :=
  some (Zq false o (.int .i64 0) q g)
theorem ZeF (G:GT)(K:KT)(L:Nat)(o:HP) :Zo G 46 o.length K VL L Cf (ZH VL Uh o) (ZH VL Uh o) []=fun e q g=>IJ G K L o  q g:=by kernel_rfl
def JR (G:GT)(K:KT)(L:Nat)(o:HP)(k0:HP→Eff→KR):Nat→AV→AV→AV→HP→Eff→KR
  | 0,_,_,_,_,_=>none
  | m + 1,x0,x23,x24,q,g=>Za (Zb .lss .prim x24 x23) fun v21=>ifK v21 (Za (R6 x0 x24) fun v22=>ZZ (K BF [v22] q) fun v23 h24 f25=>Za (X8 .not (AV.ro v23)) fun v26=>Qn v26 true (Za (Zb .lss .prim v22 (.int .u8 48)) fun v27=>Qn v27 false (Za (Zb .gtr .prim v22 (.int .u8 57)) fun v28=>some (v28,h24,(Zd o.length g f25))) (some (.bool true)) h24 (Zd o.length g f25) fun v29 h30 f31=>some ((AV.ro v29),h30,f31)) (some (.bool false)) h24 (Zd o.length g f25) fun v32 h33 f34=>Qn (AV.ro v32) true (Za (Zb .neq .prim v22 (.int .u8 95)) fun v35=>some (v35,h33,f34)) (some (.bool false)) h33 f34 fun v36 h37 f38=>ifK (AV.ro v36) (some (Zq false o (.int .i64 3) h37 f38)) (Za (Zb .add .prim x24 (.int .i64 1)) fun v39=>JR G K L o k0 m x0 x23 v39 h37 f38)) (k0  q g)
theorem ZeH (G:GT)(K:KT)(L:Nat)(o:HP)(k0:HP→Eff→KR) :∀ m,X4 (fun n'=>Zo G 46 o.length K VL L EN n' (ZH VL Uh o) [(0,(fun e q g=>k0 q g))]) m=fun e q g=>JR G K L o k0 m (e 0).rd (e 23).rd (e 24).rd q g:=lpI rfl fun _=>by kernel_rfl
theorem ZeG (G:GT)(K:KT)(L:Nat)(o:HP)(k0:HP→Eff→KR)(zn:Jb):Zo G 46 o.length K VL L Cg zn (ZH VL Uh o) [(0,(fun e q g=>k0 q g))]=fun e q g=>JR G K L o k0 L (e 0).rd (e 23).rd (e 24).rd q g:=ZeH G K L o k0 L
def Il (G:GT)(K:KT)(L:Nat)(x0:AV)(o:HP):KR :=
  Za (Zb .eql .prim (AV.ro x0) (.str [])) fun v0=>Qn v0 false (Za (Z9 o .str (AV.ro x0)) fun v1=>Za (Zb .gtr .prim v1 (.int .i64 24)) fun v2=>some (v2,o,none)) (some (.bool true)) o none fun v3 h4 f5=>Qn (AV.ro v3) false (Za (R6 (AV.ro x0) (.int .i64 0)) fun v6=>ZZ (K BF [v6] h4) fun v7 h8 f9=>Za (X8 .not (AV.ro v7)) fun v10=>some (v10,h8,(Zd o.length f5 f9))) (some (.bool true)) h4 f5 fun v11 h12 f13=>Qn (AV.ro v11) false (ZZ (K Py [(AV.ro x0)] h12) fun v14 h15 f16=>some ((AV.ro v14),h15,(Zd o.length f13 f16))) (some (.bool true)) h12 f13 fun v17 h18 f19=>ifK (AV.ro v17) (some (Zq false o (.int .i64 3) h18 f19)) (Za (Z9 h18 .str (AV.ro x0)) fun v20=>JR G K L o (IJ G K L o) L (AV.ro x0) v20 (.int .i64 0) h18 f19)
theorem ZjS (G:GT)(K:KT)(L:Nat)(x0:AV)(o:HP):fnK G K VL L Uh [x0] o=Il G K L x0 o:=by
 show Zo G 46 o.length K VL L Ff (ZH VL Uh o) (ZH VL Uh o) [] (Md [x0]) o none=_
 simp only [Ff,Z7,Zl,Zm,Zv]
 rw [ZeF G K L o ,ZeG G K L o (IJ G K L o) _]
 kernel_rfl
theorem ZmD {C:Cfg}{x0:AV}:RunT C Kv Uh [x0] (fun K=>Il C.G K C.L x0):=runT rfl fun _ _=>ZjS ..
def Ol (G:GT)(K:KT)(L:Nat)(x0 x1:AV)(o:HP):KR :=
  ZZ (K Ud [(AV.ro x1),(.int .i64 32),(.fn Vy [(AV.ro x0)] [])] o) fun v0 h1 f2=>some (Zq false o v0 h1 (Zd o.length none f2))
theorem Eh (G:GT)(K:KT)(L:Nat)(x0 x1:AV)(o:HP):fnK G K CS L Oh [x0,x1] o=Ol G K L x0 x1 o:=by kernel_rfl
theorem EH {C:Cfg}{x0 x1:AV}:RunT C Vi Oh [x0,x1] (fun K=>Ol C.G K C.L x0 x1):=runT rfl fun _ _=>Eh ..
def Ri (G:GT)(K:KT)(L:Nat)(x0 x1:AV)(o:HP):KR :=
  Za (JL 13 (AV.ro x0)) fun v1=>Vb (o ++ [.cells v1 Zf]) fun h0=>Za (Ze h0 (AV.ro x1)) fun v2=>Za (Zg 0 (.ptr (o).length 0)) fun v3=>Za (Ze h0 v3) fun v4=>ZZ (K Yt [v2,v4] h0) fun v5 h6 f7=>Za (Zb .neq .prim (AV.ro v5) (.int .i64 0)) fun v8=>ifK v8 (some (Zq false o v5 h6 (Zd o.length none f7))) (Za (Zp h6 13 (.ptr (o).length 0)) fun v9=>ZZ (K Zab [v9] h6) fun v10 h11 f12=>some (Zq false o v10 h11 (Zd o.length (Zd o.length none f7) f12)))
theorem Zga (G:GT)(K:KT)(L:Nat)(x0 x1:AV)(o:HP):fnK G K ZmN L P8 [x0,x1] o=Ri G K L x0 x1 o:=by kernel_rfl
theorem Ah {C:Cfg}{x0 x1:AV}:RunT C U5 P8 [x0,x1] (fun K=>Ri C.G K C.L x0 x1):=runT rfl fun _ _=>Zga ..
def Q8 (G:GT)(K:KT)(L:Nat)(o:HP)(q:HP)(g:Eff):KR :=
  some (Zq false o (.int .i64 0) q g)
theorem RN (G:GT)(K:KT)(L:Nat)(o:HP) :Zo G 27 o.length K Y4 L IB (ZH Y4 WJ o) (ZH Y4 WJ o) []=fun e q g=>Q8 G K L o  q g:=by kernel_rfl
def YD (G:GT)(K:KT)(L:Nat)(o:HP)(k0:HP→Eff→KR):Nat→AV→AV→AV→AV→HP→Eff→KR
  | 0,_,_,_,_,_,_=>none
  | m + 1,x2,x14,x15,x16,q,g=>Za (Zb .lss .prim x16 x15) fun v3=>ifK v3 (Za (Yy (.slice 13) x14 x16) fun v4=>Za (Zp q 13 v4) fun v5=>Vb (q ++ [.cells [(.str []),(.own 3 []),(.own 17 []),(.own 3 []),(.own 3 []),(.own 1 []),(.own 1 []),(.own 1 []),(.own 1 []),(.own 1 []),(.own 4 []),(.own 5 []),(.own 3 [])] Zf]) fun h6=>JJ (stV o.length 13 (.ptr (q).length 0) v5 h6 g) fun h7 f8=>Za (Zp h7 13 (.ptr (q).length 0)) fun v9=>ZZ (Vz K x2 [v9] h7) fun v10 h11 f12=>Za (Zb .neq .prim (AV.ro v10) (.int .i64 0)) fun v13=>ifK v13 (some (Zq false o v10 h11 (Zd o.length f8 f12))) (Za (Zb .add .prim x16 (.int .i64 1)) fun v14=>YD G K L o k0 m x2 x14 x15 v14 h11 (Zd o.length f8 f12))) (k0  q g)
theorem RP (G:GT)(K:KT)(L:Nat)(o:HP)(k0:HP→Eff→KR) :∀ m,X4 (fun n'=>Zo G 27 o.length K Y4 L Hr n' (ZH Y4 WJ o) [(0,(fun e q g=>k0 q g))]) m=fun e q g=>YD G K L o k0 m (e 2).rd (e 14).rd (e 15).rd (e 16).rd q g:=lpI rfl fun _=>by kernel_rfl
theorem RO (G:GT)(K:KT)(L:Nat)(o:HP)(k0:HP→Eff→KR)(zn:Jb):Zo G 27 o.length K Y4 L IC zn (ZH Y4 WJ o) [(0,(fun e q g=>k0 q g))]=fun e q g=>YD G K L o k0 L (e 2).rd (e 14).rd (e 15).rd (e 16).rd q g:=RP G K L o k0 L
def VV (G:GT)(K:KT)(L:Nat)(x0 x1 x2:AV)(o:HP):KR :=
  Za (Z9 o .slice (AV.ro x0)) fun v0=>Za (Zb .gtr .prim v0 (AV.ro x1)) fun v1=>ifK v1 (some (Zq false o (.int .i64 6) o none)) (Za (Z9 o .slice (AV.ro x0)) fun v2=>YD G K L o (Q8 G K L o) L (AV.ro x2) (AV.ro x0) v2 (.int .i64 0) o none)
theorem D5 (G:GT)(K:KT)(L:Nat)(x0 x1 x2:AV)(o:HP):fnK G K Y4 L WJ [x0,x1,x2] o=VV G K L x0 x1 x2 o:=by
 show Zo G 27 o.length K Y4 L Ki (ZH Y4 WJ o) (ZH Y4 WJ o) [] (Md [x0,x1,x2]) o none=_
 simp only [Ki,Z7,Zl,Zm,Zv]
 rw [RN G K L o ,RO G K L o (Q8 G K L o) _]
 kernel_rfl
theorem O0 {C:Cfg}{x0 x1 x2:AV}:RunT C XU WJ [x0,x1,x2] (fun K=>VV C.G K C.L x0 x1 x2):=runT rfl fun _ _=>D5 ..
def Fz (G:GT)(K:KT)(L:Nat)(x0:AV)(o:HP):KR :=
  Za (JL 4 (AV.ro x0)) fun v1=>Vb (o ++ [.cells v1 ZV]) fun h0=>Vb (h0 ++ [.map []]) fun h2=>Vb (h2 ++ [.cells [.nilm] JI]) fun h3=>JJ (Zla o.length (.ptr (h2).length 0) (.map (h0).length) h3 none) fun h4 f5=>Za (Zg 3 (.ptr (o).length 0)) fun v6=>Za (Ze h4 v6) fun v7=>ZZ (K UV [v7,(.int .i64 32),(.fn OD [] [(.ptr (o).length 0),(.ptr (h2).length 0)])] h4) fun v8 h9 f10=>some (Zq false o v8 h9 (Zd o.length f5 f10))
theorem ZjQ (G:GT)(K:KT)(L:Nat)(x0:AV)(o:HP):fnK G K Zrh L AP [x0] o=Fz G K L x0 o:=by kernel_rfl
theorem ZmB {C:Cfg}{x0:AV}:RunT C Au AP [x0] (fun K=>Fz C.G K C.L x0):=runT rfl fun _ _=>ZjQ ..
def Mq (G:GT)(K:KT)(L:Nat)(o:HP)(q:HP)(g:Eff):KR :=
  some (Zq false o (.int .i64 0) q g)
theorem ZhO (G:GT)(K:KT)(L:Nat)(o:HP) :Zo G 51 o.length K UI L Zc9 (ZH UI HY o) (ZH UI HY o) []=fun e q g=>Mq G K L o  q g:=by kernel_rfl
def KX (G:GT)(K:KT)(L:Nat)(o:HP)(k0:HP→Eff→KR):Nat→AV→AV→HP→Eff→KR
  | 0,_,_,_,_=>none
  | m + 1,x0,x3,q,g=>Za (Z9 q .str x0) fun v21=>Za (Zb .lss .prim x3 v21) fun v22=>ifK v22 (Za (R6 x0 x3) fun v23=>ZZ (K NG [v23] q) fun v24 h25 f26=>Za (X8 .not (AV.ro v24)) fun v27=>Qn v27 true (Za (R6 x0 x3) fun v28=>Za (Zb .neq .prim v28 (.int .u8 95)) fun v29=>some (v29,h25,(Zd o.length g f26))) (some (.bool false)) h25 (Zd o.length g f26) fun v30 h31 f32=>Qn (AV.ro v30) true (Za (R6 x0 x3) fun v33=>Za (Zb .lss .prim v33 (.int .u8 48)) fun v34=>Qn v34 false (Za (R6 x0 x3) fun v35=>Za (Zb .gtr .prim v35 (.int .u8 57)) fun v36=>some (v36,h31,f32)) (some (.bool true)) h31 f32 fun v37 h38 f39=>some ((AV.ro v37),h38,f39)) (some (.bool false)) h31 f32 fun v40 h41 f42=>ifK (AV.ro v40) (some (Zq false o (.int .i64 3) h41 f42)) (Za (Zb .add .prim x3 (.int .i64 1)) fun v43=>KX G K L o k0 m x0 v43 h41 f42)) (k0  q g)
theorem ZhQ (G:GT)(K:KT)(L:Nat)(o:HP)(k0:HP→Eff→KR) :∀ m,X4 (fun n'=>Zo G 51 o.length K UI L ZaE n' (ZH UI HY o) [(0,(fun e q g=>k0 q g))]) m=fun e q g=>KX G K L o k0 m (e 0).rd (e 3).rd q g:=lpI rfl fun _=>by kernel_rfl
theorem ZhP (G:GT)(K:KT)(L:Nat)(o:HP)(k0:HP→Eff→KR)(zn:Jb):Zo G 51 o.length K UI L ZcA zn (ZH UI HY o) [(0,(fun e q g=>k0 q g))]=fun e q g=>KX G K L o k0 L (e 0).rd (e 3).rd q g:=ZhQ G K L o k0 L
def Lj (G:GT)(K:KT)(L:Nat)(x0:AV)(o:HP):KR :=
  Za (Z9 o .str (AV.ro x0)) fun v0=>Za (Zb .lss .prim v0 (.int .i64 1)) fun v1=>Qn v1 false (Za (Z9 o .str (AV.ro x0)) fun v2=>Za (Zb .gtr .prim v2 (.int .i64 24)) fun v3=>some (v3,o,none)) (some (.bool true)) o none fun v4 h5 f6=>Qn (AV.ro v4) false (Za (R6 (AV.ro x0) (.int .i64 0)) fun v7=>ZZ (K NG [v7] h5) fun v8 h9 f10=>Za (X8 .not (AV.ro v8)) fun v11=>some (v11,h9,(Zd o.length f6 f10))) (some (.bool true)) h5 f6 fun v12 h13 f14=>Qn (AV.ro v12) false (ZZ (K Ay [(AV.ro x0)] h13) fun v15 h16 f17=>some ((AV.ro v15),h16,(Zd o.length f14 f17))) (some (.bool true)) h13 f14 fun v18 h19 f20=>ifK (AV.ro v18) (some (Zq false o (.int .i64 3) h19 f20)) (KX G K L o (Mq G K L o) L (AV.ro x0) (.int .i64 0) h19 f20)
theorem ZnL (G:GT)(K:KT)(L:Nat)(x0:AV)(o:HP):fnK G K UI L HY [x0] o=Lj G K L x0 o:=by
 show Zo G 51 o.length K UI L Zef (ZH UI HY o) (ZH UI HY o) [] (Md [x0]) o none=_
 simp only [Zef,Z7,Zl,Zm,Zv]
 rw [ZhO G K L o ,ZhP G K L o (Mq G K L o) _]
 kernel_rfl
theorem Zro {C:Cfg}{x0:AV}:RunT C H7 HY [x0] (fun K=>Lj C.G K C.L x0):=runT rfl fun _ _=>ZnL ..
def Zby (G:GT)(K:KT)(L:Nat)(x0 x1:AV)(o:HP):KR :=
  ifK (AV.ro x0) (some (Zq false o (.int .i64 0) o none)) (some (Zq false o x1 o none))
theorem ZlN (G:GT)(K:KT)(L:Nat)(x0 x1:AV)(o:HP):fnK G K Ztg L Zau [x0,x1] o=Zby G K L x0 x1 o:=by kernel_rfl
theorem ZoV {C:Cfg}{x0 x1:AV}:RunT C YH Zau [x0,x1] (fun K=>Zby C.G K C.L x0 x1):=runT rfl fun _ _=>ZlN ..
def ZeU (G:GT)(K:KT)(L:Nat)(x0 x1:AV)(o:HP):KR :=
  Za (Zb .neq .prim (AV.ro x0) (.int .i64 0)) fun v0=>ifK v0 (some (Zq false o x0 o none)) (some (Zq false o x1 o none))
theorem Zob (G:GT)(K:KT)(L:Nat)(x0 x1:AV)(o:HP):fnK G K ZuX L ZdT [x0,x1] o=ZeU G K L x0 x1 o:=by kernel_rfl
theorem Zr1 {C:Cfg}{x0 x1:AV}:RunT C Qh ZdT [x0,x1] (fun K=>ZeU C.G K C.L x0 x1):=runT rfl fun _ _=>Zob ..
def ZeZ (G:GT)(K:KT)(L:Nat)(x0 x1:AV)(o:HP):KR :=
  Za (JL 3 (AV.ro x0)) fun v1=>Vb (o ++ [.cells v1 LH]) fun h0=>Za (Zg 0 (.ptr (o).length 0)) fun v2=>Za (Ze h0 v2) fun v3=>ZZ (ZG K KS [v3,(AV.ro x1)] h0) fun v4 h5 f6=>Za (Zg 1 (.ptr (o).length 0)) fun v7=>Za (Ze h5 v7) fun v8=>ZZ (ZG K Bc [v8] h5) fun v9 h10 f11=>ZZ (ZG K YH [(AV.ro v9),(.int .i64 1)] h10) fun v12 h13 f14=>ZZ (ZG K Qh [(AV.ro v4),(AV.ro v12)] h13) fun v15 h16 f17=>Za (Zg 1 (.ptr (o).length 0)) fun v18=>Za (Ze h16 v18) fun v19=>Za (Zg 2 (.ptr (o).length 0)) fun v20=>Za (Ze h16 v20) fun v21=>ZZ (K Pn [v19,v21] h16) fun v22 h23 f24=>ZZ (K YH [(AV.ro v22),(.int .i64 2)] h23) fun v25 h26 f27=>ZZ (K Qh [(AV.ro v15),(AV.ro v25)] h26) fun v28 h29 f30=>some (Zq false o v28 h29 (Zd o.length (Zd o.length (Zd o.length (Zd o.length (Zd o.length (Zd o.length (Zd o.length none f6) f11) f14) f17) f24) f27) f30))
theorem Zof (G:GT)(K:KT)(L:Nat)(x0 x1:AV)(o:HP):fnK G K ZuZ L ZdV [x0,x1] o=ZeZ G K L x0 x1 o:=by kernel_rfl
theorem Zr5 {C:Cfg}{x0 x1:AV}:RunT C A8 ZdV [x0,x1] (fun K=>ZeZ C.G K C.L x0 x1):=runT rfl fun _ _=>Zof ..
def ZeV (G:GT)(K:KT)(L:Nat)(x0 x1:AV)(o:HP):KR :=
  ZZ (K H7 [(AV.ro x0)] o) fun v0 h1 f2=>ZZ (K Tw [(AV.ro x1),(AV.ro x0)] h1) fun v3 h4 f5=>Za (Zb .lss .prim (AV.ro v3) (.int .i64 0)) fun v6=>ZZ (K YH [v6,(.int .i64 4)] h4) fun v7 h8 f9=>ZZ (K Qh [(AV.ro v0),(AV.ro v7)] h8) fun v10 h11 f12=>some (Zq false o v10 h11 (Zd o.length (Zd o.length (Zd o.length (Zd o.length none f2) f5) f9) f12))
theorem Zod (G:GT)(K:KT)(L:Nat)(x0 x1:AV)(o:HP):fnK G K ZuY L ZdU [x0,x1] o=ZeV G K L x0 x1 o:=by kernel_rfl
theorem Zr3 {C:Cfg}{x0 x1:AV}:RunT C KS ZdU [x0,x1] (fun K=>ZeV C.G K C.L x0 x1):=runT rfl fun _ _=>Zod ..
def Ry (G:GT)(K:KT)(L:Nat)(o:HP)(q:HP)(g:Eff):KR :=
  some (Zq false o (.int .i64 0) q g)
theorem Zkr (G:GT)(K:KT)(L:Nat)(o:HP) :Zo G 127 o.length K WC L ZfK (ZH WC X5 o) (ZH WC X5 o) []=fun e q g=>Ry G K L o  q g:=by kernel_rfl
def KI (G:GT)(K:KT)(L:Nat)(o:HP)(k6:HP→Eff→KR):Nat→AV→AV→AV→AV→HP→Eff→KR
  | 0,_,_,_,_,_,_=>none
  | m + 1,x1,x10,y10,x11,q,g=>Za (Zg 12 x1) fun v14=>Za (Ze q v14) fun v15=>Za (Z9 q .slice v15) fun v16=>Za (Zb .lss .prim x11 v16) fun v17=>ifK v17 (Za (Zp q 13 x1) fun v18=>Za (Zg 12 x1) fun v19=>Za (Ze q v19) fun v20=>Za (Yy (.slice 3) v20 x11) fun v21=>Za (Zp q 3 v21) fun v22=>ZZ (ZG K Zfx [v18,v22,x10] q) fun v23 h24 f25=>Za (Zb .neq .prim (AV.ro v23) (.int .i64 0)) fun v26=>ifK v26 (some (Zq false o (AV.ro v23) h24 (Zd o.length g f25))) (Za (Zg 12 x1) fun v27=>Za (Ze h24 v27) fun v28=>Za (Yy (.slice 3) v28 x11) fun v29=>Za (Zg 0 v29) fun v30=>Za (Ze h24 v30) fun v31=>JJ (ZbM QG 1 [v31] h24) fun v32 h33=>Za (Zpk 1 16 y10 (AV.ro v32) h33) fun v34=>Za (Zb .add .prim x11 (.int .i64 1)) fun v35=>KI G K L o k6 m x1 (AV.ro v34) v34 v35 h33 (Zd o.length g f25))) (k6  q g)
theorem Zkz (G:GT)(K:KT)(L:Nat)(o:HP)(k6:HP→Eff→KR) :∀ m,X4 (fun n'=>Zo G 127 o.length K WC L Zde n' (ZH WC X5 o) [(6,(fun e q g=>k6 q g))]) m=fun e q g=>KI G K L o k6 m (e 1).rd (e 10).rd (e 10).val (e 11).rd q g:=lpI rfl fun _=>by kernel_rfl
theorem Zky (G:GT)(K:KT)(L:Nat)(o:HP)(k6:HP→Eff→KR)(zn:Jb):Zo G 127 o.length K WC L ZfO zn (ZH WC X5 o) [(6,(fun e q g=>k6 q g))]=fun e q g=>KI G K L o k6 L (e 1).rd (e 10).rd (e 10).val (e 11).rd q g:=Zkz G K L o k6 L
def Iu (G:GT)(K:KT)(L:Nat)(o:HP)(x1:AV)(q:HP)(g:Eff):KR :=
  Za (Zg 12 x1) fun v10=>Za (Ze q v10) fun v11=>Za (Z9 q .slice v11) fun v12=>Za (Zb .gtr .prim v12 (.int .i64 32)) fun v13=>ifK v13 (some (Zq false o (.int .i64 6) q g)) (KI G K L o (Ry G K L o) L x1 (.lst 1 []) (.own 1 []) (.int .i64 0) q g)
theorem Zkq (G:GT)(K:KT)(L:Nat)(o:HP) :Zo G 127 o.length K WC L Fj (ZH WC X5 o) (ZH WC X5 o) []=fun e q g=>Iu G K L o (e 1).rd q g:=by
 simp only [Fj,Z7,Zl,Zm,Zv]
 rw [Zkr G K L o ,Zky G K L o (Ry G K L o) _]
 kernel_rfl
def KH (G:GT)(K:KT)(L:Nat)(o:HP)(k4:AV→HP→Eff→KR):Nat→AV→AV→HP→Eff→KR
  | 0,_,_,_,_=>none
  | m + 1,x1,x8,q,g=>Za (Zg 11 x1) fun v36=>Za (Ze q v36) fun v37=>Za (Z9 q .slice v37) fun v38=>Za (Zb .lss .prim x8 v38) fun v39=>ifK v39 (Za (Zp q 13 x1) fun v40=>Za (Zg 11 x1) fun v41=>Za (Ze q v41) fun v42=>Za (Yy (.slice 5) v42 x8) fun v43=>Za (Zp q 5 v43) fun v44=>ZZ (ZG K A7 [v40,v44] q) fun v45 h46 f47=>Za (Zb .neq .prim (AV.ro v45) (.int .i64 0)) fun v48=>ifK v48 (some (Zq false o (AV.ro v45) h46 (Zd o.length g f47))) (Za (Zb .add .prim x8 (.int .i64 1)) fun v49=>KH G K L o k4 m x1 v49 h46 (Zd o.length g f47))) (k4 x1 q g)
theorem Zkx (G:GT)(K:KT)(L:Nat)(o:HP)(k4:AV→HP→Eff→KR) :∀ m,X4 (fun n'=>Zo G 127 o.length K WC L Zdd n' (ZH WC X5 o) [(4,(fun e q g=>k4 (e 1).rd q g))]) m=fun e q g=>KH G K L o k4 m (e 1).rd (e 8).rd q g:=lpI rfl fun _=>by kernel_rfl
theorem Zkw (G:GT)(K:KT)(L:Nat)(o:HP)(k4:AV→HP→Eff→KR)(zn:Jb):Zo G 127 o.length K WC L ZfN zn (ZH WC X5 o) [(4,(fun e q g=>k4 (e 1).rd q g))]=fun e q g=>KH G K L o k4 L (e 1).rd (e 8).rd q g:=Zkx G K L o k4 L
def Ir (G:GT)(K:KT)(L:Nat)(o:HP)(x1:AV)(q:HP)(g:Eff):KR :=
  Za (Zg 11 x1) fun v6=>Za (Ze q v6) fun v7=>Za (Z9 q .slice v7) fun v8=>Za (Zb .gtr .prim v8 (.int .i64 32)) fun v9=>ifK v9 (some (Zq false o (.int .i64 6) q g)) (KH G K L o (Iu G K L o) L x1 (.int .i64 0) q g)
theorem Zkp (G:GT)(K:KT)(L:Nat)(o:HP) :Zo G 127 o.length K WC L Fh (ZH WC X5 o) (ZH WC X5 o) []=fun e q g=>Ir G K L o (e 1).rd q g:=by
 simp only [Fh,Z7,Zl,Zm,Zv]
 rw [Zkq G K L o ,Zkw G K L o (Iu G K L o) _]
 kernel_rfl
def Rx (G:GT)(K:KT)(L:Nat)(o:HP)(kn:AV→AV→AV→AV→AV→HP→Eff→KR)(x1:AV)(x3:AV)(y3:AV)(x4:AV)(x5:AV)(q:HP)(g:Eff):KR :=
  Za (Zb .add .prim x5 (.int .i64 1)) fun v52=>kn x1 x3 y3 x4 v52 q g
theorem Zko (G:GT)(K:KT)(L:Nat)(o:HP)(kn:AV→AV→AV→AV→AV→HP→Eff→KR)(z0:Jb):Zo G 127 o.length K WC L ZfJ (fun e q g=>kn (e 1).rd (e 3).rd (e 3).val (e 4).rd (e 5).rd q g) (ZH WC X5 o) [(0,z0)]=fun e q g=>Rx G K L o kn (e 1).rd (e 3).rd (e 3).val (e 4).rd (e 5).rd q g:=by kernel_rfl
def KG (G:GT)(K:KT)(L:Nat)(o:HP)(k2:AV→AV→AV→AV→AV→HP→Eff→KR):Nat→AV→AV→AV→AV→AV→AV→HP→Eff→KR
  | 0,_,_,_,_,_,_,_,_=>none
  | m + 1,x1,x3,y3,x4,x5,x6,q,g=>Za (Yy (.slice 1) x4 x5) fun v68=>Za (Ze q v68) fun v69=>Za (Z9 q .slice v69) fun v70=>Za (Zb .lss .prim x6 v70) fun v71=>ifK v71 (Za (Yy (.slice 1) x4 x5) fun v72=>Za (Ze q v72) fun v73=>Za (Yy (.slice 1) v73 x6) fun v74=>Za (Ze q v74) fun v75=>ZZ (ZG K KS [v75,x3] q) fun v76 h77 f78=>Za (Zp h77 13 x1) fun v79=>ZZ (ZG K BH [v79,x5,x6] h77) fun v80 h81 f82=>ZZ (ZG K Qh [(AV.ro v76),(AV.ro v80)] h81) fun v83 h84 f85=>Za (Zb .neq .prim (AV.ro v83) (.int .i64 0)) fun v86=>ifK v86 (some (Zq false o (AV.ro v83) h84 (Zd o.length (Zd o.length (Zd o.length g f78) f82) f85))) (Za (Yy (.slice 1) x4 x5) fun v87=>Za (Ze h84 v87) fun v88=>Za (Yy (.slice 1) v88 x6) fun v89=>Za (Ze h84 v89) fun v90=>JJ (ZbM QG 1 [v90] h84) fun v91 h92=>Za (Zpk 1 16 y3 (AV.ro v91) h92) fun v93=>Za (Zb .add .prim x6 (.int .i64 1)) fun v94=>KG G K L o k2 m x1 (AV.ro v93) v93 x4 x5 v94 h92 (Zd o.length (Zd o.length (Zd o.length g f78) f82) f85))) (k2 x1 x3 y3 x4 x5 q g)
theorem Zkv (G:GT)(K:KT)(L:Nat)(o:HP)(k2:AV→AV→AV→AV→AV→HP→Eff→KR)(z1 z0:Jb):∀ m,X4 (fun n'=>Zo G 127 o.length K WC L Zdc n' (ZH WC X5 o) [(2,(fun e q g=>k2 (e 1).rd (e 3).rd (e 3).val (e 4).rd (e 5).rd q g)),(1,z1),(0,z0)]) m=fun e q g=>KG G K L o k2 m (e 1).rd (e 3).rd (e 3).val (e 4).rd (e 5).rd (e 6).rd q g:=lpI rfl fun _=>by kernel_rfl
theorem Zku (G:GT)(K:KT)(L:Nat)(o:HP)(k2:AV→AV→AV→AV→AV→HP→Eff→KR)(z1 z0:Jb)(zn:Jb):Zo G 127 o.length K WC L ZfM zn (ZH WC X5 o) [(2,(fun e q g=>k2 (e 1).rd (e 3).rd (e 3).val (e 4).rd (e 5).rd q g)),(1,z1),(0,z0)]=fun e q g=>KG G K L o k2 L (e 1).rd (e 3).rd (e 3).val (e 4).rd (e 5).rd (e 6).rd q g:=Zkv G K L o k2 z1 z0 L
def VG (G:GT)(K:KT)(L:Nat)(o:HP)(k0:AV→HP→Eff→KR):Nat→AV→AV→AV→AV→AV→HP→Eff→KR
  | 0,_,_,_,_,_,_,_=>none
  | m + 1,x1,x3,y3,x4,x5,q,g=>Za (Z9 q .slice x4) fun v50=>Za (Zb .lss .prim x5 v50) fun v51=>ifK v51 (Za (Yy (.slice 1) x4 x5) fun v53=>Za (Ze q v53) fun v54=>Za (Z9 q .slice v54) fun v55=>Za (Zb .gtr .prim v55 (.int .i64 32)) fun v56=>Qn v56 false (Za (Zb .eql .prim x5 (.int .i64 9)) fun v57=>Qn v57 true (Za (Yy (.slice 1) x4 x5) fun v58=>Za (Ze q v58) fun v59=>Za (Z9 q .slice v59) fun v60=>Za (Zb .gtr .prim v60 (.int .i64 16)) fun v61=>some (v61,q,g)) (some (.bool false)) q g fun v62 h63 f64=>some ((AV.ro v62),h63,f64)) (some (.bool true)) q g fun v65 h66 f67=>ifK (AV.ro v65) (some (Zq false o (.int .i64 6) h66 f67)) (KG G K L o (Rx G K L o (VG G K L o k0 m)) L x1 x3 y3 x4 x5 (.int .i64 0) h66 f67)) (k0 x1 q g)
theorem Zkt (G:GT)(K:KT)(L:Nat)(o:HP)(k0:AV→HP→Eff→KR) :∀ m,X4 (fun n'=>Zo G 127 o.length K WC L BK n' (ZH WC X5 o) [(0,(fun e q g=>k0 (e 1).rd q g))]) m=fun e q g=>VG G K L o k0 m (e 1).rd (e 3).rd (e 3).val (e 4).rd (e 5).rd q g:=by
 intro m
 induction m with
 | zero=>rfl
 | succ m ih =>
  show Zo G 127 o.length K WC L BK (X4 _ m) (ZH WC X5 o) [(0,(fun e q g=>k0 (e 1).rd q g))]=_
  rw [ih]
  simp only [BK,Z7,Zl,Zm,Zv]
  rw [Zko G K L o (VG G K L o k0 m) _,Zku G K L o (Rx G K L o (VG G K L o k0 m)) _ _ _]
  kernel_rfl
theorem Zks (G:GT)(K:KT)(L:Nat)(o:HP)(k0:AV→HP→Eff→KR)(zn:Jb):Zo G 127 o.length K WC L ZfL zn (ZH WC X5 o) [(0,(fun e q g=>k0 (e 1).rd q g))]=fun e q g=>VG G K L o k0 L (e 1).rd (e 3).rd (e 3).val (e 4).rd (e 5).rd q g:=Zkt G K L o k0 L
def ZiM (G:GT)(K:KT)(L:Nat)(x0:AV)(o:HP):KR :=
  Za (JL 13 (AV.ro x0)) fun v1=>Vb (o ++ [.cells v1 Zf]) fun h0=>Za (Zp h0 13 (.ptr (o).length 0)) fun v2=>ZZ (K MX [v2] h0) fun v3 h4 f5=>VG G K L o (Ir G K L o) L (.ptr (o).length 0) (.lst 1 []) (.own 1 []) (AV.ro v3) (.int .i64 0) h4 (Zd o.length none f5)
theorem Zq1 (G:GT)(K:KT)(L:Nat)(x0:AV)(o:HP):fnK G K WC L X5 [x0] o=ZiM G K L x0 o:=by
 show Zo G 127 o.length K WC L Zhy (ZH WC X5 o) (ZH WC X5 o) [] (Md [x0]) o none=_
 simp only [Zhy,Z7,Zl,Zm,Zv]
 rw [Zkp G K L o ,Zks G K L o (Ir G K L o) _]
 kernel_rfl
theorem Ztt {C:Cfg}{x0:AV}:RunT C Zca X5 [x0] (fun K=>ZiM C.G K C.L x0):=runT rfl fun _ _=>Zq1 ..
def Od (G:GT)(K:KT)(L:Nat)(o:HP)(q:HP)(g:Eff):KR :=
  some (Zq false o (.int .i64 0) q g)
theorem ZiG (G:GT)(K:KT)(L:Nat)(o:HP) :Zo G 68 o.length K Xx L ZcZ (ZH Xx Jf o) (ZH Xx Jf o) []=fun e q g=>Od G K L o  q g:=by kernel_rfl
def M7 (G:GT)(K:KT)(L:Nat)(o:HP)(kn:AV→AV→HP→Eff→KR)(x1:AV)(x3:AV)(q:HP)(g:Eff):KR :=
  Za (Zb .add .prim x3 (.int .i64 1)) fun v10=>kn x1 v10 q g
theorem ZiF (G:GT)(K:KT)(L:Nat)(o:HP)(kn:AV→AV→HP→Eff→KR)(z0:Jb):Zo G 68 o.length K Xx L ZcY (fun e q g=>kn (e 1).rd (e 3).rd q g) (ZH Xx Jf o) [(0,z0)]=fun e q g=>M7 G K L o kn (e 1).rd (e 3).rd q g:=by kernel_rfl
def J2 (G:GT)(K:KT)(L:Nat)(o:HP)(k2:AV→AV→HP→Eff→KR):Nat→AV→AV→AV→AV→HP→Eff→KR
  | 0,_,_,_,_,_,_=>none
  | m + 1,x1,x3,x4,x5,q,g=>Za (Zb .lss .prim x5 x3) fun v46=>ifK v46 (Za (Zg 3 x1) fun v47=>Za (Ze q v47) fun v48=>Za (Yy (.slice 3) v48 x5) fun v49=>Za (Zg 0 v49) fun v50=>Za (Ze q v50) fun v51=>Za (Zg 0 x4) fun v52=>Za (Ze q v52) fun v53=>Za (Zb .eql .prim v51 v53) fun v54=>Qn v54 true (Za (Zg 3 x1) fun v55=>Za (Ze q v55) fun v56=>Za (Yy (.slice 3) v56 x5) fun v57=>Za (Zg 1 v57) fun v58=>Za (Ze q v58) fun v59=>Za (Zg 1 x4) fun v60=>Za (Ze q v60) fun v61=>Za (Zb .eql .prim v59 v61) fun v62=>some (v62,q,g)) (some (.bool false)) q g fun v63 h64 f65=>ifK (AV.ro v63) (some (Zq false o (.int .i64 4) h64 f65)) (Za (Zb .add .prim x5 (.int .i64 1)) fun v66=>J2 G K L o k2 m x1 x3 x4 v66 h64 f65)) (k2 x1 x3 q g)
theorem ZiK (G:GT)(K:KT)(L:Nat)(o:HP)(k2:AV→AV→HP→Eff→KR)(z1 z0:Jb):∀ m,X4 (fun n'=>Zo G 68 o.length K Xx L ZaR n' (ZH Xx Jf o) [(2,(fun e q g=>k2 (e 1).rd (e 3).rd q g)),(1,z1),(0,z0)]) m=fun e q g=>J2 G K L o k2 m (e 1).rd (e 3).rd (e 4).rd (e 5).rd q g:=lpI rfl fun _=>by kernel_rfl
theorem ZiJ (G:GT)(K:KT)(L:Nat)(o:HP)(k2:AV→AV→HP→Eff→KR)(z1 z0:Jb)(zn:Jb):Zo G 68 o.length K Xx L Zdb zn (ZH Xx Jf o) [(2,(fun e q g=>k2 (e 1).rd (e 3).rd q g)),(1,z1),(0,z0)]=fun e q g=>J2 G K L o k2 L (e 1).rd (e 3).rd (e 4).rd (e 5).rd q g:=ZiK G K L o k2 z1 z0 L
def Xm (G:GT)(K:KT)(L:Nat)(o:HP)(k0:HP→Eff→KR):Nat→AV→AV→HP→Eff→KR
  | 0,_,_,_,_=>none
  | m + 1,x1,x3,q,g=>Za (Zg 3 x1) fun v6=>Za (Ze q v6) fun v7=>Za (Z9 q .slice v7) fun v8=>Za (Zb .lss .prim x3 v8) fun v9=>ifK v9 (Za (Zg 3 x1) fun v11=>Za (Ze q v11) fun v12=>Za (Yy (.slice 3) v12 x3) fun v13=>Za (Zp q 3 v13) fun v14=>Vb (q ++ [.cells [(.str []),(.str []),(.int .i64 0)] Jl]) fun h15=>JJ (stV o.length 3 (.ptr (q).length 0) v14 h15 g) fun h16 f17=>Za (Zp h16 4 x1) fun v18=>Za (Zg 0 (.ptr (q).length 0)) fun v19=>Za (Ze h16 v19) fun v20=>ZZ (K Po [v18,v20] h16) fun v21 h22 f23=>Za (Zb .lss .prim (AV.ro v21) (.int .i64 0)) fun v24=>Qn v24 false (Za (Zp h22 4 x1) fun v25=>Za (Zg 1 (.ptr (q).length 0)) fun v26=>Za (Ze h22 v26) fun v27=>ZZ (K Po [v25,v27] h22) fun v28 h29 f30=>Za (Zb .lss .prim (AV.ro v28) (.int .i64 0)) fun v31=>some (v31,h29,(Zd o.length (Zd o.length f17 f23) f30))) (some (.bool true)) h22 (Zd o.length f17 f23) fun v32 h33 f34=>ifK (AV.ro v32) (some (Zq false o (.int .i64 5) h33 f34)) (Za (Zg 0 (.ptr (q).length 0)) fun v35=>Za (Ze h33 v35) fun v36=>Za (Zg 1 (.ptr (q).length 0)) fun v37=>Za (Ze h33 v37) fun v38=>Za (Zb .eql .prim v36 v38) fun v39=>ifK v39 (some (Zq false o (.int .i64 1) h33 f34)) (Za (Zg 2 (.ptr (q).length 0)) fun v40=>Za (Ze h33 v40) fun v41=>ZZ (K QN [v41,(.int .i64 1),(.int .i64 1000000000)] h33) fun v42 h43 f44=>Za (X8 .not (AV.ro v42)) fun v45=>ifK v45 (some (Zq false o (.int .i64 2) h43 (Zd o.length f34 f44))) (J2 G K L o (M7 G K L o (Xm G K L o k0 m)) L x1 x3 (.ptr (q).length 0) (.int .i64 0) h43 (Zd o.length f34 f44))))) (k0  q g)
theorem ZiI (G:GT)(K:KT)(L:Nat)(o:HP)(k0:HP→Eff→KR) :∀ m,X4 (fun n'=>Zo G 68 o.length K Xx L Rc n' (ZH Xx Jf o) [(0,(fun e q g=>k0 q g))]) m=fun e q g=>Xm G K L o k0 m (e 1).rd (e 3).rd q g:=by
 intro m
 induction m with
 | zero=>rfl
 | succ m ih =>
  show Zo G 68 o.length K Xx L Rc (X4 _ m) (ZH Xx Jf o) [(0,(fun e q g=>k0 q g))]=_
  rw [ih]
  simp only [Rc,Z7,Zl,Zm,Zv]
  rw [ZiF G K L o (Xm G K L o k0 m) _,ZiJ G K L o (M7 G K L o (Xm G K L o k0 m)) _ _ _]
  kernel_rfl
theorem ZiH (G:GT)(K:KT)(L:Nat)(o:HP)(k0:HP→Eff→KR)(zn:Jb):Zo G 68 o.length K Xx L Zda zn (ZH Xx Jf o) [(0,(fun e q g=>k0 q g))]=fun e q g=>Xm G K L o k0 L (e 1).rd (e 3).rd q g:=ZiI G K L o k0 L
def F8 (G:GT)(K:KT)(L:Nat)(x0:AV)(o:HP):KR :=
  Za (JL 4 (AV.ro x0)) fun v1=>Vb (o ++ [.cells v1 ZV]) fun h0=>Za (Zg 3 (.ptr (o).length 0)) fun v2=>Za (Ze h0 v2) fun v3=>Za (Z9 h0 .slice v3) fun v4=>Za (Zb .gtr .prim v4 (.int .i64 32)) fun v5=>ifK v5 (some (Zq false o (.int .i64 6) h0 none)) (Xm G K L o (Od G K L o) L (.ptr (o).length 0) (.int .i64 0) h0 none)
theorem Zoc (G:GT)(K:KT)(L:Nat)(x0:AV)(o:HP):fnK G K Xx L Jf [x0] o=F8 G K L x0 o:=by
 show Zo G 68 o.length K Xx L Zeo (ZH Xx Jf o) (ZH Xx Jf o) [] (Md [x0]) o none=_
 simp only [Zeo,Z7,Zl,Zm,Zv]
 rw [ZiG G K L o ,ZiH G K L o (Od G K L o) _]
 kernel_rfl
theorem Zr2 {C:Cfg}{x0:AV}:RunT C ZdH Jf [x0] (fun K=>F8 C.G K C.L x0):=runT rfl fun _ _=>Zoc ..
def Ei (G:GT)(K:KT)(L:Nat)(x0 x1:AV)(o:HP):KR :=
  Za (JL 13 (AV.ro x0)) fun v1=>Vb (o ++ [.cells v1 Zf]) fun h0=>Za (Zg 0 (.ptr (o).length 0)) fun v2=>Za (Ze h0 v2) fun v3=>Za (Ze h0 (AV.ro x1)) fun v4=>Za (Zb .eql .prim v3 v4) fun v5=>some (Zq false o v5 h0 none)
theorem Zh5 (G:GT)(K:KT)(L:Nat)(x0 x1:AV)(o:HP):fnK G K Zo9 L Sl [x0,x1] o=Ei G K L x0 x1 o:=by kernel_rfl
theorem ZkC {C:Cfg}{x0 x1:AV}:RunT C BD Sl [x0,x1] (fun K=>Ei C.G K C.L x0 x1):=runT rfl fun _ _=>Zh5 ..
def Y2 (G:GT)(K:KT)(L:Nat)(o:HP)(q:HP)(g:Eff):KR :=
  some (Zq false o (.int .i64 (-1)) q g)
theorem U2 (G:GT)(K:KT)(L:Nat)(o:HP) :Zo G 19 o.length K Zy L XV (ZH Zy ZF o) (ZH Zy ZF o) []=fun e q g=>Y2 G K L o  q g:=by kernel_rfl
def ZR (G:GT)(K:KT)(L:Nat)(o:HP)(k0:HP→Eff→KR):Nat→AV→AV→AV→AV→HP→Eff→KR
  | 0,_,_,_,_,_,_=>none
  | m + 1,x0,x1,x7,x8,q,g=>Za (Zb .lss .prim x8 x7) fun v1=>ifK v1 (Za (Yy (.slice 13) x0 x8) fun v2=>Za (Zp q 13 v2) fun v3=>ZZ (Vz K x1 [v3] q) fun v4 h5 f6=>ifK (AV.ro v4) (some (Zq false o x8 h5 (Zd o.length g f6))) (Za (Zb .add .prim x8 (.int .i64 1)) fun v7=>ZR G K L o k0 m x0 x1 x7 v7 h5 (Zd o.length g f6))) (k0  q g)
theorem U4 (G:GT)(K:KT)(L:Nat)(o:HP)(k0:HP→Eff→KR) :∀ m,X4 (fun n'=>Zo G 19 o.length K Zy L XR n' (ZH Zy ZF o) [(0,(fun e q g=>k0 q g))]) m=fun e q g=>ZR G K L o k0 m (e 0).rd (e 1).rd (e 7).rd (e 8).rd q g:=lpI rfl fun _=>by kernel_rfl
theorem U3 (G:GT)(K:KT)(L:Nat)(o:HP)(k0:HP→Eff→KR)(zn:Jb):Zo G 19 o.length K Zy L XW zn (ZH Zy ZF o) [(0,(fun e q g=>k0 q g))]=fun e q g=>ZR G K L o k0 L (e 0).rd (e 1).rd (e 7).rd (e 8).rd q g:=U4 G K L o k0 L
def QM (G:GT)(K:KT)(L:Nat)(x0 x1:AV)(o:HP):KR :=
  Za (Z9 o .slice (AV.ro x0)) fun v0=>ZR G K L o (Y2 G K L o) L (AV.ro x0) (AV.ro x1) v0 (.int .i64 0) o none
theorem Kj (G:GT)(K:KT)(L:Nat)(x0 x1:AV)(o:HP):fnK G K Zy L ZF [x0,x1] o=QM G K L x0 x1 o:=by
 show Zo G 19 o.length K Zy L QL (ZH Zy ZF o) (ZH Zy ZF o) [] (Md [x0,x1]) o none=_
 simp only [QL,Z7,Zl,Zm,Zv]
 rw [U2 G K L o ,U3 G K L o (Y2 G K L o) _]
 kernel_rfl
theorem KO {C:Cfg}{x0 x1:AV}:RunT C QK ZF [x0,x1] (fun K=>QM C.G K C.L x0 x1):=runT rfl fun _ _=>Kj ..
def Bl (G:GT)(K:KT)(L:Nat)(x0 x1:AV)(o:HP):KR :=
  Za (JL 4 (AV.ro x0)) fun v1=>Vb (o ++ [.cells v1 WH]) fun h0=>Za (Zg 0 (.ptr (o).length 0)) fun v2=>Za (Ze h0 v2) fun v3=>Za (Ze h0 (AV.ro x1)) fun v4=>Za (Zb .eql .prim v3 v4) fun v5=>some (Zq false o v5 h0 none)
theorem Zco (G:GT)(K:KT)(L:Nat)(x0 x1:AV)(o:HP):fnK G K Zjn L Bd [x0,x1] o=Bl G K L x0 x1 o:=by kernel_rfl
theorem Zfn {C:Cfg}{x0 x1:AV}:RunT C Tu Bd [x0,x1] (fun K=>Bl C.G K C.L x0 x1):=runT rfl fun _ _=>Zco ..
def YA (G:GT)(K:KT)(L:Nat)(o:HP)(q:HP)(g:Eff):KR :=
  some (Zq false o (.int .i64 (-1)) q g)
theorem UX (G:GT)(K:KT)(L:Nat)(o:HP) :Zo G 19 o.length K Z6 L Vk (ZH Z6 ZT o) (ZH Z6 ZT o) []=fun e q g=>YA G K L o  q g:=by kernel_rfl
def ZU (G:GT)(K:KT)(L:Nat)(o:HP)(k0:HP→Eff→KR):Nat→AV→AV→AV→AV→HP→Eff→KR
  | 0,_,_,_,_,_,_=>none
  | m + 1,x0,x1,x7,x8,q,g=>Za (Zb .lss .prim x8 x7) fun v1=>ifK v1 (Za (Yy (.slice 4) x0 x8) fun v2=>Za (Zp q 4 v2) fun v3=>ZZ (Vz K x1 [v3] q) fun v4 h5 f6=>ifK (AV.ro v4) (some (Zq false o x8 h5 (Zd o.length g f6))) (Za (Zb .add .prim x8 (.int .i64 1)) fun v7=>ZU G K L o k0 m x0 x1 x7 v7 h5 (Zd o.length g f6))) (k0  q g)
theorem UZ (G:GT)(K:KT)(L:Nat)(o:HP)(k0:HP→Eff→KR) :∀ m,X4 (fun n'=>Zo G 19 o.length K Z6 L Ve n' (ZH Z6 ZT o) [(0,(fun e q g=>k0 q g))]) m=fun e q g=>ZU G K L o k0 m (e 0).rd (e 1).rd (e 7).rd (e 8).rd q g:=lpI rfl fun _=>by kernel_rfl
theorem UY (G:GT)(K:KT)(L:Nat)(o:HP)(k0:HP→Eff→KR)(zn:Jb):Zo G 19 o.length K Z6 L Vl zn (ZH Z6 ZT o) [(0,(fun e q g=>k0 q g))]=fun e q g=>ZU G K L o k0 L (e 0).rd (e 1).rd (e 7).rd (e 8).rd q g:=UZ G K L o k0 L
def Xp (G:GT)(K:KT)(L:Nat)(x0 x1:AV)(o:HP):KR :=
  Za (Z9 o .slice (AV.ro x0)) fun v0=>ZU G K L o (YA G K L o) L (AV.ro x0) (AV.ro x1) v0 (.int .i64 0) o none
theorem Gm (G:GT)(K:KT)(L:Nat)(x0 x1:AV)(o:HP):fnK G K Z6 L ZT [x0,x1] o=Xp G K L x0 x1 o:=by
 show Zo G 19 o.length K Z6 L Xo (ZH Z6 ZT o) (ZH Z6 ZT o) [] (Md [x0,x1]) o none=_
 simp only [Xo,Z7,Zl,Zm,Zv]
 rw [UX G K L o ,UY G K L o (YA G K L o) _]
 kernel_rfl
theorem Gw {C:Cfg}{x0 x1:AV}:RunT C Xn ZT [x0,x1] (fun K=>Xp C.G K C.L x0 x1):=runT rfl fun _ _=>Gm ..
def Rq (G:GT)(K:KT)(L:Nat)(o:HP)(q:HP)(g:Eff):KR :=
  some (Zq false o (.int .i64 (-1)) q g)
theorem ZjU (G:GT)(K:KT)(L:Nat)(o:HP) :Zo G 19 o.length K GQ L Zf6 (ZH GQ Tz o) (ZH GQ Tz o) []=fun e q g=>Rq G K L o  q g:=by kernel_rfl
def KF (G:GT)(K:KT)(L:Nat)(o:HP)(k0:HP→Eff→KR):Nat→AV→AV→AV→AV→HP→Eff→KR
  | 0,_,_,_,_,_,_=>none
  | m + 1,x0,x1,x5,y5,q,g=>Za (Z9 q .slice x0) fun v0=>Za (Zb .lss .prim x5 v0) fun v1=>ifK v1 (Za (Yy (.slice 1) x0 x5) fun v2=>Za (Ze q v2) fun v3=>Za (Zb .eql .prim v3 x1) fun v4=>ifK v4 (some (Zq false o y5 q g)) (Za (Zb .add .prim x5 (.int .i64 1)) fun v5=>KF G K L o k0 m x0 x1 v5 v5 q g)) (k0  q g)
theorem ZjW (G:GT)(K:KT)(L:Nat)(o:HP)(k0:HP→Eff→KR) :∀ m,X4 (fun n'=>Zo G 19 o.length K GQ L ZcB n' (ZH GQ Tz o) [(0,(fun e q g=>k0 q g))]) m=fun e q g=>KF G K L o k0 m (e 0).rd (e 1).rd (e 5).rd (e 5).val q g:=lpI rfl fun _=>by kernel_rfl
theorem ZjV (G:GT)(K:KT)(L:Nat)(o:HP)(k0:HP→Eff→KR)(zn:Jb):Zo G 19 o.length K GQ L Zf7 zn (ZH GQ Tz o) [(0,(fun e q g=>k0 q g))]=fun e q g=>KF G K L o k0 L (e 0).rd (e 1).rd (e 5).rd (e 5).val q g:=ZjW G K L o k0 L
def ZhR (G:GT)(K:KT)(L:Nat)(x0 x1:AV)(o:HP):KR :=
  KF G K L o (Rq G K L o) L (AV.ro x0) (AV.ro x1) (.int .i64 0) (.int .i64 0) o none
theorem Zqs (G:GT)(K:KT)(L:Nat)(x0 x1:AV)(o:HP):fnK G K GQ L Tz [x0,x1] o=ZhR G K L x0 x1 o:=by
 show Zo G 19 o.length K GQ L Zht (ZH GQ Tz o) (ZH GQ Tz o) [] (Md [x0,x1]) o none=_
 simp only [Zht,Z7,Zl,Zm,Zv]
 rw [ZjU G K L o ,ZjV G K L o (Rq G K L o) _]
 kernel_rfl
theorem Ztl {C:Cfg}{x0 x1:AV}:RunT C Tw Tz [x0,x1] (fun K=>ZhR C.G K C.L x0 x1):=runT rfl fun _ _=>Zqs ..
def Ey (G:GT)(K:KT)(L:Nat)(x0:AV)(o:HP):KR :=
  Za (Zb .geq .prim (AV.ro x0) (.int .u8 97)) fun v0=>Qn v0 true (Za (Zb .leq .prim (AV.ro x0) (.int .u8 122)) fun v1=>some (v1,o,none)) (some (.bool false)) o none fun v2 h3 f4=>some (Zq false o v2 h3 f4)
theorem ZhI (G:GT)(K:KT)(L:Nat)(x0:AV)(o:HP):fnK G K ZoM L SC [x0] o=Ey G K L x0 o:=by kernel_rfl
theorem ZkO {C:Cfg}{x0:AV}:RunT C BF SC [x0] (fun K=>Ey C.G K C.L x0):=runT rfl fun _ _=>ZhI ..
def Ng (G:GT)(K:KT)(L:Nat)(x0:AV)(o:HP):KR :=
  Za (Zb .eql .prim (AV.ro x0) (.str [97,100,100])) fun v0=>ifK v0 (ifK v0 (some (Zq false o (.bool true) o none)) (some (Zq false o (.bool false) o none))) (Za (Zb .eql .prim (AV.ro x0) (.str [97,102,116,101,114])) fun v1=>ifK v1 (ifK v1 (some (Zq false o (.bool true) o none)) (some (Zq false o (.bool false) o none))) (Za (Zb .eql .prim (AV.ro x0) (.str [97,110,100])) fun v2=>ifK v2 (ifK v2 (some (Zq false o (.bool true) o none)) (some (Zq false o (.bool false) o none))) (Za (Zb .eql .prim (AV.ro x0) (.str [97,116])) fun v3=>ifK v3 (ifK v3 (some (Zq false o (.bool true) o none)) (some (Zq false o (.bool false) o none))) (Za (Zb .eql .prim (AV.ro x0) (.str [98,101,108,116])) fun v4=>ifK v4 (ifK v4 (some (Zq false o (.bool true) o none)) (some (Zq false o (.bool false) o none))) (Za (Zb .eql .prim (AV.ro x0) (.str [98,111,111,108])) fun v5=>ifK v5 (ifK v5 (some (Zq false o (.bool true) o none)) (some (Zq false o (.bool false) o none))) (Za (Zb .eql .prim (AV.ro x0) (.str [99,111,110,115,101,114,118,101])) fun v6=>ifK v6 (ifK v6 (some (Zq false o (.bool true) o none)) (some (Zq false o (.bool false) o none))) (Za (Zb .eql .prim (AV.ro x0) (.str [99,111,110,115,116])) fun v7=>ifK v7 (ifK v7 (some (Zq false o (.bool true) o none)) (some (Zq false o (.bool false) o none))) (Za (Zb .eql .prim (AV.ro x0) (.str [99,111,117,110,116])) fun v8=>ifK v8 (ifK v8 (some (Zq false o (.bool true) o none)) (some (Zq false o (.bool false) o none))) (Za (Zb .eql .prim (AV.ro x0) (.str [99,121,99,108,101])) fun v9=>ifK v9 (ifK v9 (some (Zq false o (.bool true) o none)) (some (Zq false o (.bool false) o none))) (Za (Zb .eql .prim (AV.ro x0) (.str [100,111,119,110])) fun v10=>ifK v10 (ifK v10 (some (Zq false o (.bool true) o none)) (some (Zq false o (.bool false) o none))) (Za (Zb .eql .prim (AV.ro x0) (.str [100,114,97,119])) fun v11=>ifK v11 (ifK v11 (some (Zq false o (.bool true) o none)) (some (Zq false o (.bool false) o none))) (Za (Zb .eql .prim (AV.ro x0) (.str [100,117,114])) fun v12=>ifK v12 (ifK v12 (some (Zq false o (.bool true) o none)) (some (Zq false o (.bool false) o none))) (Za (Zb .eql .prim (AV.ro x0) (.str [101,108,115,101])) fun v13=>ifK v13 (ifK v13 (some (Zq false o (.bool true) o none)) (some (Zq false o (.bool false) o none))) (Za (Zb .eql .prim (AV.ro x0) (.str [101,110,100])) fun v14=>ifK v14 (ifK v14 (some (Zq false o (.bool true) o none)) (some (Zq false o (.bool false) o none))) (Za (Zb .eql .prim (AV.ro x0) (.str [101,118,101,114,121])) fun v15=>ifK v15 (ifK v15 (some (Zq false o (.bool true) o none)) (some (Zq false o (.bool false) o none))) (Za (Zb .eql .prim (AV.ro x0) (.str [102,97,108,115,101])) fun v16=>ifK v16 (ifK v16 (some (Zq false o (.bool true) o none)) (some (Zq false o (.bool false) o none))) (Za (Zb .eql .prim (AV.ro x0) (.str [102,97,117,108,116])) fun v17=>ifK v17 (ifK v17 (some (Zq false o (.bool true) o none)) (some (Zq false o (.bool false) o none))) (Za (Zb .eql .prim (AV.ro x0) (.str [102,105,102,111])) fun v18=>ifK v18 (ifK v18 (some (Zq false o (.bool true) o none)) (some (Zq false o (.bool false) o none))) (Za (Zb .eql .prim (AV.ro x0) (.str [102,114,101,101])) fun v19=>ifK v19 (ifK v19 (some (Zq false o (.bool true) o none)) (some (Zq false o (.bool false) o none))) (Za (Zb .eql .prim (AV.ro x0) (.str [102,114,111,109])) fun v20=>ifK v20 (ifK v20 (some (Zq false o (.bool true) o none)) (some (Zq false o (.bool false) o none))) (Za (Zb .eql .prim (AV.ro x0) (.str [103,101,111,109])) fun v21=>ifK v21 (ifK v21 (some (Zq false o (.bool true) o none)) (some (Zq false o (.bool false) o none))) (Za (Zb .eql .prim (AV.ro x0) (.str [103,101,116])) fun v22=>ifK v22 (ifK v22 (some (Zq false o (.bool true) o none)) (some (Zq false o (.bool false) o none))) (Za (Zb .eql .prim (AV.ro x0) (.str [104,111,108,100])) fun v23=>ifK v23 (ifK v23 (some (Zq false o (.bool true) o none)) (some (Zq false o (.bool false) o none))) (Za (Zb .eql .prim (AV.ro x0) (.str [105,102])) fun v24=>ifK v24 (ifK v24 (some (Zq false o (.bool true) o none)) (some (Zq false o (.bool false) o none))) (Za (Zb .eql .prim (AV.ro x0) (.str [105,110,116])) fun v25=>ifK v25 (ifK v25 (some (Zq false o (.bool true) o none)) (some (Zq false o (.bool false) o none))) (Za (Zb .eql .prim (AV.ro x0) (.str [105,110,116,111])) fun v26=>ifK v26 (ifK v26 (some (Zq false o (.bool true) o none)) (some (Zq false o (.bool false) o none))) (Za (Zb .eql .prim (AV.ro x0) (.str [108,101,97,115,116])) fun v27=>ifK v27 (ifK v27 (some (Zq false o (.bool true) o none)) (some (Zq false o (.bool false) o none))) (Za (Zb .eql .prim (AV.ro x0) (.str [108,101,118,101,108])) fun v28=>ifK v28 (ifK v28 (some (Zq false o (.bool true) o none)) (some (Zq false o (.bool false) o none))) (Za (Zb .eql .prim (AV.ro x0) (.str [108,105,102,111])) fun v29=>ifK v29 (ifK v29 (some (Zq false o (.bool true) o none)) (some (Zq false o (.bool false) o none))) (Za (Zb .eql .prim (AV.ro x0) (.str [108,105,110,107])) fun v30=>ifK v30 (ifK v30 (some (Zq false o (.bool true) o none)) (some (Zq false o (.bool false) o none))) (Za (Zb .eql .prim (AV.ro x0) (.str [108,111,99,97,108])) fun v31=>ifK v31 (ifK v31 (some (Zq false o (.bool true) o none)) (some (Zq false o (.bool false) o none))) (Za (Zb .eql .prim (AV.ro x0) (.str [109,97,120])) fun v32=>ifK v32 (ifK v32 (some (Zq false o (.bool true) o none)) (some (Zq false o (.bool false) o none))) (Za (Zb .eql .prim (AV.ro x0) (.str [109,105,110])) fun v33=>ifK v33 (ifK v33 (some (Zq false o (.bool true) o none)) (some (Zq false o (.bool false) o none))) (Za (Zb .eql .prim (AV.ro x0) (.str [109,111,100,101,108])) fun v34=>ifK v34 (ifK v34 (some (Zq false o (.bool true) o none)) (some (Zq false o (.bool false) o none))) (Za (Zb .eql .prim (AV.ro x0) (.str [110,111,116])) fun v35=>ifK v35 (ifK v35 (some (Zq false o (.bool true) o none)) (some (Zq false o (.bool false) o none))) (Za (Zb .eql .prim (AV.ro x0) (.str [110,111,119])) fun v36=>ifK v36 (ifK v36 (some (Zq false o (.bool true) o none)) (some (Zq false o (.bool false) o none))) (Za (Zb .eql .prim (AV.ro x0) (.str [111,98,115,101,114,118,101])) fun v37=>ifK v37 (ifK v37 (some (Zq false o (.bool true) o none)) (some (Zq false o (.bool false) o none))) (Za (Zb .eql .prim (AV.ro x0) (.str [111,114])) fun v38=>ifK v38 (ifK v38 (some (Zq false o (.bool true) o none)) (some (Zq false o (.bool false) o none))) (Za (Zb .eql .prim (AV.ro x0) (.str [112,97,114,97,109])) fun v39=>ifK v39 (ifK v39 (some (Zq false o (.bool true) o none)) (some (Zq false o (.bool false) o none))) (Za (Zb .eql .prim (AV.ro x0) (.str [112,114,101,101,109,112,116])) fun v40=>ifK v40 (ifK v40 (some (Zq false o (.bool true) o none)) (some (Zq false o (.bool false) o none))) (Za (Zb .eql .prim (AV.ro x0) (.str [112,114,105,111])) fun v41=>ifK v41 (ifK v41 (some (Zq false o (.bool true) o none)) (some (Zq false o (.bool false) o none))) (Za (Zb .eql .prim (AV.ro x0) (.str [112,117,116])) fun v42=>ifK v42 (ifK v42 (some (Zq false o (.bool true) o none)) (some (Zq false o (.bool false) o none))) (Za (Zb .eql .prim (AV.ro x0) (.str [113,117,101,117,101])) fun v43=>ifK v43 (ifK v43 (some (Zq false o (.bool true) o none)) (some (Zq false o (.bool false) o none))) (Za (Zb .eql .prim (AV.ro x0) (.str [114,101,108,101,97,115,101])) fun v44=>ifK v44 (ifK v44 (some (Zq false o (.bool true) o none)) (some (Zq false o (.bool false) o none))) (Za (Zb .eql .prim (AV.ro x0) (.str [114,101,115,111,117,114,99,101])) fun v45=>ifK v45 (ifK v45 (some (Zq false o (.bool true) o none)) (some (Zq false o (.bool false) o none))) (Za (Zb .eql .prim (AV.ro x0) (.str [114,105,100,101])) fun v46=>ifK v46 (ifK v46 (some (Zq false o (.bool true) o none)) (some (Zq false o (.bool false) o none))) (Za (Zb .eql .prim (AV.ro x0) (.str [114,111,117,116,105,110,101])) fun v47=>ifK v47 (ifK v47 (some (Zq false o (.bool true) o none)) (some (Zq false o (.bool false) o none))) (Za (Zb .eql .prim (AV.ro x0) (.str [115,101,105,122,101])) fun v48=>ifK v48 (ifK v48 (some (Zq false o (.bool true) o none)) (some (Zq false o (.bool false) o none))) (Za (Zb .eql .prim (AV.ro x0) (.str [115,101,110,100])) fun v49=>ifK v49 (ifK v49 (some (Zq false o (.bool true) o none)) (some (Zq false o (.bool false) o none))) (Za (Zb .eql .prim (AV.ro x0) (.str [115,101,116])) fun v50=>ifK v50 (ifK v50 (some (Zq false o (.bool true) o none)) (some (Zq false o (.bool false) o none))) (Za (Zb .eql .prim (AV.ro x0) (.str [115,104,105,102,116])) fun v51=>ifK v51 (ifK v51 (some (Zq false o (.bool true) o none)) (some (Zq false o (.bool false) o none))) (Za (Zb .eql .prim (AV.ro x0) (.str [115,105,103,110,97,108])) fun v52=>ifK v52 (ifK v52 (some (Zq false o (.bool true) o none)) (some (Zq false o (.bool false) o none))) (Za (Zb .eql .prim (AV.ro x0) (.str [115,105,116,101])) fun v53=>ifK v53 (ifK v53 (some (Zq false o (.bool true) o none)) (some (Zq false o (.bool false) o none))) (Za (Zb .eql .prim (AV.ro x0) (.str [115,105,122,101])) fun v54=>ifK v54 (ifK v54 (some (Zq false o (.bool true) o none)) (some (Zq false o (.bool false) o none))) (Za (Zb .eql .prim (AV.ro x0) (.str [115,112,97,119,110])) fun v55=>ifK v55 (ifK v55 (some (Zq false o (.bool true) o none)) (some (Zq false o (.bool false) o none))) (Za (Zb .eql .prim (AV.ro x0) (.str [115,116,97,114,116])) fun v56=>ifK v56 (ifK v56 (some (Zq false o (.bool true) o none)) (some (Zq false o (.bool false) o none))) (Za (Zb .eql .prim (AV.ro x0) (.str [115,116,111,112])) fun v57=>ifK v57 (ifK v57 (some (Zq false o (.bool true) o none)) (some (Zq false o (.bool false) o none))) (Za (Zb .eql .prim (AV.ro x0) (.str [115,116,111,114,101])) fun v58=>ifK v58 (ifK v58 (some (Zq false o (.bool true) o none)) (some (Zq false o (.bool false) o none))) (Za (Zb .eql .prim (AV.ro x0) (.str [115,116,114,101,97,109])) fun v59=>ifK v59 (ifK v59 (some (Zq false o (.bool true) o none)) (some (Zq false o (.bool false) o none))) (Za (Zb .eql .prim (AV.ro x0) (.str [115,117,109])) fun v60=>ifK v60 (ifK v60 (some (Zq false o (.bool true) o none)) (some (Zq false o (.bool false) o none))) (Za (Zb .eql .prim (AV.ro x0) (.str [116,97,98,108,101])) fun v61=>ifK v61 (ifK v61 (some (Zq false o (.bool true) o none)) (some (Zq false o (.bool false) o none))) (Za (Zb .eql .prim (AV.ro x0) (.str [116,97,108,108,121])) fun v62=>ifK v62 (ifK v62 (some (Zq false o (.bool true) o none)) (some (Zq false o (.bool false) o none))) (Za (Zb .eql .prim (AV.ro x0) (.str [116,105,99,107,115])) fun v63=>ifK v63 (ifK v63 (some (Zq false o (.bool true) o none)) (some (Zq false o (.bool false) o none))) (Za (Zb .eql .prim (AV.ro x0) (.str [116,105,109,101])) fun v64=>ifK v64 (ifK v64 (some (Zq false o (.bool true) o none)) (some (Zq false o (.bool false) o none))) (Za (Zb .eql .prim (AV.ro x0) (.str [116,114,117,101])) fun v65=>ifK v65 (ifK v65 (some (Zq false o (.bool true) o none)) (some (Zq false o (.bool false) o none))) (Za (Zb .eql .prim (AV.ro x0) (.str [117,110,105,102,111,114,109])) fun v66=>ifK v66 (ifK v66 (some (Zq false o (.bool true) o none)) (some (Zq false o (.bool false) o none))) (Za (Zb .eql .prim (AV.ro x0) (.str [117,110,116,105,108])) fun v67=>ifK v67 (ifK v67 (some (Zq false o (.bool true) o none)) (some (Zq false o (.bool false) o none))) (Za (Zb .eql .prim (AV.ro x0) (.str [117,112])) fun v68=>ifK v68 (ifK v68 (some (Zq false o (.bool true) o none)) (some (Zq false o (.bool false) o none))) (Za (Zb .eql .prim (AV.ro x0) (.str [118,97,114])) fun v69=>ifK v69 (ifK v69 (some (Zq false o (.bool true) o none)) (some (Zq false o (.bool false) o none))) (Za (Zb .eql .prim (AV.ro x0) (.str [119,97,105,116])) fun v70=>ifK v70 (ifK v70 (some (Zq false o (.bool true) o none)) (some (Zq false o (.bool false) o none))) (Za (Zb .eql .prim (AV.ro x0) (.str [119,97,105,116,105,110,103])) fun v71=>ifK v71 (ifK v71 (some (Zq false o (.bool true) o none)) (some (Zq false o (.bool false) o none))) (Za (Zb .eql .prim (AV.ro x0) (.str [119,104,105,108,101])) fun v72=>ifK v72 (some (Zq false o (.bool true) o none)) (some (Zq false o (.bool false) o none))))))))))))))))))))))))))))))))))))))))))))))))))))))))))))))))))))))))))
theorem Zgl (G:GT)(K:KT)(L:Nat)(x0:AV)(o:HP):fnK G K ZmU L PK [x0] o=Ng G K L x0 o:=by kernel_rfl
theorem Zjl {C:Cfg}{x0:AV}:RunT C Py PK [x0] (fun K=>Ng C.G K C.L x0):=runT rfl fun _ _=>Zgl ..
def KC (G:GT)(K:KT)(L:Nat)(x0 x1:AV)(o:HP):KR :=
  Za (JL 3 (AV.ro x1)) fun v1=>Vb (o ++ [.cells v1 LH]) fun h0=>Za (Zg 0 (.ptr (o).length 0)) fun v2=>Za (Ze h0 v2) fun v3=>ZZ (K Yt [(AV.ro x0),v3] h0) fun v4 h5 f6=>Za (Zb .neq .prim (AV.ro v4) (.int .i64 0)) fun v7=>ifK v7 (some (Zq false o v4 h5 (Zd o.length none f6))) (Za (Zg 1 (.ptr (o).length 0)) fun v8=>Za (Ze h5 v8) fun v9=>ZZ (K LV [v9] h5) fun v10 h11 f12=>Za (X8 .not (AV.ro v10)) fun v13=>ifK v13 (some (Zq false o (.int .i64 1) h11 (Zd o.length (Zd o.length none f6) f12))) (Za (Zg 1 (.ptr (o).length 0)) fun v14=>Za (Ze h11 v14) fun v15=>Za (Zg 2 (.ptr (o).length 0)) fun v16=>Za (Ze h11 v16) fun v17=>ZZ (K BV [v15,v17] h11) fun v18 h19 f20=>Za (X8 .not (AV.ro v18)) fun v21=>ifK v21 (some (Zq false o (.int .i64 2) h19 (Zd o.length (Zd o.length (Zd o.length none f6) f12) f20))) (some (Zq false o (.int .i64 0) h19 (Zd o.length (Zd o.length (Zd o.length none f6) f12) f20)))))
theorem EY (G:GT)(K:KT)(L:Nat)(x0 x1:AV)(o:HP):fnK G K ZbQ L OL [x0,x1] o=KC G K L x0 x1 o:=by kernel_rfl
theorem LW {C:Cfg}{x0 x1:AV}:RunT C Vy OL [x0,x1] (fun K=>KC C.G K C.L x0 x1):=runT rfl fun _ _=>EY ..
def Xr (G:GT)(K:KT)(L:Nat)(o:HP)(q:HP)(g:Eff):KR :=
  some (Zq false o (.int .i64 0) q g)
theorem D9 (G:GT)(K:KT)(L:Nat)(o:HP) :Zo G 27 o.length K W9 L TP (ZH W9 Qj o) (ZH W9 Qj o) []=fun e q g=>Xr G K L o  q g:=by kernel_rfl
def WK (G:GT)(K:KT)(L:Nat)(o:HP)(k0:HP→Eff→KR):Nat→AV→AV→AV→AV→HP→Eff→KR
  | 0,_,_,_,_,_,_=>none
  | m + 1,x2,x14,x15,x16,q,g=>Za (Zb .lss .prim x16 x15) fun v3=>ifK v3 (Za (Yy (.slice 3) x14 x16) fun v4=>Za (Zp q 3 v4) fun v5=>Vb (q ++ [.cells [(.str []),(.int .i64 0),(.int .i64 0)] LH]) fun h6=>JJ (stV o.length 3 (.ptr (q).length 0) v5 h6 g) fun h7 f8=>Za (Zp h7 3 (.ptr (q).length 0)) fun v9=>ZZ (Vz K x2 [v9] h7) fun v10 h11 f12=>Za (Zb .neq .prim (AV.ro v10) (.int .i64 0)) fun v13=>ifK v13 (some (Zq false o v10 h11 (Zd o.length f8 f12))) (Za (Zb .add .prim x16 (.int .i64 1)) fun v14=>WK G K L o k0 m x2 x14 x15 v14 h11 (Zd o.length f8 f12))) (k0  q g)
theorem DD (G:GT)(K:KT)(L:Nat)(o:HP)(k0:HP→Eff→KR) :∀ m,X4 (fun n'=>Zo G 27 o.length K W9 L OP n' (ZH W9 Qj o) [(0,(fun e q g=>k0 q g))]) m=fun e q g=>WK G K L o k0 m (e 2).rd (e 14).rd (e 15).rd (e 16).rd q g:=lpI rfl fun _=>by kernel_rfl
theorem DC (G:GT)(K:KT)(L:Nat)(o:HP)(k0:HP→Eff→KR)(zn:Jb):Zo G 27 o.length K W9 L TQ zn (ZH W9 Qj o) [(0,(fun e q g=>k0 q g))]=fun e q g=>WK G K L o k0 L (e 2).rd (e 14).rd (e 15).rd (e 16).rd q g:=DD G K L o k0 L
def Uk (G:GT)(K:KT)(L:Nat)(x0 x1 x2:AV)(o:HP):KR :=
  Za (Z9 o .slice (AV.ro x0)) fun v0=>Za (Zb .gtr .prim v0 (AV.ro x1)) fun v1=>ifK v1 (some (Zq false o (.int .i64 6) o none)) (Za (Z9 o .slice (AV.ro x0)) fun v2=>WK G K L o (Xr G K L o) L (AV.ro x2) (AV.ro x0) v2 (.int .i64 0) o none)
theorem NA (G:GT)(K:KT)(L:Nat)(x0 x1 x2:AV)(o:HP):fnK G K W9 L Qj [x0,x1,x2] o=Uk G K L x0 x1 x2 o:=by
 show Zo G 27 o.length K W9 L Ii (ZH W9 Qj o) (ZH W9 Qj o) [] (Md [x0,x1,x2]) o none=_
 simp only [Ii,Z7,Zl,Zm,Zv]
 rw [D9 G K L o ,DC G K L o (Xr G K L o) _]
 kernel_rfl
theorem MH {C:Cfg}{x0 x1 x2:AV}:RunT C Ud Qj [x0,x1,x2] (fun K=>Uk C.G K C.L x0 x1 x2):=runT rfl fun _ _=>NA ..
def J8 (G:GT)(K:KT)(L:Nat)(x0 x1:AV)(o:HP):KR :=
  ZZ (K Kv [(AV.ro x1)] o) fun v0 h1 f2=>Za (Zb .neq .prim (AV.ro v0) (.int .i64 0)) fun v3=>ifK v3 (some (Zq false o v0 h1 (Zd o.length none f2))) (Za (EA h1 (.one .str) (.bool false) (AV.ro x0) (AV.ro x1) false) fun v4=>ifK (AV.ro v4) (some (Zq false o (.int .i64 4) h1 (Zd o.length none f2))) (JJ (ZsO o.length (.one .str) (AV.ro x0) (AV.ro x1) (.bool true) h1 (Zd o.length none f2)) fun h5 f6=>some (Zq false o (.int .i64 0) h5 f6)))
theorem EW (G:GT)(K:KT)(L:Nat)(x0 x1:AV)(o:HP):fnK G K ZbP L OJ [x0,x1] o=J8 G K L x0 x1 o:=by kernel_rfl
theorem H8 {C:Cfg}{x0 x1:AV}:RunT C Yt OJ [x0,x1] (fun K=>J8 C.G K C.L x0 x1):=runT rfl fun _ _=>EW ..
def Zbs (G:GT)(K:KT)(L:Nat)(x0:AV)(o:HP):KR :=
  Za (JL 13 (AV.ro x0)) fun v1=>Vb (o ++ [.cells v1 Zf]) fun h0=>Vb (h0 ++ [.map []]) fun h2=>Vb (h2 ++ [.cells [.nilm] Qm]) fun h3=>JJ (Zla o.length (.ptr (h2).length 0) (.map (h0).length) h3 none) fun h4 f5=>Vb (h4 ++ [.cells [.nilf] Xt]) fun h6=>JJ (Zla o.length (.ptr (h4).length 0) (.fn Qa [] [(.ptr (h2).length 0)]) h6 f5) fun h7 f8=>JJ (ZbM Jm 1 [(.fn IQ [] [(.ptr (h2).length 0),(.ptr (o).length 0)]),(.fn IR [] [(.ptr (o).length 0),(.ptr (h2).length 0)]),(.fn IU [] [(.ptr (o).length 0),(.ptr (h2).length 0)]),(.fn IV [] [(.ptr (o).length 0),(.ptr (h2).length 0)]),(.fn IW [] [(.ptr (h4).length 0),(.ptr (o).length 0)]),(.fn IX [] [(.ptr (h4).length 0),(.ptr (o).length 0)]),(.fn IY [] [(.ptr (h4).length 0),(.ptr (o).length 0)]),(.fn IZ [] [(.ptr (h4).length 0),(.ptr (o).length 0)]),(.fn G6 [] [(.ptr (h4).length 0),(.ptr (o).length 0)]),(.fn G7 [] [(.ptr (o).length 0),(.ptr (h2).length 0)]),(.fn OE [] [(.ptr (o).length 0)]),(.fn OG [] [(.ptr (o).length 0)])] h7) fun v9 h10=>ZZ (K Ar [(AV.ro v9)] h10) fun v11 h12 f13=>some (Zq false o v11 h12 (Zd o.length f8 f13))
theorem ZlC (G:GT)(K:KT)(L:Nat)(x0:AV)(o:HP):fnK G K Ztc L Zaq [x0] o=Zbs G K L x0 o:=by kernel_rfl
theorem Zo6 {C:Cfg}{x0:AV}:RunT C Zab Zaq [x0] (fun K=>Zbs C.G K C.L x0):=runT rfl fun _ _=>ZlC ..
def J9 (G:GT)(K:KT)(L:Nat)(x0 x1 x2:AV)(o:HP):KR :=
  Za (JL 3 (AV.ro x0)) fun v1=>Vb (o ++ [.cells v1 Jl]) fun h0=>Za (Zg 0 (.ptr (o).length 0)) fun v2=>Za (Ze h0 v2) fun v3=>Za (Zg 1 (.ptr (o).length 0)) fun v4=>Za (Ze h0 v4) fun v5=>Za (fill [(.str []),(.str [])] [(0,1,AV.nm v3),(1,1,AV.nm v5)]) fun v6=>Vb (h0 ++ [.cells [(.str []),(.str [])] Dm]) fun h7=>JJ (stV o.length 2 (.ptr (h0).length 0) (.agg v6) h7 none) fun h8 f9=>Za (Zp h8 4 (AV.ro x1)) fun v10=>Za (Zg 0 (.ptr (o).length 0)) fun v11=>Za (Ze h8 v11) fun v12=>ZZ (K BU [v10,v12] h8) fun v13 h14 f15=>Za (Zb .lss .prim (AV.ro v13) (.int .i64 0)) fun v16=>Qn v16 false (Za (Zp h14 4 (AV.ro x1)) fun v17=>Za (Zg 1 (.ptr (o).length 0)) fun v18=>Za (Ze h14 v18) fun v19=>ZZ (K BU [v17,v19] h14) fun v20 h21 f22=>Za (Zb .lss .prim (AV.ro v20) (.int .i64 0)) fun v23=>some (v23,h21,(Zd o.length (Zd o.length f9 f15) f22))) (some (.bool true)) h14 (Zd o.length f9 f15) fun v24 h25 f26=>ifK (AV.ro v24) (some (Zq false o (.int .i64 5) h25 f26)) (Za (Zg 0 (.ptr (o).length 0)) fun v27=>Za (Ze h25 v27) fun v28=>Za (Zg 1 (.ptr (o).length 0)) fun v29=>Za (Ze h25 v29) fun v30=>Za (Zb .eql .prim v28 v30) fun v31=>ifK v31 (some (Zq false o (.int .i64 1) h25 f26)) (Za (Zg 2 (.ptr (o).length 0)) fun v32=>Za (Ze h25 v32) fun v33=>ZZ (K Ql [v33,(.int .i64 1),(.int .i64 1000000000)] h25) fun v34 h35 f36=>Za (X8 .not (AV.ro v34)) fun v37=>ifK v37 (some (Zq false o (.int .i64 2) h35 (Zd o.length f26 f36))) (Za (Ze h35 (AV.ro x2)) fun v38=>Za (Zp h35 2 (.ptr (h0).length 0)) fun v39=>Za (EA h35 (.pair .str) (.bool false) v38 v39 false) fun v40=>ifK (AV.ro v40) (some (Zq false o (.int .i64 4) h35 (Zd o.length f26 f36))) (Za (Ze h35 (AV.ro x2)) fun v41=>Za (Zp h35 2 (.ptr (h0).length 0)) fun v42=>JJ (ZsO o.length (.pair .str) v41 v42 (.bool true) h35 (Zd o.length f26 f36)) fun h43 f44=>some (Zq false o (.int .i64 0) h43 f44)))))
theorem Zgc (G:GT)(K:KT)(L:Nat)(x0 x1 x2:AV)(o:HP):fnK G K ZmP L PD [x0,x1,x2] o=J9 G K L x0 x1 x2 o:=by kernel_rfl
theorem Zjf {C:Cfg}{x0 x1 x2:AV}:RunT C OD PD [x0,x1,x2] (fun K=>J9 C.G K C.L x0 x1 x2):=runT rfl fun _ _=>Zgc ..
def X6 (G:GT)(K:KT)(L:Nat)(o:HP)(q:HP)(g:Eff):KR :=
  some (Zq false o (.int .i64 0) q g)
theorem DX (G:GT)(K:KT)(L:Nat)(o:HP) :Zo G 27 o.length K WL L Mf (ZH WL Qv o) (ZH WL Qv o) []=fun e q g=>X6 G K L o  q g:=by kernel_rfl
def WR (G:GT)(K:KT)(L:Nat)(o:HP)(k0:HP→Eff→KR):Nat→AV→AV→AV→AV→HP→Eff→KR
  | 0,_,_,_,_,_,_=>none
  | m + 1,x2,x14,x15,x16,q,g=>Za (Zb .lss .prim x16 x15) fun v3=>ifK v3 (Za (Yy (.slice 3) x14 x16) fun v4=>Za (Zp q 3 v4) fun v5=>Vb (q ++ [.cells [(.str []),(.str []),(.int .i64 0)] Jl]) fun h6=>JJ (stV o.length 3 (.ptr (q).length 0) v5 h6 g) fun h7 f8=>Za (Zp h7 3 (.ptr (q).length 0)) fun v9=>ZZ (Vz K x2 [v9] h7) fun v10 h11 f12=>Za (Zb .neq .prim (AV.ro v10) (.int .i64 0)) fun v13=>ifK v13 (some (Zq false o v10 h11 (Zd o.length f8 f12))) (Za (Zb .add .prim x16 (.int .i64 1)) fun v14=>WR G K L o k0 m x2 x14 x15 v14 h11 (Zd o.length f8 f12))) (k0  q g)
theorem DZ (G:GT)(K:KT)(L:Nat)(o:HP)(k0:HP→Eff→KR) :∀ m,X4 (fun n'=>Zo G 27 o.length K WL L TK n' (ZH WL Qv o) [(0,(fun e q g=>k0 q g))]) m=fun e q g=>WR G K L o k0 m (e 2).rd (e 14).rd (e 15).rd (e 16).rd q g:=lpI rfl fun _=>by kernel_rfl
theorem DY (G:GT)(K:KT)(L:Nat)(o:HP)(k0:HP→Eff→KR)(zn:Jb):Zo G 27 o.length K WL L Mg zn (ZH WL Qv o) [(0,(fun e q g=>k0 q g))]=fun e q g=>WR G K L o k0 L (e 2).rd (e 14).rd (e 15).rd (e 16).rd q g:=DZ G K L o k0 L
def UW (G:GT)(K:KT)(L:Nat)(x0 x1 x2:AV)(o:HP):KR :=
  Za (Z9 o .slice (AV.ro x0)) fun v0=>Za (Zb .gtr .prim v0 (AV.ro x1)) fun v1=>ifK v1 (some (Zq false o (.int .i64 6) o none)) (Za (Z9 o .slice (AV.ro x0)) fun v2=>WR G K L o (X6 G K L o) L (AV.ro x2) (AV.ro x0) v2 (.int .i64 0) o none)
theorem Ej (G:GT)(K:KT)(L:Nat)(x0 x1 x2:AV)(o:HP):fnK G K WL L Qv [x0,x1,x2] o=UW G K L x0 x1 x2 o:=by
 show Zo G 27 o.length K WL L Oi (ZH WL Qv o) (ZH WL Qv o) [] (Md [x0,x1,x2]) o none=_
 simp only [Oi,Z7,Zl,Zm,Zv]
 rw [DX G K L o ,DY G K L o (X6 G K L o) _]
 kernel_rfl
theorem LA {C:Cfg}{x0 x1 x2:AV}:RunT C UV Qv [x0,x1,x2] (fun K=>UW C.G K C.L x0 x1 x2):=runT rfl fun _ _=>Ej ..
def Zbv (G:GT)(K:KT)(L:Nat)(x0:AV)(o:HP):KR :=
  Za (Zb .geq .prim (AV.ro x0) (.int .u8 97)) fun v0=>Qn v0 true (Za (Zb .leq .prim (AV.ro x0) (.int .u8 122)) fun v1=>some (v1,o,none)) (some (.bool false)) o none fun v2 h3 f4=>some (Zq false o v2 h3 f4)
theorem ZlF (G:GT)(K:KT)(L:Nat)(x0:AV)(o:HP):fnK G K Ztd L Zar [x0] o=Zbv G K L x0 o:=by kernel_rfl
theorem ZoS {C:Cfg}{x0:AV}:RunT C NG Zar [x0] (fun K=>Zbv C.G K C.L x0):=runT rfl fun _ _=>ZlF ..
def F5 (G:GT)(K:KT)(L:Nat)(x0:AV)(o:HP):KR :=
  ZZ (K BG [] o) fun v0 h1 f2=>ZZ (K Tw [(AV.ro v0),(AV.ro x0)] h1) fun v3 h4 f5=>Za (Zb .geq .prim (AV.ro v3) (.int .i64 0)) fun v6=>some (Zq false o v6 h4 (Zd o.length (Zd o.length none f2) f5))
theorem ZjX (G:GT)(K:KT)(L:Nat)(x0:AV)(o:HP):fnK G K Zrj L AR [x0] o=F5 G K L x0 o:=by kernel_rfl
theorem ZmX {C:Cfg}{x0:AV}:RunT C Ay AR [x0] (fun K=>F5 C.G K C.L x0):=runT rfl fun _ _=>ZjX ..
def ZeT (G:GT)(K:KT)(L:Nat)(x0:AV)(o:HP):KR :=
  Za (Zb .eql .prim (AV.ro x0) (.int .i64 1)) fun v0=>Qn v0 false (Za (Zb .eql .prim (AV.ro x0) (.int .i64 2)) fun v1=>some (v1,o,none)) (some (.bool true)) o none fun v2 h3 f4=>Qn (AV.ro v2) false (Za (Zb .eql .prim (AV.ro x0) (.int .i64 3)) fun v5=>some (v5,h3,f4)) (some (.bool true)) h3 f4 fun v6 h7 f8=>some (Zq false o v6 h7 f8)
theorem Zoa (G:GT)(K:KT)(L:Nat)(x0:AV)(o:HP):fnK G K ZuW L ZdS [x0] o=ZeT G K L x0 o:=by kernel_rfl
theorem Zr0 {C:Cfg}{x0:AV}:RunT C Bc ZdS [x0] (fun K=>ZeT C.G K C.L x0):=runT rfl fun _ _=>Zoa ..
def Ziv (G:GT)(K:KT)(L:Nat)(x0 x1:AV)(o:HP):KR :=
  Za (Zb .eql .prim (AV.ro x0) (.int .i64 1)) fun v0=>ifK v0 (ZZ (K Aw [(AV.ro x1)] o) fun v1 h2 f3=>some (Zq false o v1 h2 (Zd o.length none f3))) (Za (Zb .eql .prim (AV.ro x0) (.int .i64 2)) fun v4=>ifK v4 (Za (Zb .eql .prim (AV.ro x1) (.int .i64 0)) fun v5=>Qn v5 false (Za (Zb .eql .prim (AV.ro x1) (.int .i64 1)) fun v6=>some (v6,o,none)) (some (.bool true)) o none fun v7 h8 f9=>some (Zq false o v7 h8 f9)) (Za (Zb .eql .prim (AV.ro x0) (.int .i64 3)) fun v10=>ifK v10 (ZZ (K QN [(AV.ro x1),(.int .i64 0),(.int .i64 1000000000)] o) fun v11 h12 f13=>some (Zq false o v11 h12 (Zd o.length none f13))) (some (Zq false o (.bool false) o none))))
theorem Zqy (G:GT)(K:KT)(L:Nat)(x0 x1:AV)(o:HP):fnK G K ZwI L Zhl [x0,x1] o=Ziv G K L x0 x1 o:=by kernel_rfl
theorem Ztq {C:Cfg}{x0 x1:AV}:RunT C Pn Zhl [x0,x1] (fun K=>Ziv C.G K C.L x0 x1):=runT rfl fun _ _=>Zqy ..
def Jz (G:GT)(K:KT)(L:Nat)(x0 x1 x2:AV)(o:HP):KR :=
  Za (JL 13 (AV.ro x0)) fun v1=>Vb (o ++ [.cells v1 Zf]) fun h0=>Za (Zb .eql .prim (AV.ro x1) (.int .i64 0)) fun v2=>ifK v2 (Za (Zg 1 (.ptr (o).length 0)) fun v3=>Za (Ze h0 v3) fun v4=>Za (Yy (.slice 3) v4 (AV.ro x2)) fun v5=>Za (Zg 1 v5) fun v6=>Za (Ze h0 v6) fun v7=>ZZ (ZG K Bc [v7] h0) fun v8 h9 f10=>ZZ (ZG K YH [(AV.ro v8),(.int .i64 1)] h9) fun v11 h12 f13=>Za (Zg 1 (.ptr (o).length 0)) fun v14=>Za (Ze h12 v14) fun v15=>Za (Yy (.slice 3) v15 (AV.ro x2)) fun v16=>Za (Zg 1 v16) fun v17=>Za (Ze h12 v17) fun v18=>Za (Zg 1 (.ptr (o).length 0)) fun v19=>Za (Ze h12 v19) fun v20=>Za (Yy (.slice 3) v20 (AV.ro x2)) fun v21=>Za (Zg 2 v21) fun v22=>Za (Ze h12 v22) fun v23=>ZZ (ZG K Pn [v18,v23] h12) fun v24 h25 f26=>ZZ (ZG K YH [(AV.ro v24),(.int .i64 2)] h25) fun v27 h28 f29=>ZZ (ZG K Qh [(AV.ro v11),(AV.ro v27)] h28) fun v30 h31 f32=>some (Zq false o (AV.ro v30) h31 (Zd o.length (Zd o.length (Zd o.length (Zd o.length (Zd o.length none f10) f13) f26) f29) f32))) (Za (Zb .eql .prim (AV.ro x1) (.int .i64 1)) fun v33=>ifK v33 (Za (Zp h0 13 (.ptr (o).length 0)) fun v34=>Za (Zg 2 (.ptr (o).length 0)) fun v35=>Za (Ze h0 v35) fun v36=>Za (Yy (.slice 17) v36 (AV.ro x2)) fun v37=>Za (Zp h0 17 v37) fun v38=>ZZ (ZG K Si [v34,v38] h0) fun v39 h40 f41=>some (Zq false o (AV.ro v39) h40 (Zd o.length none f41))) (Za (Zb .eql .prim (AV.ro x1) (.int .i64 2)) fun v42=>ifK v42 (Za (Zg 3 (.ptr (o).length 0)) fun v43=>Za (Ze h0 v43) fun v44=>Za (Yy (.slice 3) v44 (AV.ro x2)) fun v45=>Za (Zg 2 v45) fun v46=>Za (Ze h0 v46) fun v47=>Za (Zg 3 (.ptr (o).length 0)) fun v48=>Za (Ze h0 v48) fun v49=>Za (Yy (.slice 3) v49 (AV.ro x2)) fun v50=>Za (Zg 1 v50) fun v51=>Za (Ze h0 v51) fun v52=>ZZ (K QN [v52,(.int .i64 1),(.int .i64 1000)] h0) fun v53 h54 f55=>ZZ (K YH [(AV.ro v53),(.int .i64 2)] h54) fun v56 h57 f58=>Za (Zb .geq .prim v47 (.int .i64 1)) fun v59=>Qn v59 true (Za (Zb .leq .prim v47 (.int .i64 3)) fun v60=>some (v60,h57,(Zd o.length (Zd o.length none f55) f58))) (some (.bool false)) h57 (Zd o.length (Zd o.length none f55) f58) fun v61 h62 f63=>ZZ (K YH [(AV.ro v61),(.int .i64 1)] h62) fun v64 h65 f66=>ZZ (K Qh [(AV.ro v56),(AV.ro v64)] h65) fun v67 h68 f69=>some (Zq false o v67 h68 (Zd o.length (Zd o.length f63 f66) f69))) (Za (Zb .eql .prim (AV.ro x1) (.int .i64 3)) fun v70=>ifK v70 (Za (Zg 4 (.ptr (o).length 0)) fun v71=>Za (Ze h0 v71) fun v72=>Za (Yy (.slice 3) v72 (AV.ro x2)) fun v73=>Za (Zg 1 v73) fun v74=>Za (Ze h0 v74) fun v75=>ZZ (K QN [v75,(.int .i64 1),(.int .i64 1000)] h0) fun v76 h77 f78=>Qn (AV.ro v76) true (Za (Zg 4 (.ptr (o).length 0)) fun v79=>Za (Ze h77 v79) fun v80=>Za (Yy (.slice 3) v80 (AV.ro x2)) fun v81=>Za (Zg 2 v81) fun v82=>Za (Ze h77 v82) fun v83=>ZZ (K QN [v83,(.int .i64 1),(.int .i64 1000)] h77) fun v84 h85 f86=>some ((AV.ro v84),h85,(Zd o.length (Zd o.length none f78) f86))) (some (.bool false)) h77 (Zd o.length none f78) fun v87 h88 f89=>ZZ (K YH [(AV.ro v87),(.int .i64 2)] h88) fun v90 h91 f92=>some (Zq false o v90 h91 (Zd o.length f89 f92))) (Za (Zb .eql .prim (AV.ro x1) (.int .i64 9)) fun v93=>ifK v93 (Za (Zg 10 (.ptr (o).length 0)) fun v94=>Za (Ze h0 v94) fun v95=>Za (Yy (.slice 4) v95 (AV.ro x2)) fun v96=>Za (Zp h0 4 v96) fun v97=>ZZ (K Az [v97] h0) fun v98 h99 f100=>some (Zq false o v98 h99 (Zd o.length none f100))) (some (Zq false o (.int .i64 0) h0 none))))))
theorem ZiE (G:GT)(K:KT)(L:Nat)(x0 x1 x2:AV)(o:HP):fnK G K ZoO L SG [x0,x1,x2] o=Jz G K L x0 x1 x2 o:=by kernel_rfl
theorem ZkX {C:Cfg}{x0 x1 x2:AV}:RunT C BH SG [x0,x1,x2] (fun K=>Jz C.G K C.L x0 x1 x2):=runT rfl fun _ _=>ZiE ..
def M8 (G:GT)(K:KT)(L:Nat)(o:HP)(x3:AV)(q:HP)(g:Eff):KR :=
  Za (Zg 2 x3) fun v21=>Za (Ze q v21) fun v22=>ZZ (K QN [v22,(.int .i64 0),(.int .i64 1000000000)] q) fun v23 h24 f25=>Qn (AV.ro v23) true (Za (Zg 3 x3) fun v26=>Za (Ze h24 v26) fun v27=>ZZ (K QN [v27,(.int .i64 0),(.int .i64 1000000000)] h24) fun v28 h29 f30=>some ((AV.ro v28),h29,(Zd o.length (Zd o.length g f25) f30))) (some (.bool false)) h24 (Zd o.length g f25) fun v31 h32 f33=>Qn (AV.ro v31) true (Za (Zg 4 x3) fun v34=>Za (Ze h32 v34) fun v35=>ZZ (K QN [v35,(.int .i64 0),(.int .i64 1000000000)] h32) fun v36 h37 f38=>some ((AV.ro v36),h37,(Zd o.length f33 f38))) (some (.bool false)) h32 f33 fun v39 h40 f41=>Qn (AV.ro v39) true (Za (Zg 3 x3) fun v42=>Za (Ze h40 v42) fun v43=>Za (Zb .neq .prim v43 (.int .i64 0)) fun v44=>Qn v44 false (Za (Zg 4 x3) fun v45=>Za (Ze h40 v45) fun v46=>Za (Zb .eql .prim v46 (.int .i64 0)) fun v47=>some (v47,h40,f41)) (some (.bool true)) h40 f41 fun v48 h49 f50=>some ((AV.ro v48),h49,f50)) (some (.bool false)) h40 f41 fun v51 h52 f53=>ZZ (K YH [(AV.ro v51),(.int .i64 2)] h52) fun v54 h55 f56=>some (Zq false o v54 h55 (Zd o.length f53 f56))
theorem ZiN (G:GT)(K:KT)(L:Nat)(o:HP) :Zo G 70 o.length K UN L Zdf (ZH UN Ie o) (ZH UN Ie o) []=fun e q g=>M8 G K L o (e 3).rd q g:=by kernel_rfl
def Gl (G:GT)(K:KT)(L:Nat)(o:HP)(k0:AV→HP→Eff→KR):Nat→AV→AV→AV→HP→Eff→KR
  | 0,_,_,_,_,_=>none
  | m + 1,x3,x6,x7,q,g=>Za (Z9 q .slice x6) fun v57=>Za (Zb .lss .prim x7 v57) fun v58=>ifK v58 (Za (Yy (.slice 2) x6 x7) fun v59=>Za (Zg 1 v59) fun v60=>Za (Ze q v60) fun v61=>Za (Zg 1 x3) fun v62=>Za (Ze q v62) fun v63=>Za (Yy (.slice 1) v63 x7) fun v64=>Za (Ze q v64) fun v65=>ZZ (ZG K Pn [v61,v65] q) fun v66 h67 f68=>Za (X8 .not (AV.ro v66)) fun v69=>ifK v69 (some (Zq false o (.int .i64 2) h67 (Zd o.length g f68))) (Za (Zb .add .prim x7 (.int .i64 1)) fun v70=>Gl G K L o k0 m x3 x6 v70 h67 (Zd o.length g f68))) (k0 x3 q g)
theorem ZiP (G:GT)(K:KT)(L:Nat)(o:HP)(k0:AV→HP→Eff→KR) :∀ m,X4 (fun n'=>Zo G 70 o.length K UN L ZaS n' (ZH UN Ie o) [(0,(fun e q g=>k0 (e 3).rd q g))]) m=fun e q g=>Gl G K L o k0 m (e 3).rd (e 6).rd (e 7).rd q g:=lpI rfl fun _=>by kernel_rfl
theorem ZiO (G:GT)(K:KT)(L:Nat)(o:HP)(k0:AV→HP→Eff→KR)(zn:Jb):Zo G 70 o.length K UN L Zdg zn (ZH UN Ie o) [(0,(fun e q g=>k0 (e 3).rd q g))]=fun e q g=>Gl G K L o k0 L (e 3).rd (e 6).rd (e 7).rd q g:=ZiP G K L o k0 L
def Nh (G:GT)(K:KT)(L:Nat)(x0 x1:AV)(o:HP):KR :=
  Za (JL 13 (AV.ro x0)) fun v1=>Vb (o ++ [.cells v1 Zf]) fun h0=>Za (JL 5 (AV.ro x1)) fun v3=>Vb (h0 ++ [.cells v3 U0]) fun h2=>Za (Zp h2 13 (.ptr (o).length 0)) fun v4=>Za (Zg 0 (.ptr (h0).length 0)) fun v5=>Za (Ze h2 v5) fun v6=>ZZ (K DU [v4,v6] h2) fun v7 h8 f9=>Za (Zb .lss .prim (AV.ro v7) (.int .i64 0)) fun v10=>ifK v10 (some (Zq false o (.int .i64 5) h8 (Zd o.length none f9))) (Za (Zg 10 (.ptr (o).length 0)) fun v11=>Za (Ze h8 v11) fun v12=>Za (Yy (.slice 4) v12 (AV.ro v7)) fun v13=>Za (Zg 1 v13) fun v14=>Za (Ze h8 v14) fun v15=>Za (Zg 1 (.ptr (h0).length 0)) fun v16=>Za (Ze h8 v16) fun v17=>Za (Z9 h8 .slice v17) fun v18=>Za (Z9 h8 .slice v15) fun v19=>Za (Zb .neq .prim v18 v19) fun v20=>ifK v20 (some (Zq false o (.int .i64 8) h8 (Zd o.length none f9))) (Gl G K L o (M8 G K L o) L (.ptr (h0).length 0) v15 (.int .i64 0) h8 (Zd o.length none f9)))
theorem Zoe (G:GT)(K:KT)(L:Nat)(x0 x1:AV)(o:HP):fnK G K UN L Ie [x0,x1] o=Nh G K L x0 x1 o:=by
 show Zo G 70 o.length K UN L Zep (ZH UN Ie o) (ZH UN Ie o) [] (Md [x0,x1]) o none=_
 simp only [Zep,Z7,Zl,Zm,Zv]
 rw [ZiN G K L o ,ZiO G K L o (M8 G K L o) _]
 kernel_rfl
theorem Zr4 {C:Cfg}{x0 x1:AV}:RunT C A7 Ie [x0,x1] (fun K=>Nh C.G K C.L x0 x1):=runT rfl fun _ _=>Zoe ..
def Da (G:GT)(K:KT)(L:Nat)(o:HP)(x4:AV)(x7:AV)(q:HP)(g:Eff):KR :=
  Za (Zg 2 x4) fun v29=>Za (Ze q v29) fun v30=>ZZ (K Aw [v30] q) fun v31 h32 f33=>ZZ (K YH [(AV.ro v31),(.int .i64 2)] h32) fun v34 h35 f36=>ZZ (K Qh [x7,(AV.ro v34)] h35) fun v37 h38 f39=>some (Zq false o v37 h38 (Zd o.length (Zd o.length (Zd o.length g f33) f36) f39))
theorem ZlK (G:GT)(K:KT)(L:Nat)(o:HP) :Zo G 49 o.length K Tn L Zjt (ZH Tn LY o) (ZH Tn LY o) []=fun e q g=>Da G K L o (e 4).rd (e 7).rd q g:=by kernel_rfl
def Tc (G:GT)(K:KT)(L:Nat)(o:HP)(k0:AV→AV→HP→Eff→KR):Nat→AV→AV→AV→AV→HP→Eff→KR
  | 0,_,_,_,_,_,_=>none
  | m + 1,x3,x4,x7,x8,q,g=>Za (Zg 1 x4) fun v40=>Za (Ze q v40) fun v41=>Za (Z9 q .slice v41) fun v42=>Za (Zb .lss .prim x8 v42) fun v43=>ifK v43 (Za (Zp q 13 x3) fun v44=>Za (Zg 1 x4) fun v45=>Za (Ze q v45) fun v46=>Za (Yy (.slice 3) v46 x8) fun v47=>Za (Zp q 3 v47) fun v48=>ZZ (ZG K Zcb [v44,v48] q) fun v49 h50 f51=>ZZ (ZG K Qh [x7,(AV.ro v49)] h50) fun v52 h53 f54=>Za (Zb .add .prim x8 (.int .i64 1)) fun v55=>Tc G K L o k0 m x3 x4 (AV.ro v52) v55 h53 (Zd o.length (Zd o.length g f51) f54)) (k0 x4 x7 q g)
theorem ZlM (G:GT)(K:KT)(L:Nat)(o:HP)(k0:AV→AV→HP→Eff→KR) :∀ m,X4 (fun n'=>Zo G 49 o.length K Tn L ZfI n' (ZH Tn LY o) [(0,(fun e q g=>k0 (e 4).rd (e 7).rd q g))]) m=fun e q g=>Tc G K L o k0 m (e 3).rd (e 4).rd (e 7).rd (e 8).rd q g:=lpI rfl fun _=>by kernel_rfl
theorem ZlL (G:GT)(K:KT)(L:Nat)(o:HP)(k0:AV→AV→HP→Eff→KR)(zn:Jb):Zo G 49 o.length K Tn L Zju zn (ZH Tn LY o) [(0,(fun e q g=>k0 (e 4).rd (e 7).rd q g))]=fun e q g=>Tc G K L o k0 L (e 3).rd (e 4).rd (e 7).rd (e 8).rd q g:=ZlM G K L o k0 L
def ZlJ (G:GT)(K:KT)(L:Nat)(x0 x1 x2:AV)(o:HP):KR :=
  Za (JL 13 (AV.ro x0)) fun v1=>Vb (o ++ [.cells v1 Zf]) fun h0=>Za (JL 3 (AV.ro x1)) fun v3=>Vb (h0 ++ [.cells v3 Oe]) fun h2=>Za (Zg 0 (.ptr (h0).length 0)) fun v4=>Za (Ze h2 v4) fun v5=>ZZ (K KS [v5,(AV.ro x2)] h2) fun v6 h7 f8=>Za (Zg 1 (.ptr (h0).length 0)) fun v9=>Za (Ze h7 v9) fun v10=>Za (Z9 h7 .slice v10) fun v11=>Za (Zb .gtr .prim v11 (.int .i64 0)) fun v12=>ZZ (K YH [v12,(.int .i64 7)] h7) fun v13 h14 f15=>ZZ (K Qh [(AV.ro v6),(AV.ro v13)] h14) fun v16 h17 f18=>Za (Zg 1 (.ptr (h0).length 0)) fun v19=>Za (Ze h17 v19) fun v20=>Za (Z9 h17 .slice v20) fun v21=>Za (Zb .leq .prim v21 (.int .i64 8)) fun v22=>ZZ (K YH [v22,(.int .i64 6)] h17) fun v23 h24 f25=>ZZ (K Qh [(AV.ro v16),(AV.ro v23)] h24) fun v26 h27 f28=>Tc G K L o (Da G K L o) L (.ptr (o).length 0) (.ptr (h0).length 0) (AV.ro v26) (.int .i64 0) h27 (Zd o.length (Zd o.length (Zd o.length (Zd o.length (Zd o.length none f8) f15) f18) f25) f28)
theorem Zsq (G:GT)(K:KT)(L:Nat)(x0 x1 x2:AV)(o:HP):fnK G K Tn L LY [x0,x1,x2] o=ZlJ G K L x0 x1 x2 o:=by
 show Zo G 49 o.length K Tn L Zl3 (ZH Tn LY o) (ZH Tn LY o) [] (Md [x0,x1,x2]) o none=_
 simp only [Zl3,Z7,Zl,Zm,Zv]
 rw [ZlK G K L o ,ZlL G K L o (Da G K L o) _]
 kernel_rfl
theorem Zvc {C:Cfg}{x0 x1 x2:AV}:RunT C Zfx LY [x0,x1,x2] (fun K=>ZlJ C.G K C.L x0 x1 x2):=runT rfl fun _ _=>Zsq ..
def Zbz (G:GT)(K:KT)(L:Nat)(x0 x1 x2:AV)(o:HP):KR :=
  Za (Zb .geq .prim (AV.ro x0) (AV.ro x1)) fun v0=>Qn v0 true (Za (Zb .leq .prim (AV.ro x0) (AV.ro x2)) fun v1=>some (v1,o,none)) (some (.bool false)) o none fun v2 h3 f4=>some (Zq false o v2 h3 f4)
theorem ZlO (G:GT)(K:KT)(L:Nat)(x0 x1 x2:AV)(o:HP):fnK G K Zth L Zav [x0,x1,x2] o=Zbz G K L x0 x1 x2 o:=by kernel_rfl
theorem ZoW {C:Cfg}{x0 x1 x2:AV}:RunT C QN Zav [x0,x1,x2] (fun K=>Zbz C.G K C.L x0 x1 x2):=runT rfl fun _ _=>ZlO ..
def Y0 (G:GT)(K:KT)(L:Nat)(o:HP)(q:HP)(g:Eff):KR :=
  some (Zq false o (.int .i64 (-1)) q g)
theorem JV (G:GT)(K:KT)(L:Nat)(o:HP) :Zo G 19 o.length K Zx L XL (ZH Zx ZA o) (ZH Zx ZA o) []=fun e q g=>Y0 G K L o  q g:=by kernel_rfl
def ZE (G:GT)(K:KT)(L:Nat)(o:HP)(k0:HP→Eff→KR):Nat→AV→AV→AV→AV→HP→Eff→KR
  | 0,_,_,_,_,_,_=>none
  | m + 1,x0,x1,x7,x8,q,g=>Za (Zb .lss .prim x8 x7) fun v1=>ifK v1 (Za (Yy (.slice 3) x0 x8) fun v2=>Za (Zp q 3 v2) fun v3=>ZZ (Vz K x1 [v3] q) fun v4 h5 f6=>ifK (AV.ro v4) (some (Zq false o x8 h5 (Zd o.length g f6))) (Za (Zb .add .prim x8 (.int .i64 1)) fun v7=>ZE G K L o k0 m x0 x1 x7 v7 h5 (Zd o.length g f6))) (k0  q g)
theorem JX (G:GT)(K:KT)(L:Nat)(o:HP)(k0:HP→Eff→KR) :∀ m,X4 (fun n'=>Zo G 19 o.length K Zx L XI n' (ZH Zx ZA o) [(0,(fun e q g=>k0 q g))]) m=fun e q g=>ZE G K L o k0 m (e 0).rd (e 1).rd (e 7).rd (e 8).rd q g:=lpI rfl fun _=>by kernel_rfl
theorem JW (G:GT)(K:KT)(L:Nat)(o:HP)(k0:HP→Eff→KR)(zn:Jb):Zo G 19 o.length K Zx L XM zn (ZH Zx ZA o) [(0,(fun e q g=>k0 q g))]=fun e q g=>ZE G K L o k0 L (e 0).rd (e 1).rd (e 7).rd (e 8).rd q g:=JX G K L o k0 L
def QD (G:GT)(K:KT)(L:Nat)(x0 x1:AV)(o:HP):KR :=
  Za (Z9 o .slice (AV.ro x0)) fun v0=>ZE G K L o (Y0 G K L o) L (AV.ro x0) (AV.ro x1) v0 (.int .i64 0) o none
theorem UA (G:GT)(K:KT)(L:Nat)(x0 x1:AV)(o:HP):fnK G K Zx L ZA [x0,x1] o=QD G K L x0 x1 o:=by
 show Zo G 19 o.length K Zx L QB (ZH Zx ZA o) (ZH Zx ZA o) [] (Md [x0,x1]) o none=_
 simp only [QB,Z7,Zl,Zm,Zv]
 rw [JV G K L o ,JW G K L o (Y0 G K L o) _]
 kernel_rfl
theorem Kb {C:Cfg}{x0 x1:AV}:RunT C Q9 ZA [x0,x1] (fun K=>QD C.G K C.L x0 x1):=runT rfl fun _ _=>UA ..
def QE (G:GT)(K:KT)(L:Nat)(o:HP)(q:HP)(g:Eff):KR :=
  some (Zq false o (.int .i64 (-1)) q g)
theorem MB (G:GT)(K:KT)(L:Nat)(o:HP) :Zo G 19 o.length K Yn L K9 (ZH Yn Y6 o) (ZH Yn Y6 o) []=fun e q g=>QE G K L o  q g:=by kernel_rfl
def Y8 (G:GT)(K:KT)(L:Nat)(o:HP)(k0:HP→Eff→KR):Nat→AV→AV→AV→AV→HP→Eff→KR
  | 0,_,_,_,_,_,_=>none
  | m + 1,x0,x1,x7,x8,q,g=>Za (Zb .lss .prim x8 x7) fun v1=>ifK v1 (Za (Yy (.slice 1) x0 x8) fun v2=>Za (Ze q v2) fun v3=>Za (Zb .eql .prim x1 v3) fun v4=>ifK v4 (some (Zq false o x8 q g)) (Za (Zb .add .prim x8 (.int .i64 1)) fun v5=>Y8 G K L o k0 m x0 x1 x7 v5 q g)) (k0  q g)
theorem ME (G:GT)(K:KT)(L:Nat)(o:HP)(k0:HP→Eff→KR) :∀ m,X4 (fun n'=>Zo G 19 o.length K Yn L Ke n' (ZH Yn Y6 o) [(0,(fun e q g=>k0 q g))]) m=fun e q g=>Y8 G K L o k0 m (e 0).rd (e 1).rd (e 7).rd (e 8).rd q g:=lpI rfl fun _=>by kernel_rfl
theorem MC (G:GT)(K:KT)(L:Nat)(o:HP)(k0:HP→Eff→KR)(zn:Jb):Zo G 19 o.length K Yn L KA zn (ZH Yn Y6 o) [(0,(fun e q g=>k0 q g))]=fun e q g=>Y8 G K L o k0 L (e 0).rd (e 1).rd (e 7).rd (e 8).rd q g:=ME G K L o k0 L
def JA (G:GT)(K:KT)(L:Nat)(x0 x1:AV)(o:HP):KR :=
  Za (Z9 o .slice (AV.ro x0)) fun v0=>Y8 G K L o (QE G K L o) L (AV.ro x0) (AV.ro x1) v0 (.int .i64 0) o none
theorem R3 (G:GT)(K:KT)(L:Nat)(x0 x1:AV)(o:HP):fnK G K Yn L Y6 [x0,x1] o=JA G K L x0 x1 o:=by
 show Zo G 19 o.length K Yn L J7 (ZH Yn Y6 o) (ZH Yn Y6 o) [] (Md [x0,x1]) o none=_
 simp only [J7,Z7,Zl,Zm,Zv]
 rw [MB G K L o ,MC G K L o (QE G K L o) _]
 kernel_rfl
theorem RS {C:Cfg}{x0 x1:AV}:RunT C J5 Y6 [x0,x1] (fun K=>JA C.G K C.L x0 x1):=runT rfl fun _ _=>R3 ..
def Fy (G:GT)(K:KT)(L:Nat)(x0:AV)(o:HP):KR :=
  Za (Zb .geq .prim (AV.ro x0) (.int .i64 1)) fun v0=>Qn v0 true (Za (Zb .leq .prim (AV.ro x0) (.int .i64 3)) fun v1=>some (v1,o,none)) (some (.bool false)) o none fun v2 h3 f4=>some (Zq false o v2 h3 f4)
theorem ZjP (G:GT)(K:KT)(L:Nat)(x0:AV)(o:HP):fnK G K Zrg L AO [x0] o=Fy G K L x0 o:=by kernel_rfl
theorem ZmA {C:Cfg}{x0:AV}:RunT C LV AO [x0] (fun K=>Fy C.G K C.L x0):=runT rfl fun _ _=>ZjP ..
def Zbn (G:GT)(K:KT)(L:Nat)(x0 x1:AV)(o:HP):KR :=
  Za (Zb .eql .prim (AV.ro x0) (.int .i64 1)) fun v0=>ifK v0 (ZZ (K ZbX [(AV.ro x1)] o) fun v1 h2 f3=>some (Zq false o v1 h2 (Zd o.length none f3))) (Za (Zb .eql .prim (AV.ro x0) (.int .i64 2)) fun v4=>ifK v4 (Za (Zb .eql .prim (AV.ro x1) (.int .i64 0)) fun v5=>Qn v5 false (Za (Zb .eql .prim (AV.ro x1) (.int .i64 1)) fun v6=>some (v6,o,none)) (some (.bool true)) o none fun v7 h8 f9=>some (Zq false o v7 h8 f9)) (Za (Zb .eql .prim (AV.ro x0) (.int .i64 3)) fun v10=>ifK v10 (ZZ (K Ql [(AV.ro x1),(.int .i64 0),(.int .i64 1000000000)] o) fun v11 h12 f13=>some (Zq false o v11 h12 (Zd o.length none f13))) (some (Zq false o (.bool false) o none))))
theorem ZlA (G:GT)(K:KT)(L:Nat)(x0 x1:AV)(o:HP):fnK G K Zta L Zao [x0,x1] o=Zbn G K L x0 x1 o:=by kernel_rfl
theorem Zo4 {C:Cfg}{x0 x1:AV}:RunT C BV Zao [x0,x1] (fun K=>Zbn C.G K C.L x0 x1):=runT rfl fun _ _=>ZlA ..
def Em (G:GT)(K:KT)(L:Nat)(x0 x1:AV)(o:HP):KR :=
  Za (Ze o (AV.ro x1)) fun v0=>ZZ (K Gx [(AV.ro x0),(.int .i64 32),(.fn Yt [v0] [])] o) fun v1 h2 f3=>some (Zq false o v1 h2 (Zd o.length none f3))
theorem Zh7 (G:GT)(K:KT)(L:Nat)(x0 x1:AV)(o:HP):fnK G K ZoB L Sn [x0,x1] o=Em G K L x0 x1 o:=by kernel_rfl
theorem ZkD {C:Cfg}{x0 x1:AV}:RunT C Qa Sn [x0,x1] (fun K=>Em C.G K C.L x0 x1):=runT rfl fun _ _=>Zh7 ..
def En (G:GT)(K:KT)(L:Nat)(x0 x1:AV)(o:HP):KR :=
  Za (Ze o (AV.ro x0)) fun v0=>Za (Zg 1 (AV.ro x1)) fun v1=>Za (Ze o v1) fun v2=>ZZ (K Vi [v0,v2] o) fun v3 h4 f5=>some (Zq false o v3 h4 (Zd o.length none f5))
theorem Zh8 (G:GT)(K:KT)(L:Nat)(x0 x1:AV)(o:HP):fnK G K ZoC L Sq [x0,x1] o=En G K L x0 x1 o:=by kernel_rfl
theorem ZkE {C:Cfg}{x0 x1:AV}:RunT C IQ Sq [x0,x1] (fun K=>En C.G K C.L x0 x1):=runT rfl fun _ _=>Zh8 ..
def Eo (G:GT)(K:KT)(L:Nat)(x0 x1:AV)(o:HP):KR :=
  Za (Zg 2 (AV.ro x0)) fun v0=>Za (Ze o v0) fun v1=>ZZ (K Vd [v1,(.int .i64 32),(.fn Kl [] [(AV.ro x1),(AV.ro x0)])] o) fun v2 h3 f4=>some (Zq false o v2 h3 (Zd o.length none f4))
theorem Zh9 (G:GT)(K:KT)(L:Nat)(x0 x1:AV)(o:HP):fnK G K ZoD L Sr [x0,x1] o=Eo G K L x0 x1 o:=by kernel_rfl
theorem ZkF {C:Cfg}{x0 x1:AV}:RunT C IR Sr [x0,x1] (fun K=>Eo C.G K C.L x0 x1):=runT rfl fun _ _=>Zh9 ..
def Ep (G:GT)(K:KT)(L:Nat)(x0 x1:AV)(o:HP):KR :=
  Za (Zg 3 (AV.ro x0)) fun v0=>Za (Ze o v0) fun v1=>ZZ (K VA [v1,(.int .i64 32),(.fn Km [] [(AV.ro x1)])] o) fun v2 h3 f4=>some (Zq false o v2 h3 (Zd o.length none f4))
theorem ZhA (G:GT)(K:KT)(L:Nat)(x0 x1:AV)(o:HP):fnK G K ZoE L Su [x0,x1] o=Ep G K L x0 x1 o:=by kernel_rfl
theorem ZkG {C:Cfg}{x0 x1:AV}:RunT C IU Su [x0,x1] (fun K=>Ep C.G K C.L x0 x1):=runT rfl fun _ _=>ZhA ..
def Er (G:GT)(K:KT)(L:Nat)(x0 x1:AV)(o:HP):KR :=
  Za (Zg 4 (AV.ro x0)) fun v0=>Za (Ze o v0) fun v1=>ZZ (K VT [v1,(.int .i64 32),(.fn Kn [] [(AV.ro x1)])] o) fun v2 h3 f4=>some (Zq false o v2 h3 (Zd o.length none f4))
theorem ZhB (G:GT)(K:KT)(L:Nat)(x0 x1:AV)(o:HP):fnK G K ZoF L Sv [x0,x1] o=Er G K L x0 x1 o:=by kernel_rfl
theorem ZkH {C:Cfg}{x0 x1:AV}:RunT C IV Sv [x0,x1] (fun K=>Er C.G K C.L x0 x1):=runT rfl fun _ _=>ZhB ..
def Es (G:GT)(K:KT)(L:Nat)(x0 x1:AV)(o:HP):KR :=
  Za (Ze o (AV.ro x0)) fun v0=>Za (Zg 5 (AV.ro x1)) fun v1=>Za (Ze o v1) fun v2=>ZZ (Vz K v0 [v2] o) fun v3 h4 f5=>some (Zq false o v3 h4 (Zd o.length none f5))
theorem ZhC (G:GT)(K:KT)(L:Nat)(x0 x1:AV)(o:HP):fnK G K ZoG L Sw [x0,x1] o=Es G K L x0 x1 o:=by kernel_rfl
theorem ZkI {C:Cfg}{x0 x1:AV}:RunT C IW Sw [x0,x1] (fun K=>Es C.G K C.L x0 x1):=runT rfl fun _ _=>ZhC ..
def Et (G:GT)(K:KT)(L:Nat)(x0 x1:AV)(o:HP):KR :=
  Za (Ze o (AV.ro x0)) fun v0=>Za (Zg 6 (AV.ro x1)) fun v1=>Za (Ze o v1) fun v2=>ZZ (Vz K v0 [v2] o) fun v3 h4 f5=>some (Zq false o v3 h4 (Zd o.length none f5))
theorem ZhD (G:GT)(K:KT)(L:Nat)(x0 x1:AV)(o:HP):fnK G K ZoH L Sy [x0,x1] o=Et G K L x0 x1 o:=by kernel_rfl
theorem ZkJ {C:Cfg}{x0 x1:AV}:RunT C IX Sy [x0,x1] (fun K=>Et C.G K C.L x0 x1):=runT rfl fun _ _=>ZhD ..
def Eu (G:GT)(K:KT)(L:Nat)(x0 x1:AV)(o:HP):KR :=
  Za (Ze o (AV.ro x0)) fun v0=>Za (Zg 7 (AV.ro x1)) fun v1=>Za (Ze o v1) fun v2=>ZZ (Vz K v0 [v2] o) fun v3 h4 f5=>some (Zq false o v3 h4 (Zd o.length none f5))
theorem ZhE (G:GT)(K:KT)(L:Nat)(x0 x1:AV)(o:HP):fnK G K ZoI L Sz [x0,x1] o=Eu G K L x0 x1 o:=by kernel_rfl
theorem ZkK {C:Cfg}{x0 x1:AV}:RunT C IY Sz [x0,x1] (fun K=>Eu C.G K C.L x0 x1):=runT rfl fun _ _=>ZhE ..
def Ev (G:GT)(K:KT)(L:Nat)(x0 x1:AV)(o:HP):KR :=
  Za (Ze o (AV.ro x0)) fun v0=>Za (Zg 8 (AV.ro x1)) fun v1=>Za (Ze o v1) fun v2=>ZZ (Vz K v0 [v2] o) fun v3 h4 f5=>some (Zq false o v3 h4 (Zd o.length none f5))
theorem ZhF (G:GT)(K:KT)(L:Nat)(x0 x1:AV)(o:HP):fnK G K ZoJ L S9 [x0,x1] o=Ev G K L x0 x1 o:=by kernel_rfl
theorem ZkL {C:Cfg}{x0 x1:AV}:RunT C IZ S9 [x0,x1] (fun K=>Ev C.G K C.L x0 x1):=runT rfl fun _ _=>ZhF ..
def Na (G:GT)(K:KT)(L:Nat)(x0 x1:AV)(o:HP):KR :=
  Za (Ze o (AV.ro x0)) fun v0=>Za (Zg 9 (AV.ro x1)) fun v1=>Za (Ze o v1) fun v2=>ZZ (Vz K v0 [v2] o) fun v3 h4 f5=>some (Zq false o v3 h4 (Zd o.length none f5))
theorem Zge (G:GT)(K:KT)(L:Nat)(x0 x1:AV)(o:HP):fnK G K ZmQ L PE [x0,x1] o=Na G K L x0 x1 o:=by kernel_rfl
theorem Zjh {C:Cfg}{x0 x1:AV}:RunT C G6 PE [x0,x1] (fun K=>Na C.G K C.L x0 x1):=runT rfl fun _ _=>Zge ..
def Nb (G:GT)(K:KT)(L:Nat)(x0 x1:AV)(o:HP):KR :=
  Za (Zg 10 (AV.ro x0)) fun v0=>Za (Ze o v0) fun v1=>ZZ (K Jt [v1,(.int .i64 16),(.fn U1 [] [(AV.ro x1)])] o) fun v2 h3 f4=>some (Zq false o v2 h3 (Zd o.length none f4))
theorem Zgf (G:GT)(K:KT)(L:Nat)(x0 x1:AV)(o:HP):fnK G K ZmR L PG [x0,x1] o=Nb G K L x0 x1 o:=by kernel_rfl
theorem Zji {C:Cfg}{x0 x1:AV}:RunT C G7 PG [x0,x1] (fun K=>Nb C.G K C.L x0 x1):=runT rfl fun _ _=>Zgf ..
def Nc (G:GT)(K:KT)(L:Nat)(x0:AV)(o:HP):KR :=
  Za (Zg 11 (AV.ro x0)) fun v0=>Za (Ze o v0) fun v1=>ZZ (K H6 [v1,(.int .i64 32),(.fn Tv [] [(AV.ro x0)])] o) fun v2 h3 f4=>some (Zq false o v2 h3 (Zd o.length none f4))
theorem Zgg (G:GT)(K:KT)(L:Nat)(x0:AV)(o:HP):fnK G K ZmS L PH [x0] o=Nc G K L x0 o:=by kernel_rfl
theorem Zjj {C:Cfg}{x0:AV}:RunT C OE PH [x0] (fun K=>Nc C.G K C.L x0):=runT rfl fun _ _=>Zgg ..
def Nf (G:GT)(K:KT)(L:Nat)(x0:AV)(o:HP):KR :=
  Za (Zp o 13 (AV.ro x0)) fun v0=>ZZ (K Zaa [v0] o) fun v1 h2 f3=>some (Zq false o v1 h2 (Zd o.length none f3))
theorem Zgh (G:GT)(K:KT)(L:Nat)(x0:AV)(o:HP):fnK G K ZmT L PI [x0] o=Nf G K L x0 o:=by kernel_rfl
theorem Zjk {C:Cfg}{x0:AV}:RunT C OG PI [x0] (fun K=>Nf C.G K C.L x0):=runT rfl fun _ _=>Zgh ..
def Kt (G:GT)(K:KT)(L:Nat)(o:HP)(q:HP)(g:Eff):KR :=
  some (Zq false o (.int .i64 0) q g)
theorem Ze4 (G:GT)(K:KT)(L:Nat)(o:HP) :Zo G 18 o.length K VJ L Ca (ZH VJ Uf o) (ZH VJ Uf o) []=fun e q g=>Kt G K L o  q g:=by kernel_rfl
def Vp (G:GT)(K:KT)(L:Nat)(o:HP)(k0:HP→Eff→KR):Nat→AV→AV→AV→HP→Eff→KR
  | 0,_,_,_,_,_=>none
  | m + 1,x6,x7,x8,q,g=>Za (Zb .lss .prim x8 x7) fun v1=>ifK v1 (Za (Yy (.slice 1) x6 x8) fun v2=>Za (Ze q v2) fun v3=>ZZ (Vz K v3 [] q) fun v4 h5 f6=>Za (Zb .neq .prim (AV.ro v4) (.int .i64 0)) fun v7=>ifK v7 (some (Zq false o v4 h5 (Zd o.length g f6))) (Za (Zb .add .prim x8 (.int .i64 1)) fun v8=>Vp G K L o k0 m x6 x7 v8 h5 (Zd o.length g f6))) (k0  q g)
theorem Ze6 (G:GT)(K:KT)(L:Nat)(o:HP)(k0:HP→Eff→KR) :∀ m,X4 (fun n'=>Zo G 18 o.length K VJ L EL n' (ZH VJ Uf o) [(0,(fun e q g=>k0 q g))]) m=fun e q g=>Vp G K L o k0 m (e 6).rd (e 7).rd (e 8).rd q g:=lpI rfl fun _=>by kernel_rfl
theorem Ze5 (G:GT)(K:KT)(L:Nat)(o:HP)(k0:HP→Eff→KR)(zn:Jb):Zo G 18 o.length K VJ L Cb zn (ZH VJ Uf o) [(0,(fun e q g=>k0 q g))]=fun e q g=>Vp G K L o k0 L (e 6).rd (e 7).rd (e 8).rd q g:=Ze6 G K L o k0 L
def Fx (G:GT)(K:KT)(L:Nat)(x0:AV)(o:HP):KR :=
  Za (Z9 o .slice (AV.ro x0)) fun v0=>Vp G K L o (Kt G K L o) L (AV.ro x0) v0 (.int .i64 0) o none
theorem ZjO (G:GT)(K:KT)(L:Nat)(x0:AV)(o:HP):fnK G K VJ L Uf [x0] o=Fx G K L x0 o:=by
 show Zo G 18 o.length K VJ L Fb (ZH VJ Uf o) (ZH VJ Uf o) [] (Md [x0]) o none=_
 simp only [Fb,Z7,Zl,Zm,Zv]
 rw [Ze4 G K L o ,Ze5 G K L o (Kt G K L o) _]
 kernel_rfl
theorem Zm9 {C:Cfg}{x0:AV}:RunT C Ar Uf [x0] (fun K=>Fx C.G K C.L x0):=runT rfl fun _ _=>ZjO ..
def Ex (G:GT)(K:KT)(L:Nat)(x0 x1 x2:AV)(o:HP):KR :=
  Za (Zb .geq .prim (AV.ro x0) (AV.ro x1)) fun v0=>Qn v0 true (Za (Zb .leq .prim (AV.ro x0) (AV.ro x2)) fun v1=>some (v1,o,none)) (some (.bool false)) o none fun v2 h3 f4=>some (Zq false o v2 h3 f4)
theorem ZhH (G:GT)(K:KT)(L:Nat)(x0 x1 x2:AV)(o:HP):fnK G K ZoL L SB [x0,x1,x2] o=Ex G K L x0 x1 x2 o:=by kernel_rfl
theorem ZkN {C:Cfg}{x0 x1 x2:AV}:RunT C Ql SB [x0,x1,x2] (fun K=>Ex C.G K C.L x0 x1 x2):=runT rfl fun _ _=>ZhH ..
def Zdk (G:GT)(K:KT)(L:Nat)(o:HP):KR :=
  JJ (ZbM QG 1 [(.str [97,100,100]),(.str [97,102,116,101,114]),(.str [97,110,100]),(.str [97,116]),(.str [98,101,108,116]),(.str [98,111,111,108]),(.str [99,111,110,115,101,114,118,101]),(.str [99,111,110,115,116]),(.str [99,111,117,110,116]),(.str [99,121,99,108,101]),(.str [100,111,119,110]),(.str [100,114,97,119]),(.str [100,117,114]),(.str [101,108,115,101]),(.str [101,110,100]),(.str [101,118,101,114,121]),(.str [102,97,108,115,101]),(.str [102,97,117,108,116]),(.str [102,105,102,111]),(.str [102,114,101,101]),(.str [102,114,111,109]),(.str [103,101,111,109]),(.str [103,101,116]),(.str [104,111,108,100]),(.str [105,102]),(.str [105,110,116]),(.str [105,110,116,111]),(.str [108,101,97,115,116]),(.str [108,101,118,101,108]),(.str [108,105,102,111]),(.str [108,105,110,107]),(.str [108,111,99,97,108]),(.str [109,97,120]),(.str [109,105,110]),(.str [109,111,100,101,108]),(.str [110,111,116]),(.str [110,111,119]),(.str [111,98,115,101,114,118,101]),(.str [111,114]),(.str [112,97,114,97,109]),(.str [112,114,101,101,109,112,116]),(.str [112,114,105,111]),(.str [112,117,116]),(.str [113,117,101,117,101]),(.str [114,101,108,101,97,115,101]),(.str [114,101,115,111,117,114,99,101]),(.str [114,105,100,101]),(.str [114,111,117,116,105,110,101]),(.str [115,101,105,122,101]),(.str [115,101,110,100]),(.str [115,101,116]),(.str [115,104,105,102,116]),(.str [115,105,103,110,97,108]),(.str [115,105,116,101]),(.str [115,105,122,101]),(.str [115,112,97,119,110]),(.str [115,116,97,114,116]),(.str [115,116,111,112]),(.str [115,116,111,114,101]),(.str [115,116,114,101,97,109]),(.str [115,117,109]),(.str [116,97,98,108,101]),(.str [116,97,108,108,121]),(.str [116,105,99,107,115]),(.str [116,105,109,101]),(.str [116,114,117,101]),(.str [117,110,105,102,111,114,109]),(.str [117,110,116,105,108]),(.str [117,112]),(.str [118,97,114]),(.str [119,97,105,116]),(.str [119,97,105,116,105,110,103]),(.str [119,104,105,108,101])] o) fun v0 h1=>some (Zq false o v0 h1 none)
theorem ZhS (G:GT)(K:KT)(L:Nat)(o:HP):fnK G K ZoN L SE [] o=Zdk G K L o:=by kernel_rfl
theorem ZkV {C:Cfg}(h:C.T BG=some SE){n:Nat}{q:HP}{r:AV×HP×Eff}(hr:Zdk C.G (Zc C n) C.L q=some r):Zc C (n + 1) BG [] q=some r:=Z04 h (Nat.le_of_ble_eq_true rfl) ((ZhS ..).trans hr)
def Zqq (G:GT)(K:KT)(L:Nat)(x0:AV)(o:HP):KR :=
  Za (Zb .geq .prim (AV.ro x0) (.int .i64 (-1000000000000))) fun v0=>Qn v0 true (Za (Zb .leq .prim (AV.ro x0) (.int .i64 1000000000000)) fun v1=>some (v1,o,none)) (some (.bool false)) o none fun v2 h3 f4=>some (Zq false o v2 h3 f4)
theorem Zui (G:GT)(K:KT)(L:Nat)(x0:AV)(o:HP):fnK G K ZzK L ZpX [x0] o=Zqq G K L x0 o:=by kernel_rfl
theorem ZwN {C:Cfg}{x0:AV}:RunT C Aw ZpX [x0] (fun K=>Zqq C.G K C.L x0):=runT rfl fun _ _=>Zui ..
def Ez (G:GT)(K:KT)(L:Nat)(x0 x1:AV)(o:HP):KR :=
  Za (JL 13 (AV.ro x0)) fun v1=>Vb (o ++ [.cells v1 Zf]) fun h0=>Za (JL 17 (AV.ro x1)) fun v3=>Vb (h0 ++ [.cells v3 WA]) fun h2=>Za (Zg 1 (.ptr (h0).length 0)) fun v4=>Za (Ze h2 v4) fun v5=>ZZ (ZG K QN [v5,(.int .i64 0),(.int .i64 1000)] h2) fun v6 h7 f8=>ZZ (ZG K YH [(AV.ro v6),(.int .i64 2)] h7) fun v9 h10 f11=>Za (Zp h10 17 (.ptr (h0).length 0)) fun v12=>ZZ (ZG K Sg [v12] h10) fun v13 h14 f15=>ZZ (ZG K Qh [(AV.ro v9),(AV.ro v13)] h14) fun v16 h17 f18=>Za (Zb .neq .prim (AV.ro v16) (.int .i64 0)) fun v19=>ifK v19 (some (Zq false o (AV.ro v16) h17 (Zd o.length (Zd o.length (Zd o.length (Zd o.length none f8) f11) f15) f18))) (Za (Zg 4 (.ptr (h0).length 0)) fun v20=>Za (Zg 0 v20) fun v21=>Za (Ze h17 v21) fun v22=>Za (Zb .eql .prim v22 (.str [])) fun v23=>ifK v23 (Za (Zg 4 (.ptr (h0).length 0)) fun v24=>Za (Zg 1 v24) fun v25=>Za (Zp h17 6 v25) fun v26=>Za (fill [(.int .i64 0),(.int .i64 0),(.int .i64 0),(.int .i64 0),(.own 1 []),(.own 1 [])] []) fun v27=>ZZ (K EG [v26,(.agg v27)] h17) fun v28 h29 f30=>Qn (AV.ro v28) true (Za (Zg 4 (.ptr (h0).length 0)) fun v31=>Za (Zg 7 v31) fun v32=>Za (Zp h29 6 v32) fun v33=>Za (fill [(.int .i64 0),(.int .i64 0),(.int .i64 0),(.int .i64 0),(.own 1 []),(.own 1 [])] []) fun v34=>ZZ (K EG [v33,(.agg v34)] h29) fun v35 h36 f37=>some ((AV.ro v35),h36,(Zd o.length (Zd o.length (Zd o.length (Zd o.length (Zd o.length (Zd o.length none f8) f11) f15) f18) f30) f37))) (some (.bool false)) h29 (Zd o.length (Zd o.length (Zd o.length (Zd o.length (Zd o.length none f8) f11) f15) f18) f30) fun v38 h39 f40=>ZZ (K YH [(AV.ro v38),(.int .i64 1)] h39) fun v41 h42 f43=>some (Zq false o v41 h42 (Zd o.length f40 f43))) (Za (Zg 6 (.ptr (o).length 0)) fun v44=>Za (Ze h17 v44) fun v45=>Za (Zg 4 (.ptr (h0).length 0)) fun v46=>Za (Zg 0 v46) fun v47=>Za (Ze h17 v47) fun v48=>ZZ (K Tw [v45,v48] h17) fun v49 h50 f51=>Za (Zb .lss .prim (AV.ro v49) (.int .i64 0)) fun v52=>ifK v52 (some (Zq false o (.int .i64 5) h50 (Zd o.length (Zd o.length (Zd o.length (Zd o.length (Zd o.length none f8) f11) f15) f18) f51))) (Za (Zg 4 (.ptr (h0).length 0)) fun v53=>Za (Zg 1 v53) fun v54=>Za (Zp h50 6 v54) fun v55=>ZZ (ZG K Pz [v55] h50) fun v56 h57 f58=>Za (Zg 4 (.ptr (h0).length 0)) fun v59=>Za (Zg 7 v59) fun v60=>Za (Zp h57 6 v60) fun v61=>ZZ (ZG K Pz [v61] h57) fun v62 h63 f64=>ZZ (ZG K Qh [(AV.ro v56),(AV.ro v62)] h63) fun v65 h66 f67=>some (Zq false o (AV.ro v65) h66 (Zd o.length (Zd o.length (Zd o.length (Zd o.length (Zd o.length (Zd o.length (Zd o.length (Zd o.length none f8) f11) f15) f18) f51) f58) f64) f67)))))
theorem ZiL (G:GT)(K:KT)(L:Nat)(x0 x1:AV)(o:HP):fnK G K ZoP L SH [x0,x1] o=Ez G K L x0 x1 o:=by kernel_rfl
theorem ZkY {C:Cfg}{x0 x1:AV}:RunT C Si SH [x0,x1] (fun K=>Ez C.G K C.L x0 x1):=runT rfl fun _ _=>ZiL ..
def IK (G:GT)(K:KT)(L:Nat)(o:HP)(x1:AV)(q:HP)(g:Eff):KR :=
  Za (Zg 3 x1) fun v25=>Za (Ze q v25) fun v26=>ZZ (K P5 [v26] q) fun v27 h28 f29=>some (Zq false o v27 h28 (Zd o.length g f29))
theorem ZeW (G:GT)(K:KT)(L:Nat)(o:HP) :Zo G 63 o.length K VM L Ch (ZH VM Ui o) (ZH VM Ui o) []=fun e q g=>IK G K L o (e 1).rd q g:=by kernel_rfl
def VP (G:GT)(K:KT)(L:Nat)(o:HP)(k0:AV→HP→Eff→KR):Nat→AV→AV→AV→AV→AV→HP→Eff→KR
  | 0,_,_,_,_,_,_,_=>none
  | m + 1,x1,x3,y3,x4,x5,q,g=>Za (Z9 q .slice x4) fun v30=>Za (Zb .lss .prim x5 v30) fun v31=>ifK v31 (Za (Yy (.slice 2) x4 x5) fun v32=>Za (Zg 0 v32) fun v33=>Za (Ze q v33) fun v34=>ZZ (ZG K KS [v34,x3] q) fun v35 h36 f37=>Za (Yy (.slice 2) x4 x5) fun v38=>Za (Zg 1 v38) fun v39=>Za (Ze h36 v39) fun v40=>ZZ (ZG K Bc [v40] h36) fun v41 h42 f43=>ZZ (ZG K YH [(AV.ro v41),(.int .i64 1)] h42) fun v44 h45 f46=>ZZ (ZG K Qh [(AV.ro v35),(AV.ro v44)] h45) fun v47 h48 f49=>Za (Zb .neq .prim (AV.ro v47) (.int .i64 0)) fun v50=>ifK v50 (some (Zq false o (AV.ro v47) h48 (Zd o.length (Zd o.length (Zd o.length (Zd o.length g f37) f43) f46) f49))) (Za (Yy (.slice 2) x4 x5) fun v51=>Za (Zg 0 v51) fun v52=>Za (Ze h48 v52) fun v53=>JJ (ZbM QG 1 [v53] h48) fun v54 h55=>Za (Zpk 1 16 y3 (AV.ro v54) h55) fun v56=>Za (Zb .add .prim x5 (.int .i64 1)) fun v57=>VP G K L o k0 m x1 (AV.ro v56) v56 x4 v57 h55 (Zd o.length (Zd o.length (Zd o.length (Zd o.length g f37) f43) f46) f49))) (k0 x1 q g)
theorem ZeY (G:GT)(K:KT)(L:Nat)(o:HP)(k0:AV→HP→Eff→KR) :∀ m,X4 (fun n'=>Zo G 63 o.length K VM L ES n' (ZH VM Ui o) [(0,(fun e q g=>k0 (e 1).rd q g))]) m=fun e q g=>VP G K L o k0 m (e 1).rd (e 3).rd (e 3).val (e 4).rd (e 5).rd q g:=lpI rfl fun _=>by kernel_rfl
theorem ZeX (G:GT)(K:KT)(L:Nat)(o:HP)(k0:AV→HP→Eff→KR)(zn:Jb):Zo G 63 o.length K VM L Ci zn (ZH VM Ui o) [(0,(fun e q g=>k0 (e 1).rd q g))]=fun e q g=>VP G K L o k0 L (e 1).rd (e 3).rd (e 3).val (e 4).rd (e 5).rd q g:=ZeY G K L o k0 L
def Ph (G:GT)(K:KT)(L:Nat)(x0:AV)(o:HP):KR :=
  Za (JL 4 (AV.ro x0)) fun v1=>Vb (o ++ [.cells v1 WH]) fun h0=>Za (Zg 1 (.ptr (o).length 0)) fun v2=>Za (Ze h0 v2) fun v3=>Za (Z9 h0 .slice v3) fun v4=>Za (Zb .gtr .prim v4 (.int .i64 6)) fun v5=>Qn v5 false (Za (Zg 1 (.ptr (o).length 0)) fun v6=>Za (Ze h0 v6) fun v7=>Za (Z9 h0 .slice v7) fun v8=>Za (Zg 2 (.ptr (o).length 0)) fun v9=>Za (Ze h0 v9) fun v10=>Za (Z9 h0 .slice v10) fun v11=>Za (Zb .add .prim v8 v11) fun v12=>Za (Zb .gtr .prim v12 (.int .i64 16)) fun v13=>some (v13,h0,none)) (some (.bool true)) h0 none fun v14 h15 f16=>ifK (AV.ro v14) (some (Zq false o (.int .i64 6) h15 f16)) (JJ (ZbM Sd 2 [] h15) fun v17 h18=>Za (Zg 1 (.ptr (o).length 0)) fun v19=>Za (Ze h18 v19) fun v20=>Za (Zpk 2 24 v17 v20 h18) fun v21=>Za (Zg 2 (.ptr (o).length 0)) fun v22=>Za (Ze h18 v22) fun v23=>Za (Zpk 2 24 v21 v23 h18) fun v24=>VP G K L o (IK G K L o) L (.ptr (o).length 0) (.lst 1 []) (.own 1 []) (AV.ro v24) (.int .i64 0) h18 f16)
theorem Zkn (G:GT)(K:KT)(L:Nat)(x0:AV)(o:HP):fnK G K VM L Ui [x0] o=Ph G K L x0 o:=by
 show Zo G 63 o.length K VM L Fg (ZH VM Ui o) (ZH VM Ui o) [] (Md [x0]) o none=_
 simp only [Fg,Z7,Zl,Zm,Zv]
 rw [ZeW G K L o ,ZeX G K L o (IK G K L o) _]
 kernel_rfl
theorem ZmZ {C:Cfg}{x0:AV}:RunT C Az Ui [x0] (fun K=>Ph C.G K C.L x0):=runT rfl fun _ _=>Zkn ..
def Xw (G:GT)(K:KT)(L:Nat)(o:HP)(x2:AV)(x3:AV)(x5:AV)(q:HP)(g:Eff):KR :=
  Za (Zb .neq .prim x5 (.str [])) fun v4=>ZZ (ZG K YH [v4,(.int .i64 1)] q) fun v5 h6 f7=>Za (Zp h6 13 x2) fun v8=>Za (Zg 2 x3) fun v9=>Za (Ze h6 v9) fun v10=>ZZ (ZG K ZbZ [v8,v10] h6) fun v11 h12 f13=>Za (Zb .eql .prim (AV.ro v11) x5) fun v14=>ZZ (ZG K YH [v14,(.int .i64 5)] h12) fun v15 h16 f17=>ZZ (ZG K Qh [(AV.ro v5),(AV.ro v15)] h16) fun v18 h19 f20=>Za (Zg 0 x3) fun v21=>Za (Ze h19 v21) fun v22=>ZZ (K QN [v22,(.int .i64 (-1000)),(.int .i64 1000)] h19) fun v23 h24 f25=>Qn (AV.ro v23) true (Za (Zg 0 x3) fun v26=>Za (Ze h24 v26) fun v27=>Za (Zb .neq .prim v27 (.int .i64 0)) fun v28=>some (v28,h24,(Zd o.length (Zd o.length (Zd o.length (Zd o.length (Zd o.length g f7) f13) f17) f20) f25))) (some (.bool false)) h24 (Zd o.length (Zd o.length (Zd o.length (Zd o.length (Zd o.length g f7) f13) f17) f20) f25) fun v29 h30 f31=>ZZ (K YH [(AV.ro v29),(.int .i64 2)] h30) fun v32 h33 f34=>ZZ (K Qh [(AV.ro v18),(AV.ro v32)] h33) fun v35 h36 f37=>some (Zq false o v35 h36 (Zd o.length (Zd o.length f31 f34) f37))
theorem Zk1 (G:GT)(K:KT)(L:Nat)(o:HP) :Zo G 41 o.length K TG L ZfQ (ZH TG Lt o) (ZH TG Lt o) []=fun e q g=>Xw G K L o (e 2).rd (e 3).rd (e 5).rd q g:=by kernel_rfl
def Rz (G:GT)(K:KT)(L:Nat)(o:HP)(x2:AV)(x3:AV)(x5:AV)(x8:AV)(x9:AV)(q:HP)(g:Eff):KR :=
  ifK x9 (Xw G K L o  x2 x3 (.str [114,111,117,116,105,110,101]) q g) (Za (Zb .eql .prim x8 (.str [115,116,111,114,101,100])) fun v40=>ifK v40 (ifK v40 (Xw G K L o  x2 x3 (.str [115,116,111,114,101]) q g) (Za (Zb .eql .prim x8 (.str [99,111,117,110,116,101,100])) fun v41=>ifK v41 (Xw G K L o  x2 x3 (.str [99,111,117,110,116]) q g) (Xw G K L o  x2 x3 x5 q g))) (Za (Zb .eql .prim x8 (.str [101,110,116,101,114,101,100])) fun v42=>ifK v42 (ifK v42 (Xw G K L o  x2 x3 (.str [115,116,111,114,101]) q g) (Za (Zb .eql .prim x8 (.str [99,111,117,110,116,101,100])) fun v43=>ifK v43 (Xw G K L o  x2 x3 (.str [99,111,117,110,116]) q g) (Xw G K L o  x2 x3 x5 q g))) (Za (Zb .eql .prim x8 (.str [108,101,102,116])) fun v44=>ifK v44 (Xw G K L o  x2 x3 (.str [115,116,111,114,101]) q g) (Za (Zb .eql .prim x8 (.str [99,111,117,110,116,101,100])) fun v45=>ifK v45 (Xw G K L o  x2 x3 (.str [99,111,117,110,116]) q g) (Xw G K L o  x2 x3 x5 q g)))))
theorem Zk0 (G:GT)(K:KT)(L:Nat)(o:HP) :Zo G 41 o.length K TG L ZfP (fun e q g=>(Xw G K L o) (e 2).rd (e 3).rd (e 5).rd q g) (ZH TG Lt o) [(0,(fun e q g=>(Xw G K L o) (e 2).rd (e 3).rd (e 5).rd q g))]=fun e q g=>Rz G K L o (e 2).rd (e 3).rd (e 5).rd (e 8).rd (e 9).rd q g:=by kernel_rfl
def ZiQ (G:GT)(K:KT)(L:Nat)(x0 x1:AV)(o:HP):KR :=
  Za (JL 13 (AV.ro x0)) fun v1=>Vb (o ++ [.cells v1 Zf]) fun h0=>Za (JL 3 (AV.ro x1)) fun v3=>Vb (h0 ++ [.cells v3 I7]) fun h2=>Za (Zg 1 (.ptr (h0).length 0)) fun v38=>Za (Ze h2 v38) fun v39=>Za (Zb .eql .prim v39 (.str [99,114,101,97,116,101,100])) fun v46=>ifK v46 (Rz G K L o  (.ptr (o).length 0) (.ptr (h0).length 0) (.str []) v39 v46 h2 none) (Za (Zb .eql .prim v39 (.str [101,110,100,101,100])) fun v47=>ifK v47 (Rz G K L o  (.ptr (o).length 0) (.ptr (h0).length 0) (.str []) v39 v47 h2 none) (Za (Zb .eql .prim v39 (.str [105,110,115,105,100,101])) fun v48=>Rz G K L o  (.ptr (o).length 0) (.ptr (h0).length 0) (.str []) v39 v48 h2 none))
theorem Zq2 (G:GT)(K:KT)(L:Nat)(x0 x1:AV)(o:HP):fnK G K TG L Lt [x0,x1] o=ZiQ G K L x0 x1 o:=by
 show Zo G 41 o.length K TG L Zhz (ZH TG Lt o) (ZH TG Lt o) [] (Md [x0,x1]) o none=_
 simp only [Zhz,Z7,Zl,Zm,Zv]
 rw [Zk1 G K L o ,Zk0 G K L o]
 kernel_rfl
theorem Ztu {C:Cfg}{x0 x1:AV}:RunT C Zcb Lt [x0,x1] (fun K=>ZiQ C.G K C.L x0 x1):=runT rfl fun _ _=>Zq2 ..
def Zes (G:GT)(K:KT)(L:Nat)(x0 x1:AV)(o:HP):KR :=
  Za (JL 6 (AV.ro x0)) fun v1=>Vb (o ++ [.cells v1 UU]) fun h0=>Za (JL 6 (AV.ro x1)) fun v3=>Vb (h0 ++ [.cells v3 UU]) fun h2=>Za (Zg 0 (.ptr (o).length 0)) fun v4=>Za (Ze h2 v4) fun v5=>Za (Zg 0 (.ptr (h0).length 0)) fun v6=>Za (Ze h2 v6) fun v7=>Za (Zb .eql .prim v5 v7) fun v8=>Qn v8 true (Za (Zg 1 (.ptr (o).length 0)) fun v9=>Za (Ze h2 v9) fun v10=>Za (Zg 1 (.ptr (h0).length 0)) fun v11=>Za (Ze h2 v11) fun v12=>Za (Zb .eql .prim v10 v12) fun v13=>some (v13,h2,none)) (some (.bool false)) h2 none fun v14 h15 f16=>Qn (AV.ro v14) true (Za (Zg 2 (.ptr (o).length 0)) fun v17=>Za (Ze h15 v17) fun v18=>Za (Zg 2 (.ptr (h0).length 0)) fun v19=>Za (Ze h15 v19) fun v20=>Za (Zb .eql .prim v18 v20) fun v21=>some (v21,h15,f16)) (some (.bool false)) h15 f16 fun v22 h23 f24=>Qn (AV.ro v22) true (Za (Zg 3 (.ptr (o).length 0)) fun v25=>Za (Ze h23 v25) fun v26=>Za (Zg 3 (.ptr (h0).length 0)) fun v27=>Za (Ze h23 v27) fun v28=>Za (Zb .eql .prim v26 v28) fun v29=>some (v29,h23,f24)) (some (.bool false)) h23 f24 fun v30 h31 f32=>Qn (AV.ro v30) true (Za (Zg 4 (.ptr (o).length 0)) fun v33=>Za (Ze h31 v33) fun v34=>Za (Zg 4 (.ptr (h0).length 0)) fun v35=>Za (Ze h31 v35) fun v36=>ZZ (K XH [v34,v36] h31) fun v37 h38 f39=>some ((AV.ro v37),h38,(Zd o.length f32 f39))) (some (.bool false)) h31 f32 fun v40 h41 f42=>Qn (AV.ro v40) true (Za (Zg 5 (.ptr (o).length 0)) fun v43=>Za (Ze h41 v43) fun v44=>Za (Zg 5 (.ptr (h0).length 0)) fun v45=>Za (Ze h41 v45) fun v46=>ZZ (K XH [v44,v46] h41) fun v47 h48 f49=>some ((AV.ro v47),h48,(Zd o.length f42 f49))) (some (.bool false)) h41 f42 fun v50 h51 f52=>some (Zq false o v50 h51 f52)
theorem ZnG (G:GT)(K:KT)(L:Nat)(x0 x1:AV)(o:HP):fnK G K ZuP L ZdL [x0,x1] o=Zes G K L x0 x1 o:=by kernel_rfl
theorem Zq4 {C:Cfg}{x0 x1:AV}:RunT C Pv ZdL [x0,x1] (fun K=>Zes C.G K C.L x0 x1):=runT rfl fun _ _=>ZnG ..
def XN (G:GT)(K:KT)(L:Nat)(o:HP)(q:HP)(g:Eff):KR :=
  some (Zq false o (.bool true) q g)
theorem Db (G:GT)(K:KT)(L:Nat)(o:HP) :Zo G 26 o.length K YK L OQ (ZH YK WX o) (ZH YK WX o) []=fun e q g=>XN G K L o  q g:=by kernel_rfl
def WU (G:GT)(K:KT)(L:Nat)(o:HP)(k0:HP→Eff→KR):Nat→AV→AV→AV→AV→HP→Eff→KR
  | 0,_,_,_,_,_,_=>none
  | m + 1,x0,x1,x12,x13,q,g=>Za (Zb .lss .prim x13 x12) fun v4=>ifK v4 (Za (Yy (.slice 1) x0 x13) fun v5=>Za (Ze q v5) fun v6=>Za (Yy (.slice 1) x1 x13) fun v7=>Za (Ze q v7) fun v8=>Za (Zb .neq .prim v6 v8) fun v9=>ifK v9 (some (Zq false o (.bool false) q g)) (Za (Zb .add .prim x13 (.int .i64 1)) fun v10=>WU G K L o k0 m x0 x1 x12 v10 q g)) (k0  q g)
theorem De (G:GT)(K:KT)(L:Nat)(o:HP)(k0:HP→Eff→KR) :∀ m,X4 (fun n'=>Zo G 26 o.length K YK L Oy n' (ZH YK WX o) [(0,(fun e q g=>k0 q g))]) m=fun e q g=>WU G K L o k0 m (e 0).rd (e 1).rd (e 12).rd (e 13).rd q g:=lpI rfl fun _=>by kernel_rfl
theorem Dc (G:GT)(K:KT)(L:Nat)(o:HP)(k0:HP→Eff→KR)(zn:Jb):Zo G 26 o.length K YK L OT zn (ZH YK WX o) [(0,(fun e q g=>k0 q g))]=fun e q g=>WU G K L o k0 L (e 0).rd (e 1).rd (e 12).rd (e 13).rd q g:=De G K L o k0 L
def JM (G:GT)(K:KT)(L:Nat)(x0 x1:AV)(o:HP):KR :=
  Za (Z9 o .slice (AV.ro x0)) fun v0=>Za (Z9 o .slice (AV.ro x1)) fun v1=>Za (Zb .neq .prim v0 v1) fun v2=>ifK v2 (some (Zq false o (.bool false) o none)) (Za (Z9 o .slice (AV.ro x0)) fun v3=>WU G K L o (XN G K L o) L (AV.ro x0) (AV.ro x1) v3 (.int .i64 0) o none)
theorem Ni (G:GT)(K:KT)(L:Nat)(x0 x1:AV)(o:HP):fnK G K YK L WX [x0,x1] o=JM G K L x0 x1 o:=by
 show Zo G 26 o.length K YK L GD (ZH YK WX o) (ZH YK WX o) [] (Md [x0,x1]) o none=_
 simp only [GD,Z7,Zl,Zm,Zv]
 rw [Db G K L o ,Dc G K L o (XN G K L o) _]
 kernel_rfl
theorem NE {C:Cfg}{x0 x1:AV}:RunT C XH WX [x0,x1] (fun K=>JM C.G K C.L x0 x1):=runT rfl fun _ _=>Ni ..
def ZhJ (G:GT)(K:KT)(L:Nat)(x0 x1:AV)(o:HP):KR :=
  Za (JL 6 (AV.ro x0)) fun v1=>Vb (o ++ [.cells v1 UU]) fun h0=>Za (JL 6 (AV.ro x1)) fun v3=>Vb (h0 ++ [.cells v3 UU]) fun h2=>Za (Zg 0 (.ptr (o).length 0)) fun v4=>Za (Ze h2 v4) fun v5=>Za (Zg 0 (.ptr (h0).length 0)) fun v6=>Za (Ze h2 v6) fun v7=>Za (Zb .eql .prim v5 v7) fun v8=>Qn v8 true (Za (Zg 1 (.ptr (o).length 0)) fun v9=>Za (Ze h2 v9) fun v10=>Za (Zg 1 (.ptr (h0).length 0)) fun v11=>Za (Ze h2 v11) fun v12=>Za (Zb .eql .prim v10 v12) fun v13=>some (v13,h2,none)) (some (.bool false)) h2 none fun v14 h15 f16=>Qn (AV.ro v14) true (Za (Zg 2 (.ptr (o).length 0)) fun v17=>Za (Ze h15 v17) fun v18=>Za (Zg 2 (.ptr (h0).length 0)) fun v19=>Za (Ze h15 v19) fun v20=>Za (Zb .eql .prim v18 v20) fun v21=>some (v21,h15,f16)) (some (.bool false)) h15 f16 fun v22 h23 f24=>Qn (AV.ro v22) true (Za (Zg 3 (.ptr (o).length 0)) fun v25=>Za (Ze h23 v25) fun v26=>Za (Zg 3 (.ptr (h0).length 0)) fun v27=>Za (Ze h23 v27) fun v28=>Za (Zb .eql .prim v26 v28) fun v29=>some (v29,h23,f24)) (some (.bool false)) h23 f24 fun v30 h31 f32=>Qn (AV.ro v30) true (Za (Zg 4 (.ptr (o).length 0)) fun v33=>Za (Ze h31 v33) fun v34=>Za (Zg 4 (.ptr (h0).length 0)) fun v35=>Za (Ze h31 v35) fun v36=>ZZ (K Oa [v34,v36] h31) fun v37 h38 f39=>some ((AV.ro v37),h38,(Zd o.length f32 f39))) (some (.bool false)) h31 f32 fun v40 h41 f42=>Qn (AV.ro v40) true (Za (Zg 5 (.ptr (o).length 0)) fun v43=>Za (Ze h41 v43) fun v44=>Za (Zg 5 (.ptr (h0).length 0)) fun v45=>Za (Ze h41 v45) fun v46=>ZZ (K Oa [v44,v46] h41) fun v47 h48 f49=>some ((AV.ro v47),h48,(Zd o.length f42 f49))) (some (.bool false)) h41 f42 fun v50 h51 f52=>some (Zq false o v50 h51 f52)
theorem Zqr (G:GT)(K:KT)(L:Nat)(x0 x1:AV)(o:HP):fnK G K ZwF L Zhi [x0,x1] o=ZhJ G K L x0 x1 o:=by kernel_rfl
theorem Ztk {C:Cfg}{x0 x1:AV}:RunT C EG Zhi [x0,x1] (fun K=>ZhJ C.G K C.L x0 x1):=runT rfl fun _ _=>Zqr ..
def Zqp (G:GT)(K:KT)(L:Nat)(x0:AV)(o:HP):KR :=
  Za (Zb .geq .prim (AV.ro x0) (.int .i64 (-1000000000000))) fun v0=>Qn v0 true (Za (Zb .leq .prim (AV.ro x0) (.int .i64 1000000000000)) fun v1=>some (v1,o,none)) (some (.bool false)) o none fun v2 h3 f4=>some (Zq false o v2 h3 f4)
theorem Zuh (G:GT)(K:KT)(L:Nat)(x0:AV)(o:HP):fnK G K ZzJ L ZpW [x0] o=Zqp G K L x0 o:=by kernel_rfl
theorem Zw9 {C:Cfg}{x0:AV}:RunT C ZbX ZpW [x0] (fun K=>Zqp C.G K C.L x0):=runT rfl fun _ _=>Zuh ..
def XT (G:GT)(K:KT)(L:Nat)(o:HP)(q:HP)(g:Eff):KR :=
  some (Zq false o (.int .i64 0) q g)
theorem NB (G:GT)(K:KT)(L:Nat)(o:HP) :Zo G 27 o.length K Qf L Ra (ZH Qf QO o) (ZH Qf QO o) []=fun e q g=>XT G K L o  q g:=by kernel_rfl
def Qk (G:GT)(K:KT)(L:Nat)(o:HP)(k0:HP→Eff→KR):Nat→AV→AV→AV→AV→HP→Eff→KR
  | 0,_,_,_,_,_,_=>none
  | m + 1,x2,x14,x15,x16,q,g=>Za (Zb .lss .prim x16 x15) fun v3=>ifK v3 (Za (Yy (.slice 1) x14 x16) fun v4=>Za (Ze q v4) fun v5=>ZZ (Vz K x2 [v5] q) fun v6 h7 f8=>Za (Zb .neq .prim (AV.ro v6) (.int .i64 0)) fun v9=>ifK v9 (some (Zq false o v6 h7 (Zd o.length g f8))) (Za (Zb .add .prim x16 (.int .i64 1)) fun v10=>Qk G K L o k0 m x2 x14 x15 v10 h7 (Zd o.length g f8))) (k0  q g)
theorem ND (G:GT)(K:KT)(L:Nat)(o:HP)(k0:HP→Eff→KR) :∀ m,X4 (fun n'=>Zo G 27 o.length K Qf L Lx n' (ZH Qf QO o) [(0,(fun e q g=>k0 q g))]) m=fun e q g=>Qk G K L o k0 m (e 2).rd (e 14).rd (e 15).rd (e 16).rd q g:=lpI rfl fun _=>by kernel_rfl
theorem NC (G:GT)(K:KT)(L:Nat)(o:HP)(k0:HP→Eff→KR)(zn:Jb):Zo G 27 o.length K Qf L Rb zn (ZH Qf QO o) [(0,(fun e q g=>k0 q g))]=fun e q g=>Qk G K L o k0 L (e 2).rd (e 14).rd (e 15).rd (e 16).rd q g:=ND G K L o k0 L
def Gz (G:GT)(K:KT)(L:Nat)(x0 x1 x2:AV)(o:HP):KR :=
  Za (Z9 o .slice (AV.ro x0)) fun v0=>Za (Zb .gtr .prim v0 (AV.ro x1)) fun v1=>ifK v1 (some (Zq false o (.int .i64 6) o none)) (Za (Z9 o .slice (AV.ro x0)) fun v2=>Qk G K L o (XT G K L o) L (AV.ro x2) (AV.ro x0) v2 (.int .i64 0) o none)
theorem Fw (G:GT)(K:KT)(L:Nat)(x0 x1 x2:AV)(o:HP):fnK G K Qf L QO [x0,x1,x2] o=Gz G K L x0 x1 x2 o:=by
 show Zo G 27 o.length K Qf L TT (ZH Qf QO o) (ZH Qf QO o) [] (Md [x0,x1,x2]) o none=_
 simp only [TT,Z7,Zl,Zm,Zv]
 rw [NB G K L o ,NC G K L o (XT G K L o) _]
 kernel_rfl
theorem Ba {C:Cfg}{x0 x1 x2:AV}:RunT C Gx QO [x0,x1,x2] (fun K=>Gz C.G K C.L x0 x1 x2):=runT rfl fun _ _=>Fw ..
def MO (G:GT)(K:KT)(L:Nat)(x0 x1 x2:AV)(o:HP):KR :=
  Za (JL 17 (AV.ro x0)) fun v1=>Vb (o ++ [.cells v1 WA]) fun h0=>Za (Ze h0 (AV.ro x1)) fun v2=>Za (Zg 0 (.ptr (o).length 0)) fun v3=>Za (Ze h0 v3) fun v4=>ZZ (K Yt [v2,v4] h0) fun v5 h6 f7=>Za (Zb .neq .prim (AV.ro v5) (.int .i64 0)) fun v8=>ifK v8 (some (Zq false o v5 h6 (Zd o.length none f7))) (Za (Zg 1 (.ptr (o).length 0)) fun v9=>Za (Ze h6 v9) fun v10=>ZZ (K Ql [v10,(.int .i64 0),(.int .i64 1000)] h6) fun v11 h12 f13=>Za (X8 .not (AV.ro v11)) fun v14=>ifK v14 (some (Zq false o (.int .i64 2) h12 (Zd o.length (Zd o.length none f7) f13))) (Za (Zp h12 17 (.ptr (o).length 0)) fun v15=>ZZ (K Dq [v15] h12) fun v16 h17 f18=>Za (Zb .neq .prim (AV.ro v16) (.int .i64 0)) fun v19=>ifK v19 (some (Zq false o v16 h17 (Zd o.length (Zd o.length (Zd o.length none f7) f13) f18))) (Za (Zp h17 13 (AV.ro x2)) fun v20=>Za (Zg 4 (.ptr (o).length 0)) fun v21=>Za (Zp h17 13 v21) fun v22=>ZZ (K Dp [v20,v22] h17) fun v23 h24 f25=>some (Zq false o v23 h24 (Zd o.length (Zd o.length (Zd o.length (Zd o.length none f7) f13) f18) f25)))))
theorem Ze9 (G:GT)(K:KT)(L:Nat)(x0 x1 x2:AV)(o:HP):fnK G K ZkR L Du [x0,x1,x2] o=MO G K L x0 x1 x2 o:=by kernel_rfl
theorem NY {C:Cfg}{x0 x1 x2:AV}:RunT C Kl Du [x0,x1,x2] (fun K=>MO C.G K C.L x0 x1 x2):=runT rfl fun _ _=>Ze9 ..
def WZ (G:GT)(K:KT)(L:Nat)(o:HP)(q:HP)(g:Eff):KR :=
  some (Zq false o (.int .i64 0) q g)
theorem Mk (G:GT)(K:KT)(L:Nat)(o:HP) :Zo G 27 o.length K Ym L K7 (ZH Ym Y5 o) (ZH Ym Y5 o) []=fun e q g=>WZ G K L o  q g:=by kernel_rfl
def Yv (G:GT)(K:KT)(L:Nat)(o:HP)(k0:HP→Eff→KR):Nat→AV→AV→AV→AV→HP→Eff→KR
  | 0,_,_,_,_,_,_=>none
  | m + 1,x2,x14,x15,x16,q,g=>Za (Zb .lss .prim x16 x15) fun v3=>ifK v3 (Za (Yy (.slice 17) x14 x16) fun v4=>Za (Zp q 17 v4) fun v5=>Vb (q ++ [.cells [(.str []),(.int .i64 0),(.own 2 []),(.int .i64 0),(.str []),(.int .i64 0),(.int .i64 0),(.int .i64 0),(.int .i64 0),(.own 1 []),(.own 1 []),(.int .i64 0),(.int .i64 0),(.int .i64 0),(.int .i64 0),(.own 1 []),(.own 1 [])] WA]) fun h6=>JJ (stV o.length 17 (.ptr (q).length 0) v5 h6 g) fun h7 f8=>Za (Zp h7 17 (.ptr (q).length 0)) fun v9=>ZZ (Vz K x2 [v9] h7) fun v10 h11 f12=>Za (Zb .neq .prim (AV.ro v10) (.int .i64 0)) fun v13=>ifK v13 (some (Zq false o v10 h11 (Zd o.length f8 f12))) (Za (Zb .add .prim x16 (.int .i64 1)) fun v14=>Yv G K L o k0 m x2 x14 x15 v14 h11 (Zd o.length f8 f12))) (k0  q g)
theorem Mm (G:GT)(K:KT)(L:Nat)(o:HP)(k0:HP→Eff→KR) :∀ m,X4 (fun n'=>Zo G 27 o.length K Ym L Kc n' (ZH Ym Y5 o) [(0,(fun e q g=>k0 q g))]) m=fun e q g=>Yv G K L o k0 m (e 2).rd (e 14).rd (e 15).rd (e 16).rd q g:=lpI rfl fun _=>by kernel_rfl
theorem Ml (G:GT)(K:KT)(L:Nat)(o:HP)(k0:HP→Eff→KR)(zn:Jb):Zo G 27 o.length K Ym L K8 zn (ZH Ym Y5 o) [(0,(fun e q g=>k0 q g))]=fun e q g=>Yv G K L o k0 L (e 2).rd (e 14).rd (e 15).rd (e 16).rd q g:=Mm G K L o k0 L
def Vf (G:GT)(K:KT)(L:Nat)(x0 x1 x2:AV)(o:HP):KR :=
  Za (Z9 o .slice (AV.ro x0)) fun v0=>Za (Zb .gtr .prim v0 (AV.ro x1)) fun v1=>ifK v1 (some (Zq false o (.int .i64 6) o none)) (Za (Z9 o .slice (AV.ro x0)) fun v2=>Yv G K L o (WZ G K L o) L (AV.ro x2) (AV.ro x0) v2 (.int .i64 0) o none)
theorem Rj (G:GT)(K:KT)(L:Nat)(x0 x1 x2:AV)(o:HP):fnK G K Ym L Y5 [x0,x1,x2] o=Vf G K L x0 x1 x2 o:=by
 show Zo G 27 o.length K Ym L J6 (ZH Ym Y5 o) (ZH Ym Y5 o) [] (Md [x0,x1,x2]) o none=_
 simp only [J6,Z7,Zl,Zm,Zv]
 rw [Mk G K L o ,Ml G K L o (WZ G K L o) _]
 kernel_rfl
theorem Gu {C:Cfg}{x0 x1 x2:AV}:RunT C Vd Y5 [x0,x1,x2] (fun K=>Vf C.G K C.L x0 x1 x2):=runT rfl fun _ _=>Rj ..
def MP (G:GT)(K:KT)(L:Nat)(x0 x1:AV)(o:HP):KR :=
  Za (JL 3 (AV.ro x0)) fun v1=>Vb (o ++ [.cells v1 VQ]) fun h0=>Za (Ze h0 (AV.ro x1)) fun v2=>Za (Zg 0 (.ptr (o).length 0)) fun v3=>Za (Ze h0 v3) fun v4=>ZZ (K Yt [v2,v4] h0) fun v5 h6 f7=>Za (Zb .neq .prim (AV.ro v5) (.int .i64 0)) fun v8=>ifK v8 (some (Zq false o v5 h6 (Zd o.length none f7))) (Za (Zg 1 (.ptr (o).length 0)) fun v9=>Za (Ze h6 v9) fun v10=>ZZ (K Ql [v10,(.int .i64 1),(.int .i64 1000)] h6) fun v11 h12 f13=>Za (X8 .not (AV.ro v11)) fun v14=>ifK v14 (some (Zq false o (.int .i64 2) h12 (Zd o.length (Zd o.length none f7) f13))) (Za (Zg 2 (.ptr (o).length 0)) fun v15=>Za (Ze h12 v15) fun v16=>Za (Zb .lss .prim v16 (.int .i64 1)) fun v17=>Qn v17 false (Za (Zg 2 (.ptr (o).length 0)) fun v18=>Za (Ze h12 v18) fun v19=>Za (Zb .gtr .prim v19 (.int .i64 3)) fun v20=>some (v20,h12,(Zd o.length (Zd o.length none f7) f13))) (some (.bool true)) h12 (Zd o.length (Zd o.length none f7) f13) fun v21 h22 f23=>ifK (AV.ro v21) (some (Zq false o (.int .i64 1) h22 f23)) (some (Zq false o (.int .i64 0) h22 f23))))
theorem ZeA (G:GT)(K:KT)(L:Nat)(x0 x1:AV)(o:HP):fnK G K ZkS L Dv [x0,x1] o=MP G K L x0 x1 o:=by kernel_rfl
theorem NZ {C:Cfg}{x0 x1:AV}:RunT C Km Dv [x0,x1] (fun K=>MP C.G K C.L x0 x1):=runT rfl fun _ _=>ZeA ..
def Qx (G:GT)(K:KT)(L:Nat)(o:HP)(q:HP)(g:Eff):KR :=
  some (Zq false o (.int .i64 0) q g)
theorem Rk (G:GT)(K:KT)(L:Nat)(o:HP) :Zo G 27 o.length K Y1 L Ht (ZH Y1 Wy o) (ZH Y1 Wy o) []=fun e q g=>Qx G K L o  q g:=by kernel_rfl
def Y7 (G:GT)(K:KT)(L:Nat)(o:HP)(k0:HP→Eff→KR):Nat→AV→AV→AV→AV→HP→Eff→KR
  | 0,_,_,_,_,_,_=>none
  | m + 1,x2,x14,x15,x16,q,g=>Za (Zb .lss .prim x16 x15) fun v3=>ifK v3 (Za (Yy (.slice 3) x14 x16) fun v4=>Za (Zp q 3 v4) fun v5=>Vb (q ++ [.cells [(.str []),(.int .i64 0),(.int .i64 0)] VQ]) fun h6=>JJ (stV o.length 3 (.ptr (q).length 0) v5 h6 g) fun h7 f8=>Za (Zp h7 3 (.ptr (q).length 0)) fun v9=>ZZ (Vz K x2 [v9] h7) fun v10 h11 f12=>Za (Zb .neq .prim (AV.ro v10) (.int .i64 0)) fun v13=>ifK v13 (some (Zq false o v10 h11 (Zd o.length f8 f12))) (Za (Zb .add .prim x16 (.int .i64 1)) fun v14=>Y7 G K L o k0 m x2 x14 x15 v14 h11 (Zd o.length f8 f12))) (k0  q g)
theorem Rm (G:GT)(K:KT)(L:Nat)(o:HP)(k0:HP→Eff→KR) :∀ m,X4 (fun n'=>Zo G 27 o.length K Y1 L GA n' (ZH Y1 Wy o) [(0,(fun e q g=>k0 q g))]) m=fun e q g=>Y7 G K L o k0 m (e 2).rd (e 14).rd (e 15).rd (e 16).rd q g:=lpI rfl fun _=>by kernel_rfl
theorem Rl (G:GT)(K:KT)(L:Nat)(o:HP)(k0:HP→Eff→KR)(zn:Jb):Zo G 27 o.length K Y1 L Hu zn (ZH Y1 Wy o) [(0,(fun e q g=>k0 q g))]=fun e q g=>Y7 G K L o k0 L (e 2).rd (e 14).rd (e 15).rd (e 16).rd q g:=Rm G K L o k0 L
def VE (G:GT)(K:KT)(L:Nat)(x0 x1 x2:AV)(o:HP):KR :=
  Za (Z9 o .slice (AV.ro x0)) fun v0=>Za (Zb .gtr .prim v0 (AV.ro x1)) fun v1=>ifK v1 (some (Zq false o (.int .i64 6) o none)) (Za (Z9 o .slice (AV.ro x0)) fun v2=>Y7 G K L o (Qx G K L o) L (AV.ro x2) (AV.ro x0) v2 (.int .i64 0) o none)
theorem BZ (G:GT)(K:KT)(L:Nat)(x0 x1 x2:AV)(o:HP):fnK G K Y1 L Wy [x0,x1,x2] o=VE G K L x0 x1 x2 o:=by
 show Zo G 27 o.length K Y1 L U6 (ZH Y1 Wy o) (ZH Y1 Wy o) [] (Md [x0,x1,x2]) o none=_
 simp only [U6,Z7,Zl,Zm,Zv]
 rw [Rk G K L o ,Rl G K L o (Qx G K L o) _]
 kernel_rfl
theorem IM {C:Cfg}{x0 x1 x2:AV}:RunT C VA Wy [x0,x1,x2] (fun K=>VE C.G K C.L x0 x1 x2):=runT rfl fun _ _=>BZ ..
def MQ (G:GT)(K:KT)(L:Nat)(x0 x1:AV)(o:HP):KR :=
  Za (JL 3 (AV.ro x0)) fun v1=>Vb (o ++ [.cells v1 UT]) fun h0=>Za (Ze h0 (AV.ro x1)) fun v2=>Za (Zg 0 (.ptr (o).length 0)) fun v3=>Za (Ze h0 v3) fun v4=>ZZ (K Yt [v2,v4] h0) fun v5 h6 f7=>Za (Zb .neq .prim (AV.ro v5) (.int .i64 0)) fun v8=>ifK v8 (some (Zq false o v5 h6 (Zd o.length none f7))) (Za (Zg 1 (.ptr (o).length 0)) fun v9=>Za (Ze h6 v9) fun v10=>ZZ (K Ql [v10,(.int .i64 1),(.int .i64 1000)] h6) fun v11 h12 f13=>Za (X8 .not (AV.ro v11)) fun v14=>Qn v14 false (Za (Zg 2 (.ptr (o).length 0)) fun v15=>Za (Ze h12 v15) fun v16=>ZZ (K Ql [v16,(.int .i64 1),(.int .i64 1000)] h12) fun v17 h18 f19=>Za (X8 .not (AV.ro v17)) fun v20=>some (v20,h18,(Zd o.length (Zd o.length (Zd o.length none f7) f13) f19))) (some (.bool true)) h12 (Zd o.length (Zd o.length none f7) f13) fun v21 h22 f23=>ifK (AV.ro v21) (some (Zq false o (.int .i64 2) h22 f23)) (some (Zq false o (.int .i64 0) h22 f23)))
theorem ZeB (G:GT)(K:KT)(L:Nat)(x0 x1:AV)(o:HP):fnK G K ZkT L Dw [x0,x1] o=MQ G K L x0 x1 o:=by kernel_rfl
theorem Sa {C:Cfg}{x0 x1:AV}:RunT C Kn Dw [x0,x1] (fun K=>MQ C.G K C.L x0 x1):=runT rfl fun _ _=>ZeB ..
def Q7 (G:GT)(K:KT)(L:Nat)(o:HP)(q:HP)(g:Eff):KR :=
  some (Zq false o (.int .i64 0) q g)
theorem RI (G:GT)(K:KT)(L:Nat)(o:HP) :Zo G 27 o.length K Y3 L I8 (ZH Y3 WI o) (ZH Y3 WI o) []=fun e q g=>Q7 G K L o  q g:=by kernel_rfl
def YC (G:GT)(K:KT)(L:Nat)(o:HP)(k0:HP→Eff→KR):Nat→AV→AV→AV→AV→HP→Eff→KR
  | 0,_,_,_,_,_,_=>none
  | m + 1,x2,x14,x15,x16,q,g=>Za (Zb .lss .prim x16 x15) fun v3=>ifK v3 (Za (Yy (.slice 3) x14 x16) fun v4=>Za (Zp q 3 v4) fun v5=>Vb (q ++ [.cells [(.str []),(.int .i64 0),(.int .i64 0)] UT]) fun h6=>JJ (stV o.length 3 (.ptr (q).length 0) v5 h6 g) fun h7 f8=>Za (Zp h7 3 (.ptr (q).length 0)) fun v9=>ZZ (Vz K x2 [v9] h7) fun v10 h11 f12=>Za (Zb .neq .prim (AV.ro v10) (.int .i64 0)) fun v13=>ifK v13 (some (Zq false o v10 h11 (Zd o.length f8 f12))) (Za (Zb .add .prim x16 (.int .i64 1)) fun v14=>YC G K L o k0 m x2 x14 x15 v14 h11 (Zd o.length f8 f12))) (k0  q g)
theorem RL (G:GT)(K:KT)(L:Nat)(o:HP)(k0:HP→Eff→KR) :∀ m,X4 (fun n'=>Zo G 27 o.length K Y3 L Hq n' (ZH Y3 WI o) [(0,(fun e q g=>k0 q g))]) m=fun e q g=>YC G K L o k0 m (e 2).rd (e 14).rd (e 15).rd (e 16).rd q g:=lpI rfl fun _=>by kernel_rfl
theorem RJ (G:GT)(K:KT)(L:Nat)(o:HP)(k0:HP→Eff→KR)(zn:Jb):Zo G 27 o.length K Y3 L I9 zn (ZH Y3 WI o) [(0,(fun e q g=>k0 q g))]=fun e q g=>YC G K L o k0 L (e 2).rd (e 14).rd (e 15).rd (e 16).rd q g:=RL G K L o k0 L
def VU (G:GT)(K:KT)(L:Nat)(x0 x1 x2:AV)(o:HP):KR :=
  Za (Z9 o .slice (AV.ro x0)) fun v0=>Za (Zb .gtr .prim v0 (AV.ro x1)) fun v1=>ifK v1 (some (Zq false o (.int .i64 6) o none)) (Za (Z9 o .slice (AV.ro x0)) fun v2=>YC G K L o (Q7 G K L o) L (AV.ro x2) (AV.ro x0) v2 (.int .i64 0) o none)
theorem Dz (G:GT)(K:KT)(L:Nat)(x0 x1 x2:AV)(o:HP):fnK G K Y3 L WI [x0,x1,x2] o=VU G K L x0 x1 x2 o:=by
 show Zo G 27 o.length K Y3 L Kh (ZH Y3 WI o) (ZH Y3 WI o) [] (Md [x0,x1,x2]) o none=_
 simp only [Kh,Z7,Zl,Zm,Zv]
 rw [RI G K L o ,RJ G K L o (Q7 G K L o) _]
 kernel_rfl
theorem Oz {C:Cfg}{x0 x1 x2:AV}:RunT C VT WI [x0,x1,x2] (fun K=>VU C.G K C.L x0 x1 x2):=runT rfl fun _ _=>Dz ..
def TF (G:GT)(K:KT)(L:Nat)(x0 x1:AV)(o:HP):KR :=
  Za (JL 4 (AV.ro x0)) fun v1=>Vb (o ++ [.cells v1 WH]) fun h0=>Za (Ze h0 (AV.ro x1)) fun v2=>Za (Zg 0 (.ptr (o).length 0)) fun v3=>Za (Ze h0 v3) fun v4=>ZZ (K Yt [v2,v4] h0) fun v5 h6 f7=>Za (Zb .neq .prim (AV.ro v5) (.int .i64 0)) fun v8=>ifK v8 (some (Zq false o v5 h6 (Zd o.length none f7))) (Za (Zp h6 4 (.ptr (o).length 0)) fun v9=>ZZ (K Px [v9] h6) fun v10 h11 f12=>some (Zq false o v10 h11 (Zd o.length (Zd o.length none f7) f12)))
theorem Zcp (G:GT)(K:KT)(L:Nat)(x0 x1:AV)(o:HP):fnK G K Zjo L Be [x0,x1] o=TF G K L x0 x1 o:=by kernel_rfl
theorem Nr {C:Cfg}{x0 x1:AV}:RunT C U1 Be [x0,x1] (fun K=>TF C.G K C.L x0 x1):=runT rfl fun _ _=>Zcp ..
def QJ (G:GT)(K:KT)(L:Nat)(o:HP)(q:HP)(g:Eff):KR :=
  some (Zq false o (.int .i64 0) q g)
theorem Bn (G:GT)(K:KT)(L:Nat)(o:HP) :Zo G 27 o.length K YB L Ow (ZH YB WQ o) (ZH YB WQ o) []=fun e q g=>QJ G K L o  q g:=by kernel_rfl
def YN (G:GT)(K:KT)(L:Nat)(o:HP)(k0:HP→Eff→KR):Nat→AV→AV→AV→AV→HP→Eff→KR
  | 0,_,_,_,_,_,_=>none
  | m + 1,x2,x14,x15,x16,q,g=>Za (Zb .lss .prim x16 x15) fun v3=>ifK v3 (Za (Yy (.slice 4) x14 x16) fun v4=>Za (Zp q 4 v4) fun v5=>Vb (q ++ [.cells [(.str []),(.own 2 []),(.own 2 []),(.own 21 [])] WH]) fun h6=>JJ (stV o.length 4 (.ptr (q).length 0) v5 h6 g) fun h7 f8=>Za (Zp h7 4 (.ptr (q).length 0)) fun v9=>ZZ (Vz K x2 [v9] h7) fun v10 h11 f12=>Za (Zb .neq .prim (AV.ro v10) (.int .i64 0)) fun v13=>ifK v13 (some (Zq false o v10 h11 (Zd o.length f8 f12))) (Za (Zb .add .prim x16 (.int .i64 1)) fun v14=>YN G K L o k0 m x2 x14 x15 v14 h11 (Zd o.length f8 f12))) (k0  q g)
theorem Bp (G:GT)(K:KT)(L:Nat)(o:HP)(k0:HP→Eff→KR) :∀ m,X4 (fun n'=>Zo G 27 o.length K YB L IA n' (ZH YB WQ o) [(0,(fun e q g=>k0 q g))]) m=fun e q g=>YN G K L o k0 m (e 2).rd (e 14).rd (e 15).rd (e 16).rd q g:=lpI rfl fun _=>by kernel_rfl
theorem Bo (G:GT)(K:KT)(L:Nat)(o:HP)(k0:HP→Eff→KR)(zn:Jb):Zo G 27 o.length K YB L Ox zn (ZH YB WQ o) [(0,(fun e q g=>k0 q g))]=fun e q g=>YN G K L o k0 L (e 2).rd (e 14).rd (e 15).rd (e 16).rd q g:=Bp G K L o k0 L
def Jw (G:GT)(K:KT)(L:Nat)(x0 x1 x2:AV)(o:HP):KR :=
  Za (Z9 o .slice (AV.ro x0)) fun v0=>Za (Zb .gtr .prim v0 (AV.ro x1)) fun v1=>ifK v1 (some (Zq false o (.int .i64 6) o none)) (Za (Z9 o .slice (AV.ro x0)) fun v2=>YN G K L o (QJ G K L o) L (AV.ro x2) (AV.ro x0) v2 (.int .i64 0) o none)
theorem Pb (G:GT)(K:KT)(L:Nat)(x0 x1 x2:AV)(o:HP):fnK G K YB L WQ [x0,x1,x2] o=Jw G K L x0 x1 x2 o:=by
 show Zo G 27 o.length K YB L KU (ZH YB WQ o) (ZH YB WQ o) [] (Md [x0,x1,x2]) o none=_
 simp only [KU,Z7,Zl,Zm,Zv]
 rw [Bn G K L o ,Bo G K L o (QJ G K L o) _]
 kernel_rfl
theorem Tm {C:Cfg}{x0 x1 x2:AV}:RunT C Jt WQ [x0,x1,x2] (fun K=>Jw C.G K C.L x0 x1 x2):=runT rfl fun _ _=>Pb ..
def Bq (G:GT)(K:KT)(L:Nat)(x0 x1:AV)(o:HP):KR :=
  Za (JL 5 (AV.ro x0)) fun v1=>Vb (o ++ [.cells v1 U0]) fun h0=>Za (Zp h0 13 (AV.ro x1)) fun v2=>Za (Zp h0 5 (.ptr (o).length 0)) fun v3=>ZZ (K Av [v2,v3] h0) fun v4 h5 f6=>some (Zq false o v4 h5 (Zd o.length none f6))
theorem Zcq (G:GT)(K:KT)(L:Nat)(x0 x1:AV)(o:HP):fnK G K Zjp L Bf [x0,x1] o=Bq G K L x0 x1 o:=by kernel_rfl
theorem Zfo {C:Cfg}{x0 x1:AV}:RunT C Tv Bf [x0,x1] (fun K=>Bq C.G K C.L x0 x1):=runT rfl fun _ _=>Zcq ..
def XX (G:GT)(K:KT)(L:Nat)(o:HP)(q:HP)(g:Eff):KR :=
  some (Zq false o (.int .i64 0) q g)
theorem D6 (G:GT)(K:KT)(L:Nat)(o:HP) :Zo G 27 o.length K Wz L TL (ZH Wz Qi o) (ZH Wz Qi o) []=fun e q g=>XX G K L o  q g:=by kernel_rfl
def Q5 (G:GT)(K:KT)(L:Nat)(o:HP)(k0:HP→Eff→KR):Nat→AV→AV→AV→AV→HP→Eff→KR
  | 0,_,_,_,_,_,_=>none
  | m + 1,x2,x14,x15,x16,q,g=>Za (Zb .lss .prim x16 x15) fun v3=>ifK v3 (Za (Yy (.slice 5) x14 x16) fun v4=>Za (Zp q 5 v4) fun v5=>Vb (q ++ [.cells [(.str []),(.own 1 []),(.int .i64 0),(.int .i64 0),(.int .i64 0)] U0]) fun h6=>JJ (stV o.length 5 (.ptr (q).length 0) v5 h6 g) fun h7 f8=>Za (Zp h7 5 (.ptr (q).length 0)) fun v9=>ZZ (Vz K x2 [v9] h7) fun v10 h11 f12=>Za (Zb .neq .prim (AV.ro v10) (.int .i64 0)) fun v13=>ifK v13 (some (Zq false o v10 h11 (Zd o.length f8 f12))) (Za (Zb .add .prim x16 (.int .i64 1)) fun v14=>Q5 G K L o k0 m x2 x14 x15 v14 h11 (Zd o.length f8 f12))) (k0  q g)
theorem D8 (G:GT)(K:KT)(L:Nat)(o:HP)(k0:HP→Eff→KR) :∀ m,X4 (fun n'=>Zo G 27 o.length K Wz L OO n' (ZH Wz Qi o) [(0,(fun e q g=>k0 q g))]) m=fun e q g=>Q5 G K L o k0 m (e 2).rd (e 14).rd (e 15).rd (e 16).rd q g:=lpI rfl fun _=>by kernel_rfl
theorem D7 (G:GT)(K:KT)(L:Nat)(o:HP)(k0:HP→Eff→KR)(zn:Jb):Zo G 27 o.length K Wz L TM zn (ZH Wz Qi o) [(0,(fun e q g=>k0 q g))]=fun e q g=>Q5 G K L o k0 L (e 2).rd (e 14).rd (e 15).rd (e 16).rd q g:=D8 G K L o k0 L
def Ik (G:GT)(K:KT)(L:Nat)(x0 x1 x2:AV)(o:HP):KR :=
  Za (Z9 o .slice (AV.ro x0)) fun v0=>Za (Zb .gtr .prim v0 (AV.ro x1)) fun v1=>ifK v1 (some (Zq false o (.int .i64 6) o none)) (Za (Z9 o .slice (AV.ro x0)) fun v2=>Q5 G K L o (XX G K L o) L (AV.ro x2) (AV.ro x0) v2 (.int .i64 0) o none)
theorem N9 (G:GT)(K:KT)(L:Nat)(x0 x1 x2:AV)(o:HP):fnK G K Wz L Qi [x0,x1,x2] o=Ik G K L x0 x1 x2 o:=by
 show Zo G 27 o.length K Wz L Ih (ZH Wz Qi o) (ZH Wz Qi o) [] (Md [x0,x1,x2]) o none=_
 simp only [Ih,Z7,Zl,Zm,Zv]
 rw [D6 G K L o ,D7 G K L o (XX G K L o) _]
 kernel_rfl
theorem EC {C:Cfg}{x0 x1 x2:AV}:RunT C H6 Qi [x0,x1,x2] (fun K=>Ik C.G K C.L x0 x1 x2):=runT rfl fun _ _=>N9 ..
def Zbo (G:GT)(K:KT)(L:Nat)(x0:AV)(o:HP):KR :=
  Za (JL 13 (AV.ro x0)) fun v1=>Vb (o ++ [.cells v1 Zf]) fun h0=>Vb (h0 ++ [.map []]) fun h2=>Vb (h2 ++ [.cells [.nilm] Qm]) fun h3=>JJ (Zla o.length (.ptr (h2).length 0) (.map (h0).length) h3 none) fun h4 f5=>Za (Zg 12 (.ptr (o).length 0)) fun v6=>Za (Ze h4 v6) fun v7=>ZZ (K Ku [v7,(.int .i64 32),(.fn IP [] [(.ptr (h2).length 0),(.ptr (o).length 0)])] h4) fun v8 h9 f10=>some (Zq false o v8 h9 (Zd o.length f5 f10))
theorem ZlB (G:GT)(K:KT)(L:Nat)(x0:AV)(o:HP):fnK G K Ztb L Zap [x0] o=Zbo G K L x0 o:=by kernel_rfl
theorem Zo5 {C:Cfg}{x0:AV}:RunT C Zaa Zap [x0] (fun K=>Zbo C.G K C.L x0):=runT rfl fun _ _=>ZlB ..
def Ji (G:GT)(K:KT)(L:Nat)(o:HP)(q:HP)(g:Eff):KR :=
  some (Zq false o (.int .i64 0) q g)
theorem Zcu (G:GT)(K:KT)(L:Nat)(o:HP) :Zo G 60 o.length K Vo L EQ (ZH Vo Jv o) (ZH Vo Jv o) []=fun e q g=>Ji G K L o  q g:=by kernel_rfl
def V4 (G:GT)(K:KT)(L:Nat)(o:HP)(k0:HP→Eff→KR):Nat→AV→AV→HP→Eff→KR
  | 0,_,_,_,_=>none
  | m + 1,x1,x3,q,g=>Za (Zg 2 x1) fun v22=>Za (Ze q v22) fun v23=>Za (Z9 q .slice v23) fun v24=>Za (Zb .lss .prim x3 v24) fun v25=>ifK v25 (Za (Zg 2 x1) fun v26=>Za (Ze q v26) fun v27=>Za (Yy (.slice 2) v27 x3) fun v28=>Za (Zp q 2 v28) fun v29=>Vb (q ++ [.cells [(.int .i64 0),(.int .i64 0)] Pm]) fun h30=>JJ (stV o.length 2 (.ptr (q).length 0) v29 h30 g) fun h31 f32=>Za (Zg 0 (.ptr (q).length 0)) fun v33=>Za (Ze h31 v33) fun v34=>Za (Zg 3 x1) fun v35=>Za (Ze h31 v35) fun v36=>Za (Zb .sub .prim v36 (.int .i64 1)) fun v37=>ZZ (K QN [v34,(.int .i64 0),v37] h31) fun v38 h39 f40=>Za (X8 .not (AV.ro v38)) fun v41=>Qn v41 false (Za (Zg 1 (.ptr (q).length 0)) fun v42=>Za (Ze h39 v42) fun v43=>ZZ (K QN [v43,(.int .i64 0),(.int .i64 1000)] h39) fun v44 h45 f46=>Za (X8 .not (AV.ro v44)) fun v47=>some (v47,h45,(Zd o.length (Zd o.length f32 f40) f46))) (some (.bool true)) h39 (Zd o.length f32 f40) fun v48 h49 f50=>ifK (AV.ro v48) (some (Zq false o (.int .i64 2) h49 f50)) (Za (Zb .gtr .prim x3 (.int .i64 0)) fun v51=>Qn v51 true (Za (Zg 0 (.ptr (q).length 0)) fun v52=>Za (Ze h49 v52) fun v53=>Za (Zg 2 x1) fun v54=>Za (Ze h49 v54) fun v55=>Za (Zb .sub .prim x3 (.int .i64 1)) fun v56=>Za (Yy (.slice 2) v55 v56) fun v57=>Za (Zg 0 v57) fun v58=>Za (Ze h49 v58) fun v59=>Za (Zb .leq .prim v53 v59) fun v60=>some (v60,h49,f50)) (some (.bool false)) h49 f50 fun v61 h62 f63=>ifK (AV.ro v61) (some (Zq false o (.int .i64 12) h62 f63)) (Za (Zb .add .prim x3 (.int .i64 1)) fun v64=>V4 G K L o k0 m x1 v64 h62 f63))) (k0  q g)
theorem Zcw (G:GT)(K:KT)(L:Nat)(o:HP)(k0:HP→Eff→KR) :∀ m,X4 (fun n'=>Zo G 60 o.length K Vo L NQ n' (ZH Vo Jv o) [(0,(fun e q g=>k0 q g))]) m=fun e q g=>V4 G K L o k0 m (e 1).rd (e 3).rd q g:=lpI rfl fun _=>by kernel_rfl
theorem Zcv (G:GT)(K:KT)(L:Nat)(o:HP)(k0:HP→Eff→KR)(zn:Jb):Zo G 60 o.length K Vo L ER zn (ZH Vo Jv o) [(0,(fun e q g=>k0 q g))]=fun e q g=>V4 G K L o k0 L (e 1).rd (e 3).rd q g:=Zcw G K L o k0 L
def BR (G:GT)(K:KT)(L:Nat)(x0:AV)(o:HP):KR :=
  Za (JL 17 (AV.ro x0)) fun v1=>Vb (o ++ [.cells v1 WA]) fun h0=>Za (Zg 2 (.ptr (o).length 0)) fun v2=>Za (Ze h0 v2) fun v3=>Za (Z9 h0 .slice v3) fun v4=>Za (Zb .eql .prim v4 (.int .i64 0)) fun v5=>ifK v5 (Za (Zg 3 (.ptr (o).length 0)) fun v6=>Za (Ze h0 v6) fun v7=>Za (Zb .eql .prim v7 (.int .i64 0)) fun v8=>ZZ (K YH [v8,(.int .i64 1)] h0) fun v9 h10 f11=>some (Zq false o v9 h10 (Zd o.length none f11))) (Za (Zg 2 (.ptr (o).length 0)) fun v12=>Za (Ze h0 v12) fun v13=>Za (Z9 h0 .slice v13) fun v14=>Za (Zb .gtr .prim v14 (.int .i64 20)) fun v15=>ifK v15 (some (Zq false o (.int .i64 6) h0 none)) (Za (Zg 3 (.ptr (o).length 0)) fun v16=>Za (Ze h0 v16) fun v17=>ZZ (K QN [v17,(.int .i64 1),(.int .i64 1000000000)] h0) fun v18 h19 f20=>Za (X8 .not (AV.ro v18)) fun v21=>ifK v21 (some (Zq false o (.int .i64 2) h19 (Zd o.length none f20))) (V4 G K L o (Ji G K L o) L (.ptr (o).length 0) (.int .i64 0) h19 (Zd o.length none f20))))
theorem ZiC (G:GT)(K:KT)(L:Nat)(x0:AV)(o:HP):fnK G K Vo L Jv [x0] o=BR G K L x0 o:=by
 show Zo G 60 o.length K Vo L Ec (ZH Vo Jv o) (ZH Vo Jv o) [] (Md [x0]) o none=_
 simp only [Ec,Z7,Zl,Zm,Zv]
 rw [Zcu G K L o ,Zcv G K L o (Ji G K L o) _]
 kernel_rfl
theorem ZkW {C:Cfg}{x0:AV}:RunT C Sg Jv [x0] (fun K=>BR C.G K C.L x0):=runT rfl fun _ _=>ZiC ..
def ZeI (G:GT)(K:KT)(L:Nat)(x0:AV)(o:HP):KR :=
  Za (JL 6 (AV.ro x0)) fun v1=>Vb (o ++ [.cells v1 UU]) fun h0=>Za (Zp h0 6 (.ptr (o).length 0)) fun v2=>ZZ (K Zad [v2] h0) fun v3 h4 f5=>Za (X8 .not (AV.ro v3)) fun v6=>ifK v6 (some (Zq false o (.int .i64 1) h4 (Zd o.length none f5))) (Za (Zg 0 (.ptr (o).length 0)) fun v7=>Za (Ze h4 v7) fun v8=>Za (Zb .eql .prim v8 (.int .i64 1)) fun v9=>ifK v9 (Za (Zg 1 (.ptr (o).length 0)) fun v10=>Za (Ze h4 v10) fun v11=>ZZ (K VB [v11,(.int .i64 0),(.int .i64 1000000000)] h4) fun v12 h13 f14=>Za (X8 .not (AV.ro v12)) fun v15=>ifK v15 (some (Zq false o (.int .i64 2) h13 (Zd o.length (Zd o.length none f5) f14))) (some (Zq false o (.int .i64 0) h13 (Zd o.length (Zd o.length none f5) f14)))) (Za (Zb .eql .prim v8 (.int .i64 2)) fun v16=>ifK v16 (Za (Zg 1 (.ptr (o).length 0)) fun v17=>Za (Ze h4 v17) fun v18=>Za (Zg 2 (.ptr (o).length 0)) fun v19=>Za (Ze h4 v19) fun v20=>ZZ (K VB [v18,(.int .i64 0),v20] h4) fun v21 h22 f23=>Qn (AV.ro v21) true (Za (Zg 2 (.ptr (o).length 0)) fun v24=>Za (Ze h22 v24) fun v25=>Za (Zb .leq .prim v25 (.int .i64 1000000000)) fun v26=>some (v26,h22,(Zd o.length (Zd o.length none f5) f23))) (some (.bool false)) h22 (Zd o.length (Zd o.length none f5) f23) fun v27 h28 f29=>Za (X8 .not (AV.ro v27)) fun v30=>ifK v30 (some (Zq false o (.int .i64 2) h28 f29)) (some (Zq false o (.int .i64 0) h28 f29))) (Za (Zb .eql .prim v8 (.int .i64 3)) fun v31=>ifK v31 (Za (Zp h4 6 (.ptr (o).length 0)) fun v32=>ZZ (K ZdC [v32] h4) fun v33 h34 f35=>some (Zq false o v33 h34 (Zd o.length (Zd o.length none f5) f35))) (Za (Zb .eql .prim v8 (.int .i64 4)) fun v36=>ifK v36 (Za (Zg 3 (.ptr (o).length 0)) fun v37=>Za (Ze h4 v37) fun v38=>ZZ (K VB [v38,(.int .i64 1),(.int .i64 20)] h4) fun v39 h40 f41=>Qn (AV.ro v39) true (Za (Zg 1 (.ptr (o).length 0)) fun v42=>Za (Ze h40 v42) fun v43=>Za (Zg 2 (.ptr (o).length 0)) fun v44=>Za (Ze h40 v44) fun v45=>ZZ (K VB [v43,(.int .i64 0),v45] h40) fun v46 h47 f48=>some ((AV.ro v46),h47,(Zd o.length (Zd o.length (Zd o.length none f5) f41) f48))) (some (.bool false)) h40 (Zd o.length (Zd o.length none f5) f41) fun v49 h50 f51=>Qn (AV.ro v49) true (Za (Zg 2 (.ptr (o).length 0)) fun v52=>Za (Ze h50 v52) fun v53=>Za (Zb .leq .prim v53 (.int .i64 1000000)) fun v54=>some (v54,h50,f51)) (some (.bool false)) h50 f51 fun v55 h56 f57=>Za (X8 .not (AV.ro v55)) fun v58=>ifK v58 (some (Zq false o (.int .i64 2) h56 f57)) (some (Zq false o (.int .i64 0) h56 f57))) (Za (Zb .eql .prim v8 (.int .i64 5)) fun v59=>ifK v59 (Za (Zg 1 (.ptr (o).length 0)) fun v60=>Za (Ze h4 v60) fun v61=>ZZ (K VB [v61,(.int .i64 1),(.int .i64 1000)] h4) fun v62 h63 f64=>Qn (AV.ro v62) true (Za (Zg 2 (.ptr (o).length 0)) fun v65=>Za (Ze h63 v65) fun v66=>ZZ (K VB [v66,(.int .i64 1),(.int .i64 1000)] h63) fun v67 h68 f69=>some ((AV.ro v67),h68,(Zd o.length (Zd o.length (Zd o.length none f5) f64) f69))) (some (.bool false)) h63 (Zd o.length (Zd o.length none f5) f64) fun v70 h71 f72=>Za (X8 .not (AV.ro v70)) fun v73=>ifK v73 (some (Zq false o (.int .i64 2) h71 f72)) (some (Zq false o (.int .i64 0) h71 f72))) (Za (X8 .not (.bool true)) fun v74=>ifK v74 (some (Zq false o (.int .i64 2) h4 (Zd o.length none f5))) (some (Zq false o (.int .i64 0) h4 (Zd o.length none f5)))))))))
theorem ZnJ (G:GT)(K:KT)(L:Nat)(x0:AV)(o:HP):fnK G K ZuR L ZdN [x0] o=ZeI G K L x0 o:=by kernel_rfl
theorem Zrm {C:Cfg}{x0:AV}:RunT C Pz ZdN [x0] (fun K=>ZeI C.G K C.L x0):=runT rfl fun _ _=>ZnJ ..
def ZeO (G:GT)(K:KT)(L:Nat)(x0:AV)(o:HP):KR :=
  ZZ (K KP [(AV.ro x0)] o) fun v0 h1 f2=>Za (Zb .gtr .prim (AV.ro v0) (.int .i64 200)) fun v3=>ifK v3 (some (Zq false o (.int .i64 6) h1 (Zd o.length none f2))) (ZZ (K KQ [(AV.ro x0)] h1) fun v4 h5 f6=>Za (Zb .gtr .prim (AV.ro v4) (.int .i64 12)) fun v7=>ifK v7 (some (Zq false o (.int .i64 11) h5 (Zd o.length (Zd o.length none f2) f6))) (ZZ (K Ob [(AV.ro x0)] h5) fun v8 h9 f10=>some (Zq false o v8 h9 (Zd o.length (Zd o.length (Zd o.length none f2) f6) f10))))
theorem ZnR (G:GT)(K:KT)(L:Nat)(x0:AV)(o:HP):fnK G K ZuV L ZdR [x0] o=ZeO G K L x0 o:=by kernel_rfl
theorem Zru {C:Cfg}{x0:AV}:RunT C P5 ZdR [x0] (fun K=>ZeO C.G K C.L x0):=runT rfl fun _ _=>ZnR ..
def GJ (G:GT)(K:KT)(L:Nat)(o:HP)(q:HP)(g:Eff):KR :=
  some (Zq false o (.bool true) q g)
theorem Zcr (G:GT)(K:KT)(L:Nat)(o:HP) :Zo G 26 o.length K Vn L EO (ZH Vn Ju o) (ZH Vn Ju o) []=fun e q g=>GJ G K L o  q g:=by kernel_rfl
def V3 (G:GT)(K:KT)(L:Nat)(o:HP)(k0:HP→Eff→KR):Nat→AV→AV→AV→HP→Eff→KR
  | 0,_,_,_,_,_=>none
  | m + 1,x0,x1,x5,q,g=>Za (Z9 q .slice x0) fun v3=>Za (Zb .lss .prim x5 v3) fun v4=>ifK v4 (Za (Yy (.slice 1) x0 x5) fun v5=>Za (Ze q v5) fun v6=>Za (Yy (.slice 1) x1 x5) fun v7=>Za (Ze q v7) fun v8=>Za (Zb .neq .prim v6 v8) fun v9=>ifK v9 (some (Zq false o (.bool false) q g)) (Za (Zb .add .prim x5 (.int .i64 1)) fun v10=>V3 G K L o k0 m x0 x1 v10 q g)) (k0  q g)
theorem Zct (G:GT)(K:KT)(L:Nat)(o:HP)(k0:HP→Eff→KR) :∀ m,X4 (fun n'=>Zo G 26 o.length K Vn L NP n' (ZH Vn Ju o) [(0,(fun e q g=>k0 q g))]) m=fun e q g=>V3 G K L o k0 m (e 0).rd (e 1).rd (e 5).rd q g:=lpI rfl fun _=>by kernel_rfl
theorem Zcs (G:GT)(K:KT)(L:Nat)(o:HP)(k0:HP→Eff→KR)(zn:Jb):Zo G 26 o.length K Vn L EP zn (ZH Vn Ju o) [(0,(fun e q g=>k0 q g))]=fun e q g=>V3 G K L o k0 L (e 0).rd (e 1).rd (e 5).rd q g:=Zct G K L o k0 L
def BO (G:GT)(K:KT)(L:Nat)(x0 x1:AV)(o:HP):KR :=
  Za (Z9 o .slice (AV.ro x0)) fun v0=>Za (Z9 o .slice (AV.ro x1)) fun v1=>Za (Zb .neq .prim v0 v1) fun v2=>ifK v2 (some (Zq false o (.bool false) o none)) (V3 G K L o (GJ G K L o) L (AV.ro x0) (AV.ro x1) (.int .i64 0) o none)
theorem ZhK (G:GT)(K:KT)(L:Nat)(x0 x1:AV)(o:HP):fnK G K Vn L Ju [x0,x1] o=BO G K L x0 x1 o:=by
 show Zo G 26 o.length K Vn L SK (ZH Vn Ju o) (ZH Vn Ju o) [] (Md [x0,x1]) o none=_
 simp only [SK,Z7,Zl,Zm,Zv]
 rw [Zcr G K L o ,Zcs G K L o (GJ G K L o) _]
 kernel_rfl
theorem ZkU {C:Cfg}{x0 x1:AV}:RunT C Oa Ju [x0,x1] (fun K=>BO C.G K C.L x0 x1):=runT rfl fun _ _=>ZhK ..
def Vw (G:GT)(K:KT)(L:Nat)(o:HP)(q:HP)(g:Eff):KR :=
  some (Zq false o (.int .i64 0) q g)
theorem CL (G:GT)(K:KT)(L:Nat)(o:HP) :Zo G 58 o.length K WE L PP (ZH WE QP o) (ZH WE QP o) []=fun e q g=>Vw G K L o  q g:=by kernel_rfl
def Vv (G:GT)(K:KT)(L:Nat)(o:HP)(kn:AV→AV→AV→AV→HP→Eff→KR)(x1:AV)(x23:AV)(x24:AV)(x25:AV)(q:HP)(g:Eff):KR :=
  Za (Zb .add .prim x25 (.int .i64 1)) fun v23=>kn x1 x23 x24 v23 q g
theorem CJ (G:GT)(K:KT)(L:Nat)(o:HP)(kn:AV→AV→AV→AV→HP→Eff→KR)(z1:Jb):Zo G 58 o.length K WE L PO (fun e q g=>kn (e 1).rd (e 23).rd (e 24).rd (e 25).rd q g) (ZH WE QP o) [(1,z1)]=fun e q g=>Vv G K L o kn (e 1).rd (e 23).rd (e 24).rd (e 25).rd q g:=by kernel_rfl
def Jh (G:GT)(K:KT)(L:Nat)(o:HP)(kn:AV→AV→AV→AV→HP→Eff→KR)(x1:AV)(x3:AV)(x4:AV)(x23:AV)(x24:AV)(x25:AV)(x30:AV)(q:HP)(g:Eff):KR :=
  ifK x30 (some (Zq false o (.int .i64 2) q g)) (Za (Zb .gtr .prim x3 (.int .i64 0)) fun v29=>Qn v29 true (Za (Zg 0 x4) fun v30=>Za (Ze q v30) fun v31=>Za (Zg 2 x1) fun v32=>Za (Ze q v32) fun v33=>Za (Zb .sub .prim x3 (.int .i64 1)) fun v34=>Za (Yy (.slice 2) v33 v34) fun v35=>Za (Zg 0 v35) fun v36=>Za (Ze q v36) fun v37=>Za (Zb .leq .prim v31 v37) fun v38=>some (v38,q,g)) (some (.bool false)) q g fun v39 h40 f41=>ifK (AV.ro v39) (some (Zq false o (.int .i64 12) h40 f41)) (kn x1 x23 x24 x25 h40 f41))
theorem CG (G:GT)(K:KT)(L:Nat)(o:HP)(kn:AV→AV→AV→AV→HP→Eff→KR)(z3 z2 z1:Jb):Zo G 58 o.length K WE L PN (fun e q g=>kn (e 1).rd (e 23).rd (e 24).rd (e 25).rd q g) (ZH WE QP o) [(3,z3),(2,z2),(1,z1)]=fun e q g=>Jh G K L o kn (e 1).rd (e 3).rd (e 4).rd (e 23).rd (e 24).rd (e 25).rd (e 30).rd q g:=by kernel_rfl
def Qr (G:GT)(K:KT)(L:Nat)(o:HP)(k1:HP→Eff→KR):Nat→AV→AV→AV→AV→HP→Eff→KR
  | 0,_,_,_,_,_,_=>none
  | m + 1,x1,x23,x24,x25,q,g=>Za (Zb .lss .prim x25 x24) fun v22=>ifK v22 (Za (Yy (.slice 2) x23 x25) fun v24=>Za (Zp q 2 v24) fun v25=>Vb (q ++ [.cells [(.int .i64 0),(.int .i64 0)] Pm]) fun h26=>JJ (stV o.length 2 (.ptr (q).length 0) v25 h26 g) fun h27 f28=>Za (Zg 0 (.ptr (q).length 0)) fun v42=>Za (Ze h27 v42) fun v43=>Za (Zg 3 x1) fun v44=>Za (Ze h27 v44) fun v45=>Za (Zb .sub .prim v45 (.int .i64 1)) fun v46=>ZZ (K Ql [v43,(.int .i64 0),v46] h27) fun v47 h48 f49=>Za (X8 .not (AV.ro v47)) fun v50=>ifK v50 (Jh G K L o (Vv G K L o (Qr G K L o k1 m)) x1 x25 (.ptr (q).length 0) x23 x24 x25 v50 h48 (Zd o.length f28 f49)) (Za (Zg 1 (.ptr (q).length 0)) fun v51=>Za (Ze h48 v51) fun v52=>ZZ (K Ql [v52,(.int .i64 0),(.int .i64 1000)] h48) fun v53 h54 f55=>Za (X8 .not (AV.ro v53)) fun v56=>Jh G K L o (Vv G K L o (Qr G K L o k1 m)) x1 x25 (.ptr (q).length 0) x23 x24 x25 v56 h54 (Zd o.length (Zd o.length f28 f49) f55))) (k1  q g)
theorem CQ (G:GT)(K:KT)(L:Nat)(o:HP)(k1:HP→Eff→KR) :∀ m,X4 (fun n'=>Zo G 58 o.length K WE L Gy n' (ZH WE QP o) [(1,(fun e q g=>k1 q g))]) m=fun e q g=>Qr G K L o k1 m (e 1).rd (e 23).rd (e 24).rd (e 25).rd q g:=by
 intro m
 induction m with
 | zero=>rfl
 | succ m ih =>
  show Zo G 58 o.length K WE L Gy (X4 _ m) (ZH WE QP o) [(1,(fun e q g=>k1 q g))]=_
  rw [ih]
  simp only [Gy,Z7,Zl,Zm,Zv]
  rw [CJ G K L o (Qr G K L o k1 m) _,CG G K L o (Vv G K L o (Qr G K L o k1 m)) _ _ _]
  kernel_rfl
theorem CP (G:GT)(K:KT)(L:Nat)(o:HP)(k1:HP→Eff→KR)(zn:Jb):Zo G 58 o.length K WE L PQ zn (ZH WE QP o) [(1,(fun e q g=>k1 q g))]=fun e q g=>Qr G K L o k1 L (e 1).rd (e 23).rd (e 24).rd (e 25).rd q g:=CQ G K L o k1 L
def MN (G:GT)(K:KT)(L:Nat)(x0:AV)(o:HP):KR :=
  Za (JL 17 (AV.ro x0)) fun v1=>Vb (o ++ [.cells v1 WA]) fun h0=>Za (Zg 2 (.ptr (o).length 0)) fun v2=>Za (Ze h0 v2) fun v3=>Za (Z9 h0 .slice v3) fun v4=>Za (Zb .eql .prim v4 (.int .i64 0)) fun v5=>ifK v5 (Za (Zg 3 (.ptr (o).length 0)) fun v6=>Za (Ze h0 v6) fun v7=>Za (Zb .neq .prim v7 (.int .i64 0)) fun v8=>ifK v8 (some (Zq false o (.int .i64 1) h0 none)) (some (Zq false o (.int .i64 0) h0 none))) (Za (Zg 2 (.ptr (o).length 0)) fun v9=>Za (Ze h0 v9) fun v10=>Za (Z9 h0 .slice v10) fun v11=>Za (Zb .gtr .prim v11 (.int .i64 20)) fun v12=>ifK v12 (some (Zq false o (.int .i64 6) h0 none)) (Za (Zg 3 (.ptr (o).length 0)) fun v13=>Za (Ze h0 v13) fun v14=>ZZ (K Ql [v14,(.int .i64 1),(.int .i64 1000000000)] h0) fun v15 h16 f17=>Za (X8 .not (AV.ro v15)) fun v18=>ifK v18 (some (Zq false o (.int .i64 2) h16 (Zd o.length none f17))) (Za (Zg 2 (.ptr (o).length 0)) fun v19=>Za (Ze h16 v19) fun v20=>Za (Z9 h16 .slice v20) fun v21=>Qr G K L o (Vw G K L o) L (.ptr (o).length 0) v20 v21 (.int .i64 0) h16 (Zd o.length none f17))))
theorem Ze8 (G:GT)(K:KT)(L:Nat)(x0:AV)(o:HP):fnK G K WE L QP [x0] o=MN G K L x0 o:=by
 show Zo G 58 o.length K WE L Dx (ZH WE QP o) (ZH WE QP o) [] (Md [x0]) o none=_
 simp only [Dx,Z7,Zl,Zm,Zv]
 rw [CL G K L o ,CP G K L o (Vw G K L o) _]
 kernel_rfl
theorem ZgS {C:Cfg}{x0:AV}:RunT C Dq QP [x0] (fun K=>MN C.G K C.L x0):=runT rfl fun _ _=>Ze8 ..
def DF (G:GT)(K:KT)(L:Nat)(x0 x1:AV)(o:HP):KR :=
  Za (JL 13 (AV.ro x0)) fun v1=>Vb (o ++ [.cells v1 Zf]) fun h0=>Za (JL 13 (AV.ro x1)) fun v3=>Vb (h0 ++ [.cells v3 ZtJ]) fun h2=>Za (Zg 0 (.ptr (h0).length 0)) fun v4=>Za (Ze h2 v4) fun v5=>Za (Zb .eql .prim v5 (.str [])) fun v6=>Qn v6 true (Za (Zg 1 (.ptr (h0).length 0)) fun v7=>Za (Zp h2 6 v7) fun v8=>Za (fill [(.int .i64 0),(.int .i64 0),(.int .i64 0),(.int .i64 0),(.own 1 []),(.own 1 [])] []) fun v9=>ZZ (K Pv [v8,(.agg v9)] h2) fun v10 h11 f12=>Za (X8 .not (AV.ro v10)) fun v13=>Qn v13 false (Za (Zg 7 (.ptr (h0).length 0)) fun v14=>Za (Zp h11 6 v14) fun v15=>Za (fill [(.int .i64 0),(.int .i64 0),(.int .i64 0),(.int .i64 0),(.own 1 []),(.own 1 [])] []) fun v16=>ZZ (K Pv [v15,(.agg v16)] h11) fun v17 h18 f19=>Za (X8 .not (AV.ro v17)) fun v20=>some (v20,h18,(Zd o.length (Zd o.length none f12) f19))) (some (.bool true)) h11 (Zd o.length none f12) fun v21 h22 f23=>some ((AV.ro v21),h22,f23)) (some (.bool false)) h2 none fun v24 h25 f26=>ifK (AV.ro v24) (some (Zq false o (.int .i64 1) h25 f26)) (Za (Zg 0 (.ptr (h0).length 0)) fun v27=>Za (Ze h25 v27) fun v28=>Za (Zb .eql .prim v28 (.str [])) fun v29=>ifK v29 (some (Zq false o (.int .i64 0) h25 f26)) (Za (Zg 6 (.ptr (o).length 0)) fun v30=>Za (Ze h25 v30) fun v31=>Za (Zg 0 (.ptr (h0).length 0)) fun v32=>Za (Ze h25 v32) fun v33=>ZZ (K XC [v31,v33] h25) fun v34 h35 f36=>Za (X8 .not (AV.ro v34)) fun v37=>ifK v37 (some (Zq false o (.int .i64 5) h35 (Zd o.length f26 f36))) (Za (Zg 1 (.ptr (h0).length 0)) fun v38=>Za (Zp h35 6 v38) fun v39=>ZZ (K Uq [v39] h35) fun v40 h41 f42=>Za (Zb .neq .prim (AV.ro v40) (.int .i64 0)) fun v43=>ifK v43 (some (Zq false o v40 h41 (Zd o.length (Zd o.length f26 f36) f42))) (Za (Zg 7 (.ptr (h0).length 0)) fun v44=>Za (Zp h41 6 v44) fun v45=>ZZ (K Uq [v45] h41) fun v46 h47 f48=>some (Zq false o v46 h47 (Zd o.length (Zd o.length (Zd o.length f26 f36) f42) f48))))))
theorem Ze3 (G:GT)(K:KT)(L:Nat)(x0 x1:AV)(o:HP):fnK G K ZkP L Dr [x0,x1] o=DF G K L x0 x1 o:=by kernel_rfl
theorem ZgQ {C:Cfg}{x0 x1:AV}:RunT C Dp Dr [x0,x1] (fun K=>DF C.G K C.L x0 x1):=runT rfl fun _ _=>Ze3 ..
def KE (G:GT)(K:KT)(L:Nat)(o:HP)(x1:AV)(q:HP)(g:Eff):KR :=
  Za (Zg 3 x1) fun v18=>Za (Ze q v18) fun v19=>ZZ (K NI [v19] q) fun v20 h21 f22=>some (Zq false o v20 h21 (Zd o.length g f22))
theorem Zbp (G:GT)(K:KT)(L:Nat)(o:HP) :Zo G 48 o.length K XP L NM (ZH XP VC o) (ZH XP VC o) []=fun e q g=>KE G K L o (e 1).rd q g:=by kernel_rfl
def XE (G:GT)(K:KT)(L:Nat)(o:HP)(k0:AV→HP→Eff→KR):Nat→AV→AV→AV→AV→AV→HP→Eff→KR
  | 0,_,_,_,_,_,_,_=>none
  | m + 1,x1,x3,x27,x28,x29,q,g=>Za (Zb .lss .prim x29 x28) fun v33=>ifK v33 (Za (Yy (.slice 2) x27 x29) fun v34=>Za (Zp q 2 v34) fun v35=>Vb (q ++ [.cells [(.str []),(.int .i64 0)] Sd]) fun h36=>JJ (stV o.length 2 (.ptr (q).length 0) v35 h36 g) fun h37 f38=>Za (Zg 0 (.ptr (q).length 0)) fun v39=>Za (Ze h37 v39) fun v40=>ZZ (K Yt [x3,v40] h37) fun v41 h42 f43=>Za (Zb .neq .prim (AV.ro v41) (.int .i64 0)) fun v44=>ifK v44 (some (Zq false o v41 h42 (Zd o.length f38 f43))) (Za (Zg 1 (.ptr (q).length 0)) fun v45=>Za (Ze h42 v45) fun v46=>ZZ (K LV [v46] h42) fun v47 h48 f49=>Za (X8 .not (AV.ro v47)) fun v50=>ifK v50 (some (Zq false o (.int .i64 1) h48 (Zd o.length (Zd o.length f38 f43) f49))) (Za (Zb .add .prim x29 (.int .i64 1)) fun v51=>XE G K L o k0 m x1 x3 x27 x28 v51 h48 (Zd o.length (Zd o.length f38 f43) f49)))) (k0 x1 q g)
theorem Zbr (G:GT)(K:KT)(L:Nat)(o:HP)(k0:AV→HP→Eff→KR) :∀ m,X4 (fun n'=>Zo G 48 o.length K XP L PM n' (ZH XP VC o) [(0,(fun e q g=>k0 (e 1).rd q g))]) m=fun e q g=>XE G K L o k0 m (e 1).rd (e 3).rd (e 27).rd (e 28).rd (e 29).rd q g:=lpI rfl fun _=>by kernel_rfl
theorem Zbq (G:GT)(K:KT)(L:Nat)(o:HP)(k0:AV→HP→Eff→KR)(zn:Jb):Zo G 48 o.length K XP L NN zn (ZH XP VC o) [(0,(fun e q g=>k0 (e 1).rd q g))]=fun e q g=>XE G K L o k0 L (e 1).rd (e 3).rd (e 27).rd (e 28).rd (e 29).rd q g:=Zbr G K L o k0 L
def Rn (G:GT)(K:KT)(L:Nat)(x0:AV)(o:HP):KR :=
  Za (JL 4 (AV.ro x0)) fun v1=>Vb (o ++ [.cells v1 WH]) fun h0=>Za (Zg 1 (.ptr (o).length 0)) fun v2=>Za (Ze h0 v2) fun v3=>Za (Z9 h0 .slice v3) fun v4=>Za (Zb .gtr .prim v4 (.int .i64 6)) fun v5=>Qn v5 false (Za (Zg 1 (.ptr (o).length 0)) fun v6=>Za (Ze h0 v6) fun v7=>Za (Z9 h0 .slice v7) fun v8=>Za (Zg 2 (.ptr (o).length 0)) fun v9=>Za (Ze h0 v9) fun v10=>Za (Z9 h0 .slice v10) fun v11=>Za (Zb .add .prim v8 v11) fun v12=>Za (Zb .gtr .prim v12 (.int .i64 16)) fun v13=>some (v13,h0,none)) (some (.bool true)) h0 none fun v14 h15 f16=>ifK (AV.ro v14) (some (Zq false o (.int .i64 6) h15 f16)) (Vb (h15 ++ [.map []]) fun h17=>Za (Zg 1 (.ptr (o).length 0)) fun v23=>Za (Ze h17 v23) fun v24=>Za (Zg 2 (.ptr (o).length 0)) fun v25=>Za (Ze h17 v25) fun v26=>JJ (ZbM ZrJ 1 [v24,v26] h17) fun v27 h28=>ZZ (K XY [(AV.ro v27)] h28) fun v29 h30 f31=>Za (Z9 h30 .slice (AV.ro v29)) fun v32=>XE G K L o (KE G K L o) L (.ptr (o).length 0) (.map (h15).length) (AV.ro v29) v32 (.int .i64 0) h30 (Zd o.length f16 f31))
theorem Zgd (G:GT)(K:KT)(L:Nat)(x0:AV)(o:HP):fnK G K XP L VC [x0] o=Rn G K L x0 o:=by
 show Zo G 48 o.length K XP L PL (ZH XP VC o) (ZH XP VC o) [] (Md [x0]) o none=_
 simp only [PL,Z7,Zl,Zm,Zv]
 rw [Zbp G K L o ,Zbq G K L o (KE G K L o) _]
 kernel_rfl
theorem Zjg {C:Cfg}{x0:AV}:RunT C Px VC [x0] (fun K=>Rn C.G K C.L x0):=runT rfl fun _ _=>Zgd ..
def II (G:GT)(K:KT)(L:Nat)(o:HP)(x3:AV)(q:HP)(g:Eff):KR :=
  Za (Zg 2 x3) fun v21=>Za (Ze q v21) fun v22=>ZZ (K Ql [v22,(.int .i64 0),(.int .i64 1000000000)] q) fun v23 h24 f25=>Za (X8 .not (AV.ro v23)) fun v26=>Qn v26 false (Za (Zg 3 x3) fun v27=>Za (Ze h24 v27) fun v28=>ZZ (K Ql [v28,(.int .i64 0),(.int .i64 1000000000)] h24) fun v29 h30 f31=>Za (X8 .not (AV.ro v29)) fun v32=>some (v32,h30,(Zd o.length (Zd o.length g f25) f31))) (some (.bool true)) h24 (Zd o.length g f25) fun v33 h34 f35=>Qn (AV.ro v33) false (Za (Zg 4 x3) fun v36=>Za (Ze h34 v36) fun v37=>ZZ (K Ql [v37,(.int .i64 0),(.int .i64 1000000000)] h34) fun v38 h39 f40=>Za (X8 .not (AV.ro v38)) fun v41=>some (v41,h39,(Zd o.length f35 f40))) (some (.bool true)) h34 f35 fun v42 h43 f44=>Qn (AV.ro v42) false (Za (Zg 3 x3) fun v45=>Za (Ze h43 v45) fun v46=>Za (Zb .eql .prim v46 (.int .i64 0)) fun v47=>Qn v47 true (Za (Zg 4 x3) fun v48=>Za (Ze h43 v48) fun v49=>Za (Zb .neq .prim v49 (.int .i64 0)) fun v50=>some (v50,h43,f44)) (some (.bool false)) h43 f44 fun v51 h52 f53=>some ((AV.ro v51),h52,f53)) (some (.bool true)) h43 f44 fun v54 h55 f56=>ifK (AV.ro v54) (some (Zq false o (.int .i64 2) h55 f56)) (some (Zq false o (.int .i64 0) h55 f56))
theorem ZeC (G:GT)(K:KT)(L:Nat)(o:HP) :Zo G 70 o.length K VK L Cc (ZH VK Ug o) (ZH VK Ug o) []=fun e q g=>II G K L o (e 3).rd q g:=by kernel_rfl
def JQ (G:GT)(K:KT)(L:Nat)(o:HP)(k0:AV→HP→Eff→KR):Nat→AV→AV→AV→AV→AV→HP→Eff→KR
  | 0,_,_,_,_,_,_,_=>none
  | m + 1,x3,x6,x28,x29,x30,q,g=>Za (Zb .lss .prim x30 x29) fun v60=>ifK v60 (Za (Yy (.slice 1) x28 x30) fun v61=>Za (Ze q v61) fun v62=>Za (Yy (.slice 2) x6 x30) fun v63=>Za (Zg 1 v63) fun v64=>Za (Ze q v64) fun v65=>ZZ (K BV [v65,v62] q) fun v66 h67 f68=>Za (X8 .not (AV.ro v66)) fun v69=>ifK v69 (some (Zq false o (.int .i64 2) h67 (Zd o.length g f68))) (Za (Zb .add .prim x30 (.int .i64 1)) fun v70=>JQ G K L o k0 m x3 x6 x28 x29 v70 h67 (Zd o.length g f68))) (k0 x3 q g)
theorem ZeE (G:GT)(K:KT)(L:Nat)(o:HP)(k0:AV→HP→Eff→KR) :∀ m,X4 (fun n'=>Zo G 70 o.length K VK L EM n' (ZH VK Ug o) [(0,(fun e q g=>k0 (e 3).rd q g))]) m=fun e q g=>JQ G K L o k0 m (e 3).rd (e 6).rd (e 28).rd (e 29).rd (e 30).rd q g:=lpI rfl fun _=>by kernel_rfl
theorem ZeD (G:GT)(K:KT)(L:Nat)(o:HP)(k0:AV→HP→Eff→KR)(zn:Jb):Zo G 70 o.length K VK L Ce zn (ZH VK Ug o) [(0,(fun e q g=>k0 (e 3).rd q g))]=fun e q g=>JQ G K L o k0 L (e 3).rd (e 6).rd (e 28).rd (e 29).rd (e 30).rd q g:=ZeE G K L o k0 L
def Ro (G:GT)(K:KT)(L:Nat)(x0 x1:AV)(o:HP):KR :=
  Za (JL 13 (AV.ro x0)) fun v1=>Vb (o ++ [.cells v1 Zf]) fun h0=>Za (JL 5 (AV.ro x1)) fun v3=>Vb (h0 ++ [.cells v3 U0]) fun h2=>Za (Zp h2 13 (.ptr (o).length 0)) fun v4=>Za (Zg 0 (.ptr (h0).length 0)) fun v5=>Za (Ze h2 v5) fun v6=>ZZ (K OC [v4,v6] h2) fun v7 h8 f9=>Za (Zb .lss .prim (AV.ro v7) (.int .i64 0)) fun v10=>ifK v10 (some (Zq false o (.int .i64 5) h8 (Zd o.length none f9))) (Za (Zg 10 (.ptr (o).length 0)) fun v11=>Za (Ze h8 v11) fun v12=>Za (Yy (.slice 4) v12 (AV.ro v7)) fun v13=>Za (Zg 1 v13) fun v14=>Za (Ze h8 v14) fun v15=>Za (Zg 1 (.ptr (h0).length 0)) fun v16=>Za (Ze h8 v16) fun v17=>Za (Z9 h8 .slice v17) fun v18=>Za (Z9 h8 .slice v15) fun v19=>Za (Zb .neq .prim v18 v19) fun v20=>ifK v20 (some (Zq false o (.int .i64 8) h8 (Zd o.length none f9))) (Za (Zg 1 (.ptr (h0).length 0)) fun v57=>Za (Ze h8 v57) fun v58=>Za (Z9 h8 .slice v58) fun v59=>JQ G K L o (II G K L o) L (.ptr (h0).length 0) v15 v58 v59 (.int .i64 0) h8 (Zd o.length none f9)))
theorem ZjR (G:GT)(K:KT)(L:Nat)(x0 x1:AV)(o:HP):fnK G K VK L Ug [x0,x1] o=Ro G K L x0 x1 o:=by
 show Zo G 70 o.length K VK L Fe (ZH VK Ug o) (ZH VK Ug o) [] (Md [x0,x1]) o none=_
 simp only [Fe,Z7,Zl,Zm,Zv]
 rw [ZeC G K L o ,ZeD G K L o (II G K L o) _]
 kernel_rfl
theorem ZmC {C:Cfg}{x0 x1:AV}:RunT C Av Ug [x0,x1] (fun K=>Ro C.G K C.L x0 x1):=runT rfl fun _ _=>ZjR ..
def BN (G:GT)(K:KT)(L:Nat)(x0 x1 x2:AV)(o:HP):KR :=
  Za (JL 3 (AV.ro x0)) fun v1=>Vb (o ++ [.cells v1 Oe]) fun h0=>Za (Ze h0 (AV.ro x1)) fun v2=>Za (Zg 0 (.ptr (o).length 0)) fun v3=>Za (Ze h0 v3) fun v4=>ZZ (K Yt [v2,v4] h0) fun v5 h6 f7=>Za (Zb .neq .prim (AV.ro v5) (.int .i64 0)) fun v8=>ifK v8 (some (Zq false o v5 h6 (Zd o.length none f7))) (Za (Zg 1 (.ptr (o).length 0)) fun v9=>Za (Ze h6 v9) fun v10=>Za (Z9 h6 .slice v10) fun v11=>Za (Zb .eql .prim v11 (.int .i64 0)) fun v12=>ifK v12 (some (Zq false o (.int .i64 7) h6 (Zd o.length none f7))) (Za (Zg 1 (.ptr (o).length 0)) fun v13=>Za (Ze h6 v13) fun v14=>ZZ (K Og [v14,(.int .i64 8),(.fn ML [] [(AV.ro x2)])] h6) fun v15 h16 f17=>Za (Zb .neq .prim (AV.ro v15) (.int .i64 0)) fun v18=>ifK v18 (some (Zq false o v15 h16 (Zd o.length (Zd o.length none f7) f17))) (Za (Zg 2 (.ptr (o).length 0)) fun v19=>Za (Ze h16 v19) fun v20=>ZZ (K ZbX [v20] h16) fun v21 h22 f23=>Za (X8 .not (AV.ro v21)) fun v24=>ifK v24 (some (Zq false o (.int .i64 2) h22 (Zd o.length (Zd o.length (Zd o.length none f7) f17) f23))) (some (Zq false o (.int .i64 0) h22 (Zd o.length (Zd o.length (Zd o.length none f7) f17) f23))))))
theorem Zh6 (G:GT)(K:KT)(L:Nat)(x0 x1 x2:AV)(o:HP):fnK G K ZoA L Sm [x0,x1,x2] o=BN G K L x0 x1 x2 o:=by kernel_rfl
theorem Cx {C:Cfg}{x0 x1 x2:AV}:RunT C IP Sm [x0,x1,x2] (fun K=>BN C.G K C.L x0 x1 x2):=runT rfl fun _ _=>Zh6 ..
def XJ (G:GT)(K:KT)(L:Nat)(o:HP)(q:HP)(g:Eff):KR :=
  some (Zq false o (.int .i64 0) q g)
theorem PX (G:GT)(K:KT)(L:Nat)(o:HP) :Zo G 27 o.length K WW L Lu (ZH WW QA o) (ZH WW QA o) []=fun e q g=>XJ G K L o  q g:=by kernel_rfl
def WY (G:GT)(K:KT)(L:Nat)(o:HP)(k0:HP→Eff→KR):Nat→AV→AV→AV→AV→HP→Eff→KR
  | 0,_,_,_,_,_,_=>none
  | m + 1,x2,x14,x15,x16,q,g=>Za (Zb .lss .prim x16 x15) fun v3=>ifK v3 (Za (Yy (.slice 3) x14 x16) fun v4=>Za (Zp q 3 v4) fun v5=>Vb (q ++ [.cells [(.str []),(.own 3 []),(.int .i64 0)] Oe]) fun h6=>JJ (stV o.length 3 (.ptr (q).length 0) v5 h6 g) fun h7 f8=>Za (Zp h7 3 (.ptr (q).length 0)) fun v9=>ZZ (Vz K x2 [v9] h7) fun v10 h11 f12=>Za (Zb .neq .prim (AV.ro v10) (.int .i64 0)) fun v13=>ifK v13 (some (Zq false o v10 h11 (Zd o.length f8 f12))) (Za (Zb .add .prim x16 (.int .i64 1)) fun v14=>WY G K L o k0 m x2 x14 x15 v14 h11 (Zd o.length f8 f12))) (k0  q g)
theorem PZ (G:GT)(K:KT)(L:Nat)(o:HP)(k0:HP→Eff→KR) :∀ m,X4 (fun n'=>Zo G 27 o.length K WW L Me n' (ZH WW QA o) [(0,(fun e q g=>k0 q g))]) m=fun e q g=>WY G K L o k0 m (e 2).rd (e 14).rd (e 15).rd (e 16).rd q g:=lpI rfl fun _=>by kernel_rfl
theorem PY (G:GT)(K:KT)(L:Nat)(o:HP)(k0:HP→Eff→KR)(zn:Jb):Zo G 27 o.length K WW L Lv zn (ZH WW QA o) [(0,(fun e q g=>k0 q g))]=fun e q g=>WY G K L o k0 L (e 2).rd (e 14).rd (e 15).rd (e 16).rd q g:=PZ G K L o k0 L
def KD (G:GT)(K:KT)(L:Nat)(x0 x1 x2:AV)(o:HP):KR :=
  Za (Z9 o .slice (AV.ro x0)) fun v0=>Za (Zb .gtr .prim v0 (AV.ro x1)) fun v1=>ifK v1 (some (Zq false o (.int .i64 6) o none)) (Za (Z9 o .slice (AV.ro x0)) fun v2=>WY G K L o (XJ G K L o) L (AV.ro x2) (AV.ro x0) v2 (.int .i64 0) o none)
theorem EZ (G:GT)(K:KT)(L:Nat)(x0 x1 x2:AV)(o:HP):fnK G K WW L QA [x0,x1,x2] o=KD G K L x0 x1 x2 o:=by
 show Zo G 27 o.length K WW L OM (ZH WW QA o) (ZH WW QA o) [] (Md [x0,x1,x2]) o none=_
 simp only [OM,Z7,Zl,Zm,Zv]
 rw [PX G K L o ,PY G K L o (XJ G K L o) _]
 kernel_rfl
theorem R8 {C:Cfg}{x0 x1 x2:AV}:RunT C Ku QA [x0,x1,x2] (fun K=>KD C.G K C.L x0 x1 x2):=runT rfl fun _ _=>EZ ..
def OZ (G:GT)(K:KT)(L:Nat)(o:HP)(q:HP)(g:Eff):KR :=
  some (Zq false o (.bool false) q g)
theorem Zgn (G:GT)(K:KT)(L:Nat)(o:HP) :Zo G 56 o.length K KL L ZaD (ZH KL Ho o) (ZH KL Ho o) []=fun e q g=>OZ G K L o  q g:=by kernel_rfl
def Rp (G:GT)(K:KT)(L:Nat)(o:HP)(x1:AV)(x3:AV)(y3:AV)(x15:AV)(x29:AV)(q:HP)(g:Eff):KR :=
  ifK x29 (Za (Zg 3 x1) fun v28=>Za (Ze q v28) fun v29=>Za (Zb .eql .prim v29 (.int .i64 0)) fun v30=>Qn v30 true (some (x3,q,g)) (some (.bool false)) q g fun v31 h32 f33=>some (Zq false o v31 h32 f33)) (Za (Zb .eql .prim x15 (.int .i64 3)) fun v34=>ifK v34 (Za (Zg 1 x1) fun v35=>Za (Ze q v35) fun v36=>Za (Zb .eql .prim v36 (.int .i64 0)) fun v37=>Qn v37 true (Za (Zg 2 x1) fun v38=>Za (Ze q v38) fun v39=>Za (Zb .eql .prim v39 (.int .i64 0)) fun v40=>some (v40,q,g)) (some (.bool false)) q g fun v41 h42 f43=>Qn (AV.ro v41) true (Za (Zg 3 x1) fun v44=>Za (Ze h42 v44) fun v45=>Za (Zb .eql .prim v45 (.int .i64 0)) fun v46=>some (v46,h42,f43)) (some (.bool false)) h42 f43 fun v47 h48 f49=>some (Zq false o v47 h48 f49)) (Za (Zb .eql .prim x15 (.int .i64 4)) fun v50=>ifK v50 (some (Zq false o y3 q g)) (OZ G K L o   q g)))
theorem Zgm (G:GT)(K:KT)(L:Nat)(o:HP) :Zo G 56 o.length K KL L ZaC (fun e q g=>(OZ G K L o) q g) (ZH KL Ho o) [(0,(fun e q g=>(OZ G K L o) q g))]=fun e q g=>Rp G K L o (e 1).rd (e 3).rd (e 3).val (e 15).rd (e 29).rd q g:=by kernel_rfl
def Zbu (G:GT)(K:KT)(L:Nat)(x0:AV)(o:HP):KR :=
  Za (JL 6 (AV.ro x0)) fun v1=>Vb (o ++ [.cells v1 UU]) fun h0=>Za (Zg 4 (.ptr (o).length 0)) fun v2=>Za (Ze h0 v2) fun v3=>Za (Z9 h0 .slice v3) fun v4=>Za (Zb .eql .prim v4 (.int .i64 0)) fun v5=>Qn v5 true (Za (Zg 5 (.ptr (o).length 0)) fun v6=>Za (Ze h0 v6) fun v7=>Za (Z9 h0 .slice v7) fun v8=>Za (Zb .eql .prim v8 (.int .i64 0)) fun v9=>some (v9,h0,none)) (some (.bool false)) h0 none fun v10 h11 f12=>Za (Zg 0 (.ptr (o).length 0)) fun v13=>Za (Ze h11 v13) fun v14=>Za (Zb .eql .prim v14 (.int .i64 1)) fun v15=>ifK v15 (Za (Zg 2 (.ptr (o).length 0)) fun v16=>Za (Ze h11 v16) fun v17=>Za (Zb .eql .prim v17 (.int .i64 0)) fun v18=>Qn v18 true (Za (Zg 3 (.ptr (o).length 0)) fun v19=>Za (Ze h11 v19) fun v20=>Za (Zb .eql .prim v20 (.int .i64 0)) fun v21=>some (v21,h11,f12)) (some (.bool false)) h11 f12 fun v22 h23 f24=>Qn (AV.ro v22) true (some ((AV.ro v10),h23,f24)) (some (.bool false)) h23 f24 fun v25 h26 f27=>some (Zq false o v25 h26 f27)) (Za (Zb .eql .prim v14 (.int .i64 2)) fun v51=>ifK v51 (Rp G K L o  (.ptr (o).length 0) (AV.ro v10) v10 v14 v51 h11 f12) (Za (Zb .eql .prim v14 (.int .i64 5)) fun v52=>Rp G K L o  (.ptr (o).length 0) (AV.ro v10) v10 v14 v52 h11 f12))
theorem ZlE (G:GT)(K:KT)(L:Nat)(x0:AV)(o:HP):fnK G K KL L Ho [x0] o=Zbu G K L x0 o:=by
 show Zo G 56 o.length K KL L ZaB (ZH KL Ho o) (ZH KL Ho o) [] (Md [x0]) o none=_
 simp only [ZaB,Z7,Zl,Zm,Zv]
 rw [Zgn G K L o ,Zgm G K L o]
 kernel_rfl
theorem ZoR {C:Cfg}{x0:AV}:RunT C Zad Ho [x0] (fun K=>Zbu C.G K C.L x0):=runT rfl fun _ _=>ZlE ..
def F3 (G:GT)(K:KT)(L:Nat)(x0 x1 x2:AV)(o:HP):KR :=
  Za (Zb .geq .prim (AV.ro x0) (AV.ro x1)) fun v0=>Qn v0 true (Za (Zb .leq .prim (AV.ro x0) (AV.ro x2)) fun v1=>some (v1,o,none)) (some (.bool false)) o none fun v2 h3 f4=>some (Zq false o v2 h3 f4)
theorem ZjT (G:GT)(K:KT)(L:Nat)(x0 x1 x2:AV)(o:HP):fnK G K Zri L AQ [x0,x1,x2] o=F3 G K L x0 x1 x2 o:=by kernel_rfl
theorem ZmW {C:Cfg}{x0 x1 x2:AV}:RunT C VB AQ [x0,x1,x2] (fun K=>F3 C.G K C.L x0 x1 x2):=runT rfl fun _ _=>ZjT ..
def Mo (G:GT)(K:KT)(L:Nat)(o:HP)(q:HP)(g:Eff):KR :=
  some (Zq false o (.int .i64 0) q g)
theorem ZhL (G:GT)(K:KT)(L:Nat)(o:HP) :Zo G 42 o.length K UH L Zc7 (ZH UH HV o) (ZH UH HV o) []=fun e q g=>Mo G K L o  q g:=by kernel_rfl
def KW (G:GT)(K:KT)(L:Nat)(o:HP)(k0:HP→Eff→KR):Nat→AV→AV→HP→Eff→KR
  | 0,_,_,_,_=>none
  | m + 1,x1,x3,q,g=>Za (Zg 4 x1) fun v17=>Za (Ze q v17) fun v18=>Za (Z9 q .slice v18) fun v19=>Za (Zb .lss .prim x3 v19) fun v20=>ifK v20 (Za (Zg 4 x1) fun v21=>Za (Ze q v21) fun v22=>Za (Yy (.slice 1) v22 x3) fun v23=>Za (Ze q v23) fun v24=>ZZ (K VB [v24,(.int .i64 0),(.int .i64 1000000000)] q) fun v25 h26 f27=>Za (X8 .not (AV.ro v25)) fun v28=>Qn v28 false (Za (Zg 5 x1) fun v29=>Za (Ze h26 v29) fun v30=>Za (Yy (.slice 1) v30 x3) fun v31=>Za (Ze h26 v31) fun v32=>ZZ (K VB [v32,(.int .i64 1),(.int .i64 1000)] h26) fun v33 h34 f35=>Za (X8 .not (AV.ro v33)) fun v36=>some (v36,h34,(Zd o.length (Zd o.length g f27) f35))) (some (.bool true)) h26 (Zd o.length g f27) fun v37 h38 f39=>ifK (AV.ro v37) (some (Zq false o (.int .i64 2) h38 f39)) (Za (Zb .add .prim x3 (.int .i64 1)) fun v40=>KW G K L o k0 m x1 v40 h38 f39)) (k0  q g)
theorem ZhN (G:GT)(K:KT)(L:Nat)(o:HP)(k0:HP→Eff→KR) :∀ m,X4 (fun n'=>Zo G 42 o.length K UH L ZaA n' (ZH UH HV o) [(0,(fun e q g=>k0 q g))]) m=fun e q g=>KW G K L o k0 m (e 1).rd (e 3).rd q g:=lpI rfl fun _=>by kernel_rfl
theorem ZhM (G:GT)(K:KT)(L:Nat)(o:HP)(k0:HP→Eff→KR)(zn:Jb):Zo G 42 o.length K UH L Zc8 zn (ZH UH HV o) [(0,(fun e q g=>k0 q g))]=fun e q g=>KW G K L o k0 L (e 1).rd (e 3).rd q g:=ZhN G K L o k0 L
def F4 (G:GT)(K:KT)(L:Nat)(x0:AV)(o:HP):KR :=
  Za (JL 6 (AV.ro x0)) fun v1=>Vb (o ++ [.cells v1 UU]) fun h0=>Za (Zg 4 (.ptr (o).length 0)) fun v2=>Za (Ze h0 v2) fun v3=>Za (Z9 h0 .slice v3) fun v4=>Za (Zg 5 (.ptr (o).length 0)) fun v5=>Za (Ze h0 v5) fun v6=>Za (Z9 h0 .slice v6) fun v7=>Za (Zb .neq .prim v4 v7) fun v8=>ifK v8 (some (Zq false o (.int .i64 8) h0 none)) (Za (Zg 4 (.ptr (o).length 0)) fun v9=>Za (Ze h0 v9) fun v10=>Za (Z9 h0 .slice v10) fun v11=>Za (Zb .eql .prim v11 (.int .i64 0)) fun v12=>ifK v12 (some (Zq false o (.int .i64 7) h0 none)) (Za (Zg 4 (.ptr (o).length 0)) fun v13=>Za (Ze h0 v13) fun v14=>Za (Z9 h0 .slice v14) fun v15=>Za (Zb .gtr .prim v15 (.int .i64 20)) fun v16=>ifK v16 (some (Zq false o (.int .i64 6) h0 none)) (KW G K L o (Mo G K L o) L (.ptr (o).length 0) (.int .i64 0) h0 none)))
theorem ZnK (G:GT)(K:KT)(L:Nat)(x0:AV)(o:HP):fnK G K UH L HV [x0] o=F4 G K L x0 o:=by
 show Zo G 42 o.length K UH L Zee (ZH UH HV o) (ZH UH HV o) [] (Md [x0]) o none=_
 simp only [Zee,Z7,Zl,Zm,Zv]
 rw [ZhL G K L o ,ZhM G K L o (Mo G K L o) _]
 kernel_rfl
theorem Zrn {C:Cfg}{x0:AV}:RunT C ZdC HV [x0] (fun K=>F4 C.G K C.L x0):=runT rfl fun _ _=>ZnK ..
def Mt (G:GT)(K:KT)(L:Nat)(o:HP)(y3:AV)(q:HP)(g:Eff):KR :=
  some (Zq false o y3 q g)
theorem Zib (G:GT)(K:KT)(L:Nat)(o:HP) :Zo G 28 o.length K UL L ZcH (ZH UL Ib o) (ZH UL Ib o) []=fun e q g=>Mt G K L o (e 3).val q g:=by kernel_rfl
def Ga (G:GT)(K:KT)(L:Nat)(o:HP)(k0:AV→HP→Eff→KR):Nat→AV→AV→AV→AV→HP→Eff→KR
  | 0,_,_,_,_,_,_=>none
  | m + 1,x0,x3,y3,x4,q,g=>Za (Z9 q .slice x0) fun v0=>Za (Zb .lss .prim x4 v0) fun v1=>ifK v1 (Za (Zb .add .prim x3 (.int .i64 1)) fun v2=>Za (Yy (.slice 21) x0 x4) fun v3=>Za (Zg 19 v3) fun v4=>Za (Ze q v4) fun v5=>ZZ (ZG K KP [v5] q) fun v6 h7 f8=>Za (Zb .add .prim v2 (AV.ro v6)) fun v9=>Za (Yy (.slice 21) x0 x4) fun v10=>Za (Zg 20 v10) fun v11=>Za (Ze h7 v11) fun v12=>ZZ (ZG K KP [v12] h7) fun v13 h14 f15=>Za (Zb .add .prim v9 (AV.ro v13)) fun v16=>Za (Zb .add .prim x4 (.int .i64 1)) fun v17=>Ga G K L o k0 m x0 v16 v16 v17 h14 (Zd o.length (Zd o.length g f8) f15)) (k0 y3 q g)
theorem Zid (G:GT)(K:KT)(L:Nat)(o:HP)(k0:AV→HP→Eff→KR) :∀ m,X4 (fun n'=>Zo G 28 o.length K UL L ZaH n' (ZH UL Ib o) [(0,(fun e q g=>k0 (e 3).val q g))]) m=fun e q g=>Ga G K L o k0 m (e 0).rd (e 3).rd (e 3).val (e 4).rd q g:=lpI rfl fun _=>by kernel_rfl
theorem Zic (G:GT)(K:KT)(L:Nat)(o:HP)(k0:AV→HP→Eff→KR)(zn:Jb):Zo G 28 o.length K UL L ZcI zn (ZH UL Ib o) [(0,(fun e q g=>k0 (e 3).val q g))]=fun e q g=>Ga G K L o k0 L (e 0).rd (e 3).rd (e 3).val (e 4).rd q g:=Zid G K L o k0 L
def ZeP (G:GT)(K:KT)(L:Nat)(x0:AV)(o:HP):KR :=
  Ga G K L o (Mt G K L o) L (AV.ro x0) (.int .i64 0) (.int .i64 0) (.int .i64 0) o none
theorem ZnS (G:GT)(K:KT)(L:Nat)(x0:AV)(o:HP):fnK G K UL L Ib [x0] o=ZeP G K L x0 o:=by
 show Zo G 28 o.length K UL L Zei (ZH UL Ib o) (ZH UL Ib o) [] (Md [x0]) o none=_
 simp only [Zei,Z7,Zl,Zm,Zv]
 rw [Zib G K L o ,Zic G K L o (Mt G K L o) _]
 kernel_rfl
theorem Zrv {C:Cfg}{x0:AV}:RunT C KP Ib [x0] (fun K=>ZeP C.G K C.L x0):=runT rfl fun _ _=>ZnS ..
def Mv (G:GT)(K:KT)(L:Nat)(o:HP)(y3:AV)(q:HP)(g:Eff):KR :=
  some (Zq false o y3 q g)
theorem Zie (G:GT)(K:KT)(L:Nat)(o:HP) :Zo G 28 o.length K UM L ZcJ (ZH UM Ic o) (ZH UM Ic o) []=fun e q g=>Mv G K L o (e 3).val q g:=by kernel_rfl
def Gb (G:GT)(K:KT)(L:Nat)(o:HP)(k0:AV→HP→Eff→KR):Nat→AV→AV→AV→AV→HP→Eff→KR
  | 0,_,_,_,_,_,_=>none
  | m + 1,x0,x3,y3,x4,q,g=>Za (Z9 q .slice x0) fun v0=>Za (Zb .lss .prim x4 v0) fun v1=>ifK v1 (Za (Yy (.slice 21) x0 x4) fun v2=>Za (Zg 19 v2) fun v3=>Za (Ze q v3) fun v4=>ZZ (ZG K KQ [v4] q) fun v5 h6 f7=>Za (Zb .add .prim (.int .i64 1) (AV.ro v5)) fun v8=>Za (Yy (.slice 21) x0 x4) fun v9=>Za (Zg 20 v9) fun v10=>Za (Ze h6 v10) fun v11=>ZZ (ZG K KQ [v11] h6) fun v12 h13 f14=>Za (Zb .add .prim (.int .i64 1) (AV.ro v12)) fun v15=>Za (ZyK [x3,v8,v15]) fun v16=>Za (Zb .add .prim x4 (.int .i64 1)) fun v17=>Gb G K L o k0 m x0 v16 v16 v17 h13 (Zd o.length (Zd o.length g f7) f14)) (k0 y3 q g)
theorem Zig (G:GT)(K:KT)(L:Nat)(o:HP)(k0:AV→HP→Eff→KR) :∀ m,X4 (fun n'=>Zo G 28 o.length K UM L ZaI n' (ZH UM Ic o) [(0,(fun e q g=>k0 (e 3).val q g))]) m=fun e q g=>Gb G K L o k0 m (e 0).rd (e 3).rd (e 3).val (e 4).rd q g:=lpI rfl fun _=>by kernel_rfl
theorem Zif (G:GT)(K:KT)(L:Nat)(o:HP)(k0:AV→HP→Eff→KR)(zn:Jb):Zo G 28 o.length K UM L ZcK zn (ZH UM Ic o) [(0,(fun e q g=>k0 (e 3).val q g))]=fun e q g=>Gb G K L o k0 L (e 0).rd (e 3).rd (e 3).val (e 4).rd q g:=Zig G K L o k0 L
def ZeQ (G:GT)(K:KT)(L:Nat)(x0:AV)(o:HP):KR :=
  Gb G K L o (Mv G K L o) L (AV.ro x0) (.int .i64 0) (.int .i64 0) (.int .i64 0) o none
theorem ZnT (G:GT)(K:KT)(L:Nat)(x0:AV)(o:HP):fnK G K UM L Ic [x0] o=ZeQ G K L x0 o:=by
 show Zo G 28 o.length K UM L Zej (ZH UM Ic o) (ZH UM Ic o) [] (Md [x0]) o none=_
 simp only [Zej,Z7,Zl,Zm,Zv]
 rw [Zie G K L o ,Zif G K L o (Mv G K L o) _]
 kernel_rfl
theorem Zrw {C:Cfg}{x0:AV}:RunT C KQ Ic [x0] (fun K=>ZeQ C.G K C.L x0):=runT rfl fun _ _=>ZnT ..
def Ru (G:GT)(K:KT)(L:Nat)(o:HP)(q:HP)(g:Eff):KR :=
  some (Zq false o (.int .i64 0) q g)
theorem Zkd (G:GT)(K:KT)(L:Nat)(o:HP) :Zo G 35 o.length K V5 L ZfC (ZH V5 Ko o) (ZH V5 Ko o) []=fun e q g=>Ru G K L o  q g:=by kernel_rfl
def Rt (G:GT)(K:KT)(L:Nat)(o:HP)(kn:AV→AV→HP→Eff→KR)(x0:AV)(x3:AV)(q:HP)(g:Eff):KR :=
  Za (Zb .add .prim x3 (.int .i64 1)) fun v2=>kn x0 v2 q g
theorem Zkc (G:GT)(K:KT)(L:Nat)(o:HP)(kn:AV→AV→HP→Eff→KR)(z0:Jb):Zo G 35 o.length K V5 L ZfB (fun e q g=>kn (e 0).rd (e 3).rd q g) (ZH V5 Ko o) [(0,z0)]=fun e q g=>Rt G K L o kn (e 0).rd (e 3).rd q g:=by kernel_rfl
def Pg (G:GT)(K:KT)(L:Nat)(o:HP)(kn:AV→AV→HP→Eff→KR)(x0:AV)(x3:AV)(x4:AV)(y4:AV)(q:HP)(g:Eff):KR :=
  Za (Zb .eql .prim x4 (.int .i64 0)) fun v8=>ifK v8 (Za (Yy (.slice 21) x0 x3) fun v9=>Za (Zg 20 v9) fun v10=>Za (Ze q v10) fun v11=>ZZ (K Ob [v11] q) fun v12 h13 f14=>Za (Zb .neq .prim (AV.ro v12) (.int .i64 0)) fun v15=>ifK v15 (some (Zq false o v12 h13 (Zd o.length g f14))) (kn x0 x3 h13 (Zd o.length g f14))) (Za (Zb .neq .prim x4 (.int .i64 0)) fun v16=>ifK v16 (some (Zq false o y4 q g)) (kn x0 x3 q g))
theorem Zkb (G:GT)(K:KT)(L:Nat)(o:HP)(kn:AV→AV→HP→Eff→KR)(z1 z0:Jb):Zo G 35 o.length K V5 L ZfA (fun e q g=>kn (e 0).rd (e 3).rd q g) (ZH V5 Ko o) [(1,z1),(0,z0)]=fun e q g=>Pg G K L o kn (e 0).rd (e 3).rd (e 4).rd (e 4).val q g:=by kernel_rfl
def Jy (G:GT)(K:KT)(L:Nat)(o:HP)(k0:HP→Eff→KR):Nat→AV→AV→HP→Eff→KR
  | 0,_,_,_,_=>none
  | m + 1,x0,x3,q,g=>Za (Z9 q .slice x0) fun v0=>Za (Zb .lss .prim x3 v0) fun v1=>ifK v1 (Za (Yy (.slice 21) x0 x3) fun v3=>Za (Zp q 21 v3) fun v4=>ZZ (K Zaf [v4] q) fun v5 h6 f7=>Za (Zb .eql .prim (AV.ro v5) (.int .i64 0)) fun v17=>ifK v17 (Za (Yy (.slice 21) x0 x3) fun v18=>Za (Zg 19 v18) fun v19=>Za (Ze h6 v19) fun v20=>ZZ (K Ob [v20] h6) fun v21 h22 f23=>Pg G K L o (Rt G K L o (Jy G K L o k0 m)) x0 x3 (AV.ro v21) v21 h22 (Zd o.length (Zd o.length g f7) f23)) (Pg G K L o (Rt G K L o (Jy G K L o k0 m)) x0 x3 (AV.ro v5) v5 h6 (Zd o.length g f7))) (k0  q g)
theorem Zkf (G:GT)(K:KT)(L:Nat)(o:HP)(k0:HP→Eff→KR) :∀ m,X4 (fun n'=>Zo G 35 o.length K V5 L BJ n' (ZH V5 Ko o) [(0,(fun e q g=>k0 q g))]) m=fun e q g=>Jy G K L o k0 m (e 0).rd (e 3).rd q g:=by
 intro m
 induction m with
 | zero=>rfl
 | succ m ih =>
  show Zo G 35 o.length K V5 L BJ (X4 _ m) (ZH V5 Ko o) [(0,(fun e q g=>k0 q g))]=_
  rw [ih]
  simp only [BJ,Z7,Zl,Zm,Zv]
  rw [Zkc G K L o (Jy G K L o k0 m) _,Zkb G K L o (Rt G K L o (Jy G K L o k0 m)) _ _]
  kernel_rfl
theorem Zke (G:GT)(K:KT)(L:Nat)(o:HP)(k0:HP→Eff→KR)(zn:Jb):Zo G 35 o.length K V5 L ZfD zn (ZH V5 Ko o) [(0,(fun e q g=>k0 q g))]=fun e q g=>Jy G K L o k0 L (e 0).rd (e 3).rd q g:=Zkf G K L o k0 L
def Zin (G:GT)(K:KT)(L:Nat)(x0:AV)(o:HP):KR :=
  Jy G K L o (Ru G K L o) L (AV.ro x0) (.int .i64 0) o none
theorem Zqw (G:GT)(K:KT)(L:Nat)(x0:AV)(o:HP):fnK G K V5 L Ko [x0] o=Zin G K L x0 o:=by
 show Zo G 35 o.length K V5 L Zhv (ZH V5 Ko o) (ZH V5 Ko o) [] (Md [x0]) o none=_
 simp only [Zhv,Z7,Zl,Zm,Zv]
 rw [Zkd G K L o ,Zke G K L o (Ru G K L o) _]
 kernel_rfl
theorem Zto {C:Cfg}{x0:AV}:RunT C Ob Ko [x0] (fun K=>Zin C.G K C.L x0):=runT rfl fun _ _=>Zqw ..
def BM (G:GT)(K:KT)(L:Nat)(o:HP)(q:HP)(g:Eff):KR :=
  some (Zq false o (.bool true) q g)
theorem Zh2 (G:GT)(K:KT)(L:Nat)(o:HP) :Zo G 52 o.length K UG L Zc5 (ZH UG H9 o) (ZH UG H9 o) []=fun e q g=>BM G K L o  q g:=by kernel_rfl
def Mj (G:GT)(K:KT)(L:Nat)(o:HP)(k0:HP→Eff→KR):Nat→AV→AV→AV→AV→HP→Eff→KR
  | 0,_,_,_,_,_,_=>none
  | m + 1,x3,x36,x37,x38,q,g=>Za (Zb .lss .prim x38 x37) fun v38=>ifK v38 (Za (Yy (.slice 4) x36 x38) fun v39=>Za (Zp q 4 v39) fun v40=>Vb (q ++ [.cells [(.int .i64 0),(.str []),(.int .i64 0),(.own 4 [])] Yu]) fun h41=>JJ (stV o.length 4 (.ptr (q).length 0) v40 h41 g) fun h42 f43=>Za (Zp h42 4 (.ptr (q).length 0)) fun v44=>Za (Zg 3 x3) fun v45=>Za (Ze h42 v45) fun v46=>Za (Yy (.slice 4) v46 x38) fun v47=>Za (Zp h42 4 v47) fun v48=>ZZ (ZG K Ap [v44,v48] h42) fun v49 h50 f51=>Za (X8 .not (AV.ro v49)) fun v52=>ifK v52 (some (Zq false o (.bool false) h50 (Zd o.length f43 f51))) (Za (Zb .add .prim x38 (.int .i64 1)) fun v53=>Mj G K L o k0 m x3 x36 x37 v53 h50 (Zd o.length f43 f51))) (k0  q g)
theorem Zh4 (G:GT)(K:KT)(L:Nat)(o:HP)(k0:HP→Eff→KR) :∀ m,X4 (fun n'=>Zo G 52 o.length K UG L Za6 n' (ZH UG H9 o) [(0,(fun e q g=>k0 q g))]) m=fun e q g=>Mj G K L o k0 m (e 3).rd (e 36).rd (e 37).rd (e 38).rd q g:=lpI rfl fun _=>by kernel_rfl
theorem Zh3 (G:GT)(K:KT)(L:Nat)(o:HP)(k0:HP→Eff→KR)(zn:Jb):Zo G 52 o.length K UG L Zc6 zn (ZH UG H9 o) [(0,(fun e q g=>k0 q g))]=fun e q g=>Mj G K L o k0 L (e 3).rd (e 36).rd (e 37).rd (e 38).rd q g:=Zh4 G K L o k0 L
def Fu (G:GT)(K:KT)(L:Nat)(x0 x1:AV)(o:HP):KR :=
  Za (JL 4 (AV.ro x0)) fun v1=>Vb (o ++ [.cells v1 Yu]) fun h0=>Za (JL 4 (AV.ro x1)) fun v3=>Vb (h0 ++ [.cells v3 Yu]) fun h2=>Za (Zg 0 (.ptr (o).length 0)) fun v4=>Za (Ze h2 v4) fun v5=>Za (Zg 0 (.ptr (h0).length 0)) fun v6=>Za (Ze h2 v6) fun v7=>Za (Zb .neq .prim v5 v7) fun v8=>Qn v8 false (Za (Zg 1 (.ptr (o).length 0)) fun v9=>Za (Ze h2 v9) fun v10=>Za (Zg 1 (.ptr (h0).length 0)) fun v11=>Za (Ze h2 v11) fun v12=>Za (Zb .neq .prim v10 v12) fun v13=>some (v13,h2,none)) (some (.bool true)) h2 none fun v14 h15 f16=>Qn (AV.ro v14) false (Za (Zg 2 (.ptr (o).length 0)) fun v17=>Za (Ze h15 v17) fun v18=>Za (Zg 2 (.ptr (h0).length 0)) fun v19=>Za (Ze h15 v19) fun v20=>Za (Zb .neq .prim v18 v20) fun v21=>some (v21,h15,f16)) (some (.bool true)) h15 f16 fun v22 h23 f24=>Qn (AV.ro v22) false (Za (Zg 3 (.ptr (o).length 0)) fun v25=>Za (Ze h23 v25) fun v26=>Za (Z9 h23 .slice v26) fun v27=>Za (Zg 3 (.ptr (h0).length 0)) fun v28=>Za (Ze h23 v28) fun v29=>Za (Z9 h23 .slice v29) fun v30=>Za (Zb .neq .prim v27 v30) fun v31=>some (v31,h23,f24)) (some (.bool true)) h23 f24 fun v32 h33 f34=>ifK (AV.ro v32) (some (Zq false o (.bool false) h33 f34)) (Za (Zg 3 (.ptr (o).length 0)) fun v35=>Za (Ze h33 v35) fun v36=>Za (Z9 h33 .slice v36) fun v37=>Mj G K L o (BM G K L o) L (.ptr (h0).length 0) v36 v37 (.int .i64 0) h33 f34)
theorem ZnH (G:GT)(K:KT)(L:Nat)(x0 x1:AV)(o:HP):fnK G K UG L H9 [x0,x1] o=Fu G K L x0 x1 o:=by
 show Zo G 52 o.length K UG L Zec (ZH UG H9 o) (ZH UG H9 o) [] (Md [x0,x1]) o none=_
 simp only [Zec,Z7,Zl,Zm,Zv]
 rw [Zh2 G K L o ,Zh3 G K L o (BM G K L o) _]
 kernel_rfl
theorem ZqL {C:Cfg}{x0 x1:AV}:RunT C Ap H9 [x0,x1] (fun K=>Fu C.G K C.L x0 x1):=runT rfl fun _ _=>ZnH ..
def VH (G:GT)(K:KT)(L:Nat)(x0 x1:AV)(o:HP):KR :=
  ZZ (K J5 [(AV.ro x0),(AV.ro x1)] o) fun v0 h1 f2=>Za (Zb .geq .prim (AV.ro v0) (.int .i64 0)) fun v3=>some (Zq false o v3 h1 (Zd o.length none f2))
theorem M9 (G:GT)(K:KT)(L:Nat)(x0 x1:AV)(o:HP):fnK G K RD L VD [x0,x1] o=VH G K L x0 x1 o:=by kernel_rfl
theorem Lr {C:Cfg}{x0 x1:AV}:RunT C XC VD [x0,x1] (fun K=>VH C.G K C.L x0 x1):=runT rfl fun _ _=>M9 ..
def Zbi (G:GT)(K:KT)(L:Nat)(x0:AV)(o:HP):KR :=
  Za (JL 6 (AV.ro x0)) fun v1=>Vb (o ++ [.cells v1 UU]) fun h0=>Za (Zp h0 6 (.ptr (o).length 0)) fun v2=>ZZ (K Ao [v2] h0) fun v3 h4 f5=>Za (X8 .not (AV.ro v3)) fun v6=>ifK v6 (some (Zq false o (.int .i64 1) h4 (Zd o.length none f5))) (Za (Zg 0 (.ptr (o).length 0)) fun v7=>Za (Ze h4 v7) fun v8=>Za (Zb .eql .prim v8 (.int .i64 1)) fun v9=>ifK v9 (Za (Zg 1 (.ptr (o).length 0)) fun v10=>Za (Ze h4 v10) fun v11=>JJ (ZbM ZdA 1 [v11] h4) fun v12 h13=>ZZ (K Uc [(.int .i64 0),(.int .i64 1000000000),(AV.ro v12)] h13) fun v14 h15 f16=>Za (X8 .not (AV.ro v14)) fun v17=>ifK v17 (some (Zq false o (.int .i64 2) h15 (Zd o.length (Zd o.length none f5) f16))) (some (Zq false o (.int .i64 0) h15 (Zd o.length (Zd o.length none f5) f16)))) (Za (Zb .eql .prim v8 (.int .i64 2)) fun v18=>ifK v18 (Za (Zg 1 (.ptr (o).length 0)) fun v19=>Za (Ze h4 v19) fun v20=>Za (Zg 2 (.ptr (o).length 0)) fun v21=>Za (Ze h4 v21) fun v22=>JJ (ZbM ZdA 1 [v20,v22] h4) fun v23 h24=>ZZ (K Uc [(.int .i64 0),(.int .i64 1000000000),(AV.ro v23)] h24) fun v25 h26 f27=>Qn (AV.ro v25) true (Za (Zg 1 (.ptr (o).length 0)) fun v28=>Za (Ze h26 v28) fun v29=>Za (Zg 2 (.ptr (o).length 0)) fun v30=>Za (Ze h26 v30) fun v31=>Za (Zb .leq .prim v29 v31) fun v32=>some (v32,h26,(Zd o.length (Zd o.length none f5) f27))) (some (.bool false)) h26 (Zd o.length (Zd o.length none f5) f27) fun v33 h34 f35=>Za (X8 .not (AV.ro v33)) fun v36=>ifK v36 (some (Zq false o (.int .i64 2) h34 f35)) (some (Zq false o (.int .i64 0) h34 f35))) (Za (Zb .eql .prim v8 (.int .i64 4)) fun v37=>ifK v37 (Za (Zg 3 (.ptr (o).length 0)) fun v38=>Za (Ze h4 v38) fun v39=>JJ (ZbM ZdA 1 [v39] h4) fun v40 h41=>ZZ (K Uc [(.int .i64 1),(.int .i64 20),(AV.ro v40)] h41) fun v42 h43 f44=>Qn (AV.ro v42) true (Za (Zg 1 (.ptr (o).length 0)) fun v45=>Za (Ze h43 v45) fun v46=>Za (Zg 2 (.ptr (o).length 0)) fun v47=>Za (Ze h43 v47) fun v48=>JJ (ZbM ZdA 1 [v46,v48] h43) fun v49 h50=>ZZ (K Uc [(.int .i64 0),(.int .i64 1000000),(AV.ro v49)] h50) fun v51 h52 f53=>some ((AV.ro v51),h52,(Zd o.length (Zd o.length (Zd o.length none f5) f44) f53))) (some (.bool false)) h43 (Zd o.length (Zd o.length none f5) f44) fun v54 h55 f56=>Qn (AV.ro v54) true (Za (Zg 1 (.ptr (o).length 0)) fun v57=>Za (Ze h55 v57) fun v58=>Za (Zg 2 (.ptr (o).length 0)) fun v59=>Za (Ze h55 v59) fun v60=>Za (Zb .leq .prim v58 v60) fun v61=>some (v61,h55,f56)) (some (.bool false)) h55 f56 fun v62 h63 f64=>Za (X8 .not (AV.ro v62)) fun v65=>ifK v65 (some (Zq false o (.int .i64 2) h63 f64)) (some (Zq false o (.int .i64 0) h63 f64))) (Za (Zb .eql .prim v8 (.int .i64 5)) fun v66=>ifK v66 (Za (Zg 1 (.ptr (o).length 0)) fun v67=>Za (Ze h4 v67) fun v68=>Za (Zg 2 (.ptr (o).length 0)) fun v69=>Za (Ze h4 v69) fun v70=>JJ (ZbM ZdA 1 [v68,v70] h4) fun v71 h72=>ZZ (K Uc [(.int .i64 1),(.int .i64 1000),(AV.ro v71)] h72) fun v73 h74 f75=>Za (X8 .not (AV.ro v73)) fun v76=>ifK v76 (some (Zq false o (.int .i64 2) h74 (Zd o.length (Zd o.length none f5) f75))) (some (Zq false o (.int .i64 0) h74 (Zd o.length (Zd o.length none f5) f75)))) (Za (Zb .eql .prim v8 (.int .i64 3)) fun v77=>ifK v77 (Za (Zg 4 (.ptr (o).length 0)) fun v78=>Za (Ze h4 v78) fun v79=>Za (Z9 h4 .slice v79) fun v80=>Za (Zg 5 (.ptr (o).length 0)) fun v81=>Za (Ze h4 v81) fun v82=>Za (Z9 h4 .slice v82) fun v83=>Za (Zb .neq .prim v80 v83) fun v84=>ifK v84 (some (Zq false o (.int .i64 8) h4 (Zd o.length none f5))) (Za (Zb .eql .prim v80 (.int .i64 0)) fun v85=>ifK v85 (some (Zq false o (.int .i64 7) h4 (Zd o.length none f5))) (Za (Zb .gtr .prim v80 (.int .i64 20)) fun v86=>ifK v86 (some (Zq false o (.int .i64 6) h4 (Zd o.length none f5))) (Za (Zg 4 (.ptr (o).length 0)) fun v87=>Za (Ze h4 v87) fun v88=>ZZ (K Uc [(.int .i64 0),(.int .i64 1000000000),v88] h4) fun v89 h90 f91=>Qn (AV.ro v89) true (Za (Zg 5 (.ptr (o).length 0)) fun v92=>Za (Ze h90 v92) fun v93=>ZZ (K Uc [(.int .i64 1),(.int .i64 1000),v93] h90) fun v94 h95 f96=>some ((AV.ro v94),h95,(Zd o.length (Zd o.length (Zd o.length none f5) f91) f96))) (some (.bool false)) h90 (Zd o.length (Zd o.length none f5) f91) fun v97 h98 f99=>Za (X8 .not (AV.ro v97)) fun v100=>ifK v100 (some (Zq false o (.int .i64 2) h98 f99)) (some (Zq false o (.int .i64 0) h98 f99)))))) (Za (X8 .not (.bool false)) fun v101=>ifK v101 (some (Zq false o (.int .i64 2) h4 (Zd o.length none f5))) (some (Zq false o (.int .i64 0) h4 (Zd o.length none f5)))))))))
theorem Zl5 (G:GT)(K:KT)(L:Nat)(x0:AV)(o:HP):fnK G K ZsX L Zal [x0] o=Zbi G K L x0 o:=by kernel_rfl
theorem Zoj {C:Cfg}{x0:AV}:RunT C Uq Zal [x0] (fun K=>Zbi C.G K C.L x0):=runT rfl fun _ _=>Zl5 ..
def Qz (G:GT)(K:KT)(L:Nat)(o:HP)(y6:AV)(q:HP)(g:Eff):KR :=
  some (Zq false o y6 q g)
theorem Iy (G:GT)(K:KT)(L:Nat)(o:HP) :Zo G 36 o.length K Zn L Jo (ZH Zn Z8 o) (ZH Zn Z8 o) []=fun e q g=>Qz G K L o (e 6).val q g:=by kernel_rfl
def WP (G:GT)(K:KT)(L:Nat)(o:HP)(k2:AV→HP→Eff→KR):Nat→AV→AV→AV→AV→HP→Eff→KR
  | 0,_,_,_,_,_,_=>none
  | m + 1,y6,x25,x26,x27,q,g=>Za (Zb .lss .prim x27 x26) fun v4=>ifK v4 (Za (Yy (.slice 1) x25 x27) fun v5=>Za (Ze q v5) fun v6=>Za (Zpk 2 24 y6 v6 q) fun v7=>Za (Zb .add .prim x27 (.int .i64 1)) fun v8=>WP G K L o k2 m v7 x25 x26 v8 q g) (k2 y6 q g)
theorem I5 (G:GT)(K:KT)(L:Nat)(o:HP)(k2:AV→HP→Eff→KR) :∀ m,X4 (fun n'=>Zo G 36 o.length K Zn L VZ n' (ZH Zn Z8 o) [(2,(fun e q g=>k2 (e 6).val q g))]) m=fun e q g=>WP G K L o k2 m (e 6).val (e 25).rd (e 26).rd (e 27).rd q g:=lpI rfl fun _=>by kernel_rfl
theorem I4 (G:GT)(K:KT)(L:Nat)(o:HP)(k2:AV→HP→Eff→KR)(zn:Jb):Zo G 36 o.length K Zn L Jq zn (ZH Zn Z8 o) [(2,(fun e q g=>k2 (e 6).val q g))]=fun e q g=>WP G K L o k2 L (e 6).val (e 25).rd (e 26).rd (e 27).rd q g:=I5 G K L o k2 L
def Qy (G:GT)(K:KT)(L:Nat)(o:HP)(x0:AV)(x3:AV)(q:HP)(g:Eff):KR :=
  ZZ (K Xu [(.own 2 []),x3] q) fun v0 h1 f2=>Za (Z9 h1 .slice x0) fun v3=>WP G K L o (Qz G K L o) L v0 x0 v3 (.int .i64 0) h1 (Zd o.length g f2)
theorem Iw (G:GT)(K:KT)(L:Nat)(o:HP) :Zo G 36 o.length K Zn L XG (ZH Zn Z8 o) (ZH Zn Z8 o) []=fun e q g=>Qy G K L o (e 0).rd (e 3).rd q g:=by
 simp only [XG,Z7,Zl,Zm,Zv]
 rw [Iy G K L o ,I4 G K L o (Qz G K L o) _]
 kernel_rfl
def WO (G:GT)(K:KT)(L:Nat)(o:HP)(k0:AV→AV→HP→Eff→KR):Nat→AV→AV→AV→AV→AV→HP→Eff→KR
  | 0,_,_,_,_,_,_,_=>none
  | m + 1,x0,x3,x9,x10,x11,q,g=>Za (Zb .lss .prim x11 x10) fun v10=>ifK v10 (Za (Yy (.slice 1) x9 x11) fun v11=>Za (Ze q v11) fun v12=>Za (Z9 q .slice v12) fun v13=>Za (Zb .add .prim x3 v13) fun v14=>Za (Zb .lss .prim v14 (.int .i64 0)) fun v15=>ifK v15 (none) (Za (Zb .add .prim x11 (.int .i64 1)) fun v16=>WO G K L o k0 m x0 v14 x9 x10 v16 q g)) (k0 x0 x3 q g)
theorem I1 (G:GT)(K:KT)(L:Nat)(o:HP)(k0:AV→AV→HP→Eff→KR) :∀ m,X4 (fun n'=>Zo G 36 o.length K Zn L VY n' (ZH Zn Z8 o) [(0,(fun e q g=>k0 (e 0).rd (e 3).rd q g))]) m=fun e q g=>WO G K L o k0 m (e 0).rd (e 3).rd (e 9).rd (e 10).rd (e 11).rd q g:=lpI rfl fun _=>by kernel_rfl
theorem Iz (G:GT)(K:KT)(L:Nat)(o:HP)(k0:AV→AV→HP→Eff→KR)(zn:Jb):Zo G 36 o.length K Zn L Jp zn (ZH Zn Z8 o) [(0,(fun e q g=>k0 (e 0).rd (e 3).rd q g))]=fun e q g=>WO G K L o k0 L (e 0).rd (e 3).rd (e 9).rd (e 10).rd (e 11).rd q g:=I1 G K L o k0 L
def Va (G:GT)(K:KT)(L:Nat)(x0:AV)(o:HP):KR :=
  Za (Z9 o .slice (AV.ro x0)) fun v9=>WO G K L o (Qy G K L o) L (AV.ro x0) (.int .i64 0) (AV.ro x0) v9 (.int .i64 0) o none
theorem O6 (G:GT)(K:KT)(L:Nat)(x0:AV)(o:HP):fnK G K Zn L Z8 [x0] o=Va G K L x0 o:=by
 show Zo G 36 o.length K Zn L XZ (ZH Zn Z8 o) (ZH Zn Z8 o) [] (Md [x0]) o none=_
 simp only [XZ,Z7,Zl,Zm,Zv]
 rw [Iw G K L o ,Iz G K L o (Qy G K L o) _]
 kernel_rfl
theorem Tq {C:Cfg}{x0:AV}:RunT C XY Z8 [x0] (fun K=>Va C.G K C.L x0):=runT rfl fun _ _=>O6 ..
def Zb0 (G:GT)(K:KT)(L:Nat)(x0:AV)(o:HP):KR :=
  ZZ (K Us [(AV.ro x0)] o) fun v0 h1 f2=>Za (Zb .gtr .prim (AV.ro v0) (.int .i64 200)) fun v3=>ifK v3 (some (Zq false o (.int .i64 6) h1 (Zd o.length none f2))) (ZZ (K Ut [(AV.ro x0)] h1) fun v4 h5 f6=>Za (Zb .gtr .prim (AV.ro v4) (.int .i64 12)) fun v7=>ifK v7 (some (Zq false o (.int .i64 11) h5 (Zd o.length (Zd o.length none f2) f6))) (ZZ (K Uu [(AV.ro x0)] h5) fun v8 h9 f10=>some (Zq false o v8 h9 (Zd o.length (Zd o.length (Zd o.length none f2) f6) f10))))
theorem ZlP (G:GT)(K:KT)(L:Nat)(x0:AV)(o:HP):fnK G K Zti L Zaw [x0] o=Zb0 G K L x0 o:=by kernel_rfl
theorem Zpa {C:Cfg}{x0:AV}:RunT C NI Zaw [x0] (fun K=>Zb0 C.G K C.L x0):=runT rfl fun _ _=>ZlP ..
def DI (G:GT)(K:KT)(L:Nat)(x0 x1:AV)(o:HP):KR :=
  Za (JL 3 (AV.ro x0)) fun v1=>Vb (o ++ [.cells v1 I7]) fun h0=>Za (Zp h0 13 (AV.ro x1)) fun v2=>Za (Zp h0 3 (.ptr (o).length 0)) fun v3=>ZZ (K Zac [v2,v3] h0) fun v4 h5 f6=>some (Zq false o v4 h5 (Zd o.length none f6))
theorem Ze7 (G:GT)(K:KT)(L:Nat)(x0 x1:AV)(o:HP):fnK G K ZkQ L Dt [x0,x1] o=DI G K L x0 x1 o:=by kernel_rfl
theorem ZgR {C:Cfg}{x0 x1:AV}:RunT C ML Dt [x0,x1] (fun K=>DI C.G K C.L x0 x1):=runT rfl fun _ _=>Ze7 ..
def Vm (G:GT)(K:KT)(L:Nat)(o:HP)(q:HP)(g:Eff):KR :=
  some (Zq false o (.int .i64 0) q g)
theorem Pd (G:GT)(K:KT)(L:Nat)(o:HP) :Zo G 27 o.length K WM L Mh (ZH WM Qw o) (ZH WM Qw o) []=fun e q g=>Vm G K L o  q g:=by kernel_rfl
def QH (G:GT)(K:KT)(L:Nat)(o:HP)(k0:HP→Eff→KR):Nat→AV→AV→AV→AV→HP→Eff→KR
  | 0,_,_,_,_,_,_=>none
  | m + 1,x2,x14,x15,x16,q,g=>Za (Zb .lss .prim x16 x15) fun v3=>ifK v3 (Za (Yy (.slice 3) x14 x16) fun v4=>Za (Zp q 3 v4) fun v5=>Vb (q ++ [.cells [(.int .i64 0),(.str []),(.str [])] I7]) fun h6=>JJ (stV o.length 3 (.ptr (q).length 0) v5 h6 g) fun h7 f8=>Za (Zp h7 3 (.ptr (q).length 0)) fun v9=>ZZ (Vz K x2 [v9] h7) fun v10 h11 f12=>Za (Zb .neq .prim (AV.ro v10) (.int .i64 0)) fun v13=>ifK v13 (some (Zq false o v10 h11 (Zd o.length f8 f12))) (Za (Zb .add .prim x16 (.int .i64 1)) fun v14=>QH G K L o k0 m x2 x14 x15 v14 h11 (Zd o.length f8 f12))) (k0  q g)
theorem Pf (G:GT)(K:KT)(L:Nat)(o:HP)(k0:HP→Eff→KR) :∀ m,X4 (fun n'=>Zo G 27 o.length K WM L TN n' (ZH WM Qw o) [(0,(fun e q g=>k0 q g))]) m=fun e q g=>QH G K L o k0 m (e 2).rd (e 14).rd (e 15).rd (e 16).rd q g:=lpI rfl fun _=>by kernel_rfl
theorem Pe (G:GT)(K:KT)(L:Nat)(o:HP)(k0:HP→Eff→KR)(zn:Jb):Zo G 27 o.length K WM L Mi zn (ZH WM Qw o) [(0,(fun e q g=>k0 q g))]=fun e q g=>QH G K L o k0 L (e 2).rd (e 14).rd (e 15).rd (e 16).rd q g:=Pf G K L o k0 L
def Om (G:GT)(K:KT)(L:Nat)(x0 x1 x2:AV)(o:HP):KR :=
  Za (Z9 o .slice (AV.ro x0)) fun v0=>Za (Zb .gtr .prim v0 (AV.ro x1)) fun v1=>ifK v1 (some (Zq false o (.int .i64 6) o none)) (Za (Z9 o .slice (AV.ro x0)) fun v2=>QH G K L o (Vm G K L o) L (AV.ro x2) (AV.ro x0) v2 (.int .i64 0) o none)
theorem El (G:GT)(K:KT)(L:Nat)(x0 x1 x2:AV)(o:HP):fnK G K WM L Qw [x0,x1,x2] o=Om G K L x0 x1 x2 o:=by
 show Zo G 27 o.length K WM L Oj (ZH WM Qw o) (ZH WM Qw o) [] (Md [x0,x1,x2]) o none=_
 simp only [Oj,Z7,Zl,Zm,Zv]
 rw [Pd G K L o ,Pe G K L o (Vm G K L o) _]
 kernel_rfl
theorem Ai {C:Cfg}{x0 x1 x2:AV}:RunT C Og Qw [x0,x1,x2] (fun K=>Om C.G K C.L x0 x1 x2):=runT rfl fun _ _=>El ..
def ZlI (G:GT)(K:KT)(L:Nat)(x0:AV)(o:HP):KR :=
  Za (JL 21 (AV.ro x0)) fun v1=>Vb (o ++ [.cells v1 Qc]) fun h0=>Za (Zg 0 (.ptr (o).length 0)) fun v2=>Za (Ze h0 v2) fun v3=>ZZ (K Zlb [v3] h0) fun v4 h5 f6=>Za (JO (AV.ro v4) 0) fun v7=>Za (JO (AV.ro v4) 1) fun v8=>Vb (h5 ++ [.cells [(.bool false),(.bool false),(.bool false),(.bool false),(.bool false),(.bool false),(.bool false),(.bool false),(.bool false)] Ww]) fun h9=>JJ (stV o.length 9 (.ptr (h5).length 0) v7 h9 (Zd o.length none f6)) fun h10 f11=>Za (Zp h10 21 (.ptr (o).length 0)) fun v12=>ZZ (K Zae [v12] h10) fun v13 h14 f15=>Za (X8 .not (AV.ro v13)) fun v16=>ifK v16 (some (Zq false o (.int .i64 1) h14 (Zd o.length f11 f15))) (Za (Zg 0 (.ptr (h5).length 0)) fun v17=>Za (Ze h14 v17) fun v18=>Qn v18 true (Za (Zg 1 (.ptr (o).length 0)) fun v19=>Za (Ze h14 v19) fun v20=>ZZ (K H7 [v20] h14) fun v21 h22 f23=>Za (Zb .neq .prim (AV.ro v21) (.int .i64 0)) fun v24=>some (v24,h22,(Zd o.length (Zd o.length f11 f15) f23))) (some (.bool false)) h14 (Zd o.length f11 f15) fun v25 h26 f27=>Qn (AV.ro v25) false (Za (Zg 1 (.ptr (h5).length 0)) fun v28=>Za (Ze h26 v28) fun v29=>Qn v29 true (Za (Zg 2 (.ptr (o).length 0)) fun v30=>Za (Ze h26 v30) fun v31=>ZZ (K H7 [v31] h26) fun v32 h33 f34=>Za (Zb .neq .prim (AV.ro v32) (.int .i64 0)) fun v35=>some (v35,h33,(Zd o.length f27 f34))) (some (.bool false)) h26 f27 fun v36 h37 f38=>some ((AV.ro v36),h37,f38)) (some (.bool true)) h26 f27 fun v39 h40 f41=>ifK (AV.ro v39) (some (Zq false o (.int .i64 3) h40 f41)) (Za (Zp h40 21 (.ptr (o).length 0)) fun v42=>Za (Zp h40 9 (.ptr (h5).length 0)) fun v43=>ZZ (K ZdF [v42,v43] h40) fun v44 h45 f46=>Za (Zb .eql .prim (AV.ro v44) (.int .i64 0)) fun v47=>Qn v47 true (Za (Zg 5 (.ptr (h5).length 0)) fun v48=>Za (Ze h45 v48) fun v49=>some (v49,h45,(Zd o.length f41 f46))) (some (.bool false)) h45 (Zd o.length f41 f46) fun v50 h51 f52=>ifK (AV.ro v50) (Za (Zg 12 (.ptr (o).length 0)) fun v53=>Za (Zp h51 6 v53) fun v54=>ZZ (K Pz [v54] h51) fun v55 h56 f57=>some (Zq false o v55 h56 (Zd o.length f52 f57))) (some (Zq false o v44 h51 f52))))
theorem Zsp (G:GT)(K:KT)(L:Nat)(x0:AV)(o:HP):fnK G K Zyj L Zlj [x0] o=ZlI G K L x0 o:=by kernel_rfl
theorem Zvb {C:Cfg}{x0:AV}:RunT C Zaf Zlj [x0] (fun K=>ZlI C.G K C.L x0):=runT rfl fun _ _=>Zsp ..
def IE (G:GT)(K:KT)(L:Nat)(o:HP)(q:HP)(g:Eff):KR :=
  some (Zq false o (.bool false) q g)
theorem Zeu (G:GT)(K:KT)(L:Nat)(o:HP) :Zo G 54 o.length K Um L FR (ZH Um Kw o) (ZH Um Kw o) []=fun e q g=>IE G K L o  q g:=by kernel_rfl
def MM (G:GT)(K:KT)(L:Nat)(o:HP)(x1:AV)(x3:AV)(y3:AV)(x13:AV)(x27:AV)(q:HP)(g:Eff):KR :=
  ifK x27 (Qn x3 true (Za (Zg 3 x1) fun v25=>Za (Ze q v25) fun v26=>Za (Zb .eql .prim v26 (.int .i64 0)) fun v27=>some (v27,q,g)) (some (.bool false)) q g fun v28 h29 f30=>some (Zq false o v28 h29 f30)) (Za (Zb .eql .prim x13 (.int .i64 4)) fun v31=>ifK v31 (some (Zq false o y3 q g)) (Za (Zb .eql .prim x13 (.int .i64 3)) fun v32=>ifK v32 (Za (Zg 1 x1) fun v33=>Za (Ze q v33) fun v34=>Za (Zb .eql .prim v34 (.int .i64 0)) fun v35=>Qn v35 true (Za (Zg 2 x1) fun v36=>Za (Ze q v36) fun v37=>Za (Zb .eql .prim v37 (.int .i64 0)) fun v38=>some (v38,q,g)) (some (.bool false)) q g fun v39 h40 f41=>Qn (AV.ro v39) true (Za (Zg 3 x1) fun v42=>Za (Ze h40 v42) fun v43=>Za (Zb .eql .prim v43 (.int .i64 0)) fun v44=>some (v44,h40,f41)) (some (.bool false)) h40 f41 fun v45 h46 f47=>some (Zq false o v45 h46 f47)) (IE G K L o   q g)))
theorem Zet (G:GT)(K:KT)(L:Nat)(o:HP) :Zo G 54 o.length K Um L FQ (fun e q g=>(IE G K L o) q g) (ZH Um Kw o) [(0,(fun e q g=>(IE G K L o) q g))]=fun e q g=>MM G K L o (e 1).rd (e 3).rd (e 3).val (e 13).rd (e 27).rd q g:=by kernel_rfl
def Fq (G:GT)(K:KT)(L:Nat)(x0:AV)(o:HP):KR :=
  Za (JL 6 (AV.ro x0)) fun v1=>Vb (o ++ [.cells v1 UU]) fun h0=>Za (Zg 4 (.ptr (o).length 0)) fun v2=>Za (Ze h0 v2) fun v3=>Za (Z9 h0 .slice v3) fun v4=>Za (Zg 5 (.ptr (o).length 0)) fun v5=>Za (Ze h0 v5) fun v6=>Za (Z9 h0 .slice v6) fun v7=>Za (Zb .add .prim v4 v7) fun v8=>Za (Zb .eql .prim v8 (.int .i64 0)) fun v9=>Za (Zg 0 (.ptr (o).length 0)) fun v10=>Za (Ze h0 v10) fun v11=>Za (Zb .eql .prim v11 (.int .i64 1)) fun v12=>ifK v12 (Qn v9 true (Za (Zg 2 (.ptr (o).length 0)) fun v13=>Za (Ze h0 v13) fun v14=>Za (Zb .eql .prim v14 (.int .i64 0)) fun v15=>some (v15,h0,none)) (some (.bool false)) h0 none fun v16 h17 f18=>Qn (AV.ro v16) true (Za (Zg 3 (.ptr (o).length 0)) fun v19=>Za (Ze h17 v19) fun v20=>Za (Zb .eql .prim v20 (.int .i64 0)) fun v21=>some (v21,h17,f18)) (some (.bool false)) h17 f18 fun v22 h23 f24=>some (Zq false o v22 h23 f24)) (Za (Zb .eql .prim v11 (.int .i64 2)) fun v48=>ifK v48 (MM G K L o  (.ptr (o).length 0) v9 v9 v11 v48 h0 none) (Za (Zb .eql .prim v11 (.int .i64 5)) fun v49=>MM G K L o  (.ptr (o).length 0) v9 v9 v11 v49 h0 none))
theorem ZjJ (G:GT)(K:KT)(L:Nat)(x0:AV)(o:HP):fnK G K Um L Kw [x0] o=Fq G K L x0 o:=by
 show Zo G 54 o.length K Um L AZ (ZH Um Kw o) (ZH Um Kw o) [] (Md [x0]) o none=_
 simp only [AZ,Z7,Zl,Zm,Zv]
 rw [Zeu G K L o ,Zet G K L o]
 kernel_rfl
theorem ZlU {C:Cfg}{x0:AV}:RunT C Ao Kw [x0] (fun K=>Fq C.G K C.L x0):=runT rfl fun _ _=>ZjJ ..
def Fs (G:GT)(K:KT)(L:Nat)(x0 x1 x2:AV)(o:HP):KR :=
  Za (JL 1 (AV.ro x0)) fun v1=>Vb (o ++ [.cells v1 ZdA]) fun h0=>Za (JL 1 (AV.ro x1)) fun v3=>Vb (h0 ++ [.cells v3 ZdA]) fun h2=>ZZ (K Jc [(AV.ro x2),(.fn LU [] [(.ptr (o).length 0),(.ptr (h0).length 0)])] h2) fun v4 h5 f6=>Za (X8 .not (AV.ro v4)) fun v7=>some (Zq false o v7 h5 (Zd o.length none f6))
theorem ZjK (G:GT)(K:KT)(L:Nat)(x0 x1 x2:AV)(o:HP):fnK G K Zrd L AC [x0,x1,x2] o=Fs G K L x0 x1 x2 o:=by kernel_rfl
theorem ZlV {C:Cfg}{x0 x1 x2:AV}:RunT C Uc AC [x0,x1,x2] (fun K=>Fs C.G K C.L x0 x1 x2):=runT rfl fun _ _=>ZjK ..
def Td (G:GT)(K:KT)(L:Nat)(o:HP)(y3:AV)(q:HP)(g:Eff):KR :=
  some (Zq false o y3 q g)
theorem Zgo (G:GT)(K:KT)(L:Nat)(o:HP) :Zo G 25 o.length K JE L ZaU (ZH JE K4 o) (ZH JE K4 o) []=fun e q g=>Td G K L o (e 3).val q g:=by kernel_rfl
def UB (G:GT)(K:KT)(L:Nat)(o:HP)(k0:AV→HP→Eff→KR):Nat→AV→AV→AV→AV→AV→HP→Eff→KR
  | 0,_,_,_,_,_,_,_=>none
  | m + 1,x3,y3,x8,x9,x10,q,g=>Za (Zb .lss .prim x10 x9) fun v2=>ifK v2 (Za (Yy (.slice 21) x8 x10) fun v3=>Za (Zp q 21 v3) fun v4=>Vb (q ++ [.cells [(.int .i64 0),(.str []),(.str []),(.int .i64 0),(.str []),(.int .i64 0),(.own 4 []),(.int .i64 0),(.str []),(.int .i64 0),(.own 4 []),(.own 4 []),(.int .i64 0),(.int .i64 0),(.int .i64 0),(.int .i64 0),(.own 1 []),(.own 1 []),(.bool false),(.own 21 []),(.own 21 [])] Qc]) fun h5=>JJ (stV o.length 21 (.ptr (q).length 0) v4 h5 g) fun h6 f7=>Za (Zg 19 (.ptr (q).length 0)) fun v8=>Za (Ze h6 v8) fun v9=>ZZ (ZG K Us [v9] h6) fun v10 h11 f12=>Za (Zg 20 (.ptr (q).length 0)) fun v13=>Za (Ze h11 v13) fun v14=>ZZ (ZG K Us [v14] h11) fun v15 h16 f17=>Za (Zb .add .prim (AV.ro v10) (AV.ro v15)) fun v18=>Za (Zb .add .prim x3 v18) fun v19=>Za (Zb .add .prim x10 (.int .i64 1)) fun v20=>UB G K L o k0 m v19 v19 x8 x9 v20 h16 (Zd o.length (Zd o.length f7 f12) f17)) (k0 y3 q g)
theorem Zgq (G:GT)(K:KT)(L:Nat)(o:HP)(k0:AV→HP→Eff→KR) :∀ m,X4 (fun n'=>Zo G 25 o.length K JE L Cj n' (ZH JE K4 o) [(0,(fun e q g=>k0 (e 3).val q g))]) m=fun e q g=>UB G K L o k0 m (e 3).rd (e 3).val (e 8).rd (e 9).rd (e 10).rd q g:=lpI rfl fun _=>by kernel_rfl
theorem Zgp (G:GT)(K:KT)(L:Nat)(o:HP)(k0:AV→HP→Eff→KR)(zn:Jb):Zo G 25 o.length K JE L ZaV zn (ZH JE K4 o) [(0,(fun e q g=>k0 (e 3).val q g))]=fun e q g=>UB G K L o k0 L (e 3).rd (e 3).val (e 8).rd (e 9).rd (e 10).rd q g:=Zgq G K L o k0 L
def Zb1 (G:GT)(K:KT)(L:Nat)(x0:AV)(o:HP):KR :=
  Za (Z9 o .slice (AV.ro x0)) fun v0=>Za (Z9 o .slice (AV.ro x0)) fun v1=>UB G K L o (Td G K L o) L v0 v0 (AV.ro x0) v1 (.int .i64 0) o none
theorem ZlQ (G:GT)(K:KT)(L:Nat)(x0:AV)(o:HP):fnK G K JE L K4 [x0] o=Zb1 G K L x0 o:=by
 show Zo G 25 o.length K JE L ZaT (ZH JE K4 o) (ZH JE K4 o) [] (Md [x0]) o none=_
 simp only [ZaT,Z7,Zl,Zm,Zv]
 rw [Zgo G K L o ,Zgp G K L o (Td G K L o) _]
 kernel_rfl
theorem Zpb {C:Cfg}{x0:AV}:RunT C Us K4 [x0] (fun K=>Zb1 C.G K C.L x0):=runT rfl fun _ _=>ZlQ ..
def Te (G:GT)(K:KT)(L:Nat)(o:HP)(y3:AV)(q:HP)(g:Eff):KR :=
  some (Zq false o y3 q g)
theorem Zgr (G:GT)(K:KT)(L:Nat)(o:HP) :Zo G 24 o.length K JF L ZaX (ZH JF K5 o) (ZH JF K5 o) []=fun e q g=>Te G K L o (e 3).val q g:=by kernel_rfl
def UC (G:GT)(K:KT)(L:Nat)(o:HP)(k0:AV→HP→Eff→KR):Nat→AV→AV→AV→AV→AV→HP→Eff→KR
  | 0,_,_,_,_,_,_,_=>none
  | m + 1,x3,y3,x6,x7,x8,q,g=>Za (Zb .lss .prim x8 x7) fun v1=>ifK v1 (Za (Yy (.slice 21) x6 x8) fun v2=>Za (Zp q 21 v2) fun v3=>Vb (q ++ [.cells [(.int .i64 0),(.str []),(.str []),(.int .i64 0),(.str []),(.int .i64 0),(.own 4 []),(.int .i64 0),(.str []),(.int .i64 0),(.own 4 []),(.own 4 []),(.int .i64 0),(.int .i64 0),(.int .i64 0),(.int .i64 0),(.own 1 []),(.own 1 []),(.bool false),(.own 21 []),(.own 21 [])] Qc]) fun h4=>JJ (stV o.length 21 (.ptr (q).length 0) v3 h4 g) fun h5 f6=>Za (Zg 19 (.ptr (q).length 0)) fun v7=>Za (Ze h5 v7) fun v8=>ZZ (ZG K Ut [v8] h5) fun v9 h10 f11=>Za (Zb .add .prim (.int .i64 1) (AV.ro v9)) fun v12=>Za (Zg 20 (.ptr (q).length 0)) fun v13=>Za (Ze h10 v13) fun v14=>ZZ (ZG K Ut [v14] h10) fun v15 h16 f17=>Za (Zb .add .prim (.int .i64 1) (AV.ro v15)) fun v18=>Za (ZyK [x3,v12,v18]) fun v19=>Za (Zb .add .prim x8 (.int .i64 1)) fun v20=>UC G K L o k0 m v19 v19 x6 x7 v20 h16 (Zd o.length (Zd o.length f6 f11) f17)) (k0 y3 q g)
theorem Zgt (G:GT)(K:KT)(L:Nat)(o:HP)(k0:AV→HP→Eff→KR) :∀ m,X4 (fun n'=>Zo G 24 o.length K JF L Ck n' (ZH JF K5 o) [(0,(fun e q g=>k0 (e 3).val q g))]) m=fun e q g=>UC G K L o k0 m (e 3).rd (e 3).val (e 6).rd (e 7).rd (e 8).rd q g:=lpI rfl fun _=>by kernel_rfl
theorem Zgs (G:GT)(K:KT)(L:Nat)(o:HP)(k0:AV→HP→Eff→KR)(zn:Jb):Zo G 24 o.length K JF L ZaY zn (ZH JF K5 o) [(0,(fun e q g=>k0 (e 3).val q g))]=fun e q g=>UC G K L o k0 L (e 3).rd (e 3).val (e 6).rd (e 7).rd (e 8).rd q g:=Zgt G K L o k0 L
def Zb2 (G:GT)(K:KT)(L:Nat)(x0:AV)(o:HP):KR :=
  Za (Z9 o .slice (AV.ro x0)) fun v0=>UC G K L o (Te G K L o) L (.int .i64 0) (.int .i64 0) (AV.ro x0) v0 (.int .i64 0) o none
theorem ZlR (G:GT)(K:KT)(L:Nat)(x0:AV)(o:HP):fnK G K JF L K5 [x0] o=Zb2 G K L x0 o:=by
 show Zo G 24 o.length K JF L ZaW (ZH JF K5 o) (ZH JF K5 o) [] (Md [x0]) o none=_
 simp only [ZaW,Z7,Zl,Zm,Zv]
 rw [Zgr G K L o ,Zgs G K L o (Te G K L o) _]
 kernel_rfl
theorem Zpc {C:Cfg}{x0:AV}:RunT C Ut K5 [x0] (fun K=>Zb2 C.G K C.L x0):=runT rfl fun _ _=>ZlR ..
def Tf (G:GT)(K:KT)(L:Nat)(o:HP)(q:HP)(g:Eff):KR :=
  some (Zq false o (.int .i64 0) q g)
theorem Zgu (G:GT)(K:KT)(L:Nat)(o:HP) :Zo G 49 o.length K JG L Zba (ZH JG K6 o) (ZH JG K6 o) []=fun e q g=>Tf G K L o  q g:=by kernel_rfl
def UD (G:GT)(K:KT)(L:Nat)(o:HP)(k0:HP→Eff→KR):Nat→AV→AV→AV→HP→Eff→KR
  | 0,_,_,_,_,_=>none
  | m + 1,x10,x11,x12,q,g=>Za (Zb .lss .prim x12 x11) fun v1=>ifK v1 (Za (Yy (.slice 21) x10 x12) fun v2=>Za (Zp q 21 v2) fun v3=>Vb (q ++ [.cells [(.int .i64 0),(.str []),(.str []),(.int .i64 0),(.str []),(.int .i64 0),(.own 4 []),(.int .i64 0),(.str []),(.int .i64 0),(.own 4 []),(.own 4 []),(.int .i64 0),(.int .i64 0),(.int .i64 0),(.int .i64 0),(.own 1 []),(.own 1 []),(.bool false),(.own 21 []),(.own 21 [])] Qc]) fun h4=>JJ (stV o.length 21 (.ptr (q).length 0) v3 h4 g) fun h5 f6=>Za (Zg 0 (.ptr (q).length 0)) fun v7=>Za (Ze h5 v7) fun v8=>ZZ (K AA [v8] h5) fun v9 h10 f11=>Za (JO (AV.ro v9) 0) fun v12=>Za (JO (AV.ro v9) 1) fun v13=>Vb (h10 ++ [.cells [(.bool false),(.bool false),(.bool false),(.bool false),(.bool false),(.bool false),(.bool false),(.bool false),(.bool false)] Gq]) fun h14=>JJ (stV o.length 9 (.ptr (h10).length 0) v12 h14 (Zd o.length f6 f11)) fun h15 f16=>Za (X8 .not v13) fun v17=>Qn v17 false (Za (Zp h15 21 (.ptr (q).length 0)) fun v18=>Za (Zp h15 9 (.ptr (h10).length 0)) fun v19=>ZZ (K A9 [v18,v19] h15) fun v20 h21 f22=>Za (X8 .not (AV.ro v20)) fun v23=>some (v23,h21,(Zd o.length f16 f22))) (some (.bool true)) h15 f16 fun v24 h25 f26=>ifK (AV.ro v24) (some (Zq false o (.int .i64 1) h25 f26)) (Za (Zp h25 21 (.ptr (q).length 0)) fun v27=>Za (Zp h25 9 (.ptr (h10).length 0)) fun v28=>ZZ (K NJ [v27,v28] h25) fun v29 h30 f31=>Za (Zb .neq .prim (AV.ro v29) (.int .i64 0)) fun v32=>ifK v32 (some (Zq false o v29 h30 (Zd o.length f26 f31))) (Za (Zg 19 (.ptr (q).length 0)) fun v33=>Za (Ze h30 v33) fun v34=>ZZ (K Uu [v34] h30) fun v35 h36 f37=>Za (Zb .neq .prim (AV.ro v35) (.int .i64 0)) fun v38=>ifK v38 (some (Zq false o v35 h36 (Zd o.length (Zd o.length f26 f31) f37))) (Za (Zg 20 (.ptr (q).length 0)) fun v39=>Za (Ze h36 v39) fun v40=>ZZ (K Uu [v40] h36) fun v41 h42 f43=>Za (Zb .neq .prim (AV.ro v41) (.int .i64 0)) fun v44=>ifK v44 (some (Zq false o v41 h42 (Zd o.length (Zd o.length (Zd o.length f26 f31) f37) f43))) (Za (Zb .add .prim x12 (.int .i64 1)) fun v45=>UD G K L o k0 m x10 x11 v45 h42 (Zd o.length (Zd o.length (Zd o.length f26 f31) f37) f43)))))) (k0  q g)
theorem Zgw (G:GT)(K:KT)(L:Nat)(o:HP)(k0:HP→Eff→KR) :∀ m,X4 (fun n'=>Zo G 49 o.length K JG L Cm n' (ZH JG K6 o) [(0,(fun e q g=>k0 q g))]) m=fun e q g=>UD G K L o k0 m (e 10).rd (e 11).rd (e 12).rd q g:=lpI rfl fun _=>by kernel_rfl
theorem Zgv (G:GT)(K:KT)(L:Nat)(o:HP)(k0:HP→Eff→KR)(zn:Jb):Zo G 49 o.length K JG L Zbb zn (ZH JG K6 o) [(0,(fun e q g=>k0 q g))]=fun e q g=>UD G K L o k0 L (e 10).rd (e 11).rd (e 12).rd q g:=Zgw G K L o k0 L
def Zb3 (G:GT)(K:KT)(L:Nat)(x0:AV)(o:HP):KR :=
  Za (Z9 o .slice (AV.ro x0)) fun v0=>UD G K L o (Tf G K L o) L (AV.ro x0) v0 (.int .i64 0) o none
theorem ZlS (G:GT)(K:KT)(L:Nat)(x0:AV)(o:HP):fnK G K JG L K6 [x0] o=Zb3 G K L x0 o:=by
 show Zo G 49 o.length K JG L ZaZ (ZH JG K6 o) (ZH JG K6 o) [] (Md [x0]) o none=_
 simp only [ZaZ,Z7,Zl,Zm,Zv]
 rw [Zgu G K L o ,Zgv G K L o (Tf G K L o) _]
 kernel_rfl
theorem Zpd {C:Cfg}{x0:AV}:RunT C Uu K6 [x0] (fun K=>Zb3 C.G K C.L x0):=runT rfl fun _ _=>ZlS ..
def VF (G:GT)(K:KT)(L:Nat)(o:HP)(x3:AV)(x5:AV)(q:HP)(g:Eff):KR :=
  Za (X8 .not x5) fun v4=>ifK v4 (some (Zq false o (.int .i64 5) q g)) (Za (Zg 0 x3) fun v5=>Za (Ze q v5) fun v6=>ZZ (K Ql [v6,(.int .i64 (-1000)),(.int .i64 1000)] q) fun v7 h8 f9=>Za (X8 .not (AV.ro v7)) fun v10=>Qn v10 false (Za (Zg 0 x3) fun v11=>Za (Ze h8 v11) fun v12=>Za (Zb .eql .prim v12 (.int .i64 0)) fun v13=>some (v13,h8,(Zd o.length g f9))) (some (.bool true)) h8 (Zd o.length g f9) fun v14 h15 f16=>ifK (AV.ro v14) (some (Zq false o (.int .i64 2) h15 f16)) (some (Zq false o (.int .i64 0) h15 f16)))
theorem Zgk (G:GT)(K:KT)(L:Nat)(o:HP) :Zo G 45 o.length K JD L Za9 (ZH JD K3 o) (ZH JD K3 o) []=fun e q g=>VF G K L o (e 3).rd (e 5).rd q g:=by kernel_rfl
def OY (G:GT)(K:KT)(L:Nat)(o:HP)(x2:AV)(x3:AV)(x7:AV)(x17:AV)(q:HP)(g:Eff):KR :=
  ifK x17 (Za (Zg 3 x2) fun v26=>Za (Ze q v26) fun v27=>ZZ (K Qp [v27,(.fn TZ [] [x3])] q) fun v28 h29 f30=>VF G K L o  x3 (AV.ro v28) h29 (Zd o.length g f30)) (Za (Zb .eql .prim x7 (.str [99,111,117,110,116,101,100])) fun v31=>ifK v31 (Za (Zg 9 x2) fun v32=>Za (Ze q v32) fun v33=>Za (Zg 2 x3) fun v34=>Za (Ze q v34) fun v35=>ZZ (K XC [v33,v35] q) fun v36 h37 f38=>VF G K L o  x3 (AV.ro v36) h37 (Zd o.length g f38)) (some (Zq false o (.int .i64 1) q g)))
theorem Zgj (G:GT)(K:KT)(L:Nat)(o:HP) :Zo G 45 o.length K JD L Za8 (fun e q g=>(VF G K L o) (e 3).rd (e 5).rd q g) (ZH JD K3 o) [(0,(fun e q g=>(VF G K L o) (e 3).rd (e 5).rd q g))]=fun e q g=>OY G K L o (e 2).rd (e 3).rd (e 7).rd (e 17).rd q g:=by kernel_rfl
def OX (G:GT)(K:KT)(L:Nat)(o:HP)(x2:AV)(x3:AV)(x7:AV)(x8:AV)(q:HP)(g:Eff):KR :=
  ifK x8 (Za (Zp q 13 x2) fun v19=>Za (Zg 2 x3) fun v20=>Za (Ze q v20) fun v21=>ZZ (K OC [v19,v21] q) fun v22 h23 f24=>Za (Zb .geq .prim (AV.ro v22) (.int .i64 0)) fun v25=>VF G K L o  x3 v25 h23 (Zd o.length g f24)) (Za (Zb .eql .prim x7 (.str [115,116,111,114,101,100])) fun v39=>ifK v39 (OY G K L o  x2 x3 x7 v39 q g) (Za (Zb .eql .prim x7 (.str [101,110,116,101,114,101,100])) fun v40=>ifK v40 (OY G K L o  x2 x3 x7 v40 q g) (Za (Zb .eql .prim x7 (.str [108,101,102,116])) fun v41=>OY G K L o  x2 x3 x7 v41 q g)))
theorem Zgi (G:GT)(K:KT)(L:Nat)(o:HP) :Zo G 45 o.length K JD L PR (fun e q g=>(VF G K L o) (e 3).rd (e 5).rd q g) (ZH JD K3 o) [(0,(fun e q g=>(VF G K L o) (e 3).rd (e 5).rd q g))]=fun e q g=>OX G K L o (e 2).rd (e 3).rd (e 7).rd (e 8).rd q g:=by
 simp only [PR,Z7,Zl,Zm,Zv]
 rw [Zgj G K L o]
 kernel_rfl
def Zbt (G:GT)(K:KT)(L:Nat)(x0 x1:AV)(o:HP):KR :=
  Za (JL 13 (AV.ro x0)) fun v1=>Vb (o ++ [.cells v1 Zf]) fun h0=>Za (JL 3 (AV.ro x1)) fun v3=>Vb (h0 ++ [.cells v3 I7]) fun h2=>Za (Zg 1 (.ptr (h0).length 0)) fun v17=>Za (Ze h2 v17) fun v18=>Za (Zb .eql .prim v18 (.str [99,114,101,97,116,101,100])) fun v42=>ifK v42 (OX G K L o  (.ptr (o).length 0) (.ptr (h0).length 0) v18 v42 h2 none) (Za (Zb .eql .prim v18 (.str [101,110,100,101,100])) fun v43=>ifK v43 (OX G K L o  (.ptr (o).length 0) (.ptr (h0).length 0) v18 v43 h2 none) (Za (Zb .eql .prim v18 (.str [105,110,115,105,100,101])) fun v44=>OX G K L o  (.ptr (o).length 0) (.ptr (h0).length 0) v18 v44 h2 none))
theorem ZlD (G:GT)(K:KT)(L:Nat)(x0 x1:AV)(o:HP):fnK G K JD L K3 [x0,x1] o=Zbt G K L x0 x1 o:=by
 show Zo G 45 o.length K JD L Za7 (ZH JD K3 o) (ZH JD K3 o) [] (Md [x0,x1]) o none=_
 simp only [Za7,Z7,Zl,Zm,Zv]
 rw [Zgk G K L o ,Zgi G K L o]
 kernel_rfl
theorem Zo7 {C:Cfg}{x0 x1:AV}:RunT C Zac K3 [x0,x1] (fun K=>Zbt C.G K C.L x0 x1):=runT rfl fun _ _=>ZlD ..
def Ll (G:GT)(K:KT)(L:Nat)(o:HP)(x2:AV)(y2:AV)(q:HP)(g:Eff):KR :=
  Za (fill [(.bool false),(.bool false),(.bool false),(.bool false),(.bool false),(.bool false),(.bool false),(.bool false),(.bool false)] []) fun v1=>JJ (stV o.length 9 x2 (.agg v1) q g) fun h2 f3=>Za (Zp h2 9 y2) fun v4=>some (Zq false o (.tup [(AV.nm v4),(AV.nm (.bool false))]) h2 f3)
theorem ZnW (G:GT)(K:KT)(L:Nat)(o:HP) :Zo G 46 o.length K RB L Zl2 (ZH RB DW o) (ZH RB DW o) []=fun e q g=>Ll G K L o (e 2).rd (e 2).val q g:=by kernel_rfl
def F6 (G:GT)(K:KT)(L:Nat)(o:HP)(x2:AV)(y2:AV)(x4:AV)(x32:AV)(q:HP)(g:Eff):KR :=
  ifK x32 (Za (fill [(.bool false),(.bool false),(.bool false),(.bool false),(.bool false),(.bool false),(.bool false),(.bool false),(.bool false)] [(0,1,AV.nm (.bool true))]) fun v39=>JJ (stV o.length 9 x2 (.agg v39) q g) fun h40 f41=>Za (Zp h40 9 y2) fun v42=>some (Zq false o (.tup [(AV.nm v42),(AV.nm (.bool true))]) h40 f41)) (Za (Zb .eql .prim x4 (.int .i64 13)) fun v43=>ifK v43 (Za (fill [(.bool false),(.bool false),(.bool false),(.bool false),(.bool false),(.bool false),(.bool false),(.bool false),(.bool false)] [(0,1,AV.nm (.bool true)),(1,1,AV.nm (.bool true)),(2,1,AV.nm (.bool true)),(4,1,AV.nm (.bool true))]) fun v44=>JJ (stV o.length 9 x2 (.agg v44) q g) fun h45 f46=>Za (Zp h45 9 y2) fun v47=>some (Zq false o (.tup [(AV.nm v47),(AV.nm (.bool true))]) h45 f46)) (Za (Zb .eql .prim x4 (.int .i64 14)) fun v48=>ifK v48 (Za (fill [(.bool false),(.bool false),(.bool false),(.bool false),(.bool false),(.bool false),(.bool false),(.bool false),(.bool false)] [(0,1,AV.nm (.bool true)),(2,1,AV.nm (.bool true)),(4,1,AV.nm (.bool true))]) fun v49=>JJ (stV o.length 9 x2 (.agg v49) q g) fun h50 f51=>Za (Zp h50 9 y2) fun v52=>some (Zq false o (.tup [(AV.nm v52),(AV.nm (.bool true))]) h50 f51)) (Za (Zb .eql .prim x4 (.int .i64 18)) fun v53=>ifK v53 (Za (fill [(.bool false),(.bool false),(.bool false),(.bool false),(.bool false),(.bool false),(.bool false),(.bool false),(.bool false)] []) fun v54=>JJ (stV o.length 9 x2 (.agg v54) q g) fun h55 f56=>Za (Zp h55 9 y2) fun v57=>some (Zq false o (.tup [(AV.nm v57),(AV.nm (.bool true))]) h55 f56)) (Ll G K L o  x2 y2 q g))))
theorem ZnV (G:GT)(K:KT)(L:Nat)(o:HP) :Zo G 46 o.length K RB L Zl1 (fun e q g=>(Ll G K L o) (e 2).rd (e 2).val q g) (ZH RB DW o) [(0,(fun e q g=>(Ll G K L o) (e 2).rd (e 2).val q g))]=fun e q g=>F6 G K L o (e 2).rd (e 2).val (e 4).rd (e 32).rd q g:=by kernel_rfl
def Io (G:GT)(K:KT)(L:Nat)(o:HP)(x2:AV)(y2:AV)(x4:AV)(x5:AV)(q:HP)(g:Eff):KR :=
  ifK x5 (Za (fill [(.bool false),(.bool false),(.bool false),(.bool false),(.bool false),(.bool false),(.bool false),(.bool false),(.bool false)] [(0,1,AV.nm (.bool true)),(2,1,AV.nm (.bool true))]) fun v5=>JJ (stV o.length 9 x2 (.agg v5) q g) fun h6 f7=>Za (Zp h6 9 y2) fun v8=>some (Zq false o (.tup [(AV.nm v8),(AV.nm (.bool true))]) h6 f7)) (Za (Zb .eql .prim x4 (.int .i64 2)) fun v9=>ifK v9 (Za (fill [(.bool false),(.bool false),(.bool false),(.bool false),(.bool false),(.bool false),(.bool false),(.bool false),(.bool false)] [(0,1,AV.nm (.bool true)),(1,1,AV.nm (.bool true)),(5,1,AV.nm (.bool true))]) fun v10=>JJ (stV o.length 9 x2 (.agg v10) q g) fun h11 f12=>Za (Zp h11 9 y2) fun v13=>some (Zq false o (.tup [(AV.nm v13),(AV.nm (.bool true))]) h11 f12)) (Za (Zb .eql .prim x4 (.int .i64 3)) fun v14=>ifK v14 (Za (fill [(.bool false),(.bool false),(.bool false),(.bool false),(.bool false),(.bool false),(.bool false),(.bool false),(.bool false)] [(2,1,AV.nm (.bool true)),(7,1,AV.nm (.bool true)),(8,1,AV.nm (.bool true))]) fun v15=>JJ (stV o.length 9 x2 (.agg v15) q g) fun h16 f17=>Za (Zp h16 9 y2) fun v18=>some (Zq false o (.tup [(AV.nm v18),(AV.nm (.bool true))]) h16 f17)) (Za (Zb .eql .prim x4 (.int .i64 4)) fun v19=>ifK v19 (Za (fill [(.bool false),(.bool false),(.bool false),(.bool false),(.bool false),(.bool false),(.bool false),(.bool false),(.bool false)] [(2,1,AV.nm (.bool true)),(7,1,AV.nm (.bool true))]) fun v20=>JJ (stV o.length 9 x2 (.agg v20) q g) fun h21 f22=>Za (Zp h21 9 y2) fun v23=>some (Zq false o (.tup [(AV.nm v23),(AV.nm (.bool true))]) h21 f22)) (Za (Zb .eql .prim x4 (.int .i64 5)) fun v24=>ifK v24 (Za (fill [(.bool false),(.bool false),(.bool false),(.bool false),(.bool false),(.bool false),(.bool false),(.bool false),(.bool false)] [(2,1,AV.nm (.bool true))]) fun v25=>JJ (stV o.length 9 x2 (.agg v25) q g) fun h26 f27=>Za (Zp h26 9 y2) fun v28=>some (Zq false o (.tup [(AV.nm v28),(AV.nm (.bool true))]) h26 f27)) (Za (Zb .eql .prim x4 (.int .i64 6)) fun v29=>ifK v29 (Za (fill [(.bool false),(.bool false),(.bool false),(.bool false),(.bool false),(.bool false),(.bool false),(.bool false),(.bool false)] [(0,1,AV.nm (.bool true)),(2,1,AV.nm (.bool true)),(3,1,AV.nm (.bool true)),(6,1,AV.nm (.bool true))]) fun v30=>JJ (stV o.length 9 x2 (.agg v30) q g) fun h31 f32=>Za (Zp h31 9 y2) fun v33=>some (Zq false o (.tup [(AV.nm v33),(AV.nm (.bool true))]) h31 f32)) (Za (Zb .eql .prim x4 (.int .i64 9)) fun v34=>ifK v34 (Za (fill [(.bool false),(.bool false),(.bool false),(.bool false),(.bool false),(.bool false),(.bool false),(.bool false),(.bool false)] [(0,1,AV.nm (.bool true)),(1,1,AV.nm (.bool true))]) fun v35=>JJ (stV o.length 9 x2 (.agg v35) q g) fun h36 f37=>Za (Zp h36 9 y2) fun v38=>some (Zq false o (.tup [(AV.nm v38),(AV.nm (.bool true))]) h36 f37)) (Za (Zb .eql .prim x4 (.int .i64 10)) fun v58=>ifK v58 (F6 G K L o  x2 y2 x4 v58 q g) (Za (Zb .eql .prim x4 (.int .i64 11)) fun v59=>F6 G K L o  x2 y2 x4 v59 q g))))))))
theorem ZnU (G:GT)(K:KT)(L:Nat)(o:HP) :Zo G 46 o.length K RB L Zek (fun e q g=>(Ll G K L o) (e 2).rd (e 2).val q g) (ZH RB DW o) [(0,(fun e q g=>(Ll G K L o) (e 2).rd (e 2).val q g))]=fun e q g=>Io G K L o (e 2).rd (e 2).val (e 4).rd (e 5).rd q g:=by
 simp only [Zek,Z7,Zl,Zm,Zv]
 rw [ZnV G K L o]
 kernel_rfl
def Zqv (G:GT)(K:KT)(L:Nat)(x0:AV)(o:HP):KR :=
  Vb (o ++ [.cells [(.bool false),(.bool false),(.bool false),(.bool false),(.bool false),(.bool false),(.bool false),(.bool false),(.bool false)] Ww]) fun h0=>Za (Zb .eql .prim (AV.ro x0) (.int .i64 1)) fun v60=>ifK v60 (Io G K L o  (.ptr (o).length 0) (.ptr (o).length 0) (AV.ro x0) v60 h0 none) (Za (Zb .eql .prim (AV.ro x0) (.int .i64 7)) fun v61=>ifK v61 (Io G K L o  (.ptr (o).length 0) (.ptr (o).length 0) (AV.ro x0) v61 h0 none) (Za (Zb .eql .prim (AV.ro x0) (.int .i64 8)) fun v62=>ifK v62 (Io G K L o  (.ptr (o).length 0) (.ptr (o).length 0) (AV.ro x0) v62 h0 none) (Za (Zb .eql .prim (AV.ro x0) (.int .i64 12)) fun v63=>ifK v63 (Io G K L o  (.ptr (o).length 0) (.ptr (o).length 0) (AV.ro x0) v63 h0 none) (Za (Zb .eql .prim (AV.ro x0) (.int .i64 15)) fun v64=>ifK v64 (Io G K L o  (.ptr (o).length 0) (.ptr (o).length 0) (AV.ro x0) v64 h0 none) (Za (Zb .eql .prim (AV.ro x0) (.int .i64 16)) fun v65=>ifK v65 (Io G K L o  (.ptr (o).length 0) (.ptr (o).length 0) (AV.ro x0) v65 h0 none) (Za (Zb .eql .prim (AV.ro x0) (.int .i64 17)) fun v66=>Io G K L o  (.ptr (o).length 0) (.ptr (o).length 0) (AV.ro x0) v66 h0 none))))))
theorem Zuj (G:GT)(K:KT)(L:Nat)(x0:AV)(o:HP):fnK G K RB L DW [x0] o=Zqv G K L x0 o:=by
 show Zo G 46 o.length K RB L Zqk (ZH RB DW o) (ZH RB DW o) [] (Md [x0]) o none=_
 simp only [Zqk,Z7,Zl,Zm,Zv]
 rw [ZnW G K L o ,ZnU G K L o]
 kernel_rfl
theorem ZwO {C:Cfg}{x0:AV}:RunT C Zlb DW [x0] (fun K=>Zqv C.G K C.L x0):=runT rfl fun _ _=>Zuj ..
def Zbx (G:GT)(K:KT)(L:Nat)(x0:AV)(o:HP):KR :=
  Za (JL 21 (AV.ro x0)) fun v1=>Vb (o ++ [.cells v1 Qc]) fun h0=>Za (Zg 0 (.ptr (o).length 0)) fun v2=>Za (Ze h0 v2) fun v3=>ZZ (K Zlb [v3] h0) fun v4 h5 f6=>Za (JO (AV.ro v4) 0) fun v7=>Za (JO (AV.ro v4) 1) fun v8=>Vb (h5 ++ [.cells [(.bool false),(.bool false),(.bool false),(.bool false),(.bool false),(.bool false),(.bool false),(.bool false),(.bool false)] Ww]) fun h9=>JJ (stV o.length 9 (.ptr (h5).length 0) v7 h9 (Zd o.length none f6)) fun h10 f11=>Za (Zg 0 (.ptr (h5).length 0)) fun v12=>Za (Ze h10 v12) fun v13=>Qn v13 false (Za (Zg 1 (.ptr (o).length 0)) fun v14=>Za (Ze h10 v14) fun v15=>Za (Zb .eql .prim v15 (.str [])) fun v16=>some (v16,h10,f11)) (some (.bool true)) h10 f11 fun v17 h18 f19=>Qn (AV.ro v17) true (Za (Zg 1 (.ptr (h5).length 0)) fun v20=>Za (Ze h18 v20) fun v21=>Qn v21 false (Za (Zg 2 (.ptr (o).length 0)) fun v22=>Za (Ze h18 v22) fun v23=>Za (Zb .eql .prim v23 (.str [])) fun v24=>some (v24,h18,f19)) (some (.bool true)) h18 f19 fun v25 h26 f27=>some ((AV.ro v25),h26,f27)) (some (.bool false)) h18 f19 fun v28 h29 f30=>Za (Zg 2 (.ptr (h5).length 0)) fun v31=>Za (Ze h29 v31) fun v32=>Qn v32 false (Za (Zg 3 (.ptr (o).length 0)) fun v33=>Za (Zp h29 4 v33) fun v34=>ZZ (K ZbY [v34] h29) fun v35 h36 f37=>some ((AV.ro v35),h36,(Zd o.length f30 f37))) (some (.bool true)) h29 f30 fun v38 h39 f40=>Qn (AV.ro v38) true (Za (Zg 3 (.ptr (h5).length 0)) fun v41=>Za (Ze h39 v41) fun v42=>Qn v42 false (Za (Zg 7 (.ptr (o).length 0)) fun v43=>Za (Zp h39 4 v43) fun v44=>ZZ (K ZbY [v44] h39) fun v45 h46 f47=>some ((AV.ro v45),h46,(Zd o.length f40 f47))) (some (.bool true)) h39 f40 fun v48 h49 f50=>some ((AV.ro v48),h49,f50)) (some (.bool false)) h39 f40 fun v51 h52 f53=>Qn (AV.ro v51) true (Za (Zg 4 (.ptr (h5).length 0)) fun v54=>Za (Ze h52 v54) fun v55=>Qn v55 false (Za (Zg 11 (.ptr (o).length 0)) fun v56=>Za (Ze h52 v56) fun v57=>Za (Z9 h52 .slice v57) fun v58=>Za (Zb .eql .prim v58 (.int .i64 0)) fun v59=>some (v59,h52,f53)) (some (.bool true)) h52 f53 fun v60 h61 f62=>some ((AV.ro v60),h61,f62)) (some (.bool false)) h52 f53 fun v63 h64 f65=>Za (Zg 7 (.ptr (h5).length 0)) fun v66=>Za (Ze h64 v66) fun v67=>Qn v67 false (Za (Zg 19 (.ptr (o).length 0)) fun v68=>Za (Ze h64 v68) fun v69=>Za (Z9 h64 .slice v69) fun v70=>Za (Zb .eql .prim v70 (.int .i64 0)) fun v71=>some (v71,h64,f65)) (some (.bool true)) h64 f65 fun v72 h73 f74=>Qn (AV.ro v72) true (Za (Zg 8 (.ptr (h5).length 0)) fun v75=>Za (Ze h73 v75) fun v76=>Qn v76 false (Za (Zg 20 (.ptr (o).length 0)) fun v77=>Za (Ze h73 v77) fun v78=>Za (Z9 h73 .slice v78) fun v79=>Za (Zb .eql .prim v79 (.int .i64 0)) fun v80=>some (v80,h73,f74)) (some (.bool true)) h73 f74 fun v81 h82 f83=>some ((AV.ro v81),h82,f83)) (some (.bool false)) h73 f74 fun v84 h85 f86=>Qn v8 true (some ((AV.ro v28),h85,f86)) (some (.bool false)) h85 f86 fun v87 h88 f89=>Qn (AV.ro v87) true (some ((AV.ro v63),h88,f89)) (some (.bool false)) h88 f89 fun v90 h91 f92=>Qn (AV.ro v90) true (some ((AV.ro v84),h91,f92)) (some (.bool false)) h91 f92 fun v93 h94 f95=>Qn (AV.ro v93) true (Za (Zg 5 (.ptr (h5).length 0)) fun v96=>Za (Ze h94 v96) fun v97=>Qn v97 false (Za (Zg 12 (.ptr (o).length 0)) fun v98=>Za (Zp h94 6 v98) fun v99=>Za (fill [(.int .i64 0),(.int .i64 0),(.int .i64 0),(.int .i64 0),(.own 1 []),(.own 1 [])] []) fun v100=>ZZ (K EG [v99,(.agg v100)] h94) fun v101 h102 f103=>some ((AV.ro v101),h102,(Zd o.length f95 f103))) (some (.bool true)) h94 f95 fun v104 h105 f106=>some ((AV.ro v104),h105,f106)) (some (.bool false)) h94 f95 fun v107 h108 f109=>Qn (AV.ro v107) true (Za (Zg 6 (.ptr (h5).length 0)) fun v110=>Za (Ze h108 v110) fun v111=>Qn v111 false (Za (Zg 18 (.ptr (o).length 0)) fun v112=>Za (Ze h108 v112) fun v113=>Za (X8 .not v113) fun v114=>some (v114,h108,f109)) (some (.bool true)) h108 f109 fun v115 h116 f117=>some ((AV.ro v115),h116,f117)) (some (.bool false)) h108 f109 fun v118 h119 f120=>some (Zq false o v118 h119 f120)
theorem ZlH (G:GT)(K:KT)(L:Nat)(x0:AV)(o:HP):fnK G K Ztf L Zat [x0] o=Zbx G K L x0 o:=by kernel_rfl
theorem ZoU {C:Cfg}{x0:AV}:RunT C Zae Zat [x0] (fun K=>Zbx C.G K C.L x0):=runT rfl fun _ _=>ZlH ..
def Oc (G:GT)(K:KT)(L:Nat)(o:HP)(y5:AV)(q:HP)(g:Eff):KR :=
  some (Zq false o y5 q g)
theorem Zik (G:GT)(K:KT)(L:Nat)(o:HP) :Zo G 47 o.length K QR L ZcL (ZH QR Vu o) (ZH QR Vu o) []=fun e q g=>Oc G K L o (e 5).val q g:=by kernel_rfl
def Gc (G:GT)(K:KT)(L:Nat)(o:HP)(k0:AV→HP→Eff→KR):Nat→AV→AV→AV→AV→HP→Eff→KR
  | 0,_,_,_,_,_,_=>none
  | m + 1,x2,x5,y5,x6,q,g=>Za (Zb .eql .prim x5 (.int .i64 0)) fun v4=>Qn v4 true (Za (Zg 11 x2) fun v5=>Za (Ze q v5) fun v6=>Za (Z9 q .slice v6) fun v7=>Za (Zb .lss .prim x6 v7) fun v8=>some (v8,q,g)) (some (.bool false)) q g fun v9 h10 f11=>ifK (AV.ro v9) (Za (Zg 11 x2) fun v12=>Za (Ze h10 v12) fun v13=>Za (Yy (.slice 4) v13 x6) fun v14=>Za (Zp h10 4 v14) fun v15=>ZZ (K OH [v15] h10) fun v16 h17 f18=>Za (Zb .add .prim x6 (.int .i64 1)) fun v19=>Gc G K L o k0 m x2 (AV.ro v16) v16 v19 h17 (Zd o.length f11 f18)) (k0 y5 h10 f11)
theorem Zim (G:GT)(K:KT)(L:Nat)(o:HP)(k0:AV→HP→Eff→KR) :∀ m,X4 (fun n'=>Zo G 47 o.length K QR L ZaJ n' (ZH QR Vu o) [(0,(fun e q g=>k0 (e 5).val q g))]) m=fun e q g=>Gc G K L o k0 m (e 2).rd (e 5).rd (e 5).val (e 6).rd q g:=lpI rfl fun _=>by kernel_rfl
theorem Zil (G:GT)(K:KT)(L:Nat)(o:HP)(k0:AV→HP→Eff→KR)(zn:Jb):Zo G 47 o.length K QR L ZcM zn (ZH QR Vu o) [(0,(fun e q g=>k0 (e 5).val q g))]=fun e q g=>Gc G K L o k0 L (e 2).rd (e 5).rd (e 5).val (e 6).rd q g:=Zim G K L o k0 L
def Mw (G:GT)(K:KT)(L:Nat)(o:HP)(x2:AV)(x5:AV)(y5:AV)(q:HP)(g:Eff):KR :=
  Gc G K L o (Oc G K L o) L x2 x5 y5 (.int .i64 0) q g
theorem Zij (G:GT)(K:KT)(L:Nat)(o:HP) :Zo G 47 o.length K QR L SS (ZH QR Vu o) (ZH QR Vu o) []=fun e q g=>Mw G K L o (e 2).rd (e 5).rd (e 5).val q g:=by
 simp only [SS,Z7,Zl,Zm,Zv]
 rw [Zik G K L o ,Zil G K L o (Oc G K L o) _]
 kernel_rfl
def BQ (G:GT)(K:KT)(L:Nat)(o:HP)(x2:AV)(x5:AV)(y5:AV)(q:HP)(g:Eff):KR :=
  Za (Zb .eql .prim x5 (.int .i64 0)) fun v20=>Qn v20 true (Za (Zg 11 x2) fun v21=>Za (Ze q v21) fun v22=>Za (Z9 q .slice v22) fun v23=>Za (Zb .gtr .prim v23 (.int .i64 6)) fun v24=>some (v24,q,g)) (some (.bool false)) q g fun v25 h26 f27=>ifK (AV.ro v25) (Mw G K L o  x2 (.int .i64 6) (.int .i64 6) h26 f27) (Mw G K L o  x2 x5 y5 h26 f27)
theorem Zii (G:GT)(K:KT)(L:Nat)(o:HP) :Zo G 47 o.length K QR L SQ (ZH QR Vu o) (ZH QR Vu o) []=fun e q g=>BQ G K L o (e 2).rd (e 5).rd (e 5).val q g:=by
 simp only [SQ,Z7,Zl,Zm,Zv]
 rw [Zij G K L o]
 kernel_rfl
def BP (G:GT)(K:KT)(L:Nat)(o:HP)(x2:AV)(x3:AV)(x5:AV)(y5:AV)(q:HP)(g:Eff):KR :=
  Za (Zb .eql .prim x5 (.int .i64 0)) fun v28=>Qn v28 true (Za (Zg 3 x3) fun v29=>Za (Ze q v29) fun v30=>some (v30,q,g)) (some (.bool false)) q g fun v31 h32 f33=>ifK (AV.ro v31) (Za (Zg 7 x2) fun v34=>Za (Zp h32 4 v34) fun v35=>ZZ (K OH [v35] h32) fun v36 h37 f38=>BQ G K L o  x2 (AV.ro v36) v36 h37 (Zd o.length f33 f38)) (BQ G K L o  x2 x5 y5 h32 f33)
theorem Zih (G:GT)(K:KT)(L:Nat)(o:HP) :Zo G 47 o.length K QR L SN (ZH QR Vu o) (ZH QR Vu o) []=fun e q g=>BP G K L o (e 2).rd (e 3).rd (e 5).rd (e 5).val q g:=by
 simp only [SN,Z7,Zl,Zm,Zv]
 rw [Zii G K L o]
 kernel_rfl
def ZeR (G:GT)(K:KT)(L:Nat)(x0 x1:AV)(o:HP):KR :=
  Za (JL 21 (AV.ro x0)) fun v1=>Vb (o ++ [.cells v1 Qc]) fun h0=>Za (JL 9 (AV.ro x1)) fun v3=>Vb (h0 ++ [.cells v3 Ww]) fun h2=>Za (Zg 2 (.ptr (h0).length 0)) fun v39=>Za (Ze h2 v39) fun v40=>ifK v40 (Za (Zg 3 (.ptr (o).length 0)) fun v41=>Za (Zp h2 4 v41) fun v42=>ZZ (K OH [v42] h2) fun v43 h44 f45=>BP G K L o  (.ptr (o).length 0) (.ptr (h0).length 0) (AV.ro v43) v43 h44 (Zd o.length none f45)) (BP G K L o  (.ptr (o).length 0) (.ptr (h0).length 0) (.int .i64 0) (.int .i64 0) h2 none)
theorem ZnX (G:GT)(K:KT)(L:Nat)(x0 x1:AV)(o:HP):fnK G K QR L Vu [x0,x1] o=ZeR G K L x0 x1 o:=by
 show Zo G 47 o.length K QR L Zel (ZH QR Vu o) (ZH QR Vu o) [] (Md [x0,x1]) o none=_
 simp only [Zel,Z7,Zl,Zm,Zv]
 rw [Zih G K L o]
 kernel_rfl
theorem Zrx {C:Cfg}{x0 x1:AV}:RunT C ZdF Vu [x0,x1] (fun K=>ZeR C.G K C.L x0 x1):=runT rfl fun _ _=>ZnX ..
def PV (G:GT)(K:KT)(L:Nat)(x0 x1 x2:AV)(o:HP):KR :=
  Za (Ze o (AV.ro x1)) fun v0=>Za (Zb .lss .prim (AV.ro x0) v0) fun v1=>Qn v1 false (Za (Ze o (AV.ro x2)) fun v2=>Za (Zb .gtr .prim (AV.ro x0) v2) fun v3=>some (v3,o,none)) (some (.bool true)) o none fun v4 h5 f6=>some (Zq false o v4 h5 f6)
theorem ZfT (G:GT)(K:KT)(L:Nat)(x0 x1 x2:AV)(o:HP):fnK G K ZmM L P7 [x0,x1,x2] o=PV G K L x0 x1 x2 o:=by kernel_rfl
theorem ZiU {C:Cfg}{x0 x1 x2:AV}:RunT C LU P7 [x0,x1,x2] (fun K=>PV C.G K C.L x0 x1 x2):=runT rfl fun _ _=>ZfT ..
def Jj (G:GT)(K:KT)(L:Nat)(x0 x1:AV)(o:HP):KR :=
  ZZ (K Ue [(AV.ro x0),(AV.ro x1)] o) fun v0 h1 f2=>Za (Zb .geq .prim (AV.ro v0) (.int .i64 0)) fun v3=>some (Zq false o v3 h1 (Zd o.length none f2))
theorem LJ (G:GT)(K:KT)(L:Nat)(x0 x1:AV)(o:HP):fnK G K BA L Jg [x0,x1] o=Jj G K L x0 x1 o:=by kernel_rfl
theorem RF {C:Cfg}{x0 x1:AV}:RunT C Jc Jg [x0,x1] (fun K=>Jj C.G K C.L x0 x1):=runT rfl fun _ _=>LJ ..
def Gn (G:GT)(K:KT)(L:Nat)(o:HP)(x2:AV)(y2:AV)(q:HP)(g:Eff):KR :=
  Za (fill [(.bool false),(.bool false),(.bool false),(.bool false),(.bool false),(.bool false),(.bool false),(.bool false),(.bool false)] []) fun v1=>JJ (stV o.length 9 x2 (.agg v1) q g) fun h2 f3=>Za (Zp h2 9 y2) fun v4=>some (Zq false o (.tup [(AV.nm v4),(AV.nm (.bool false))]) h2 f3)
theorem ZiT (G:GT)(K:KT)(L:Nat)(o:HP) :Zo G 46 o.length K UQ L Zdi (ZH UQ Ig o) (ZH UQ Ig o) []=fun e q g=>Gn G K L o (e 2).rd (e 2).val q g:=by kernel_rfl
def BS (G:GT)(K:KT)(L:Nat)(o:HP)(x2:AV)(y2:AV)(x4:AV)(x32:AV)(q:HP)(g:Eff):KR :=
  ifK x32 (Za (fill [(.bool false),(.bool false),(.bool false),(.bool false),(.bool false),(.bool false),(.bool false),(.bool false),(.bool false)] [(0,1,AV.nm (.bool true))]) fun v39=>JJ (stV o.length 9 x2 (.agg v39) q g) fun h40 f41=>Za (Zp h40 9 y2) fun v42=>some (Zq false o (.tup [(AV.nm v42),(AV.nm (.bool true))]) h40 f41)) (Za (Zb .eql .prim x4 (.int .i64 13)) fun v43=>ifK v43 (Za (fill [(.bool false),(.bool false),(.bool false),(.bool false),(.bool false),(.bool false),(.bool false),(.bool false),(.bool false)] [(0,1,AV.nm (.bool true)),(1,1,AV.nm (.bool true)),(2,1,AV.nm (.bool true)),(4,1,AV.nm (.bool true))]) fun v44=>JJ (stV o.length 9 x2 (.agg v44) q g) fun h45 f46=>Za (Zp h45 9 y2) fun v47=>some (Zq false o (.tup [(AV.nm v47),(AV.nm (.bool true))]) h45 f46)) (Za (Zb .eql .prim x4 (.int .i64 14)) fun v48=>ifK v48 (Za (fill [(.bool false),(.bool false),(.bool false),(.bool false),(.bool false),(.bool false),(.bool false),(.bool false),(.bool false)] [(0,1,AV.nm (.bool true)),(2,1,AV.nm (.bool true)),(4,1,AV.nm (.bool true))]) fun v49=>JJ (stV o.length 9 x2 (.agg v49) q g) fun h50 f51=>Za (Zp h50 9 y2) fun v52=>some (Zq false o (.tup [(AV.nm v52),(AV.nm (.bool true))]) h50 f51)) (Za (Zb .eql .prim x4 (.int .i64 18)) fun v53=>ifK v53 (Za (fill [(.bool false),(.bool false),(.bool false),(.bool false),(.bool false),(.bool false),(.bool false),(.bool false),(.bool false)] []) fun v54=>JJ (stV o.length 9 x2 (.agg v54) q g) fun h55 f56=>Za (Zp h55 9 y2) fun v57=>some (Zq false o (.tup [(AV.nm v57),(AV.nm (.bool true))]) h55 f56)) (Gn G K L o  x2 y2 q g))))
theorem ZiS (G:GT)(K:KT)(L:Nat)(o:HP) :Zo G 46 o.length K UQ L Zdh (fun e q g=>(Gn G K L o) (e 2).rd (e 2).val q g) (ZH UQ Ig o) [(0,(fun e q g=>(Gn G K L o) (e 2).rd (e 2).val q g))]=fun e q g=>BS G K L o (e 2).rd (e 2).val (e 4).rd (e 32).rd q g:=by kernel_rfl
def J3 (G:GT)(K:KT)(L:Nat)(o:HP)(x2:AV)(y2:AV)(x4:AV)(x5:AV)(q:HP)(g:Eff):KR :=
  ifK x5 (Za (fill [(.bool false),(.bool false),(.bool false),(.bool false),(.bool false),(.bool false),(.bool false),(.bool false),(.bool false)] [(0,1,AV.nm (.bool true)),(2,1,AV.nm (.bool true))]) fun v5=>JJ (stV o.length 9 x2 (.agg v5) q g) fun h6 f7=>Za (Zp h6 9 y2) fun v8=>some (Zq false o (.tup [(AV.nm v8),(AV.nm (.bool true))]) h6 f7)) (Za (Zb .eql .prim x4 (.int .i64 2)) fun v9=>ifK v9 (Za (fill [(.bool false),(.bool false),(.bool false),(.bool false),(.bool false),(.bool false),(.bool false),(.bool false),(.bool false)] [(0,1,AV.nm (.bool true)),(1,1,AV.nm (.bool true)),(5,1,AV.nm (.bool true))]) fun v10=>JJ (stV o.length 9 x2 (.agg v10) q g) fun h11 f12=>Za (Zp h11 9 y2) fun v13=>some (Zq false o (.tup [(AV.nm v13),(AV.nm (.bool true))]) h11 f12)) (Za (Zb .eql .prim x4 (.int .i64 3)) fun v14=>ifK v14 (Za (fill [(.bool false),(.bool false),(.bool false),(.bool false),(.bool false),(.bool false),(.bool false),(.bool false),(.bool false)] [(2,1,AV.nm (.bool true)),(7,1,AV.nm (.bool true)),(8,1,AV.nm (.bool true))]) fun v15=>JJ (stV o.length 9 x2 (.agg v15) q g) fun h16 f17=>Za (Zp h16 9 y2) fun v18=>some (Zq false o (.tup [(AV.nm v18),(AV.nm (.bool true))]) h16 f17)) (Za (Zb .eql .prim x4 (.int .i64 4)) fun v19=>ifK v19 (Za (fill [(.bool false),(.bool false),(.bool false),(.bool false),(.bool false),(.bool false),(.bool false),(.bool false),(.bool false)] [(2,1,AV.nm (.bool true)),(7,1,AV.nm (.bool true))]) fun v20=>JJ (stV o.length 9 x2 (.agg v20) q g) fun h21 f22=>Za (Zp h21 9 y2) fun v23=>some (Zq false o (.tup [(AV.nm v23),(AV.nm (.bool true))]) h21 f22)) (Za (Zb .eql .prim x4 (.int .i64 5)) fun v24=>ifK v24 (Za (fill [(.bool false),(.bool false),(.bool false),(.bool false),(.bool false),(.bool false),(.bool false),(.bool false),(.bool false)] [(2,1,AV.nm (.bool true))]) fun v25=>JJ (stV o.length 9 x2 (.agg v25) q g) fun h26 f27=>Za (Zp h26 9 y2) fun v28=>some (Zq false o (.tup [(AV.nm v28),(AV.nm (.bool true))]) h26 f27)) (Za (Zb .eql .prim x4 (.int .i64 6)) fun v29=>ifK v29 (Za (fill [(.bool false),(.bool false),(.bool false),(.bool false),(.bool false),(.bool false),(.bool false),(.bool false),(.bool false)] [(0,1,AV.nm (.bool true)),(2,1,AV.nm (.bool true)),(3,1,AV.nm (.bool true)),(6,1,AV.nm (.bool true))]) fun v30=>JJ (stV o.length 9 x2 (.agg v30) q g) fun h31 f32=>Za (Zp h31 9 y2) fun v33=>some (Zq false o (.tup [(AV.nm v33),(AV.nm (.bool true))]) h31 f32)) (Za (Zb .eql .prim x4 (.int .i64 9)) fun v34=>ifK v34 (Za (fill [(.bool false),(.bool false),(.bool false),(.bool false),(.bool false),(.bool false),(.bool false),(.bool false),(.bool false)] [(0,1,AV.nm (.bool true)),(1,1,AV.nm (.bool true))]) fun v35=>JJ (stV o.length 9 x2 (.agg v35) q g) fun h36 f37=>Za (Zp h36 9 y2) fun v38=>some (Zq false o (.tup [(AV.nm v38),(AV.nm (.bool true))]) h36 f37)) (Za (Zb .eql .prim x4 (.int .i64 10)) fun v58=>ifK v58 (BS G K L o  x2 y2 x4 v58 q g) (Za (Zb .eql .prim x4 (.int .i64 11)) fun v59=>BS G K L o  x2 y2 x4 v59 q g))))))))
theorem ZiR (G:GT)(K:KT)(L:Nat)(o:HP) :Zo G 46 o.length K UQ L Ed (fun e q g=>(Gn G K L o) (e 2).rd (e 2).val q g) (ZH UQ Ig o) [(0,(fun e q g=>(Gn G K L o) (e 2).rd (e 2).val q g))]=fun e q g=>J3 G K L o (e 2).rd (e 2).val (e 4).rd (e 5).rd q g:=by
 simp only [Ed,Z7,Zl,Zm,Zv]
 rw [ZiS G K L o]
 kernel_rfl
def Zfb (G:GT)(K:KT)(L:Nat)(x0:AV)(o:HP):KR :=
  Vb (o ++ [.cells [(.bool false),(.bool false),(.bool false),(.bool false),(.bool false),(.bool false),(.bool false),(.bool false),(.bool false)] Gq]) fun h0=>Za (Zb .eql .prim (AV.ro x0) (.int .i64 1)) fun v60=>ifK v60 (J3 G K L o  (.ptr (o).length 0) (.ptr (o).length 0) (AV.ro x0) v60 h0 none) (Za (Zb .eql .prim (AV.ro x0) (.int .i64 7)) fun v61=>ifK v61 (J3 G K L o  (.ptr (o).length 0) (.ptr (o).length 0) (AV.ro x0) v61 h0 none) (Za (Zb .eql .prim (AV.ro x0) (.int .i64 8)) fun v62=>ifK v62 (J3 G K L o  (.ptr (o).length 0) (.ptr (o).length 0) (AV.ro x0) v62 h0 none) (Za (Zb .eql .prim (AV.ro x0) (.int .i64 12)) fun v63=>ifK v63 (J3 G K L o  (.ptr (o).length 0) (.ptr (o).length 0) (AV.ro x0) v63 h0 none) (Za (Zb .eql .prim (AV.ro x0) (.int .i64 15)) fun v64=>ifK v64 (J3 G K L o  (.ptr (o).length 0) (.ptr (o).length 0) (AV.ro x0) v64 h0 none) (Za (Zb .eql .prim (AV.ro x0) (.int .i64 16)) fun v65=>ifK v65 (J3 G K L o  (.ptr (o).length 0) (.ptr (o).length 0) (AV.ro x0) v65 h0 none) (Za (Zb .eql .prim (AV.ro x0) (.int .i64 17)) fun v66=>J3 G K L o  (.ptr (o).length 0) (.ptr (o).length 0) (AV.ro x0) v66 h0 none))))))
theorem Zoh (G:GT)(K:KT)(L:Nat)(x0:AV)(o:HP):fnK G K UQ L Ig [x0] o=Zfb G K L x0 o:=by
 show Zo G 46 o.length K UQ L Zeq (ZH UQ Ig o) (ZH UQ Ig o) [] (Md [x0]) o none=_
 simp only [Zeq,Z7,Zl,Zm,Zv]
 rw [ZiT G K L o ,ZiR G K L o]
 kernel_rfl
theorem ZrE {C:Cfg}{x0:AV}:RunT C AA Ig [x0] (fun K=>Zfb C.G K C.L x0):=runT rfl fun _ _=>Zoh ..
def Zfa (G:GT)(K:KT)(L:Nat)(x0 x1:AV)(o:HP):KR :=
  Za (JL 21 (AV.ro x0)) fun v1=>Vb (o ++ [.cells v1 Qc]) fun h0=>Za (JL 9 (AV.ro x1)) fun v3=>Vb (h0 ++ [.cells v3 Gq]) fun h2=>Za (Zg 0 (.ptr (h0).length 0)) fun v4=>Za (Ze h2 v4) fun v5=>Qn v5 false (Za (Zg 1 (.ptr (o).length 0)) fun v6=>Za (Ze h2 v6) fun v7=>Za (Zb .eql .prim v7 (.str [])) fun v8=>some (v8,h2,none)) (some (.bool true)) h2 none fun v9 h10 f11=>Qn (AV.ro v9) true (Za (Zg 1 (.ptr (h0).length 0)) fun v12=>Za (Ze h10 v12) fun v13=>Qn v13 false (Za (Zg 2 (.ptr (o).length 0)) fun v14=>Za (Ze h10 v14) fun v15=>Za (Zb .eql .prim v15 (.str [])) fun v16=>some (v16,h10,f11)) (some (.bool true)) h10 f11 fun v17 h18 f19=>some ((AV.ro v17),h18,f19)) (some (.bool false)) h10 f11 fun v20 h21 f22=>Qn (AV.ro v20) true (Za (Zg 2 (.ptr (h0).length 0)) fun v23=>Za (Ze h21 v23) fun v24=>Qn v24 false (Za (Zg 3 (.ptr (o).length 0)) fun v25=>Za (Zp h21 4 v25) fun v26=>ZZ (Vz K (AV.ro (.fn Tx [] [])) [v26] h21) fun v27 h28 f29=>some ((AV.ro v27),h28,(Zd o.length f22 f29))) (some (.bool true)) h21 f22 fun v30 h31 f32=>some ((AV.ro v30),h31,f32)) (some (.bool false)) h21 f22 fun v33 h34 f35=>Qn (AV.ro v33) true (Za (Zg 3 (.ptr (h0).length 0)) fun v36=>Za (Ze h34 v36) fun v37=>Qn v37 false (Za (Zg 7 (.ptr (o).length 0)) fun v38=>Za (Zp h34 4 v38) fun v39=>ZZ (Vz K (AV.ro (.fn Tx [] [])) [v39] h34) fun v40 h41 f42=>some ((AV.ro v40),h41,(Zd o.length f35 f42))) (some (.bool true)) h34 f35 fun v43 h44 f45=>some ((AV.ro v43),h44,f45)) (some (.bool false)) h34 f35 fun v46 h47 f48=>Qn (AV.ro v46) true (Za (Zg 4 (.ptr (h0).length 0)) fun v49=>Za (Ze h47 v49) fun v50=>Qn v50 false (Za (Zg 11 (.ptr (o).length 0)) fun v51=>Za (Ze h47 v51) fun v52=>Za (Z9 h47 .slice v52) fun v53=>Za (Zb .eql .prim v53 (.int .i64 0)) fun v54=>some (v54,h47,f48)) (some (.bool true)) h47 f48 fun v55 h56 f57=>some ((AV.ro v55),h56,f57)) (some (.bool false)) h47 f48 fun v58 h59 f60=>Qn (AV.ro v58) true (Za (Zg 5 (.ptr (h0).length 0)) fun v61=>Za (Ze h59 v61) fun v62=>Qn v62 false (Za (Zg 12 (.ptr (o).length 0)) fun v63=>Za (Zp h59 6 v63) fun v64=>Za (fill [(.int .i64 0),(.int .i64 0),(.int .i64 0),(.int .i64 0),(.own 1 []),(.own 1 [])] []) fun v65=>ZZ (K Pv [v64,(.agg v65)] h59) fun v66 h67 f68=>some ((AV.ro v66),h67,(Zd o.length f60 f68))) (some (.bool true)) h59 f60 fun v69 h70 f71=>some ((AV.ro v69),h70,f71)) (some (.bool false)) h59 f60 fun v72 h73 f74=>Qn (AV.ro v72) true (Za (Zg 6 (.ptr (h0).length 0)) fun v75=>Za (Ze h73 v75) fun v76=>Qn v76 false (Za (Zg 18 (.ptr (o).length 0)) fun v77=>Za (Ze h73 v77) fun v78=>Za (X8 .not v78) fun v79=>some (v79,h73,f74)) (some (.bool true)) h73 f74 fun v80 h81 f82=>some ((AV.ro v80),h81,f82)) (some (.bool false)) h73 f74 fun v83 h84 f85=>Qn (AV.ro v83) true (Za (Zg 7 (.ptr (h0).length 0)) fun v86=>Za (Ze h84 v86) fun v87=>Qn v87 false (Za (Zg 19 (.ptr (o).length 0)) fun v88=>Za (Ze h84 v88) fun v89=>Za (Z9 h84 .slice v89) fun v90=>Za (Zb .eql .prim v90 (.int .i64 0)) fun v91=>some (v91,h84,f85)) (some (.bool true)) h84 f85 fun v92 h93 f94=>some ((AV.ro v92),h93,f94)) (some (.bool false)) h84 f85 fun v95 h96 f97=>Qn (AV.ro v95) true (Za (Zg 8 (.ptr (h0).length 0)) fun v98=>Za (Ze h96 v98) fun v99=>Qn v99 false (Za (Zg 20 (.ptr (o).length 0)) fun v100=>Za (Ze h96 v100) fun v101=>Za (Z9 h96 .slice v101) fun v102=>Za (Zb .eql .prim v102 (.int .i64 0)) fun v103=>some (v103,h96,f97)) (some (.bool true)) h96 f97 fun v104 h105 f106=>some ((AV.ro v104),h105,f106)) (some (.bool false)) h96 f97 fun v107 h108 f109=>some (Zq false o v107 h108 f109)
theorem Zog (G:GT)(K:KT)(L:Nat)(x0 x1:AV)(o:HP):fnK G K Zva L ZdW [x0,x1] o=Zfa G K L x0 x1 o:=by kernel_rfl
theorem ZrD {C:Cfg}{x0 x1:AV}:RunT C A9 ZdW [x0,x1] (fun K=>Zfa C.G K C.L x0 x1):=runT rfl fun _ _=>Zog ..
def Tg (G:GT)(K:KT)(L:Nat)(o:HP)(x2:AV)(x3:AV)(q:HP)(g:Eff):KR :=
  Za (Zg 5 x3) fun v8=>Za (Ze q v8) fun v9=>ifK v9 (Za (Zg 12 x2) fun v10=>Za (Zp q 6 v10) fun v11=>ZZ (K Uq [v11] q) fun v12 h13 f14=>some (Zq false o v12 h13 (Zd o.length g f14))) (some (Zq false o (.int .i64 0) q g))
theorem Zgz (G:GT)(K:KT)(L:Nat)(o:HP) :Zo G 89 o.length K WF L Zbd (ZH WF Xq o) (ZH WF Xq o) []=fun e q g=>Tg G K L o (e 2).rd (e 3).rd q g:=by kernel_rfl
def UF (G:GT)(K:KT)(L:Nat)(o:HP)(k4:AV→AV→HP→Eff→KR):Nat→AV→AV→AV→AV→AV→HP→Eff→KR
  | 0,_,_,_,_,_,_,_=>none
  | m + 1,x2,x3,x72,x73,x74,q,g=>Za (Zb .lss .prim x74 x73) fun v18=>ifK v18 (Za (Yy (.slice 4) x72 x74) fun v19=>Za (Zp q 4 v19) fun v20=>Vb (q ++ [.cells [(.int .i64 0),(.str []),(.int .i64 0),(.own 4 [])] Yu]) fun h21=>JJ (stV o.length 4 (.ptr (q).length 0) v20 h21 g) fun h22 f23=>Za (Zp h22 4 (.ptr (q).length 0)) fun v24=>ZZ (K Ur [v24] h22) fun v25 h26 f27=>Za (Zb .neq .prim (AV.ro v25) (.int .i64 0)) fun v28=>ifK v28 (some (Zq false o v25 h26 (Zd o.length f23 f27))) (Za (Zb .add .prim x74 (.int .i64 1)) fun v29=>UF G K L o k4 m x2 x3 x72 x73 v29 h26 (Zd o.length f23 f27))) (k4 x2 x3 q g)
theorem Zg5 (G:GT)(K:KT)(L:Nat)(o:HP)(k4:AV→AV→HP→Eff→KR) :∀ m,X4 (fun n'=>Zo G 89 o.length K WF L Cq n' (ZH WF Xq o) [(4,(fun e q g=>k4 (e 2).rd (e 3).rd q g))]) m=fun e q g=>UF G K L o k4 m (e 2).rd (e 3).rd (e 72).rd (e 73).rd (e 74).rd q g:=lpI rfl fun _=>by kernel_rfl
theorem Zg4 (G:GT)(K:KT)(L:Nat)(o:HP)(k4:AV→AV→HP→Eff→KR)(zn:Jb):Zo G 89 o.length K WF L Zbg zn (ZH WF Xq o) [(4,(fun e q g=>k4 (e 2).rd (e 3).rd q g))]=fun e q g=>UF G K L o k4 L (e 2).rd (e 3).rd (e 72).rd (e 73).rd (e 74).rd q g:=Zg5 G K L o k4 L
def GL (G:GT)(K:KT)(L:Nat)(o:HP)(x2:AV)(x3:AV)(q:HP)(g:Eff):KR :=
  Za (Zg 11 x2) fun v4=>Za (Ze q v4) fun v5=>Za (Z9 q .slice v5) fun v6=>Za (Zb .gtr .prim v6 (.int .i64 6)) fun v7=>ifK v7 (some (Zq false o (.int .i64 6) q g)) (Za (Zg 11 x2) fun v15=>Za (Ze q v15) fun v16=>Za (Z9 q .slice v16) fun v17=>UF G K L o (Tg G K L o) L x2 x3 v16 v17 (.int .i64 0) q g)
theorem Zgy (G:GT)(K:KT)(L:Nat)(o:HP) :Zo G 89 o.length K WF L PT (ZH WF Xq o) (ZH WF Xq o) []=fun e q g=>GL G K L o (e 2).rd (e 3).rd q g:=by
 simp only [PT,Z7,Zl,Zm,Zv]
 rw [Zgz G K L o ,Zg4 G K L o (Tg G K L o) _]
 kernel_rfl
def UE (G:GT)(K:KT)(L:Nat)(o:HP)(k2:AV→AV→HP→Eff→KR):Nat→AV→AV→AV→AV→AV→HP→Eff→KR
  | 0,_,_,_,_,_,_,_=>none
  | m + 1,x2,x3,x51,x52,x53,q,g=>Za (Zb .lss .prim x53 x52) fun v43=>ifK v43 (Za (Yy (.slice 5) x51 x53) fun v44=>Za (Zp q 5 v44) fun v45=>Vb (q ++ [.cells [(.bool false),(.int .i64 0),(.str []),(.int .i64 0),(.own 4 [])] WB]) fun h46=>JJ (stV o.length 5 (.ptr (q).length 0) v45 h46 g) fun h47 f48=>Za (Zg 0 (.ptr (q).length 0)) fun v49=>Za (Ze h47 v49) fun v50=>Za (X8 .not v50) fun v51=>ifK v51 (Za (Zb .add .prim x53 (.int .i64 1)) fun v52=>UE G K L o k2 m x2 x3 x51 x52 v52 h47 f48) (Za (Zg 1 (.ptr (q).length 0)) fun v53=>Za (Zp h47 4 v53) fun v54=>ZZ (K Ur [v54] h47) fun v55 h56 f57=>Za (Zb .neq .prim (AV.ro v55) (.int .i64 0)) fun v58=>ifK v58 (some (Zq false o v55 h56 (Zd o.length f48 f57))) (Za (Zb .add .prim x53 (.int .i64 1)) fun v59=>UE G K L o k2 m x2 x3 x51 x52 v59 h56 (Zd o.length f48 f57)))) (k2 x2 x3 q g)
theorem Zg3 (G:GT)(K:KT)(L:Nat)(o:HP)(k2:AV→AV→HP→Eff→KR) :∀ m,X4 (fun n'=>Zo G 89 o.length K WF L Co n' (ZH WF Xq o) [(2,(fun e q g=>k2 (e 2).rd (e 3).rd q g))]) m=fun e q g=>UE G K L o k2 m (e 2).rd (e 3).rd (e 51).rd (e 52).rd (e 53).rd q g:=lpI rfl fun _=>by kernel_rfl
theorem Zg2 (G:GT)(K:KT)(L:Nat)(o:HP)(k2:AV→AV→HP→Eff→KR)(zn:Jb):Zo G 89 o.length K WF L Zbf zn (ZH WF Xq o) [(2,(fun e q g=>k2 (e 2).rd (e 3).rd q g))]=fun e q g=>UE G K L o k2 L (e 2).rd (e 3).rd (e 51).rd (e 52).rd (e 53).rd q g:=Zg3 G K L o k2 L
def GK (G:GT)(K:KT)(L:Nat)(o:HP)(x2:AV)(x3:AV)(q:HP)(g:Eff):KR :=
  Za (Zg 2 x3) fun v30=>Za (Ze q v30) fun v31=>Za (Zg 3 x2) fun v32=>Za (Zp q 4 v32) fun v33=>Za (fill [(.bool false),(.int .i64 0),(.str []),(.int .i64 0),(.own 4 [])] [(0,1,AV.nm v31),(1,4,AV.nm v33)]) fun v34=>Za (Zg 3 x3) fun v35=>Za (Ze q v35) fun v36=>Za (Zg 7 x2) fun v37=>Za (Zp q 4 v37) fun v38=>Za (fill [(.bool false),(.int .i64 0),(.str []),(.int .i64 0),(.own 4 [])] [(0,1,AV.nm v36),(1,4,AV.nm v38)]) fun v39=>JJ (ZbM WB 5 [(.agg v34),(.agg v39)] q) fun v40 h41=>Za (Z9 h41 .slice (AV.ro v40)) fun v42=>UE G K L o (GL G K L o) L x2 x3 (AV.ro v40) v42 (.int .i64 0) h41 g
theorem Zgx (G:GT)(K:KT)(L:Nat)(o:HP) :Zo G 89 o.length K WF L PS (ZH WF Xq o) (ZH WF Xq o) []=fun e q g=>GK G K L o (e 2).rd (e 3).rd q g:=by
 simp only [PS,Z7,Zl,Zm,Zv]
 rw [Zgy G K L o ,Zg2 G K L o (GL G K L o) _]
 kernel_rfl
def GM (G:GT)(K:KT)(L:Nat)(o:HP)(k0:AV→AV→HP→Eff→KR):Nat→AV→AV→AV→AV→AV→HP→Eff→KR
  | 0,_,_,_,_,_,_,_=>none
  | m + 1,x2,x3,x24,x25,x26,q,g=>Za (Zb .lss .prim x26 x25) fun v73=>ifK v73 (Za (Yy (.slice 2) x24 x26) fun v74=>Za (Zp q 2 v74) fun v75=>Vb (q ++ [.cells [(.bool false),(.str [])] Wv]) fun h76=>JJ (stV o.length 2 (.ptr (q).length 0) v75 h76 g) fun h77 f78=>Za (Zg 1 (.ptr (q).length 0)) fun v79=>Za (Ze h77 v79) fun v80=>ZZ (K Kv [v80] h77) fun v81 h82 f83=>Za (Zg 0 (.ptr (q).length 0)) fun v84=>Za (Ze h82 v84) fun v85=>Qn v85 true (Za (Zb .neq .prim (AV.ro v81) (.int .i64 0)) fun v86=>some (v86,h82,(Zd o.length f78 f83))) (some (.bool false)) h82 (Zd o.length f78 f83) fun v87 h88 f89=>ifK (AV.ro v87) (some (Zq false o v81 h88 f89)) (Za (Zb .add .prim x26 (.int .i64 1)) fun v90=>GM G K L o k0 m x2 x3 x24 x25 v90 h88 f89)) (k0 x2 x3 q g)
theorem Zg1 (G:GT)(K:KT)(L:Nat)(o:HP)(k0:AV→AV→HP→Eff→KR) :∀ m,X4 (fun n'=>Zo G 89 o.length K WF L Cn n' (ZH WF Xq o) [(0,(fun e q g=>k0 (e 2).rd (e 3).rd q g))]) m=fun e q g=>GM G K L o k0 m (e 2).rd (e 3).rd (e 24).rd (e 25).rd (e 26).rd q g:=lpI rfl fun _=>by kernel_rfl
theorem Zg0 (G:GT)(K:KT)(L:Nat)(o:HP)(k0:AV→AV→HP→Eff→KR)(zn:Jb):Zo G 89 o.length K WF L Zbe zn (ZH WF Xq o) [(0,(fun e q g=>k0 (e 2).rd (e 3).rd q g))]=fun e q g=>GM G K L o k0 L (e 2).rd (e 3).rd (e 24).rd (e 25).rd (e 26).rd q g:=Zg1 G K L o k0 L
def Zb4 (G:GT)(K:KT)(L:Nat)(x0 x1:AV)(o:HP):KR :=
  Za (JL 21 (AV.ro x0)) fun v1=>Vb (o ++ [.cells v1 Qc]) fun h0=>Za (JL 9 (AV.ro x1)) fun v3=>Vb (h0 ++ [.cells v3 Gq]) fun h2=>Za (Zg 0 (.ptr (h0).length 0)) fun v60=>Za (Ze h2 v60) fun v61=>Za (Zg 1 (.ptr (o).length 0)) fun v62=>Za (Ze h2 v62) fun v63=>Za (fill [(.bool false),(.str [])] [(0,1,AV.nm v61),(1,1,AV.nm v63)]) fun v64=>Za (Zg 1 (.ptr (h0).length 0)) fun v65=>Za (Ze h2 v65) fun v66=>Za (Zg 2 (.ptr (o).length 0)) fun v67=>Za (Ze h2 v67) fun v68=>Za (fill [(.bool false),(.str [])] [(0,1,AV.nm v66),(1,1,AV.nm v68)]) fun v69=>JJ (ZbM Wv 2 [(.agg v64),(.agg v69)] h2) fun v70 h71=>Za (Z9 h71 .slice (AV.ro v70)) fun v72=>GM G K L o (GK G K L o) L (.ptr (o).length 0) (.ptr (h0).length 0) (AV.ro v70) v72 (.int .i64 0) h71 none
theorem ZlT (G:GT)(K:KT)(L:Nat)(x0 x1:AV)(o:HP):fnK G K WF L Xq [x0,x1] o=Zb4 G K L x0 x1 o:=by
 show Zo G 89 o.length K WF L Zbc (ZH WF Xq o) (ZH WF Xq o) [] (Md [x0,x1]) o none=_
 simp only [Zbc,Z7,Zl,Zm,Zv]
 rw [Zgx G K L o ,Zg0 G K L o (GK G K L o) _]
 kernel_rfl
theorem Zpe {C:Cfg}{x0 x1:AV}:RunT C NJ Xq [x0,x1] (fun K=>Zb4 C.G K C.L x0 x1):=runT rfl fun _ _=>ZlT ..
def Ew (G:GT)(K:KT)(L:Nat)(x0 x1:AV)(o:HP):KR :=
  Za (JL 3 (AV.ro x0)) fun v1=>Vb (o ++ [.cells v1 VQ]) fun h0=>Za (Zg 0 (.ptr (o).length 0)) fun v2=>Za (Ze h0 v2) fun v3=>Za (Zg 2 (AV.ro x1)) fun v4=>Za (Ze h0 v4) fun v5=>Za (Zb .eql .prim v3 v5) fun v6=>some (Zq false o v6 h0 none)
theorem ZhG (G:GT)(K:KT)(L:Nat)(x0 x1:AV)(o:HP):fnK G K ZoK L SA [x0,x1] o=Ew G K L x0 x1 o:=by kernel_rfl
theorem ZkM {C:Cfg}{x0 x1:AV}:RunT C TZ SA [x0,x1] (fun K=>Ew C.G K C.L x0 x1):=runT rfl fun _ _=>ZhG ..
def Qs (G:GT)(K:KT)(L:Nat)(x0 x1:AV)(o:HP):KR :=
  ZZ (K Q9 [(AV.ro x0),(AV.ro x1)] o) fun v0 h1 f2=>Za (Zb .geq .prim (AV.ro v0) (.int .i64 0)) fun v3=>some (Zq false o v3 h1 (Zd o.length none f2))
theorem JU (G:GT)(K:KT)(L:Nat)(x0 x1:AV)(o:HP):fnK G K UO L Qq [x0,x1] o=Qs G K L x0 x1 o:=by kernel_rfl
theorem Un {C:Cfg}{x0 x1:AV}:RunT C Qp Qq [x0,x1] (fun K=>Qs C.G K C.L x0 x1):=runT rfl fun _ _=>JU ..
def Zio (G:GT)(K:KT)(L:Nat)(x0:AV)(o:HP):KR :=
  Za (JL 4 (AV.ro x0)) fun v1=>Vb (o ++ [.cells v1 Yu]) fun h0=>Za (Zg 0 (.ptr (o).length 0)) fun v2=>Za (Ze h0 v2) fun v3=>Za (Zb .eql .prim v3 (.int .i64 0)) fun v4=>Qn v4 true (Za (Zg 1 (.ptr (o).length 0)) fun v5=>Za (Ze h0 v5) fun v6=>Za (Zb .eql .prim v6 (.str [])) fun v7=>some (v7,h0,none)) (some (.bool false)) h0 none fun v8 h9 f10=>Qn (AV.ro v8) true (Za (Zg 2 (.ptr (o).length 0)) fun v11=>Za (Ze h9 v11) fun v12=>Za (Zb .eql .prim v12 (.int .i64 0)) fun v13=>some (v13,h9,f10)) (some (.bool false)) h9 f10 fun v14 h15 f16=>Qn (AV.ro v14) true (Za (Zg 3 (.ptr (o).length 0)) fun v17=>Za (Ze h15 v17) fun v18=>Za (Z9 h15 .slice v18) fun v19=>Za (Zb .eql .prim v19 (.int .i64 0)) fun v20=>some (v20,h15,f16)) (some (.bool false)) h15 f16 fun v21 h22 f23=>some (Zq false o v21 h22 f23)
theorem Zqx (G:GT)(K:KT)(L:Nat)(x0:AV)(o:HP):fnK G K ZwH L Zhk [x0] o=Zio G K L x0 o:=by kernel_rfl
theorem Ztp {C:Cfg}{x0:AV}:RunT C ZbY Zhk [x0] (fun K=>Zio C.G K C.L x0):=runT rfl fun _ _=>Zqx ..
def ZeK (G:GT)(K:KT)(L:Nat)(x0:AV)(o:HP):KR :=
  Za (JL 4 (AV.ro x0)) fun v1=>Vb (o ++ [.cells v1 Yu]) fun h0=>Za (Zp h0 4 (.ptr (o).length 0)) fun v2=>ZZ (K ZdE [v2,(.bool false)] h0) fun v3 h4 f5=>some (Zq false o v3 h4 (Zd o.length none f5))
theorem ZnN (G:GT)(K:KT)(L:Nat)(x0:AV)(o:HP):fnK G K ZuT L ZdP [x0] o=ZeK G K L x0 o:=by kernel_rfl
theorem Zrq {C:Cfg}{x0:AV}:RunT C OH ZdP [x0] (fun K=>ZeK C.G K C.L x0):=runT rfl fun _ _=>ZnN ..
def QQ (G:GT)(K:KT)(L:Nat)(o:HP)(q:HP)(g:Eff):KR :=
  some (Zq false o (.int .i64 (-1)) q g)
theorem LK (G:GT)(K:KT)(L:Nat)(o:HP) :Zo G 19 o.length K Yw L GG (ZH Yw YM o) (ZH Yw YM o) []=fun e q g=>QQ G K L o  q g:=by kernel_rfl
def WN (G:GT)(K:KT)(L:Nat)(o:HP)(k0:HP→Eff→KR):Nat→AV→AV→AV→AV→HP→Eff→KR
  | 0,_,_,_,_,_,_=>none
  | m + 1,x0,x1,x7,x8,q,g=>Za (Zb .lss .prim x8 x7) fun v1=>ifK v1 (Za (Yy (.slice 1) x0 x8) fun v2=>Za (Ze q v2) fun v3=>ZZ (Vz K x1 [v3] q) fun v4 h5 f6=>ifK (AV.ro v4) (some (Zq false o x8 h5 (Zd o.length g f6))) (Za (Zb .add .prim x8 (.int .i64 1)) fun v7=>WN G K L o k0 m x0 x1 x7 v7 h5 (Zd o.length g f6))) (k0  q g)
theorem LP (G:GT)(K:KT)(L:Nat)(o:HP)(k0:HP→Eff→KR) :∀ m,X4 (fun n'=>Zo G 19 o.length K Yw L Gs n' (ZH Yw YM o) [(0,(fun e q g=>k0 q g))]) m=fun e q g=>WN G K L o k0 m (e 0).rd (e 1).rd (e 7).rd (e 8).rd q g:=lpI rfl fun _=>by kernel_rfl
theorem LM (G:GT)(K:KT)(L:Nat)(o:HP)(k0:HP→Eff→KR)(zn:Jb):Zo G 19 o.length K Yw L GH zn (ZH Yw YM o) [(0,(fun e q g=>k0 q g))]=fun e q g=>WN G K L o k0 L (e 0).rd (e 1).rd (e 7).rd (e 8).rd q g:=LP G K L o k0 L
def Ul (G:GT)(K:KT)(L:Nat)(x0 x1:AV)(o:HP):KR :=
  Za (Z9 o .slice (AV.ro x0)) fun v0=>WN G K L o (QQ G K L o) L (AV.ro x0) (AV.ro x1) v0 (.int .i64 0) o none
theorem Br (G:GT)(K:KT)(L:Nat)(x0 x1:AV)(o:HP):fnK G K Yw L YM [x0,x1] o=Ul G K L x0 x1 o:=by
 show Zo G 19 o.length K Yw L Uj (ZH Yw YM o) (ZH Yw YM o) [] (Md [x0,x1]) o none=_
 simp only [Uj,Z7,Zl,Zm,Zv]
 rw [LK G K L o ,LM G K L o (QQ G K L o) _]
 kernel_rfl
theorem Dk {C:Cfg}{x0 x1:AV}:RunT C Ue YM [x0,x1] (fun K=>Ul C.G K C.L x0 x1):=runT rfl fun _ _=>Br ..
def F9 (G:GT)(K:KT)(L:Nat)(x0:AV)(o:HP):KR :=
  Za (JL 4 (AV.ro x0)) fun v1=>Vb (o ++ [.cells v1 Yu]) fun h0=>Za (Zp h0 4 (.ptr (o).length 0)) fun v2=>Za (fill [(.int .i64 0),(.str []),(.int .i64 0),(.own 4 [])] []) fun v3=>ZZ (K Ap [v2,(.agg v3)] h0) fun v4 h5 f6=>some (Zq false o v4 h5 (Zd o.length none f6))
theorem Zk2 (G:GT)(K:KT)(L:Nat)(x0:AV)(o:HP):fnK G K Zrl L AX [x0] o=F9 G K L x0 o:=by kernel_rfl
theorem Znp {C:Cfg}{x0:AV}:RunT C Tx AX [x0] (fun K=>F9 C.G K C.L x0):=runT rfl fun _ _=>Zk2 ..
def Zbj (G:GT)(K:KT)(L:Nat)(x0:AV)(o:HP):KR :=
  Za (JL 4 (AV.ro x0)) fun v1=>Vb (o ++ [.cells v1 Yu]) fun h0=>Za (fill [(.bool false)] []) fun v2=>Za (Zp h0 4 (.ptr (o).length 0)) fun v3=>ZZ (K MR [(.agg v2),v3] h0) fun v4 h5 f6=>some (Zq false o v4 h5 (Zd o.length none f6))
theorem Zl6 (G:GT)(K:KT)(L:Nat)(x0:AV)(o:HP):fnK G K ZsY L Zam [x0] o=Zbj G K L x0 o:=by kernel_rfl
theorem Zo0 {C:Cfg}{x0:AV}:RunT C Ur Zam [x0] (fun K=>Zbj C.G K C.L x0):=runT rfl fun _ _=>Zl6 ..
def ZeN (G:GT)(K:KT)(L:Nat)(x0 x1:AV)(o:HP):KR :=
  Za (JL 4 (AV.ro x0)) fun v1=>Vb (o ++ [.cells v1 Yu]) fun h0=>Za (Zp h0 4 (.ptr (o).length 0)) fun v2=>ZZ (K MW [v2] h0) fun v3 h4 f5=>Za (Zb .gtr .prim (AV.ro v3) (.int .i64 60)) fun v6=>ifK v6 (some (Zq false o (.int .i64 6) h4 (Zd o.length none f5))) (Za (Zp h4 4 (.ptr (o).length 0)) fun v7=>ZZ (K MV [v7] h4) fun v8 h9 f10=>Za (Zb .gtr .prim (AV.ro v8) (.int .i64 12)) fun v11=>ifK v11 (some (Zq false o (.int .i64 11) h9 (Zd o.length (Zd o.length none f5) f10))) (Za (Zp h9 4 (.ptr (o).length 0)) fun v12=>ZZ (K Bb [v12,(AV.ro x1)] h9) fun v13 h14 f15=>some (Zq false o v13 h14 (Zd o.length (Zd o.length (Zd o.length none f5) f10) f15))))
theorem ZnQ (G:GT)(K:KT)(L:Nat)(x0 x1:AV)(o:HP):fnK G K ZuU L ZdQ [x0,x1] o=ZeN G K L x0 x1 o:=by kernel_rfl
theorem Zrt {C:Cfg}{x0 x1:AV}:RunT C ZdE ZdQ [x0,x1] (fun K=>ZeN C.G K C.L x0 x1):=runT rfl fun _ _=>ZnQ ..
def Lf (G:GT)(K:KT)(L:Nat)(x0 x1:AV)(o:HP):KR :=
  Za (JL 1 (AV.ro x0)) fun v1=>Vb (o ++ [.cells v1 Hy]) fun h0=>Za (JL 4 (AV.ro x1)) fun v3=>Vb (h0 ++ [.cells v3 Yu]) fun h2=>Za (Zp h2 4 (.ptr (h0).length 0)) fun v4=>ZZ (K OB [v4] h2) fun v5 h6 f7=>Za (Zb .gtr .prim (AV.ro v5) (.int .i64 60)) fun v8=>ifK v8 (some (Zq false o (.int .i64 6) h6 (Zd o.length none f7))) (Za (Zp h6 4 (.ptr (h0).length 0)) fun v9=>ZZ (K OA [v9] h6) fun v10 h11 f12=>Za (Zb .gtr .prim (AV.ro v10) (.int .i64 12)) fun v13=>ifK v13 (some (Zq false o (.int .i64 11) h11 (Zd o.length (Zd o.length none f7) f12))) (Za (Zp h11 1 (.ptr (o).length 0)) fun v14=>Za (Zp h11 4 (.ptr (h0).length 0)) fun v15=>ZZ (K Vs [v14,v15] h11) fun v16 h17 f18=>some (Zq false o v16 h17 (Zd o.length (Zd o.length (Zd o.length none f7) f12) f18))))
theorem C8 (G:GT)(K:KT)(L:Nat)(x0 x1:AV)(o:HP):fnK G K Zfq L La [x0,x1] o=Lf G K L x0 x1 o:=by kernel_rfl
theorem Zah {C:Cfg}{x0 x1:AV}:RunT C MR La [x0,x1] (fun K=>Lf C.G K C.L x0 x1):=runT rfl fun _ _=>C8 ..
def Ms (G:GT)(K:KT)(L:Nat)(o:HP)(y3:AV)(q:HP)(g:Eff):KR :=
  some (Zq false o y3 q g)
theorem ZhW (G:GT)(K:KT)(L:Nat)(o:HP) :Zo G 21 o.length K UK L ZcE (ZH UK Ia o) (ZH UK Ia o) []=fun e q g=>Ms G K L o (e 3).val q g:=by kernel_rfl
def KZ (G:GT)(K:KT)(L:Nat)(o:HP)(k0:AV→HP→Eff→KR):Nat→AV→AV→AV→AV→HP→Eff→KR
  | 0,_,_,_,_,_,_=>none
  | m + 1,x1,x3,y3,x4,q,g=>Za (Zg 3 x1) fun v2=>Za (Ze q v2) fun v3=>Za (Z9 q .slice v3) fun v4=>Za (Zb .lss .prim x4 v4) fun v5=>ifK v5 (Za (Zg 3 x1) fun v6=>Za (Ze q v6) fun v7=>Za (Yy (.slice 4) v7 x4) fun v8=>Za (Zp q 4 v8) fun v9=>ZZ (K MW [v9] q) fun v10 h11 f12=>Za (Zb .add .prim x3 (AV.ro v10)) fun v13=>Za (Zb .add .prim x4 (.int .i64 1)) fun v14=>KZ G K L o k0 m x1 v13 v13 v14 h11 (Zd o.length g f12)) (k0 y3 q g)
theorem ZhY (G:GT)(K:KT)(L:Nat)(o:HP)(k0:AV→HP→Eff→KR) :∀ m,X4 (fun n'=>Zo G 21 o.length K UK L ZaG n' (ZH UK Ia o) [(0,(fun e q g=>k0 (e 3).val q g))]) m=fun e q g=>KZ G K L o k0 m (e 1).rd (e 3).rd (e 3).val (e 4).rd q g:=lpI rfl fun _=>by kernel_rfl
theorem ZhX (G:GT)(K:KT)(L:Nat)(o:HP)(k0:AV→HP→Eff→KR)(zn:Jb):Zo G 21 o.length K UK L ZcF zn (ZH UK Ia o) [(0,(fun e q g=>k0 (e 3).val q g))]=fun e q g=>KZ G K L o k0 L (e 1).rd (e 3).rd (e 3).val (e 4).rd q g:=ZhY G K L o k0 L
def ZeM (G:GT)(K:KT)(L:Nat)(x0:AV)(o:HP):KR :=
  Za (JL 4 (AV.ro x0)) fun v1=>Vb (o ++ [.cells v1 Yu]) fun h0=>KZ G K L o (Ms G K L o) L (.ptr (o).length 0) (.int .i64 1) (.int .i64 1) (.int .i64 0) h0 none
theorem ZnP (G:GT)(K:KT)(L:Nat)(x0:AV)(o:HP):fnK G K UK L Ia [x0] o=ZeM G K L x0 o:=by
 show Zo G 21 o.length K UK L Zeh (ZH UK Ia o) (ZH UK Ia o) [] (Md [x0]) o none=_
 simp only [Zeh,Z7,Zl,Zm,Zv]
 rw [ZhW G K L o ,ZhX G K L o (Ms G K L o) _]
 kernel_rfl
theorem Zrs {C:Cfg}{x0:AV}:RunT C MW Ia [x0] (fun K=>ZeM C.G K C.L x0):=runT rfl fun _ _=>ZnP ..
def Mr (G:GT)(K:KT)(L:Nat)(o:HP)(x3:AV)(q:HP)(g:Eff):KR :=
  Za (Zb .add .prim x3 (.int .i64 1)) fun v2=>some (Zq false o v2 q g)
theorem ZhT (G:GT)(K:KT)(L:Nat)(o:HP) :Zo G 22 o.length K UJ L ZcC (ZH UJ HZ o) (ZH UJ HZ o) []=fun e q g=>Mr G K L o (e 3).rd q g:=by kernel_rfl
def KY (G:GT)(K:KT)(L:Nat)(o:HP)(k0:AV→HP→Eff→KR):Nat→AV→AV→AV→HP→Eff→KR
  | 0,_,_,_,_,_=>none
  | m + 1,x1,x3,x4,q,g=>Za (Zg 3 x1) fun v3=>Za (Ze q v3) fun v4=>Za (Z9 q .slice v4) fun v5=>Za (Zb .lss .prim x4 v5) fun v6=>ifK v6 (Za (Zg 3 x1) fun v7=>Za (Ze q v7) fun v8=>Za (Yy (.slice 4) v8 x4) fun v9=>Za (Zp q 4 v9) fun v10=>ZZ (K MV [v10] q) fun v11 h12 f13=>Za (ZyK [x3,(AV.ro v11)]) fun v14=>Za (Zb .add .prim x4 (.int .i64 1)) fun v15=>KY G K L o k0 m x1 v14 v15 h12 (Zd o.length g f13)) (k0 x3 q g)
theorem ZhV (G:GT)(K:KT)(L:Nat)(o:HP)(k0:AV→HP→Eff→KR) :∀ m,X4 (fun n'=>Zo G 22 o.length K UJ L ZaF n' (ZH UJ HZ o) [(0,(fun e q g=>k0 (e 3).rd q g))]) m=fun e q g=>KY G K L o k0 m (e 1).rd (e 3).rd (e 4).rd q g:=lpI rfl fun _=>by kernel_rfl
theorem ZhU (G:GT)(K:KT)(L:Nat)(o:HP)(k0:AV→HP→Eff→KR)(zn:Jb):Zo G 22 o.length K UJ L ZcD zn (ZH UJ HZ o) [(0,(fun e q g=>k0 (e 3).rd q g))]=fun e q g=>KY G K L o k0 L (e 1).rd (e 3).rd (e 4).rd q g:=ZhV G K L o k0 L
def ZeL (G:GT)(K:KT)(L:Nat)(x0:AV)(o:HP):KR :=
  Za (JL 4 (AV.ro x0)) fun v1=>Vb (o ++ [.cells v1 Yu]) fun h0=>KY G K L o (Mr G K L o) L (.ptr (o).length 0) (.int .i64 0) (.int .i64 0) h0 none
theorem ZnO (G:GT)(K:KT)(L:Nat)(x0:AV)(o:HP):fnK G K UJ L HZ [x0] o=ZeL G K L x0 o:=by
 show Zo G 22 o.length K UJ L Zeg (ZH UJ HZ o) (ZH UJ HZ o) [] (Md [x0]) o none=_
 simp only [Zeg,Z7,Zl,Zm,Zv]
 rw [ZhT G K L o ,ZhU G K L o (Mr G K L o) _]
 kernel_rfl
theorem Zrr {C:Cfg}{x0:AV}:RunT C MV HZ [x0] (fun K=>ZeL C.G K C.L x0):=runT rfl fun _ _=>ZnO ..
def Rs (G:GT)(K:KT)(L:Nat)(o:HP)(q:HP)(g:Eff):KR :=
  some (Zq false o (.int .i64 0) q g)
theorem ZjY (G:GT)(K:KT)(L:Nat)(o:HP) :Zo G 167 o.length K GR L Zf8 (ZH GR T9 o) (ZH GR T9 o) []=fun e q g=>Rs G K L o  q g:=by kernel_rfl
def Im (G:GT)(K:KT)(L:Nat)(o:HP)(k0:HP→Eff→KR):Nat→AV→AV→AV→HP→Eff→KR
  | 0,_,_,_,_,_=>none
  | m + 1,x1,x2,x10,q,g=>Za (Zg 3 x2) fun v166=>Za (Ze q v166) fun v167=>Za (Z9 q .slice v167) fun v168=>Za (Zb .lss .prim x10 v168) fun v169=>ifK v169 (Za (Zg 3 x2) fun v170=>Za (Ze q v170) fun v171=>Za (Yy (.slice 4) v171 x10) fun v172=>Za (Zp q 4 v172) fun v173=>ZZ (K Bb [v173,x1] q) fun v174 h175 f176=>Za (Zb .neq .prim (AV.ro v174) (.int .i64 0)) fun v177=>ifK v177 (some (Zq false o v174 h175 (Zd o.length g f176))) (Za (Zb .add .prim x10 (.int .i64 1)) fun v178=>Im G K L o k0 m x1 x2 v178 h175 (Zd o.length g f176))) (k0  q g)
theorem Zka (G:GT)(K:KT)(L:Nat)(o:HP)(k0:HP→Eff→KR) :∀ m,X4 (fun n'=>Zo G 167 o.length K GR L ZcG n' (ZH GR T9 o) [(0,(fun e q g=>k0 q g))]) m=fun e q g=>Im G K L o k0 m (e 1).rd (e 2).rd (e 10).rd q g:=lpI rfl fun _=>by kernel_rfl
theorem ZjZ (G:GT)(K:KT)(L:Nat)(o:HP)(k0:HP→Eff→KR)(zn:Jb):Zo G 167 o.length K GR L Zf9 zn (ZH GR T9 o) [(0,(fun e q g=>k0 q g))]=fun e q g=>Im G K L o k0 L (e 1).rd (e 2).rd (e 10).rd q g:=Zka G K L o k0 L
def Zia (G:GT)(K:KT)(L:Nat)(x0 x1:AV)(o:HP):KR :=
  Za (JL 4 (AV.ro x0)) fun v1=>Vb (o ++ [.cells v1 Yu]) fun h0=>Za (Zg 0 (.ptr (o).length 0)) fun v2=>Za (Ze h0 v2) fun v3=>ZZ (K ZdD [v3] h0) fun v4 h5 f6=>Za (Zb .geq .prim (AV.ro v4) (.int .i64 0)) fun v7=>Qn v7 true (Qn (AV.ro x1) true (Za (Zg 0 (.ptr (o).length 0)) fun v8=>Za (Ze h5 v8) fun v9=>Za (Zb .neq .prim v9 (.int .i64 3)) fun v10=>some (v10,h5,(Zd o.length none f6))) (some (.bool false)) h5 (Zd o.length none f6) fun v11 h12 f13=>Qn (AV.ro v11) false (Za (X8 .not (AV.ro x1)) fun v14=>Qn v14 true (Za (Zg 0 (.ptr (o).length 0)) fun v15=>Za (Ze h12 v15) fun v16=>Za (Zb .leq .prim v16 (.int .i64 24)) fun v17=>some (v17,h12,f13)) (some (.bool false)) h12 f13 fun v18 h19 f20=>some ((AV.ro v18),h19,f20)) (some (.bool true)) h12 f13 fun v21 h22 f23=>some ((AV.ro v21),h22,f23)) (some (.bool false)) h5 (Zd o.length none f6) fun v24 h25 f26=>Za (X8 .not (AV.ro x1)) fun v27=>Qn v27 true (Za (Zg 0 (.ptr (o).length 0)) fun v28=>Za (Ze h25 v28) fun v29=>Za (Zb .eql .prim v29 (.int .i64 3)) fun v30=>Qn v30 false (Za (Zg 0 (.ptr (o).length 0)) fun v31=>Za (Ze h25 v31) fun v32=>ZZ (K NH [v32] h25) fun v33 h34 f35=>some ((AV.ro v33),h34,(Zd o.length f26 f35))) (some (.bool true)) h25 f26 fun v36 h37 f38=>some ((AV.ro v36),h37,f38)) (some (.bool false)) h25 f26 fun v39 h40 f41=>Qn (AV.ro x1) true (Za (Zg 0 (.ptr (o).length 0)) fun v42=>Za (Ze h40 v42) fun v43=>ZZ (K NH [v43] h40) fun v44 h45 f46=>Qn (AV.ro v44) false (Za (Zg 0 (.ptr (o).length 0)) fun v47=>Za (Ze h45 v47) fun v48=>Za (Zb .eql .prim v48 (.int .i64 25)) fun v49=>some (v49,h45,(Zd o.length f41 f46))) (some (.bool true)) h45 (Zd o.length f41 f46) fun v50 h51 f52=>Qn (AV.ro v50) false (Za (Zg 0 (.ptr (o).length 0)) fun v53=>Za (Ze h51 v53) fun v54=>Za (Zb .eql .prim v54 (.int .i64 26)) fun v55=>some (v55,h51,f52)) (some (.bool true)) h51 f52 fun v56 h57 f58=>some ((AV.ro v56),h57,f58)) (some (.bool false)) h40 f41 fun v59 h60 f61=>Za (Zg 0 (.ptr (o).length 0)) fun v62=>Za (Ze h60 v62) fun v63=>Za (Zb .eql .prim v63 (.int .i64 1)) fun v64=>Qn v64 false (Za (Zg 0 (.ptr (o).length 0)) fun v65=>Za (Ze h60 v65) fun v66=>Za (Zb .eql .prim v66 (.int .i64 2)) fun v67=>some (v67,h60,f61)) (some (.bool true)) h60 f61 fun v68 h69 f70=>Qn (AV.ro v68) false (some ((AV.ro v59),h69,f70)) (some (.bool true)) h69 f70 fun v71 h72 f73=>Za (X8 .not (AV.ro v24)) fun v74=>Qn v74 false (Za (X8 .not (AV.ro v39)) fun v75=>Qn v75 true (Za (Zg 1 (.ptr (o).length 0)) fun v76=>Za (Ze h72 v76) fun v77=>Za (Zb .neq .prim v77 (.str [])) fun v78=>some (v78,h72,f73)) (some (.bool false)) h72 f73 fun v79 h80 f81=>some ((AV.ro v79),h80,f81)) (some (.bool true)) h72 f73 fun v82 h83 f84=>Qn (AV.ro v82) false (Za (X8 .not (AV.ro v71)) fun v85=>Qn v85 true (Za (Zg 2 (.ptr (o).length 0)) fun v86=>Za (Ze h83 v86) fun v87=>Za (Zb .neq .prim v87 (.int .i64 0)) fun v88=>some (v88,h83,f84)) (some (.bool false)) h83 f84 fun v89 h90 f91=>some ((AV.ro v89),h90,f91)) (some (.bool true)) h83 f84 fun v92 h93 f94=>Qn (AV.ro v92) false (Za (Zg 3 (.ptr (o).length 0)) fun v95=>Za (Ze h93 v95) fun v96=>Za (Z9 h93 .slice v96) fun v97=>Za (Zb .neq .prim v97 (AV.ro v4)) fun v98=>some (v98,h93,f94)) (some (.bool true)) h93 f94 fun v99 h100 f101=>ifK (AV.ro v99) (some (Zq false o (.int .i64 1) h100 f101)) (Za (Zg 0 (.ptr (o).length 0)) fun v102=>Za (Ze h100 v102) fun v103=>Za (Zb .eql .prim v103 (.int .i64 1)) fun v104=>Qn v104 true (Za (Zg 2 (.ptr (o).length 0)) fun v105=>Za (Ze h100 v105) fun v106=>ZZ (ZG K Aw [v106] h100) fun v107 h108 f109=>Za (X8 .not (AV.ro v107)) fun v110=>some (v110,h108,(Zd o.length f101 f109))) (some (.bool false)) h100 f101 fun v111 h112 f113=>Qn (AV.ro v111) false (Za (Zg 0 (.ptr (o).length 0)) fun v114=>Za (Ze h112 v114) fun v115=>Za (Zb .eql .prim v115 (.int .i64 2)) fun v116=>Qn v116 true (Za (Zg 2 (.ptr (o).length 0)) fun v117=>Za (Ze h112 v117) fun v118=>Za (Zb .neq .prim v118 (.int .i64 0)) fun v119=>some (v119,h112,f113)) (some (.bool false)) h112 f113 fun v120 h121 f122=>Qn (AV.ro v120) true (Za (Zg 2 (.ptr (o).length 0)) fun v123=>Za (Ze h121 v123) fun v124=>Za (Zb .neq .prim v124 (.int .i64 1)) fun v125=>some (v125,h121,f122)) (some (.bool false)) h121 f122 fun v126 h127 f128=>some ((AV.ro v126),h127,f128)) (some (.bool true)) h112 f113 fun v129 h130 f131=>Qn (AV.ro v129) false (Qn (AV.ro v59) true (Za (Zg 2 (.ptr (o).length 0)) fun v132=>Za (Ze h130 v132) fun v133=>Za (Zb .lss .prim v133 (.int .i64 0)) fun v134=>Qn v134 false (Za (Zg 2 (.ptr (o).length 0)) fun v135=>Za (Ze h130 v135) fun v136=>Za (Zg 0 (.ptr (o).length 0)) fun v137=>Za (Ze h130 v137) fun v138=>ZZ (ZG K Zhf [v138] h130) fun v139 h140 f141=>Za (Zb .gtr .prim v136 (AV.ro v139)) fun v142=>some (v142,h140,(Zd o.length f131 f141))) (some (.bool true)) h130 f131 fun v143 h144 f145=>some ((AV.ro v143),h144,f145)) (some (.bool false)) h130 f131 fun v146 h147 f148=>some ((AV.ro v146),h147,f148)) (some (.bool true)) h130 f131 fun v149 h150 f151=>ifK (AV.ro v149) (some (Zq false o (.int .i64 2) h150 f151)) (Qn (AV.ro v39) true (Za (Zg 1 (.ptr (o).length 0)) fun v152=>Za (Ze h150 v152) fun v153=>ZZ (K H7 [v153] h150) fun v154 h155 f156=>Za (Zb .neq .prim (AV.ro v154) (.int .i64 0)) fun v157=>some (v157,h155,(Zd o.length f151 f156))) (some (.bool false)) h150 f151 fun v158 h159 f160=>ifK (AV.ro v158) (Za (Zg 1 (.ptr (o).length 0)) fun v161=>Za (Ze h159 v161) fun v162=>ZZ (K H7 [v162] h159) fun v163 h164 f165=>some (Zq false o v163 h164 (Zd o.length f160 f165))) (Im G K L o (Rs G K L o) L (AV.ro x1) (.ptr (o).length 0) (.int .i64 0) h159 f160)))
theorem Zqu (G:GT)(K:KT)(L:Nat)(x0 x1:AV)(o:HP):fnK G K GR L T9 [x0,x1] o=Zia G K L x0 x1 o:=by
 show Zo G 167 o.length K GR L Zhu (ZH GR T9 o) (ZH GR T9 o) [] (Md [x0,x1]) o none=_
 simp only [Zhu,Z7,Zl,Zm,Zv]
 rw [ZjY G K L o ,ZjZ G K L o (Rs G K L o) _]
 kernel_rfl
theorem Ztn {C:Cfg}{x0 x1:AV}:RunT C Bb T9 [x0,x1] (fun K=>Zia C.G K C.L x0 x1):=runT rfl fun _ _=>Zqu ..
def OW (G:GT)(K:KT)(L:Nat)(o:HP)(y3:AV)(q:HP)(g:Eff):KR :=
  some (Zq false o y3 q g)
theorem ZfX (G:GT)(K:KT)(L:Nat)(o:HP) :Zo G 19 o.length K JC L Za4 (ZH JC Kz o) (ZH JC Kz o) []=fun e q g=>OW G K L o (e 3).val q g:=by kernel_rfl
def U9 (G:GT)(K:KT)(L:Nat)(o:HP)(k0:AV→HP→Eff→KR):Nat→AV→AV→AV→AV→AV→HP→Eff→KR
  | 0,_,_,_,_,_,_,_=>none
  | m + 1,x3,y3,x7,x8,x9,q,g=>Za (Zb .lss .prim x9 x8) fun v5=>ifK v5 (Za (Yy (.slice 4) x7 x9) fun v6=>Za (Zp q 4 v6) fun v7=>Vb (q ++ [.cells [(.int .i64 0),(.str []),(.int .i64 0),(.own 4 [])] Yu]) fun h8=>JJ (stV o.length 4 (.ptr (q).length 0) v7 h8 g) fun h9 f10=>Za (Zp h9 4 (.ptr (q).length 0)) fun v11=>ZZ (K OB [v11] h9) fun v12 h13 f14=>Za (Zb .add .prim x3 (AV.ro v12)) fun v15=>Za (Zb .add .prim x9 (.int .i64 1)) fun v16=>U9 G K L o k0 m v15 v15 x7 x8 v16 h13 (Zd o.length f10 f14)) (k0 y3 q g)
theorem ZfZ (G:GT)(K:KT)(L:Nat)(o:HP)(k0:AV→HP→Eff→KR) :∀ m,X4 (fun n'=>Zo G 19 o.length K JC L FU n' (ZH JC Kz o) [(0,(fun e q g=>k0 (e 3).val q g))]) m=fun e q g=>U9 G K L o k0 m (e 3).rd (e 3).val (e 7).rd (e 8).rd (e 9).rd q g:=lpI rfl fun _=>by kernel_rfl
theorem ZfY (G:GT)(K:KT)(L:Nat)(o:HP)(k0:AV→HP→Eff→KR)(zn:Jb):Zo G 19 o.length K JC L Za5 zn (ZH JC Kz o) [(0,(fun e q g=>k0 (e 3).val q g))]=fun e q g=>U9 G K L o k0 L (e 3).rd (e 3).val (e 7).rd (e 8).rd (e 9).rd q g:=ZfZ G K L o k0 L
def Zbl (G:GT)(K:KT)(L:Nat)(x0:AV)(o:HP):KR :=
  Za (JL 4 (AV.ro x0)) fun v1=>Vb (o ++ [.cells v1 Yu]) fun h0=>Za (Zg 3 (.ptr (o).length 0)) fun v2=>Za (Ze h0 v2) fun v3=>Za (Z9 h0 .slice v3) fun v4=>U9 G K L o (OW G K L o) L (.int .i64 1) (.int .i64 1) v3 v4 (.int .i64 0) h0 none
theorem Zl8 (G:GT)(K:KT)(L:Nat)(x0:AV)(o:HP):fnK G K JC L Kz [x0] o=Zbl G K L x0 o:=by
 show Zo G 19 o.length K JC L Za3 (ZH JC Kz o) (ZH JC Kz o) [] (Md [x0]) o none=_
 simp only [Za3,Z7,Zl,Zm,Zv]
 rw [ZfX G K L o ,ZfY G K L o (OW G K L o) _]
 kernel_rfl
theorem Zo2 {C:Cfg}{x0:AV}:RunT C OB Kz [x0] (fun K=>Zbl C.G K C.L x0):=runT rfl fun _ _=>Zl8 ..
def OV (G:GT)(K:KT)(L:Nat)(o:HP)(x3:AV)(q:HP)(g:Eff):KR :=
  Za (Zb .add .prim x3 (.int .i64 1)) fun v2=>some (Zq false o v2 q g)
theorem ZfU (G:GT)(K:KT)(L:Nat)(o:HP) :Zo G 20 o.length K JB L Za1 (ZH JB Ky o) (ZH JB Ky o) []=fun e q g=>OV G K L o (e 3).rd q g:=by kernel_rfl
def U8 (G:GT)(K:KT)(L:Nat)(o:HP)(k0:AV→HP→Eff→KR):Nat→AV→AV→AV→AV→HP→Eff→KR
  | 0,_,_,_,_,_,_=>none
  | m + 1,x3,x7,x8,x9,q,g=>Za (Zb .lss .prim x9 x8) fun v6=>ifK v6 (Za (Yy (.slice 4) x7 x9) fun v7=>Za (Zp q 4 v7) fun v8=>Vb (q ++ [.cells [(.int .i64 0),(.str []),(.int .i64 0),(.own 4 [])] Yu]) fun h9=>JJ (stV o.length 4 (.ptr (q).length 0) v8 h9 g) fun h10 f11=>Za (Zp h10 4 (.ptr (q).length 0)) fun v12=>ZZ (K OA [v12] h10) fun v13 h14 f15=>Za (ZyK [x3,(AV.ro v13)]) fun v16=>Za (Zb .add .prim x9 (.int .i64 1)) fun v17=>U8 G K L o k0 m v16 x7 x8 v17 h14 (Zd o.length f11 f15)) (k0 x3 q g)
theorem ZfW (G:GT)(K:KT)(L:Nat)(o:HP)(k0:AV→HP→Eff→KR) :∀ m,X4 (fun n'=>Zo G 20 o.length K JB L FT n' (ZH JB Ky o) [(0,(fun e q g=>k0 (e 3).rd q g))]) m=fun e q g=>U8 G K L o k0 m (e 3).rd (e 7).rd (e 8).rd (e 9).rd q g:=lpI rfl fun _=>by kernel_rfl
theorem ZfV (G:GT)(K:KT)(L:Nat)(o:HP)(k0:AV→HP→Eff→KR)(zn:Jb):Zo G 20 o.length K JB L Za2 zn (ZH JB Ky o) [(0,(fun e q g=>k0 (e 3).rd q g))]=fun e q g=>U8 G K L o k0 L (e 3).rd (e 7).rd (e 8).rd (e 9).rd q g:=ZfW G K L o k0 L
def Zbk (G:GT)(K:KT)(L:Nat)(x0:AV)(o:HP):KR :=
  Za (JL 4 (AV.ro x0)) fun v1=>Vb (o ++ [.cells v1 Yu]) fun h0=>Za (Zg 3 (.ptr (o).length 0)) fun v3=>Za (Ze h0 v3) fun v4=>Za (Z9 h0 .slice v4) fun v5=>U8 G K L o (OV G K L o) L (.int .i64 0) v4 v5 (.int .i64 0) h0 none
theorem Zl7 (G:GT)(K:KT)(L:Nat)(x0:AV)(o:HP):fnK G K JB L Ky [x0] o=Zbk G K L x0 o:=by
 show Zo G 20 o.length K JB L Za0 (ZH JB Ky o) (ZH JB Ky o) [] (Md [x0]) o none=_
 simp only [Za0,Z7,Zl,Zm,Zv]
 rw [ZfU G K L o ,ZfV G K L o (OV G K L o) _]
 kernel_rfl
theorem Zo1 {C:Cfg}{x0:AV}:RunT C OA Ky [x0] (fun K=>Zbk C.G K C.L x0):=runT rfl fun _ _=>Zl7 ..
def Ja (G:GT)(K:KT)(L:Nat)(o:HP)(q:HP)(g:Eff):KR :=
  some (Zq false o (.int .i64 0) q g)
theorem Ee (G:GT)(K:KT)(L:Nat)(o:HP) :Zo G 29 o.length K Qt L RV (ZH Qt Xv o) (ZH Qt Xv o) []=fun e q g=>Ja G K L o  q g:=by kernel_rfl
def XA (G:GT)(K:KT)(L:Nat)(o:HP)(k0:HP→Eff→KR):Nat→AV→AV→AV→AV→HP→Eff→KR
  | 0,_,_,_,_,_,_=>none
  | m + 1,x2,x16,x17,x18,q,g=>Za (Zb .lss .prim x18 x17) fun v13=>ifK v13 (Za (Yy (.slice 4) x16 x18) fun v14=>Za (Zp q 4 v14) fun v15=>Vb (q ++ [.cells [(.int .i64 0),(.str []),(.int .i64 0),(.own 4 [])] Yu]) fun h16=>JJ (stV o.length 4 (.ptr (q).length 0) v15 h16 g) fun h17 f18=>Za (Zp h17 1 x2) fun v19=>Za (Zp h17 4 (.ptr (q).length 0)) fun v20=>ZZ (K Vs [v19,v20] h17) fun v21 h22 f23=>Za (Zb .neq .prim (AV.ro v21) (.int .i64 0)) fun v24=>ifK v24 (some (Zq false o v21 h22 (Zd o.length f18 f23))) (Za (Zb .add .prim x18 (.int .i64 1)) fun v25=>XA G K L o k0 m x2 x16 x17 v25 h22 (Zd o.length f18 f23))) (k0  q g)
theorem Eg (G:GT)(K:KT)(L:Nat)(o:HP)(k0:HP→Eff→KR) :∀ m,X4 (fun n'=>Zo G 29 o.length K Qt L LZ n' (ZH Qt Xv o) [(0,(fun e q g=>k0 q g))]) m=fun e q g=>XA G K L o k0 m (e 2).rd (e 16).rd (e 17).rd (e 18).rd q g:=lpI rfl fun _=>by kernel_rfl
theorem Ef (G:GT)(K:KT)(L:Nat)(o:HP)(k0:HP→Eff→KR)(zn:Jb):Zo G 29 o.length K Qt L RX zn (ZH Qt Xv o) [(0,(fun e q g=>k0 q g))]=fun e q g=>XA G K L o k0 L (e 2).rd (e 16).rd (e 17).rd (e 18).rd q g:=Eg G K L o k0 L
def Li (G:GT)(K:KT)(L:Nat)(x0 x1:AV)(o:HP):KR :=
  Za (JL 1 (AV.ro x0)) fun v1=>Vb (o ++ [.cells v1 Hy]) fun h0=>Za (JL 4 (AV.ro x1)) fun v3=>Vb (h0 ++ [.cells v3 Yu]) fun h2=>Za (Zp h2 1 (.ptr (o).length 0)) fun v4=>Za (Zp h2 4 (.ptr (h0).length 0)) fun v5=>ZZ (K LQ [v4,v5] h2) fun v6 h7 f8=>Za (Zb .neq .prim (AV.ro v6) (.int .i64 0)) fun v9=>ifK v9 (some (Zq false o v6 h7 (Zd o.length none f8))) (Za (Zg 3 (.ptr (h0).length 0)) fun v10=>Za (Ze h7 v10) fun v11=>Za (Z9 h7 .slice v11) fun v12=>XA G K L o (Ja G K L o) L (.ptr (o).length 0) v11 v12 (.int .i64 0) h7 (Zd o.length none f8))
theorem CE (G:GT)(K:KT)(L:Nat)(x0 x1:AV)(o:HP):fnK G K Qt L Xv [x0,x1] o=Li G K L x0 x1 o:=by
 show Zo G 29 o.length K Qt L Le (ZH Qt Xv o) (ZH Qt Xv o) [] (Md [x0,x1]) o none=_
 simp only [Le,Z7,Zl,Zm,Zv]
 rw [Ee G K L o ,Ef G K L o (Ja G K L o) _]
 kernel_rfl
theorem Zak {C:Cfg}{x0 x1:AV}:RunT C Vs Xv [x0,x1] (fun K=>Li C.G K C.L x0 x1):=runT rfl fun _ _=>CE ..
def ZeJ (G:GT)(K:KT)(L:Nat)(x0:AV)(o:HP):KR :=
  Za (Zb .lss .prim (AV.ro x0) (.int .i64 1)) fun v0=>Qn v0 false (Za (Zb .gtr .prim (AV.ro x0) (.int .i64 26)) fun v1=>some (v1,o,none)) (some (.bool true)) o none fun v2 h3 f4=>ifK (AV.ro v2) (some (Zq false o (.int .i64 (-1)) h3 f4)) (Za (Zb .geq .prim (AV.ro x0) (.int .i64 5)) fun v5=>Qn v5 true (Za (Zb .leq .prim (AV.ro x0) (.int .i64 8)) fun v6=>some (v6,h3,f4)) (some (.bool false)) h3 f4 fun v7 h8 f9=>ifK (AV.ro v7) (some (Zq false o (.int .i64 1) h8 f9)) (Za (Zb .geq .prim (AV.ro x0) (.int .i64 9)) fun v10=>Qn v10 true (Za (Zb .leq .prim (AV.ro x0) (.int .i64 21)) fun v11=>some (v11,h8,f9)) (some (.bool false)) h8 f9 fun v12 h13 f14=>ifK (AV.ro v12) (some (Zq false o (.int .i64 2) h13 f14)) (some (Zq false o (.int .i64 0) h13 f14))))
theorem ZnM (G:GT)(K:KT)(L:Nat)(x0:AV)(o:HP):fnK G K ZuS L ZdO [x0] o=ZeJ G K L x0 o:=by kernel_rfl
theorem Zrp {C:Cfg}{x0:AV}:RunT C ZdD ZdO [x0] (fun K=>ZeJ C.G K C.L x0):=runT rfl fun _ _=>ZnM ..
def Zbw (G:GT)(K:KT)(L:Nat)(x0:AV)(o:HP):KR :=
  Za (Zb .geq .prim (AV.ro x0) (.int .i64 22)) fun v0=>Qn v0 true (Za (Zb .leq .prim (AV.ro x0) (.int .i64 24)) fun v1=>some (v1,o,none)) (some (.bool false)) o none fun v2 h3 f4=>some (Zq false o v2 h3 f4)
theorem ZlG (G:GT)(K:KT)(L:Nat)(x0:AV)(o:HP):fnK G K Zte L Zas [x0] o=Zbw G K L x0 o:=by kernel_rfl
theorem ZoT {C:Cfg}{x0:AV}:RunT C NH Zas [x0] (fun K=>Zbw C.G K C.L x0):=runT rfl fun _ _=>ZlG ..
def ZhZ (G:GT)(K:KT)(L:Nat)(x0:AV)(o:HP):KR :=
  Za (Zb .eql .prim (AV.ro x0) (.int .i64 25)) fun v0=>ifK v0 (some (Zq false o (.int .i64 15) o none)) (Za (Zb .eql .prim (AV.ro x0) (.int .i64 26)) fun v1=>ifK v1 (some (Zq false o (.int .i64 31) o none)) (some (Zq false o (.int .i64 63) o none)))
theorem Zqt (G:GT)(K:KT)(L:Nat)(x0:AV)(o:HP):fnK G K ZwG L Zhj [x0] o=ZhZ G K L x0 o:=by kernel_rfl
theorem Ztm {C:Cfg}{x0:AV}:RunT C Zhf Zhj [x0] (fun K=>ZhZ C.G K C.L x0):=runT rfl fun _ _=>Zqt ..
def Rh (G:GT)(K:KT)(L:Nat)(x0 x1:AV)(o:HP):KR :=
  Za (JL 1 (AV.ro x0)) fun v1=>Vb (o ++ [.cells v1 Hy]) fun h0=>Za (JL 4 (AV.ro x1)) fun v3=>Vb (h0 ++ [.cells v3 Yu]) fun h2=>Za (Zp h2 1 (.ptr (o).length 0)) fun v4=>Za (Zg 0 (.ptr (h0).length 0)) fun v5=>Za (Ze h2 v5) fun v6=>ZZ (ZG K MS [v4,v6] h2) fun v7 h8 f9=>Za (X8 .not (AV.ro v7)) fun v10=>Qn v10 false (Za (Zg 3 (.ptr (h0).length 0)) fun v11=>Za (Ze h8 v11) fun v12=>Za (Z9 h8 .slice v12) fun v13=>Za (Zg 0 (.ptr (h0).length 0)) fun v14=>Za (Ze h8 v14) fun v15=>ZZ (ZG K Pw [v15] h8) fun v16 h17 f18=>Za (Zb .neq .prim v13 (AV.ro v16)) fun v19=>some (v19,h17,(Zd o.length (Zd o.length none f9) f18))) (some (.bool true)) h8 (Zd o.length none f9) fun v20 h21 f22=>Qn (AV.ro v20) false (Za (Zg 1 (.ptr (h0).length 0)) fun v23=>Za (Ze h21 v23) fun v24=>Za (Zb .neq .prim v24 (.str [])) fun v25=>Qn v25 true (Za (Zp h21 1 (.ptr (o).length 0)) fun v26=>Za (Zg 0 (.ptr (h0).length 0)) fun v27=>Za (Ze h21 v27) fun v28=>ZZ (ZG K Hz [v26,v28] h21) fun v29 h30 f31=>Za (X8 .not (AV.ro v29)) fun v32=>some (v32,h30,(Zd o.length f22 f31))) (some (.bool false)) h21 f22 fun v33 h34 f35=>some ((AV.ro v33),h34,f35)) (some (.bool true)) h21 f22 fun v36 h37 f38=>ifK (AV.ro v36) (some (Zq false o (.int .i64 1) h37 f38)) (Za (Zg 0 (.ptr (h0).length 0)) fun v39=>Za (Ze h37 v39) fun v40=>Za (Zb .eql .prim v40 (.int .i64 1)) fun v41=>ifK v41 (Za (Zg 2 (.ptr (h0).length 0)) fun v42=>Za (Ze h37 v42) fun v43=>ZZ (K ZbX [v43] h37) fun v44 h45 f46=>Za (X8 .not (AV.ro v44)) fun v47=>ifK v47 (some (Zq false o (.int .i64 2) h45 (Zd o.length f38 f46))) (some (Zq false o (.int .i64 0) h45 (Zd o.length f38 f46)))) (Za (Zp h37 1 (.ptr (o).length 0)) fun v48=>Za (Zg 0 (.ptr (h0).length 0)) fun v49=>Za (Ze h37 v49) fun v50=>ZZ (K O9 [v48,v50] h37) fun v51 h52 f53=>Za (JO (AV.ro v51) 0) fun v54=>Za (JO (AV.ro v51) 1) fun v55=>Za (JO (AV.ro v51) 2) fun v56=>Za (X8 .not v56) fun v57=>Qn v57 true (Za (Zg 2 (.ptr (h0).length 0)) fun v58=>Za (Ze h52 v58) fun v59=>Za (Zb .neq .prim v59 (.int .i64 0)) fun v60=>some (v60,h52,(Zd o.length f38 f53))) (some (.bool false)) h52 (Zd o.length f38 f53) fun v61 h62 f63=>ifK (AV.ro v61) (some (Zq false o (.int .i64 1) h62 f63)) (Qn v56 true (Za (Zg 2 (.ptr (h0).length 0)) fun v64=>Za (Ze h62 v64) fun v65=>Za (Zb .lss .prim v65 v54) fun v66=>Qn v66 false (Za (Zg 2 (.ptr (h0).length 0)) fun v67=>Za (Ze h62 v67) fun v68=>Za (Zb .gtr .prim v68 v55) fun v69=>some (v69,h62,f63)) (some (.bool true)) h62 f63 fun v70 h71 f72=>some ((AV.ro v70),h71,f72)) (some (.bool false)) h62 f63 fun v73 h74 f75=>ifK (AV.ro v73) (some (Zq false o (.int .i64 2) h74 f75)) (Za (Zp h74 1 (.ptr (o).length 0)) fun v76=>Za (Zg 0 (.ptr (h0).length 0)) fun v77=>Za (Ze h74 v77) fun v78=>ZZ (K Hz [v76,v78] h74) fun v79 h80 f81=>ifK (AV.ro v79) (Za (Zg 1 (.ptr (h0).length 0)) fun v82=>Za (Ze h80 v82) fun v83=>ZZ (K Kv [v83] h80) fun v84 h85 f86=>some (Zq false o v84 h85 (Zd o.length (Zd o.length f75 f81) f86))) (some (Zq false o (.int .i64 0) h80 (Zd o.length f75 f81)))))))
theorem Zbh (G:GT)(K:KT)(L:Nat)(x0 x1:AV)(o:HP):fnK G K ZgV L LX [x0,x1] o=Rh G K L x0 x1 o:=by kernel_rfl
theorem Zcl {C:Cfg}{x0 x1:AV}:RunT C LQ LX [x0,x1] (fun K=>Rh C.G K C.L x0 x1):=runT rfl fun _ _=>Zbh ..
def Lg (G:GT)(K:KT)(L:Nat)(x0 x1:AV)(o:HP):KR :=
  Za (JL 1 (AV.ro x0)) fun v1=>Vb (o ++ [.cells v1 Hy]) fun h0=>Za (Zb .eql .prim (AV.ro x1) (.int .i64 3)) fun v2=>ifK v2 (Za (Zg 0 (.ptr (o).length 0)) fun v3=>Za (Ze h0 v3) fun v4=>Za (X8 .not v4) fun v5=>some (Zq false o v5 h0 none)) (Za (Zb .eql .prim (AV.ro x1) (.int .i64 25)) fun v6=>ifK v6 (ifK v6 (Za (Zg 0 (.ptr (o).length 0)) fun v7=>Za (Ze h0 v7) fun v8=>some (Zq false o v8 h0 none)) (ZZ (K Pw [(AV.ro x1)] h0) fun v9 h10 f11=>Za (Zb .geq .prim (AV.ro v9) (.int .i64 0)) fun v12=>some (Zq false o v12 h10 (Zd o.length none f11)))) (Za (Zb .eql .prim (AV.ro x1) (.int .i64 26)) fun v13=>ifK v13 (Za (Zg 0 (.ptr (o).length 0)) fun v14=>Za (Ze h0 v14) fun v15=>some (Zq false o v15 h0 none)) (ZZ (K Pw [(AV.ro x1)] h0) fun v16 h17 f18=>Za (Zb .geq .prim (AV.ro v16) (.int .i64 0)) fun v19=>some (Zq false o v19 h17 (Zd o.length none f18)))))
theorem C9 (G:GT)(K:KT)(L:Nat)(x0 x1:AV)(o:HP):fnK G K Zfr L Lb [x0,x1] o=Lg G K L x0 x1 o:=by kernel_rfl
theorem Zai {C:Cfg}{x0 x1:AV}:RunT C MS Lb [x0,x1] (fun K=>Lg C.G K C.L x0 x1):=runT rfl fun _ _=>C9 ..
def Zev (G:GT)(K:KT)(L:Nat)(x0:AV)(o:HP):KR :=
  Za (Zb .eql .prim (AV.ro x0) (.int .i64 1)) fun v0=>Qn v0 false (Za (Zb .eql .prim (AV.ro x0) (.int .i64 2)) fun v1=>some (v1,o,none)) (some (.bool true)) o none fun v2 h3 f4=>Qn (AV.ro v2) false (Za (Zb .eql .prim (AV.ro x0) (.int .i64 3)) fun v5=>some (v5,h3,f4)) (some (.bool true)) h3 f4 fun v6 h7 f8=>Qn (AV.ro v6) false (Za (Zb .eql .prim (AV.ro x0) (.int .i64 4)) fun v9=>some (v9,h7,f8)) (some (.bool true)) h7 f8 fun v10 h11 f12=>ifK (AV.ro v10) (some (Zq false o (.int .i64 0) h11 f12)) (Za (Zb .geq .prim (AV.ro x0) (.int .i64 5)) fun v13=>Qn v13 true (Za (Zb .leq .prim (AV.ro x0) (.int .i64 8)) fun v14=>some (v14,h11,f12)) (some (.bool false)) h11 f12 fun v15 h16 f17=>ifK (AV.ro v15) (some (Zq false o (.int .i64 1) h16 f17)) (Za (Zb .geq .prim (AV.ro x0) (.int .i64 9)) fun v18=>Qn v18 true (Za (Zb .leq .prim (AV.ro x0) (.int .i64 21)) fun v19=>some (v19,h16,f17)) (some (.bool false)) h16 f17 fun v20 h21 f22=>ifK (AV.ro v20) (some (Zq false o (.int .i64 2) h21 f22)) (Za (Zb .geq .prim (AV.ro x0) (.int .i64 22)) fun v23=>Qn v23 true (Za (Zb .leq .prim (AV.ro x0) (.int .i64 26)) fun v24=>some (v24,h21,f22)) (some (.bool false)) h21 f22 fun v25 h26 f27=>ifK (AV.ro v25) (some (Zq false o (.int .i64 0) h26 f27)) (some (Zq false o (.int .i64 (-1)) h26 f27)))))
theorem ZnI (G:GT)(K:KT)(L:Nat)(x0:AV)(o:HP):fnK G K ZuQ L ZdM [x0] o=Zev G K L x0 o:=by kernel_rfl
theorem ZqM {C:Cfg}{x0:AV}:RunT C Pw ZdM [x0] (fun K=>Zev C.G K C.L x0):=runT rfl fun _ _=>ZnI ..
def Lh (G:GT)(K:KT)(L:Nat)(x0 x1:AV)(o:HP):KR :=
  Za (JL 1 (AV.ro x0)) fun v1=>Vb (o ++ [.cells v1 Hy]) fun h0=>Za (Zb .eql .prim (AV.ro x1) (.int .i64 3)) fun v2=>Qn v2 false (ZZ (K DR [(AV.ro x1)] h0) fun v3 h4 f5=>Qn (AV.ro v3) true (Za (Zg 0 (.ptr (o).length 0)) fun v6=>Za (Ze h4 v6) fun v7=>Za (X8 .not v7) fun v8=>some (v8,h4,(Zd o.length none f5))) (some (.bool false)) h4 (Zd o.length none f5) fun v9 h10 f11=>some ((AV.ro v9),h10,f11)) (some (.bool true)) h0 none fun v12 h13 f14=>some (Zq false o v12 h13 f14)
theorem CB (G:GT)(K:KT)(L:Nat)(x0 x1:AV)(o:HP):fnK G K Zfs L Lc [x0,x1] o=Lh G K L x0 x1 o:=by kernel_rfl
theorem Zaj {C:Cfg}{x0 x1:AV}:RunT C Hz Lc [x0,x1] (fun K=>Lh C.G K C.L x0 x1):=runT rfl fun _ _=>CB ..
def OU (G:GT)(K:KT)(L:Nat)(x0 x1:AV)(o:HP):KR :=
  Za (JL 1 (AV.ro x0)) fun v1=>Vb (o ++ [.cells v1 Hy]) fun h0=>Za (Zb .eql .prim (AV.ro x1) (.int .i64 2)) fun v2=>ifK v2 (some (Zq false o (.tup [(AV.nm (.int .i64 0)),(AV.nm (.int .i64 1)),(AV.nm (.bool true))]) h0 none)) (Za (Zb .eql .prim (AV.ro x1) (.int .i64 25)) fun v3=>ifK v3 (some (Zq false o (.tup [(AV.nm (.int .i64 0)),(AV.nm (.int .i64 15)),(AV.nm (.bool true))]) h0 none)) (Za (Zb .eql .prim (AV.ro x1) (.int .i64 26)) fun v4=>ifK v4 (some (Zq false o (.tup [(AV.nm (.int .i64 0)),(AV.nm (.int .i64 31)),(AV.nm (.bool true))]) h0 none)) (ZZ (K DR [(AV.ro x1)] h0) fun v5 h6 f7=>Qn (AV.ro v5) true (Za (Zg 0 (.ptr (o).length 0)) fun v8=>Za (Ze h6 v8) fun v9=>some (v9,h6,(Zd o.length none f7))) (some (.bool false)) h6 (Zd o.length none f7) fun v10 h11 f12=>ifK (AV.ro v10) (some (Zq false o (.tup [(AV.nm (.int .i64 0)),(AV.nm (.int .i64 63)),(AV.nm (.bool true))]) h11 f12)) (some (Zq false o (.tup [(AV.nm (.int .i64 0)),(AV.nm (.int .i64 0)),(AV.nm (.bool false))]) h11 f12)))))
theorem EU (G:GT)(K:KT)(L:Nat)(x0 x1:AV)(o:HP):fnK G K ZbO L OI [x0,x1] o=OU G K L x0 x1 o:=by kernel_rfl
theorem AB {C:Cfg}{x0 x1:AV}:RunT C O9 OI [x0,x1] (fun K=>OU C.G K C.L x0 x1):=runT rfl fun _ _=>EU ..
def Fv (G:GT)(K:KT)(L:Nat)(x0:AV)(o:HP):KR :=
  Za (Zb .geq .prim (AV.ro x0) (.int .i64 22)) fun v0=>Qn v0 true (Za (Zb .leq .prim (AV.ro x0) (.int .i64 24)) fun v1=>some (v1,o,none)) (some (.bool false)) o none fun v2 h3 f4=>some (Zq false o v2 h3 f4)
theorem ZjL (G:GT)(K:KT)(L:Nat)(x0:AV)(o:HP):fnK G K Zre L AJ [x0] o=Fv G K L x0 o:=by kernel_rfl
theorem Zmq {C:Cfg}{x0:AV}:RunT C DR AJ [x0] (fun K=>Fv C.G K C.L x0):=runT rfl fun _ _=>ZjL ..
end Go.Proofs.YtlmfmmclnboglaaGreat
end
