import Derived.Test.YtleomfgijkapfaaGreatDoorR3
set_option linter.all false
section
namespace Go.Proofs.YtleomfgijkapfaaGreatDoor
open Go Go.Proofs.YtleomfgijkapfaaGreatDoor.Abs
set_option maxRecDepth 100000
set_option maxHeartbeats 0
def ldF (hp:HP)(k:Nat)(x:AV)(c:AV→KR):KR:=Zf (KQ k x) fun v=>Zf (QO hp v) c
def Yn (o:HP)(v:AV)(q:HP)(g:Eff):KR:=some (QK false o v q g)
theorem Zo8 (o:HP)(v:AV)(q:HP)(g:Eff):Yn o v q g=some (QK false o v q g):=rfl
@[congr] theorem ZyV {hp:HP}{k:Nat}{x x':AV}{c:AV→KR}(h:x=x'):ldF hp k x c=ldF hp k x' c:=by rw [h]
theorem ZsE (hp:HP)(k:Nat)(x:AV)(c:AV→KR):ldF hp k x c=Zf (KQ k x) fun v=>Zf (QO hp v) c:=rfl
def EVQ:=And.intro Zo8 <| And.intro ZsE <| And.intro @Zwy <| And.intro @Zww <| And.intro @Zwx <| And.intro @ZyM <| And.intro @Zqp <| And.intro @Zqo <| And.intro @ZmR <| And.intro @ZmQ <| And.intro @Ztj <| And.intro @Zti <| And.intro @ZyL <| And.intro @Zhf <| And.intro @Zw5 <| And.intro @Zq3 <| And.intro @Zq4 <| And.intro @Zs8 <| And.intro @Zwd <| And.intro @Zwf <| And.intro @Zwc <| And.intro @Zwe <| And.intro @Zwb <| And.intro @Zwk <| And.intro @ZtF <| And.intro @Zw6 <| And.intro @ZwC <| And.intro @Zw7 <| And.intro @Zw9 <| And.intro @Zw4 <| And.intro @ZwD <| And.intro @ZwA <| And.intro @Zw8 <| And.intro @ZwB <| And.intro @Zz1 <| And.intro @ZqB <| And.intro @ZsP <| And.intro @Zwm <| And.intro @Zwr <| And.intro @Zwn <| And.intro @Zwp <| And.intro @Du <| And.intro @Zwq <| And.intro @Zwo <| And.intro @Zzd <| And.intro @Zy3 <| And.intro @ZyA <| And.intro @Zy6 <| And.intro @Z02 <| And.intro @Z07 <| And.intro @Z06 <| And.intro @Z05 <| And.intro @Z04 <| And.intro @Z03 <| And.intro @Z0C <| And.intro @Z0D <| And.intro @Zzu <| And.intro @Zzw <| And.intro @Zw0 <| And.intro @Zzv <| And.intro @Z0B <| And.intro @Zy5 <| And.intro @Zy8 <| And.intro @Zy4 <| And.intro @Zy7 <| And.intro @Option.map_some.{0,0} <| And.intro @ZzI <| And.intro @ZzH <| And.intro @ZyT <| And.intro @ZyS <| And.intro @ZyE <| And.intro @ZzN <| And.intro @Zj2 <| And.intro @Zqh <| And.intro @Zsz <| And.intro @Zs2 <| And.intro @Zs0 <| And.intro @Zs1 <| And.intro @Zo9 <| And.intro @Zql <| And.intro @Zqn <| And.intro @ZmN <| And.intro @Zqm <| And.intro @Zsx <| And.intro @Zsw <| @ZsH
def BLQ:=And.intro @Bool.not_true <| And.intro @Bool.not_false <| And.intro @Bool.and_true <| And.intro @Bool.true_and <| And.intro @Bool.and_false <| And.intro @Bool.false_and <| And.intro @Bool.or_true <| And.intro @Bool.true_or <| And.intro @Bool.or_false <| And.intro @Bool.false_or <| And.intro @Bool.and_self <| And.intro @Bool.or_self <| And.intro @Bool.false_eq_true <| And.intro @Bool.true_eq_false <| And.intro @decide_true <| And.intro @decide_false <| And.intro @not_true_eq_false <| @not_false_eq_true
theorem lpI {f:Ig→Ig}{D:Nat→Ig}(h0:(fun _ _ _=>none)=D 0)(hs:∀ m,f (D m)=D (m + 1)):∀ m,ZkY f m=D m
  | 0=>h0
  | m + 1=>by
    show f (ZkY f m)=_
    rw [lpI h0 hs m]; exact hs m
theorem lpJ {f:Ig→Ig} (D:Nat→Ig) (h0:(fun _ _ _=>none)=D 0) (hs:∀ m,f (D m)=D (m + 1)) (L:Nat):ZkY f L=D L:=lpI h0 hs L
def RunT (C:Cfg) (f:FuncId) (a:AFn) (l:List AV) (D:KT→HP→KR):Prop:=C.T f=some a→∀ {n:Nat} {hp:HP} {r:AV×HP×Eff},D (Zb C n) hp=some r→Zb C (n + 1) f l hp=some r
theorem runT {C:Cfg} {f:FuncId} {a:AFn} {l:List AV} {D:KT→HP→KR} {P:List Nat} (hl:Nat.ble l.length a.ntmps=true) (he:∀ K hp,fnK C.G K P C.L a l hp=D K hp):RunT C f a l D:=fun h _ _ _ hr=>Zs3 h (Nat.le_of_ble_eq_true hl) ((he ..).trans hr)
variable (G:GT)(K:KT)(L:Nat)(o:HP)
def Iu (G:GT)(K:KT)(L:Nat)(x0 x1 x2:AV)(o:HP):KR :=
  Zf (Ug 3 (AV.ro x0)) fun v1=>Jt (o ++ [.cells v1 Zy]) fun h0=>Zf (Ug 4 (AV.ro x2)) fun v3=>Jt (h0 ++ [.cells v3 Yp]) fun h2=>Zf (Zx h2 3 (.ptr (o).length 0)) fun v4=>WC (K CP [v4] h2) fun v5 h6 f7=>Zf (Qg .not (AV.ro v5)) fun v8=>Wx v8 false (Zf (Zx h6 4 (.ptr (h0).length 0)) fun v9=>WC (K Rh [v9] h6) fun v10 h11 f12=>Zf (Qg .not (AV.ro v10)) fun v13=>some (v13,h11,(Zm o.length (Zm o.length none f7) f12))) (some (.bool true)) h6 (Zm o.length none f7) fun v14 h15 f16=>ifK (AV.ro v14) (WC (K J5 [] h15) fun v17 h18 f19=>some (QK false o v17 h18 (Zm o.length f16 f19))) (Zf (Zx h15 3 (.ptr (o).length 0)) fun v20=>Zf (Zx h15 4 (.ptr (h0).length 0)) fun v21=>WC (Wl K Dw [v20,(AV.ro x1),v21] h15) fun v22 h23 f24=>Zf (Zx h23 3 (.ptr (o).length 0)) fun v25=>Zf (Zx h23 4 (.ptr (h0).length 0)) fun v26=>WC (Wl K PN [v25,(AV.ro x1),v26] h23) fun v27 h28 f29=>Zf (Za .eql .prim (AV.ro v22) (AV.ro v27)) fun v30=>Wx v30 true (WC (Wl K J5 [] h28) fun v31 h32 f33=>some ((AV.ro v31),h32,(Zm o.length (Zm o.length (Zm o.length f16 f24) f29) f33))) (some (.bool false)) h28 (Zm o.length (Zm o.length f16 f24) f29) fun v34 h35 f36=>some (QK false o (AV.ro v34) h35 f36))
theorem SA {C:Cfg}{x0 x1 x2:AV}:RunT C Ii LX [x0,x1,x2] (fun K=>Iu C.G K C.L x0 x1 x2):=runT (P := AU) rfl fun _ _=>by kernel_rfl
def JU (G:GT)(K:KT)(L:Nat)(o:HP)(x1:AV)(q:HP)(g:Eff):KR :=
  ldF q 1 x1 fun v3=>Zf (ZQ q .slice v3) fun v4=>Zf (Za .leq .prim v4 (.int .i64 20)) fun v5=>Wx v5 true (ldF q 2 x1 fun v7=>Zf (ZQ q .slice v7) fun v8=>Zf (Za .leq .prim v8 (.int .i64 40)) fun v9=>some (v9,q,g)) (some (.bool false)) q g fun v10 h11 f12=>some (QK false o v10 h11 f12)
theorem ZcQ :Yu G 111 o.length K Wu L Fp (Wn Wu X0 o) (Wn Wu X0 o) []=fun e q g=>JU G K L o (e 1).rd q g:=by kernel_rfl
def Y3 (G:GT)(K:KT)(L:Nat)(o:HP)(kn:AV→AV→HP→Eff→KR)(x1:AV)(x3:AV)(q:HP)(g:Eff):KR :=
  Zf (Za .add .prim x3 (.int .i64 1)) fun v17=>kn x1 v17 q g
theorem ZcP (kn:AV→AV→HP→Eff→KR)(z0:Ig):Yu G 111 o.length K Wu L Fj (fun e q g=>kn (e 1).rd (e 3).rd q g) (Wn Wu X0 o) [(0,z0)]=fun e q g=>Y3 G K L o kn (e 1).rd (e 3).rd q g:=by kernel_rfl
def QV (G:GT)(K:KT)(L:Nat)(o:HP)(k4:AV→AV→HP→Eff→KR):Nat→AV→AV→AV→AV→HP→Eff→KR
  | 0,_,_,_,_,_,_=>none
  | m + 1,x1,x3,x4,x6,q,g=>ldF q 10 x4 fun v72=>Zf (ZQ q .slice v72) fun v73=>Zf (Za .lss .prim x6 v73) fun v74=>ifK v74 (ldF q 10 x4 fun v76=>Zf (YN (.slice 4) v76 x6) fun v77=>ldF q 3 v77 fun v79=>WC (K Jd [v79] q) fun v80 h0 f82=>Zf (Za .gtr .prim (AV.ro v80) (.int .i64 40)) fun v83=>ifK v83 (Yn o (.bool false) h0 (Zm o.length g f82)) (Zf (Za .add .prim x6 (.int .i64 1)) fun v84=>QV G K L o k4 m x1 x3 x4 v84 h0 (Zm o.length g f82))) (k4 x1 x3 q g)
theorem ZcU (k4:AV→AV→HP→Eff→KR)(z1 z0:Ig)(zn:Ig):Yu G 111 o.length K Wu L Fz zn (Wn Wu X0 o) [(4,(fun e q g=>k4 (e 1).rd (e 3).rd q g)),(1,z1),(0,z0)]=fun e q g=>QV G K L o k4 L (e 1).rd (e 3).rd (e 4).rd (e 6).rd q g:=lpJ (fun m e q g=>QV G K L o k4 m (e 1).rd (e 3).rd (e 4).rd (e 6).rd q g) rfl (fun _=>by kernel_rfl) L
def YL (G:GT)(K:KT)(L:Nat)(o:HP)(kn:AV→AV→HP→Eff→KR)(x1:AV)(x3:AV)(x4:AV)(q:HP)(g:Eff):KR :=
  QV G K L o kn L x1 x3 x4 (.int .i64 0) q g
theorem ZcO (kn:AV→AV→HP→Eff→KR)(z1 z0:Ig):Yu G 111 o.length K Wu L D6 (fun e q g=>kn (e 1).rd (e 3).rd q g) (Wn Wu X0 o) [(1,z1),(0,z0)]=fun e q g=>YL G K L o kn (e 1).rd (e 3).rd (e 4).rd q g:=by
 simp only [D6,Y4,ZY,ZZ,Yi]
 rw [ZcU G K L o kn _ _ _]
 kernel_rfl
def QU (G:GT)(K:KT)(L:Nat)(o:HP)(k2:AV→AV→AV→HP→Eff→KR):Nat→AV→AV→AV→AV→HP→Eff→KR
  | 0,_,_,_,_,_,_=>none
  | m + 1,x1,x3,x4,x5,q,g=>ldF q 1 x1 fun v86=>Zf (YN (.slice 14) v86 x3) fun v87=>ldF q 13 v87 fun v89=>Zf (ZQ q .slice v89) fun v0=>Zf (Za .lss .prim x5 v0) fun v91=>ifK v91 (ldF q 1 x1 fun v93=>Zf (YN (.slice 14) v93 x3) fun v6=>ldF q 13 v6 fun v7=>Zf (YN (.slice 4) v7 x5) fun v8=>Zf (Zx q 4 v8) fun v9=>WC (K Rh [v9] q) fun v10 h11 f101=>Zf (Qg .not (AV.ro v10)) fun v12=>ifK v12 (Yn o (.bool false) h11 (Zm o.length g f101)) (Zf (Za .add .prim x5 (.int .i64 1)) fun v13=>QU G K L o k2 m x1 x3 x4 v13 h11 (Zm o.length g f101))) (k2 x1 x3 x4 q g)
theorem ZcT (k2:AV→AV→AV→HP→Eff→KR)(z1 z0:Ig)(zn:Ig):Yu G 111 o.length K Wu L Fv zn (Wn Wu X0 o) [(2,(fun e q g=>k2 (e 1).rd (e 3).rd (e 4).rd q g)),(1,z1),(0,z0)]=fun e q g=>QU G K L o k2 L (e 1).rd (e 3).rd (e 4).rd (e 5).rd q g:=lpJ (fun m e q g=>QU G K L o k2 m (e 1).rd (e 3).rd (e 4).rd (e 5).rd q g) rfl (fun _=>by kernel_rfl) L
def Y9 (G:GT)(K:KT)(L:Nat)(o:HP)(k0:AV→HP→Eff→KR):Nat→AV→AV→HP→Eff→KR
  | 0,_,_,_,_=>none
  | m + 1,x1,x3,q,g=>ldF q 1 x1 fun v14=>Zf (ZQ q .slice v14) fun v15=>Zf (Za .lss .prim x3 v15) fun v16=>ifK v16 (ldF q 1 x1 fun v19=>Zf (YN (.slice 14) v19 x3) fun v20=>Zf (KQ 0 v20) fun v21=>Zf (Zx q 13 v21) fun v22=>Jt (q ++ [.cells [(.str []),(.own 3 []),(.own 17 []),(.own 3 []),(.own 3 []),(.own 1 []),(.own 1 []),(.own 1 []),(.own 1 []),(.own 1 []),(.own 4 []),(.own 5 []),(.own 3 [])] Yz]) fun h23=>DT (stV o.length 13 (.ptr (q).length 0) v22 h23 g) fun h24 f25=>ldF h24 1 x1 fun v27=>Zf (YN (.slice 14) v27 x3) fun v28=>ldF h24 13 v28 fun v30=>Zf (ZQ h24 .slice v30) fun v31=>Zf (Za .gtr .prim v31 (.int .i64 6)) fun v32=>Wx v32 false (ldF h24 10 (.ptr (q).length 0) fun v34=>Zf (ZQ h24 .slice v34) fun v35=>Zf (Za .gtr .prim v35 (.int .i64 6)) fun v36=>some (v36,h24,f25)) (some (.bool true)) h24 f25 fun v37 h38 f39=>Wx (AV.ro v37) false (ldF h38 1 (.ptr (q).length 0) fun v41=>Zf (ZQ h38 .slice v41) fun v42=>ldF h38 2 (.ptr (q).length 0) fun v44=>Zf (ZQ h38 .slice v44) fun v45=>Zf (Za .add .prim v42 v45) fun v46=>ldF h38 3 (.ptr (q).length 0) fun v48=>Zf (ZQ h38 .slice v48) fun v49=>Zf (Za .add .prim v46 v49) fun v50=>ldF h38 5 (.ptr (q).length 0) fun v52=>Zf (ZQ h38 .slice v52) fun v53=>Zf (Za .add .prim v50 v53) fun v54=>ldF h38 6 (.ptr (q).length 0) fun v56=>Zf (ZQ h38 .slice v56) fun v57=>Zf (Za .add .prim v54 v57) fun v58=>ldF h38 11 (.ptr (q).length 0) fun v60=>Zf (ZQ h38 .slice v60) fun v61=>Zf (Za .add .prim v58 v61) fun v62=>ldF h38 12 (.ptr (q).length 0) fun v64=>Zf (ZQ h38 .slice v64) fun v65=>Zf (Za .add .prim v62 v65) fun v66=>Zf (Za .gtr .prim v66 (.int .i64 60)) fun v67=>some (v67,h38,f39)) (some (.bool true)) h38 f39 fun v68 h4 f70=>ifK (AV.ro v68) (Yn o (.bool false) h4 f70) (QU G K L o (YL G K L o (Y3 G K L o (Y9 G K L o k0 m))) L x1 x3 (.ptr (q).length 0) (.int .i64 0) h4 f70)) (k0 x1 q g)
theorem ZcS (k0:AV→HP→Eff→KR) :∀ m,ZkY (fun n'=>Yu G 111 o.length K Wu L OW n' (Wn Wu X0 o) [(0,(fun e q g=>k0 (e 1).rd q g))]) m=fun e q g=>Y9 G K L o k0 m (e 1).rd (e 3).rd q g:=by
 intro m
 induction m with
 | zero=>rfl
 | succ m ih =>
  show Yu G 111 o.length K Wu L OW (ZkY _ m) (Wn Wu X0 o) [(0,(fun e q g=>k0 (e 1).rd q g))]=_
  rw [ih]
  simp only [OW,Y4,ZY,ZZ,Yi]
  rw [ZcP G K L o (Y9 G K L o k0 m) _,ZcO G K L o (Y3 G K L o (Y9 G K L o k0 m)) _ _,ZcT G K L o (YL G K L o (Y3 G K L o (Y9 G K L o k0 m))) _ _ _]
  kernel_rfl
theorem ZcR (k0:AV→HP→Eff→KR)(zn:Ig):Yu G 111 o.length K Wu L Fq zn (Wn Wu X0 o) [(0,(fun e q g=>k0 (e 1).rd q g))]=fun e q g=>Y9 G K L o k0 L (e 1).rd (e 3).rd q g:=ZcS G K L o k0 L
def Nv (G:GT)(K:KT)(L:Nat)(x0:AV)(o:HP):KR :=
  Zf (Ug 3 (AV.ro x0)) fun v1=>Jt (o ++ [.cells v1 Zy]) fun h0=>Y9 G K L o (JU G K L o) L (.ptr (o).length 0) (.int .i64 0) h0 none
theorem ZiS (x0:AV) :fnK G K Wu L X0 [x0] o=Nv G K L x0 o:=by
 show Yu G 111 o.length K Wu L Zam (Wn Wu X0 o) (Wn Wu X0 o) [] (NE [x0]) o none=_
 simp only [Zam,Y4,ZY,ZZ,Yi]
 rw [ZcQ G K L o ,ZcR G K L o (JU G K L o) _]
 kernel_rfl
theorem ZkW {C:Cfg}{x0:AV}:RunT C CP X0 [x0] (fun K=>Nv C.G K C.L x0):=runT rfl fun _ _=>ZiS ..
def V6 (G:GT)(K:KT)(L:Nat)(o:HP)(x1:AV)(q:HP)(g:Eff):KR :=
  ldF q 3 x1 fun v3=>Zf (ZQ q .slice v3) fun v4=>Zf (Za .leq .prim v4 (.int .i64 60)) fun v5=>some (QK false o v5 q g)
theorem Za6 :Yu G 23 o.length K VO L NI (Wn VO J7 o) (Wn VO J7 o) []=fun e q g=>V6 G K L o (e 1).rd q g:=by kernel_rfl
def WR (G:GT)(K:KT)(L:Nat)(o:HP)(k0:AV→HP→Eff→KR):Nat→AV→AV→HP→Eff→KR
  | 0,_,_,_,_=>none
  | m + 1,x1,x3,q,g=>ldF q 3 x1 fun v7=>Zf (ZQ q .slice v7) fun v8=>Zf (Za .lss .prim x3 v8) fun v9=>ifK v9 (ldF q 3 x1 fun v11=>Zf (YN (.slice 20) v11 x3) fun v12=>ldF q 12 v12 fun v14=>Zf (ZQ q .slice v14) fun v15=>Zf (Za .gtr .prim v15 (.int .i64 10)) fun v16=>ifK v16 (Yn o (.bool false) q g) (Zf (Za .add .prim x3 (.int .i64 1)) fun v17=>WR G K L o k0 m x1 v17 q g)) (k0 x1 q g)
theorem Za7 (k0:AV→HP→Eff→KR)(zn:Ig):Yu G 23 o.length K VO L NJ zn (Wn VO J7 o) [(0,(fun e q g=>k0 (e 1).rd q g))]=fun e q g=>WR G K L o k0 L (e 1).rd (e 3).rd q g:=lpJ (fun m e q g=>WR G K L o k0 m (e 1).rd (e 3).rd q g) rfl (fun _=>by kernel_rfl) L
def Rq (G:GT)(K:KT)(L:Nat)(x0:AV)(o:HP):KR :=
  Zf (Ug 4 (AV.ro x0)) fun v1=>Jt (o ++ [.cells v1 Yp]) fun h0=>WR G K L o (V6 G K L o) L (.ptr (o).length 0) (.int .i64 0) h0 none
theorem Ze8 (x0:AV) :fnK G K VO L J7 [x0] o=Rq G K L x0 o:=by
 show Yu G 23 o.length K VO L PZ (Wn VO J7 o) (Wn VO J7 o) [] (NE [x0]) o none=_
 simp only [PZ,Y4,ZY,ZZ,Yi]
 rw [Za6 G K L o ,Za7 G K L o (V6 G K L o) _]
 kernel_rfl
theorem Zhi {C:Cfg}{x0:AV}:RunT C Rh J7 [x0] (fun K=>Rq C.G K C.L x0):=runT rfl fun _ _=>Ze8 ..
def YR (G:GT)(K:KT)(L:Nat)(o:HP)(x5:AV)(q:HP)(g:Eff):KR :=
  ldF q 3 x5 fun v56=>ldF q 3 x5 fun v58=>Zf (ZQ q .slice v58) fun v59=>Zf (Za .sub .prim v59 (.int .i64 1)) fun v60=>Zf (YN (.slice 20) v56 v60) fun v61=>ldF q 0 v61 fun v63=>Zf (Za .neq .prim v63 (.int .i64 19)) fun v64=>Wx v64 true (Zf (Za .neq .prim v63 (.int .i64 4)) fun v65=>some (v65,q,g)) (some (.bool false)) q g fun v66 h0 f68=>ifK (AV.ro v66) (Yn o (.int .i64 8) h0 f68) (Yn o (.int .i64 0) h0 f68)
theorem AC :Yu G 92 o.length K Vg L Pg (Wn Vg VX o) (Wn Vg VX o) []=fun e q g=>YR G K L o (e 5).rd q g:=by kernel_rfl
def Xj (G:GT)(K:KT)(L:Nat)(o:HP)(k1:AV→HP→Eff→KR):Nat→AV→AV→AV→AV→AV→HP→Eff→KR
  | 0,_,_,_,_,_,_,_=>none
  | m + 1,x5,x8,x0,x4,x66,q,g=>Zf (Za .lss .prim x66 x4) fun v72=>ifK v72 (Zf (YN (.slice 20) x0 x66) fun v73=>Zf (Zx q 20 v73) fun v74=>Jt (q ++ [.cells [(.int .i64 0),(.int .i64 0),(.int .i64 0),(.int .i64 0),(.int .i64 0),(.str []),(.int .i64 0),(.own 4 []),(.int .i64 0),(.str []),(.int .i64 0),(.own 4 []),(.own 4 []),(.int .i64 0),(.int .i64 0),(.int .i64 0),(.int .i64 0),(.own 1 []),(.own 1 []),(.bool false)] Yb]) fun h6=>DT (stV o.length 20 (.ptr (q).length 0) v74 h6 g) fun h7 f77=>Zf (Zx h7 8 x8) fun v78=>Zf (Zx h7 20 (.ptr (q).length 0)) fun v79=>WC (K Ih [v78,v79] h7) fun v80 h9 f82=>Zf (Za .neq .prim (AV.ro v80) (.int .i64 0)) fun v83=>ifK v83 (some (QK false o v80 h9 (Zm o.length f77 f82))) (Zf (Za .add .prim x66 (.int .i64 1)) fun v84=>Xj G K L o k1 m x5 x8 x0 x4 v84 h9 (Zm o.length f77 f82))) (k1 x5 q g)
theorem AL (k1:AV→HP→Eff→KR)(zn:Ig):Yu G 92 o.length K Vg L Ph zn (Wn Vg VX o) [(1,(fun e q g=>k1 (e 5).rd q g))]=fun e q g=>Xj G K L o k1 L (e 5).rd (e 8).rd (e 64).rd (e 65).rd (e 66).rd q g:=lpJ (fun m e q g=>Xj G K L o k1 m (e 5).rd (e 8).rd (e 64).rd (e 65).rd (e 66).rd q g) rfl (fun _=>by kernel_rfl) L
def Xy (G:GT)(K:KT)(L:Nat)(x0 x1 x2:AV)(o:HP):KR :=
  Zf (Ug 3 (AV.ro x0)) fun v1=>Jt (o ++ [.cells v1 Zy]) fun h0=>Zf (Ug 4 (AV.ro x2)) fun v3=>Jt (h0 ++ [.cells v3 Yp]) fun h2=>Zf (Za .lss .prim (AV.ro x1) (.int .i64 0)) fun v4=>Wx v4 false (ldF h2 1 (.ptr (o).length 0) fun v6=>Zf (ZQ h2 .slice v6) fun v7=>Zf (Za .geq .prim (AV.ro x1) v7) fun v8=>some (v8,h2,none)) (some (.bool true)) h2 none fun v9 h10 f11=>ifK (AV.ro v9) (Yn o (.int .i64 2) h10 f11) (ldF h10 0 (.ptr (h0).length 0) fun v13=>WC (K OG [v13] h10) fun v14 h15 f16=>Zf (Za .neq .prim (AV.ro v14) (.int .i64 0)) fun v17=>ifK v17 (some (QK false o v14 h15 (Zm o.length f11 f16))) (ldF h15 1 (.ptr (h0).length 0) fun v19=>Zf (Za .lss .prim v19 (.int .i64 0)) fun v20=>Wx v20 false (ldF h15 1 (.ptr (h0).length 0) fun v22=>ldF h15 2 (.ptr (h0).length 0) fun v24=>Zf (Za .gtr .prim v22 v24) fun v25=>some (v25,h15,(Zm o.length f11 f16))) (some (.bool true)) h15 (Zm o.length f11 f16) fun v26 h27 f28=>Wx (AV.ro v26) false (ldF h27 1 (.ptr (h0).length 0) fun v30=>Zf (Za .gtr .prim v30 (.int .i64 6)) fun v31=>some (v31,h27,f28)) (some (.bool true)) h27 f28 fun v32 h33 f34=>Wx (AV.ro v32) false (ldF h33 2 (.ptr (h0).length 0) fun v36=>Zf (Za .gtr .prim v36 (.int .i64 16)) fun v37=>some (v37,h33,f34)) (some (.bool true)) h33 f34 fun v38 h39 f40=>ifK (AV.ro v38) (Yn o (.int .i64 2) h39 f40) (ldF h39 3 (.ptr (h0).length 0) fun v42=>Zf (ZQ h39 .slice v42) fun v43=>Zf (Za .eql .prim v43 (.int .i64 0)) fun v44=>ifK v44 (Yn o (.int .i64 7) h39 f40) (ldF h39 3 (.ptr (h0).length 0) fun v46=>Zf (ZQ h39 .slice v46) fun v47=>Zf (Za .gtr .prim v47 (.int .i64 1000)) fun v48=>ifK v48 (Yn o (.int .i64 6) h39 f40) (Zf (Zx h39 3 (.ptr (o).length 0)) fun v49=>Zf (Zx h39 4 (.ptr (h0).length 0)) fun v50=>Zf (fill [(.str []),(.own 14 []),(.own 3 []),(.int .i64 0),(.str []),(.int .i64 0),(.int .i64 0),(.own 20 [])] [(0,3,AV.nm v49),(3,1,AV.nm (AV.ro x1)),(4,4,AV.nm v50)]) fun v51=>Jt (h39 ++ [.cells [(.str []),(.own 14 []),(.own 3 []),(.int .i64 0),(.str []),(.int .i64 0),(.int .i64 0),(.own 20 [])] Yr]) fun h5=>DT (stV o.length 8 (.ptr (h39).length 0) (.agg v51) h5 f40) fun h12 f54=>ldF h12 3 (.ptr (h0).length 0) fun v70=>Zf (ZQ h12 .slice v70) fun v71=>Xj G K L o (YR G K L o) L (.ptr (h0).length 0) (.ptr (h39).length 0) v70 v71 (.int .i64 0) h12 f54)))))
theorem ZcL (x0 x1 x2:AV) :fnK G K Vg L VX [x0,x1,x2] o=Xy G K L x0 x1 x2 o:=by
 show Yu G 92 o.length K Vg L D5 (Wn Vg VX o) (Wn Vg VX o) [] (NE [x0,x1,x2]) o none=_
 simp only [D5,Y4,ZY,ZZ,Yi]
 rw [AC G K L o ,AL G K L o (YR G K L o) _]
 kernel_rfl
theorem Ze6 {C:Cfg}{x0 x1 x2:AV}:RunT C Dw VX [x0,x1,x2] (fun K=>Xy C.G K C.L x0 x1 x2):=runT rfl fun _ _=>ZcL ..
def YY (G:GT)(K:KT)(L:Nat)(o:HP)(x5:AV)(q:HP)(g:Eff):KR :=
  ldF q 3 x5 fun v50=>ldF q 3 x5 fun v52=>Zf (ZQ q .slice v52) fun v53=>Zf (Za .sub .prim v53 (.int .i64 1)) fun v54=>Zf (YN (.slice 20) v50 v54) fun v55=>ldF q 0 v55 fun v57=>Zf (Za .neq .prim v57 (.int .i64 19)) fun v58=>Wx v58 true (Zf (Za .neq .prim v57 (.int .i64 4)) fun v59=>some (v59,q,g)) (some (.bool false)) q g fun v60 h0 f62=>ifK (AV.ro v60) (Yn o (.int .i64 8) h0 f62) (Yn o (.int .i64 0) h0 f62)
theorem ZaG :Yu G 90 o.length K VR L NQ (Wn VR JA o) (Wn VR JA o) []=fun e q g=>YY G K L o (e 5).rd q g:=by kernel_rfl
def XB (G:GT)(K:KT)(L:Nat)(o:HP)(k1:AV→HP→Eff→KR):Nat→AV→AV→AV→AV→HP→Eff→KR
  | 0,_,_,_,_,_,_=>none
  | m + 1,x1,x3,x5,x8,q,g=>ldF q 3 x5 fun v64=>Zf (ZQ q .slice v64) fun v65=>Zf (Za .lss .prim x8 v65) fun v66=>ifK v66 (Zf (Zx q 3 x3) fun v67=>Zf (Zx q 4 x5) fun v68=>ldF q 3 x5 fun v70=>Zf (YN (.slice 20) v70 x8) fun v71=>Zf (Zx q 20 v71) fun v72=>WC (Wl K CZ [v67,x1,v68,v72] q) fun v73 h0 f75=>Zf (Za .neq .prim (AV.ro v73) (.int .i64 0)) fun v76=>ifK v76 (some (QK false o (AV.ro v73) h0 (Zm o.length g f75))) (Zf (Za .add .prim x8 (.int .i64 1)) fun v77=>XB G K L o k1 m x1 x3 x5 v77 h0 (Zm o.length g f75))) (k1 x5 q g)
theorem ZaH (k1:AV→HP→Eff→KR)(zn:Ig):Yu G 90 o.length K VR L NR zn (Wn VR JA o) [(1,(fun e q g=>k1 (e 5).rd q g))]=fun e q g=>XB G K L o k1 L (e 1).rd (e 3).rd (e 5).rd (e 8).rd q g:=lpJ (fun m e q g=>XB G K L o k1 m (e 1).rd (e 3).rd (e 5).rd (e 8).rd q g) rfl (fun _=>by kernel_rfl) L
def Vf (G:GT)(K:KT)(L:Nat)(x0 x1 x2:AV)(o:HP):KR :=
  Zf (Ug 3 (AV.ro x0)) fun v1=>Jt (o ++ [.cells v1 Zy]) fun h0=>Zf (Ug 4 (AV.ro x2)) fun v3=>Jt (h0 ++ [.cells v3 Yp]) fun h2=>Zf (Za .lss .prim (AV.ro x1) (.int .i64 0)) fun v4=>Wx v4 false (ldF h2 1 (.ptr (o).length 0) fun v6=>Zf (ZQ h2 .slice v6) fun v7=>Zf (Za .geq .prim (AV.ro x1) v7) fun v8=>some (v8,h2,none)) (some (.bool true)) h2 none fun v9 h10 f11=>ifK (AV.ro v9) (Yn o (.int .i64 2) h10 f11) (ldF h10 0 (.ptr (h0).length 0) fun v13=>WC (K TY [v13] h10) fun v14 h15 f16=>Zf (Za .neq .prim (AV.ro v14) (.int .i64 0)) fun v17=>ifK v17 (some (QK false o v14 h15 (Zm o.length f11 f16))) (ldF h15 1 (.ptr (h0).length 0) fun v19=>Zf (Za .lss .prim v19 (.int .i64 0)) fun v20=>Wx v20 false (ldF h15 1 (.ptr (h0).length 0) fun v22=>ldF h15 2 (.ptr (h0).length 0) fun v24=>Zf (Za .gtr .prim v22 v24) fun v25=>some (v25,h15,(Zm o.length f11 f16))) (some (.bool true)) h15 (Zm o.length f11 f16) fun v26 h27 f28=>Wx (AV.ro v26) false (ldF h27 1 (.ptr (h0).length 0) fun v30=>Zf (Za .gtr .prim v30 (.int .i64 6)) fun v31=>some (v31,h27,f28)) (some (.bool true)) h27 f28 fun v32 h33 f34=>Wx (AV.ro v32) false (ldF h33 2 (.ptr (h0).length 0) fun v36=>Zf (Za .gtr .prim v36 (.int .i64 16)) fun v37=>some (v37,h33,f34)) (some (.bool true)) h33 f34 fun v38 h39 f40=>ifK (AV.ro v38) (Yn o (.int .i64 2) h39 f40) (ldF h39 3 (.ptr (h0).length 0) fun v42=>Zf (ZQ h39 .slice v42) fun v43=>Zf (Za .eql .prim v43 (.int .i64 0)) fun v44=>ifK v44 (Yn o (.int .i64 7) h39 f40) (ldF h39 3 (.ptr (h0).length 0) fun v46=>Zf (ZQ h39 .slice v46) fun v47=>Zf (Za .gtr .prim v47 (.int .i64 1000)) fun v48=>ifK v48 (Yn o (.int .i64 6) h39 f40) (XB G K L o (YY G K L o) L (AV.ro x1) (.ptr (o).length 0) (.ptr (h0).length 0) (.int .i64 0) h39 f40)))))
theorem ZeF (x0 x1 x2:AV) :fnK G K VR L JA [x0,x1,x2] o=Vf G K L x0 x1 x2 o:=by
 show Yu G 90 o.length K VR L Nl (Wn VR JA o) (Wn VR JA o) [] (NE [x0,x1,x2]) o none=_
 simp only [Nl,Y4,ZY,ZZ,Yi]
 rw [ZaG G K L o ,ZaH G K L o (YY G K L o) _]
 kernel_rfl
theorem Zh4 {C:Cfg}{x0 x1 x2:AV}:RunT C PN JA [x0,x1,x2] (fun K=>Vf C.G K C.L x0 x1 x2):=runT rfl fun _ _=>ZeF ..
def ZcK (G:GT)(K:KT)(L:Nat)(x0 x1 x2:AV)(o:HP):KR :=
  Zf (Ug 3 (AV.ro x0)) fun v1=>Jt (o ++ [.cells v1 Zy]) fun h0=>Zf (Ug 1 (AV.ro x1)) fun v3=>Jt (h0 ++ [.cells v3 Dv]) fun h2=>Zf (Ug 1 (AV.ro x2)) fun v5=>Jt (h2 ++ [.cells v5 Dv]) fun h4=>ldF h4 2 (.ptr (o).length 0) fun v7=>WC (K QQ [v7,(.fn Gu [] [(.ptr (h0).length 0),(.ptr (h2).length 0)])] h4) fun v8 h9 f10=>Zf (Za .lss .prim (AV.ro v8) (.int .i64 0)) fun v11=>ifK v11 (some (QK false o (.tup [(AV.nm (.int .i64 0)),(AV.nm (.bool false))]) h9 (Zm o.length none f10))) (ldF h9 2 (.ptr (o).length 0) fun v13=>Zf (YN (.slice 3) v13 (AV.ro v8)) fun v14=>ldF h9 2 v14 fun v16=>some (QK false o (.tup [(AV.nm v16),(AV.nm (.bool true))]) h9 (Zm o.length none f10)))
theorem Zm5 {C:Cfg}{x0 x1 x2:AV}:RunT C Zcn Zjy [x0,x1,x2] (fun K=>ZcK C.G K C.L x0 x1 x2):=runT (P := Zru) rfl fun _ _=>by kernel_rfl
def Ha (G:GT)(K:KT)(L:Nat)(o:HP)(q:HP)(g:Eff):KR :=
  some (QK false o (.tup [(AV.nm (.int .i64 0)),(AV.nm (.bool false))]) q g)
theorem ZgJ :Yu G 40 o.length K TD L Zd6 (Wn TD MW o) (Wn TD MW o) []=fun e q g=>Ha G K L o  q g:=by kernel_rfl
def Vw (G:GT)(K:KT)(L:Nat)(o:HP)(k0:HP→Eff→KR):Nat→AV→AV→AV→AV→HP→Eff→KR
  | 0,_,_,_,_,_,_=>none
  | m + 1,x1,x2,x3,x8,q,g=>ldF q 2 x3 fun v3=>Zf (ZQ q .slice v3) fun v4=>Zf (Za .lss .prim x8 v4) fun v5=>ifK v5 (ldF q 2 x3 fun v7=>Zf (YN (.slice 3) v7 x8) fun v8=>ldF q 0 v8 fun v10=>Zf (Za .eql .prim v10 x1) fun v11=>Wx v11 true (ldF q 2 x3 fun v13=>Zf (YN (.slice 3) v13 x8) fun v14=>ldF q 1 v14 fun v16=>Zf (Za .eql .prim v16 x2) fun v17=>some (v17,q,g)) (some (.bool false)) q g fun v18 h19 f20=>ifK (AV.ro v18) (ldF h19 2 x3 fun v22=>Zf (YN (.slice 3) v22 x8) fun v23=>ldF h19 2 v23 fun v25=>some (QK false o (.tup [(AV.nm v25),(AV.nm (.bool true))]) h19 f20)) (Zf (Za .add .prim x8 (.int .i64 1)) fun v26=>Vw G K L o k0 m x1 x2 x3 v26 h19 f20)) (k0  q g)
theorem ZgK (k0:HP→Eff→KR)(zn:Ig):Yu G 40 o.length K TD L Zd7 zn (Wn TD MW o) [(0,(fun e q g=>k0 q g))]=fun e q g=>Vw G K L o k0 L (e 1).rd (e 2).rd (e 3).rd (e 8).rd q g:=lpJ (fun m e q g=>Vw G K L o k0 m (e 1).rd (e 2).rd (e 3).rd (e 8).rd q g) rfl (fun _=>by kernel_rfl) L
def ZbK (G:GT)(K:KT)(L:Nat)(x0 x1 x2:AV)(o:HP):KR :=
  Zf (Ug 3 (AV.ro x0)) fun v1=>Jt (o ++ [.cells v1 Zy]) fun h0=>Vw G K L o (Ha G K L o) L (AV.ro x1) (AV.ro x2) (.ptr (o).length 0) (.int .i64 0) h0 none
theorem Zm8 (x0 x1 x2:AV) :fnK G K TD L MW [x0,x1,x2] o=ZbK G K L x0 x1 x2 o:=by
 show Yu G 40 o.length K TD L Zgs (Wn TD MW o) (Wn TD MW o) [] (NE [x0,x1,x2]) o none=_
 simp only [Zgs,Y4,ZY,ZZ,Yi]
 rw [ZgJ G K L o ,ZgK G K L o (Ha G K L o) _]
 kernel_rfl
theorem Zpj {C:Cfg}{x0 x1 x2:AV}:RunT C Zfh MW [x0,x1,x2] (fun K=>ZbK C.G K C.L x0 x1 x2):=runT rfl fun _ _=>Zm8 ..
def IG (G:GT)(K:KT)(L:Nat)(o:HP)(y3:AV)(q:HP)(g:Eff):KR :=
  some (QK false o y3 q g)
theorem Zdh :Yu G 28 o.length K UT L FH (Wn UT G8 o) (Wn UT G8 o) []=fun e q g=>IG G K L o (e 3).val q g:=by kernel_rfl
def JZ (G:GT)(K:KT)(L:Nat)(o:HP)(k0:AV→HP→Eff→KR):Nat→AV→AV→AV→AV→HP→Eff→KR
  | 0,_,_,_,_,_,_=>none
  | m + 1,x0,x3,y3,x4,q,g=>Zf (ZQ q .slice x0) fun v0=>Zf (Za .lss .prim x4 v0) fun v1=>ifK v1 (Zf (Za .add .prim x3 (.int .i64 1)) fun v2=>Zf (YN (.slice 21) x0 x4) fun v3=>ldF q 19 v3 fun v5=>WC (Wl K Jd [v5] q) fun v6 h7 f8=>Zf (Za .add .prim v2 (AV.ro v6)) fun v9=>Zf (YN (.slice 21) x0 x4) fun v10=>ldF h7 20 v10 fun v12=>WC (Wl K Jd [v12] h7) fun v13 h14 f15=>Zf (Za .add .prim v9 (AV.ro v13)) fun v16=>Zf (Za .add .prim x4 (.int .i64 1)) fun v17=>JZ G K L o k0 m x0 v16 v16 v17 h14 (Zm o.length (Zm o.length g f8) f15)) (k0 y3 q g)
theorem Zdi (k0:AV→HP→Eff→KR)(zn:Ig):Yu G 28 o.length K UT L FI zn (Wn UT G8 o) [(0,(fun e q g=>k0 (e 3).val q g))]=fun e q g=>JZ G K L o k0 L (e 0).rd (e 3).rd (e 3).val (e 4).rd q g:=lpJ (fun m e q g=>JZ G K L o k0 m (e 0).rd (e 3).rd (e 3).val (e 4).rd q g) rfl (fun _=>by kernel_rfl) L
def ZaE (G:GT)(K:KT)(L:Nat)(x0:AV)(o:HP):KR :=
  JZ G K L o (IG G K L o) L (AV.ro x0) (.int .i64 0) (.int .i64 0) (.int .i64 0) o none
theorem ZiX (x0:AV) :fnK G K UT L G8 [x0] o=ZaE G K L x0 o:=by
 show Yu G 28 o.length K UT L Zax (Wn UT G8 o) (Wn UT G8 o) [] (NE [x0]) o none=_
 simp only [Zax,Y4,ZY,ZZ,Yi]
 rw [Zdh G K L o ,Zdi G K L o (IG G K L o) _]
 kernel_rfl
theorem Zlv {C:Cfg}{x0:AV}:RunT C Jd G8 [x0] (fun K=>ZaE C.G K C.L x0):=runT rfl fun _ _=>ZiX ..
def Kt (G:GT)(K:KT)(L:Nat)(o:HP)(q:HP)(g:Eff):KR :=
  Yn o (.int .i64 0) q g
theorem Za8 :Yu G 46 o.length K VP L NK (Wn VP J8 o) (Wn VP J8 o) []=fun e q g=>Kt G K L o  q g:=by kernel_rfl
def V7 (G:GT)(K:KT)(L:Nat)(o:HP)(k0:HP→Eff→KR):Nat→AV→AV→AV→HP→Eff→KR
  | 0,_,_,_,_,_=>none
  | m + 1,x0,x23,x24,q,g=>Zf (Za .lss .prim x24 x23) fun v21=>ifK v21 (Zf (TA x0 x24) fun v22=>WC (K ML [v22] q) fun v23 h24 f25=>Zf (Qg .not (AV.ro v23)) fun v26=>Wx v26 true (Zf (Za .lss .prim v22 (.int .u8 48)) fun v27=>Wx v27 false (Zf (Za .gtr .prim v22 (.int .u8 57)) fun v28=>some (v28,h24,(Zm o.length g f25))) (some (.bool true)) h24 (Zm o.length g f25) fun v29 h30 f31=>some ((AV.ro v29),h30,f31)) (some (.bool false)) h24 (Zm o.length g f25) fun v32 h33 f34=>Wx (AV.ro v32) true (Zf (Za .neq .prim v22 (.int .u8 95)) fun v35=>some (v35,h33,f34)) (some (.bool false)) h33 f34 fun v36 h37 f38=>ifK (AV.ro v36) (Yn o (.int .i64 3) h37 f38) (Zf (Za .add .prim x24 (.int .i64 1)) fun v39=>V7 G K L o k0 m x0 x23 v39 h37 f38)) (k0  q g)
theorem Za9 (k0:HP→Eff→KR)(zn:Ig):Yu G 46 o.length K VP L NL zn (Wn VP J8 o) [(0,(fun e q g=>k0 q g))]=fun e q g=>V7 G K L o k0 L (e 0).rd (e 23).rd (e 24).rd q g:=lpJ (fun m e q g=>V7 G K L o k0 m (e 0).rd (e 23).rd (e 24).rd q g) rfl (fun _=>by kernel_rfl) L
def UJ (G:GT)(K:KT)(L:Nat)(x0:AV)(o:HP):KR :=
  Zf (Za .eql .prim (AV.ro x0) (.str [])) fun v0=>Wx v0 false (Zf (ZQ o .str (AV.ro x0)) fun v1=>Zf (Za .gtr .prim v1 (.int .i64 24)) fun v2=>some (v2,o,none)) (some (.bool true)) o none fun v3 h4 f5=>Wx (AV.ro v3) false (Zf (TA (AV.ro x0) (.int .i64 0)) fun v6=>WC (K ML [v6] h4) fun v7 h8 f9=>Zf (Qg .not (AV.ro v7)) fun v10=>some (v10,h8,(Zm o.length f5 f9))) (some (.bool true)) h4 f5 fun v11 h12 f13=>Wx (AV.ro v11) false (WC (K RH [(AV.ro x0)] h12) fun v14 h15 f16=>some ((AV.ro v14),h15,(Zm o.length f13 f16))) (some (.bool true)) h12 f13 fun v17 h18 f19=>ifK (AV.ro v17) (Yn o (.int .i64 3) h18 f19) (Zf (ZQ h18 .str (AV.ro x0)) fun v20=>V7 G K L o (Kt G K L o) L (AV.ro x0) v20 (.int .i64 0) h18 f19)
theorem Ze9 (x0:AV) :fnK G K VP L J8 [x0] o=UJ G K L x0 o:=by
 show Yu G 46 o.length K VP L Nj (Wn VP J8 o) (Wn VP J8 o) [] (NE [x0]) o none=_
 simp only [Nj,Y4,ZY,ZZ,Yi]
 rw [Za8 G K L o ,Za9 G K L o (Kt G K L o) _]
 kernel_rfl
theorem Zhn {C:Cfg}{x0:AV}:RunT C OG J8 [x0] (fun K=>UJ C.G K C.L x0):=runT rfl fun _ _=>Ze9 ..
def IB (G:GT)(K:KT)(L:Nat)(o:HP)(q:HP)(g:Eff):KR :=
  Yn o (.int .i64 0) q g
theorem ZcY :Yu G 51 o.length K UO L F7 (Wn UO G5 o) (Wn UO G5 o) []=fun e q g=>IB G K L o  q g:=by kernel_rfl
def JW (G:GT)(K:KT)(L:Nat)(o:HP)(k0:HP→Eff→KR):Nat→AV→AV→HP→Eff→KR
  | 0,_,_,_,_=>none
  | m + 1,x0,x3,q,g=>Zf (ZQ q .str x0) fun v21=>Zf (Za .lss .prim x3 v21) fun v22=>ifK v22 (Zf (TA x0 x3) fun v23=>WC (K BX [v23] q) fun v24 h25 f26=>Zf (Qg .not (AV.ro v24)) fun v27=>Wx v27 true (Zf (TA x0 x3) fun v28=>Zf (Za .neq .prim v28 (.int .u8 95)) fun v29=>some (v29,h25,(Zm o.length g f26))) (some (.bool false)) h25 (Zm o.length g f26) fun v30 h31 f32=>Wx (AV.ro v30) true (Zf (TA x0 x3) fun v33=>Zf (Za .lss .prim v33 (.int .u8 48)) fun v34=>Wx v34 false (Zf (TA x0 x3) fun v35=>Zf (Za .gtr .prim v35 (.int .u8 57)) fun v36=>some (v36,h31,f32)) (some (.bool true)) h31 f32 fun v37 h38 f39=>some ((AV.ro v37),h38,f39)) (some (.bool false)) h31 f32 fun v40 h1 f42=>ifK (AV.ro v40) (Yn o (.int .i64 3) h1 f42) (Zf (Za .add .prim x3 (.int .i64 1)) fun v43=>JW G K L o k0 m x0 v43 h1 f42)) (k0  q g)
theorem ZcZ (k0:HP→Eff→KR)(zn:Ig):Yu G 51 o.length K UO L F8 zn (Wn UO G5 o) [(0,(fun e q g=>k0 q g))]=fun e q g=>JW G K L o k0 L (e 0).rd (e 3).rd q g:=lpJ (fun m e q g=>JW G K L o k0 m (e 0).rd (e 3).rd q g) rfl (fun _=>by kernel_rfl) L
def Oc (G:GT)(K:KT)(L:Nat)(x0:AV)(o:HP):KR :=
  Zf (ZQ o .str (AV.ro x0)) fun v0=>Zf (Za .lss .prim v0 (.int .i64 1)) fun v1=>Wx v1 false (Zf (ZQ o .str (AV.ro x0)) fun v2=>Zf (Za .gtr .prim v2 (.int .i64 24)) fun v3=>some (v3,o,none)) (some (.bool true)) o none fun v4 h5 f6=>Wx (AV.ro v4) false (Zf (TA (AV.ro x0) (.int .i64 0)) fun v7=>WC (K BX [v7] h5) fun v8 h9 f10=>Zf (Qg .not (AV.ro v8)) fun v11=>some (v11,h9,(Zm o.length f6 f10))) (some (.bool true)) h5 f6 fun v12 h13 f14=>Wx (AV.ro v12) false (WC (K PL [(AV.ro x0)] h13) fun v15 h16 f17=>some ((AV.ro v15),h16,(Zm o.length f14 f17))) (some (.bool true)) h13 f14 fun v18 h19 f20=>ifK (AV.ro v18) (Yn o (.int .i64 3) h19 f20) (JW G K L o (IB G K L o) L (AV.ro x0) (.int .i64 0) h19 f20)
theorem ZiU (x0:AV) :fnK G K UO L G5 [x0] o=Oc G K L x0 o:=by
 show Yu G 51 o.length K UO L Zau (Wn UO G5 o) (Wn UO G5 o) [] (NE [x0]) o none=_
 simp only [Zau,Y4,ZY,ZZ,Yi]
 rw [ZcY G K L o ,ZcZ G K L o (IB G K L o) _]
 kernel_rfl
theorem Zlq {C:Cfg}{x0:AV}:RunT C TY G5 [x0] (fun K=>Oc C.G K C.L x0):=runT rfl fun _ _=>ZiU ..
def Zg (G:GT)(K:KT)(L:Nat)(o:HP)(x3:AV)(x5:AV)(q:HP)(g:Eff):KR :=
  ldF q 7 x5 fun v45=>ifK v45 (Zf (KQ 13 x3) fun v46=>Zf (Zx q 6 v46) fun v47=>WC (K SH [v47] q) fun v48 h0 f50=>some (QK false o v48 h0 (Zm o.length g f50))) (Yn o (.int .i64 0) q g)
theorem BO :Yu G 122 o.length K Yf L OT (Wn Yf YF o) (Wn Yf YF o) []=fun e q g=>Zg G K L o (e 3).rd (e 5).rd q g:=by kernel_rfl
def Z4 (G:GT)(K:KT)(L:Nat)(o:HP)(k4:AV→AV→HP→Eff→KR):Nat→AV→AV→AV→AV→AV→AV→HP→Eff→KR
  | 0,_,_,_,_,_,_,_,_=>none
  | m + 1,x2,x3,x5,x101,x102,x103,q,g=>Zf (Za .lss .prim x103 x102) fun v56=>ifK v56 (Zf (YN (.slice 4) x101 x103) fun v57=>Zf (Zx q 4 v57) fun v58=>Jt (q ++ [.cells [(.int .i64 0),(.str []),(.int .i64 0),(.own 4 [])] Zv]) fun h0=>DT (stV o.length 4 (.ptr (q).length 0) v58 h0 g) fun h60 f61=>Zf (Zx h60 4 (.ptr (q).length 0)) fun v62=>WC (K LJ [v62] h60) fun v63 h64 f65=>Zf (Za .neq .prim (AV.ro v63) (.int .i64 0)) fun v66=>ifK v66 (some (QK false o v63 h64 (Zm o.length f61 f65))) (Zf (Zx h64 8 x2) fun v67=>Zf (Zx h64 4 (.ptr (q).length 0)) fun v68=>WC (K YT [v67,v68] h64) fun v69 h1 f71=>Zf (Qg .not (AV.ro v69)) fun v72=>ifK v72 (Yn o (.int .i64 2) h1 (Zm o.length (Zm o.length f61 f65) f71)) (Zf (Za .add .prim x103 (.int .i64 1)) fun v73=>Z4 G K L o k4 m x2 x3 x5 x101 x102 v73 h1 (Zm o.length (Zm o.length f61 f65) f71)))) (k4 x3 x5 q g)
theorem BP (k4:AV→AV→HP→Eff→KR)(zn:Ig):Yu G 122 o.length K Yf L OU zn (Wn Yf YF o) [(4,(fun e q g=>k4 (e 3).rd (e 5).rd q g))]=fun e q g=>Z4 G K L o k4 L (e 2).rd (e 3).rd (e 5).rd (e 101).rd (e 102).rd (e 103).rd q g:=lpJ (fun m e q g=>Z4 G K L o k4 m (e 2).rd (e 3).rd (e 5).rd (e 101).rd (e 102).rd (e 103).rd q g) rfl (fun _=>by kernel_rfl) L
def Zi (G:GT)(K:KT)(L:Nat)(o:HP)(x2:AV)(x3:AV)(x5:AV)(q:HP)(g:Eff):KR :=
  Zf (Zx q 20 x3) fun v51=>WC (K OD [v51] q) fun v52 h0 f54=>Zf (ZQ h0 .slice (AV.ro v52)) fun v55=>Z4 G K L o (Zg G K L o) L x2 x3 x5 (AV.ro v52) v55 (.int .i64 0) h0 (Zm o.length g f54)
theorem BN :Yu G 122 o.length K Yf L UI (Wn Yf YF o) (Wn Yf YF o) []=fun e q g=>Zi G K L o (e 2).rd (e 3).rd (e 5).rd q g:=by
 simp only [UI,Y4,ZY,ZZ,Yi]
 rw [BO G K L o ,BP G K L o (Zg G K L o) _]
 kernel_rfl
def Zo (G:GT)(K:KT)(L:Nat)(o:HP)(x2:AV)(x3:AV)(x5:AV)(q:HP)(g:Eff):KR :=
  ldF q 2 x5 fun v77=>Zf (Za .neq .prim v77 (.int .i64 0)) fun v78=>Wx v78 true (Zf (Zx q 8 x2) fun v79=>ldF q 2 x5 fun v81=>ldF q 2 x3 fun v83=>WC (K Qa [v79,v81,v83,(.int .i64 0)] q) fun v84 h0 f86=>Zf (Qg .not (AV.ro v84)) fun v87=>some (v87,h0,(Zm o.length g f86))) (some (.bool false)) q g fun v1 h4 f90=>ifK (AV.ro v1) (Yn o (.int .i64 2) h4 f90) (Zi G K L o  x2 x3 x5 h4 f90)
theorem BM :Yu G 122 o.length K Yf L OQ (fun e q g=>(Zi G K L o) (e 2).rd (e 3).rd (e 5).rd q g) (Wn Yf YF o) [(0,(fun e q g=>(Zi G K L o) (e 2).rd (e 3).rd (e 5).rd q g))]=fun e q g=>Zo G K L o (e 2).rd (e 3).rd (e 5).rd q g:=by kernel_rfl
def Zj (G:GT)(K:KT)(L:Nat)(o:HP)(x2:AV)(x3:AV)(x5:AV)(x6:AV)(q:HP)(g:Eff):KR :=
  Zf (Zx q 8 x2) fun v91=>ldF q 2 x3 fun v93=>WC (K Qa [v91,(.int .i64 10),v93,x6] q) fun v0 h95 f96=>Zf (Qg .not (AV.ro v0)) fun v1=>ifK v1 (Yn o (.int .i64 2) h95 (Zm o.length g f96)) (ldF h95 12 x3 fun v4=>Zf (ZQ h95 .slice v4) fun v7=>Zf (KQ 0 x2) fun v8=>ldF h95 1 v8 fun v9=>Zf (YN (.slice 14) v9 x6) fun v10=>ldF h95 13 v10 fun v11=>ldF h95 2 x3 fun v12=>Zf (YN (.slice 4) v11 v12) fun v109=>ldF h95 1 v109 fun v13=>Zf (Za .neq .prim v7 v13) fun v14=>ifK v14 (Yn o (.int .i64 8) h95 (Zm o.length g f96)) (Zi G K L o  x2 x3 x5 h95 (Zm o.length g f96)))
theorem BK :Yu G 122 o.length K Yf L OO (fun e q g=>(Zo G K L o) (e 2).rd (e 3).rd (e 5).rd q g) (Wn Yf YF o) [(3,(fun e q g=>(Zo G K L o) (e 2).rd (e 3).rd (e 5).rd q g)),(0,(fun e q g=>(Zi G K L o) (e 2).rd (e 3).rd (e 5).rd q g))]=fun e q g=>Zj G K L o (e 2).rd (e 3).rd (e 5).rd (e 6).rd q g:=by kernel_rfl
def ZJ (G:GT)(K:KT)(L:Nat)(x0 x1:AV)(o:HP):KR :=
  Zf (Ug 8 (AV.ro x0)) fun v1=>Jt (o ++ [.cells v1 Yr]) fun h0=>Zf (Ug 20 (AV.ro x1)) fun v3=>Jt (h0 ++ [.cells v3 Yb]) fun h2=>ldF h2 0 (.ptr (h0).length 0) fun v5=>WC (K BV [v5] h2) fun v6 h7 f8=>Zf (Qg .not (AV.ro v6)) fun v9=>Wx v9 false (Zf (Zx h7 20 (.ptr (h0).length 0)) fun v10=>WC (K SG [v10] h7) fun v11 h12 f13=>Zf (Qg .not (AV.ro v11)) fun v14=>some (v14,h12,(Zm o.length (Zm o.length none f8) f13))) (some (.bool true)) h7 (Zm o.length none f8) fun v15 h16 f17=>ifK (AV.ro v15) (Yn o (.int .i64 1) h16 f17) (Zf ((G 0).map AV.ref) fun g18=>Zf (QO h16 g18) fun v19=>ldF h16 0 (.ptr (h0).length 0) fun v21=>Zf (YN (.slice 9) v19 v21) fun v22=>Zf (Zx h16 9 v22) fun v23=>Jt (h16 ++ [.cells [(.str []),(.int .i64 0),(.int .i64 0),(.bool false),(.bool false),(.bool false),(.bool false),(.bool false),(.bool false)] YQ]) fun h24=>DT (stV o.length 9 (.ptr (h16).length 0) v23 h24 f17) fun h25 f26=>Zf (Zx h25 8 (.ptr (o).length 0)) fun v27=>ldF h25 1 (.ptr (h16).length 0) fun v29=>ldF h25 1 (.ptr (h0).length 0) fun v31=>WC (K Qa [v27,v29,v31,(.int .i64 0)] h25) fun v32 h33 f34=>Zf (Qg .not (AV.ro v32)) fun v35=>Wx v35 true (ldF h33 1 (.ptr (h16).length 0) fun v37=>Zf (Za .neq .prim v37 (.int .i64 0)) fun v38=>some (v38,h33,(Zm o.length f26 f34))) (some (.bool false)) h33 (Zm o.length f26 f34) fun v39 h4 f41=>ifK (AV.ro v39) (Yn o (.int .i64 2) h4 f41) (ldF h4 3 (.ptr (o).length 0) fun v43=>ldF h4 0 (.ptr (h0).length 0) fun v75=>Zf (Za .eql .prim v75 (.int .i64 14)) fun v20=>ifK v20 (ldF h4 1 (.ptr (h0).length 0) fun v28=>Zf (KQ 0 (.ptr (o).length 0)) fun v30=>Zf (Zx h4 3 v30) fun v117=>ldF h4 3 (.ptr (o).length 0) fun v36=>ldF h4 1 (.ptr (h0).length 0) fun v40=>WC (K Zcn [v117,v36,v40] h4) fun v42 h44 f124=>Zf (Jr (AV.ro v42) 0) fun v45=>Zf (Jr (AV.ro v42) 1) fun v46=>Zf (Qg .not v46) fun v127=>Wx v127 false (ldF h44 3 (.ptr (h0).length 0) fun v47=>Zf (Za .neq .prim v45 v47) fun v130=>some (v130,h44,(Zm o.length f41 f124))) (some (.bool true)) h44 (Zm o.length f41 f124) fun v131 h48 f133=>ifK (AV.ro v131) (Yn o (.int .i64 16) h48 f133) (Zj G K L o  (.ptr (o).length 0) (.ptr (h0).length 0) (.ptr (h16).length 0) v28 h48 f133)) (Zf (Za .eql .prim v75 (.int .i64 15)) fun v49=>ifK v49 (Zj G K L o  (.ptr (o).length 0) (.ptr (h0).length 0) (.ptr (h16).length 0) v43 h4 f41) (Zo G K L o  (.ptr (o).length 0) (.ptr (h0).length 0) (.ptr (h16).length 0) h4 f41))))
theorem Nr (x0 x1:AV) :fnK G K Yf L YF [x0,x1] o=ZJ G K L x0 x1 o:=by
 show Yu G 122 o.length K Yf L Ik (Wn Yf YF o) (Wn Yf YF o) [] (NE [x0,x1]) o none=_
 simp only [Ik,Y4,ZY,ZZ,Yi]
 rw [BN G K L o ,BM G K L o ,BK G K L o]
 kernel_rfl
theorem Si {C:Cfg}{x0 x1:AV}:RunT C Ih YF [x0,x1] (fun K=>ZJ C.G K C.L x0 x1):=runT rfl fun _ _=>Nr ..
def QW (G:GT)(K:KT)(L:Nat)(o:HP)(x7:AV)(q:HP)(g:Eff):KR :=
  ldF q 0 x7 fun v32=>Zf (Za .eql .prim v32 (.int .i64 3)) fun v33=>ifK v33 (Zf (KQ 13 x7) fun v34=>Zf (Zx q 6 v34) fun v35=>WC (K CQ [v35] q) fun v36 h37 f38=>some (QK false o v36 h37 (Zm o.length g f38))) (Yn o (.int .i64 0) q g)
theorem Zdl :Yu G 64 o.length K UU L FM (Wn UU G9 o) (Wn UU G9 o) []=fun e q g=>QW G K L o (e 7).rd q g:=by kernel_rfl
def Qy (G:GT)(K:KT)(L:Nat)(o:HP)(k0:AV→HP→Eff→KR):Nat→AV→AV→AV→AV→AV→AV→HP→Eff→KR
  | 0,_,_,_,_,_,_,_,_=>none
  | m + 1,x1,x4,x6,x7,x10,x11,q,g=>Zf (ZQ q .slice x10) fun v39=>Zf (Za .lss .prim x11 v39) fun v40=>ifK v40 (Zf (YN (.slice 4) x10 x11) fun v41=>Zf (Zx q 4 v41) fun v42=>WC (K RI [v42] q) fun v43 h2 f45=>Zf (Za .eql .prim (AV.ro v43) (.int .i64 0)) fun v46=>Wx v46 true (Zf (Zx h2 3 x4) fun v47=>Zf (Zx h2 4 x6) fun v48=>Zf (YN (.slice 4) x10 x11) fun v49=>Zf (Zx h2 4 v49) fun v50=>WC (Wl K Oi [v47,x1,v48,v50] h2) fun v51 h5 f53=>Zf (Qg .not (AV.ro v51)) fun v54=>some (v54,h5,(Zm o.length (Zm o.length g f45) f53))) (some (.bool false)) h2 (Zm o.length g f45) fun v55 h8 f57=>ifK (AV.ro v55) (Zf (Za .neq .prim (.int .i64 2) (.int .i64 0)) fun v58=>ifK v58 (Yn o (.int .i64 2) h8 f57) (Zf (Za .add .prim x11 (.int .i64 1)) fun v59=>Qy G K L o k0 m x1 x4 x6 x7 x10 v59 h8 f57)) (Zf (Za .neq .prim (AV.ro v43) (.int .i64 0)) fun v60=>ifK v60 (some (QK false o v43 h8 f57)) (Zf (Za .add .prim x11 (.int .i64 1)) fun v61=>Qy G K L o k0 m x1 x4 x6 x7 x10 v61 h8 f57))) (k0 x7 q g)
theorem Zdm (k0:AV→HP→Eff→KR)(zn:Ig):Yu G 64 o.length K UU L FN zn (Wn UU G9 o) [(0,(fun e q g=>k0 (e 7).rd q g))]=fun e q g=>Qy G K L o k0 L (e 1).rd (e 4).rd (e 6).rd (e 7).rd (e 10).rd (e 11).rd q g:=lpJ (fun m e q g=>Qy G K L o k0 m (e 1).rd (e 4).rd (e 6).rd (e 7).rd (e 10).rd (e 11).rd q g) rfl (fun _=>by kernel_rfl) L
def He (G:GT)(K:KT)(L:Nat)(x0 x1 x2 x3:AV)(o:HP):KR :=
  Zf (Ug 3 (AV.ro x0)) fun v1=>Jt (o ++ [.cells v1 Zy]) fun h0=>Zf (Ug 4 (AV.ro x2)) fun v3=>Jt (h0 ++ [.cells v3 Yp]) fun h2=>Zf (Ug 20 (AV.ro x3)) fun v5=>Jt (h2 ++ [.cells v5 Yb]) fun h4=>ldF h4 0 (.ptr (h2).length 0) fun v7=>WC (K PP [v7] h4) fun v8 h9 f10=>Zf (Qg .not (AV.ro v8)) fun v11=>Wx v11 false (Zf (Zx h9 20 (.ptr (h2).length 0)) fun v12=>WC (K Zaa [v12] h9) fun v13 h14 f15=>Zf (Qg .not (AV.ro v13)) fun v16=>some (v16,h14,(Zm o.length (Zm o.length none f10) f15))) (some (.bool true)) h9 (Zm o.length none f10) fun v17 h18 f19=>ifK (AV.ro v17) (Yn o (.int .i64 1) h18 f19) (Zf (Zx h18 3 (.ptr (o).length 0)) fun v20=>Zf (Zx h18 4 (.ptr (h0).length 0)) fun v21=>Zf (Zx h18 20 (.ptr (h2).length 0)) fun v22=>WC (K PQ [v20,(AV.ro x1),v21,v22] h18) fun v23 h24 f25=>Zf (Za .neq .prim (AV.ro v23) (.int .i64 0)) fun v26=>ifK v26 (some (QK false o v23 h24 (Zm o.length f19 f25))) (Zf (Zx h24 20 (.ptr (h2).length 0)) fun v27=>WC (K CX [v27] h24) fun v28 h29 f30=>Qy G K L o (QW G K L o) L (AV.ro x1) (.ptr (o).length 0) (.ptr (h0).length 0) (.ptr (h2).length 0) (AV.ro v28) (.int .i64 0) h29 (Zm o.length (Zm o.length f19 f25) f30)))
theorem Zja (x0 x1 x2 x3:AV) :fnK G K UU L G9 [x0,x1,x2,x3] o=He G K L x0 x1 x2 x3 o:=by
 show Yu G 64 o.length K UU L Zaz (Wn UU G9 o) (Wn UU G9 o) [] (NE [x0,x1,x2,x3]) o none=_
 simp only [Zaz,Y4,ZY,ZZ,Yi]
 rw [Zdl G K L o ,Zdm G K L o (QW G K L o) _]
 kernel_rfl
theorem Zl0 {C:Cfg}{x0 x1 x2 x3:AV}:RunT C CZ G9 [x0,x1,x2,x3] (fun K=>He C.G K C.L x0 x1 x2 x3):=runT rfl fun _ _=>Zja ..
def ZdC (G:GT)(K:KT)(L:Nat)(x0:AV)(o:HP):KR :=
  Zf (Za .geq .prim (AV.ro x0) (.int .i64 1)) fun v0=>Wx v0 true (Zf (Za .leq .prim (AV.ro x0) (.int .i64 19)) fun v1=>some (v1,o,none)) (some (.bool false)) o none fun v2 h3 f4=>some (QK false o v2 h3 f4)
theorem ZiQ {C:Cfg}{x0:AV}:RunT C BV Zd0 [x0] (fun K=>ZdC C.G K C.L x0):=runT (P := Znf) rfl fun _ _=>by kernel_rfl
def Y8 (G:GT)(K:KT)(L:Nat)(o:HP)(x1:AV)(y3:AV)(x4:AV)(q:HP)(g:Eff):KR :=
  ldF q 6 x4 fun v18=>ifK v18 (ldF q 12 x1 fun v20=>Zf (ZeY 4 56 y3 v20 q) fun v21=>some (QK false o v21 q g)) (some (QK false o y3 q g))
theorem Pv :Yu G 35 o.length K WG L La (Wn WG Qb o) (Wn WG Qb o) []=fun e q g=>Y8 G K L o (e 1).rd (e 3).val (e 4).rd q g:=by kernel_rfl
def Y7 (G:GT)(K:KT)(L:Nat)(o:HP)(x1:AV)(y3:AV)(x4:AV)(q:HP)(g:Eff):KR :=
  ldF q 5 x4 fun v23=>ifK v23 (Zf (KQ 8 x1) fun v24=>Zf (Zx q 4 v24) fun v25=>DT (ZeN Zv 4 [v25] q) fun v26 h27=>Zf (ZeY 4 56 y3 (AV.ro v26) h27) fun v28=>Y8 G K L o  x1 v28 x4 h27 g) (Y8 G K L o  x1 y3 x4 q g)
theorem Pq :Yu G 35 o.length K WG L GH (Wn WG Qb o) (Wn WG Qb o) []=fun e q g=>Y7 G K L o (e 1).rd (e 3).val (e 4).rd q g:=by
 simp only [GH,Y4,ZY,ZZ,Yi]
 rw [Pv G K L o]
 kernel_rfl
def Wi (G:GT)(K:KT)(L:Nat)(x0:AV)(o:HP):KR :=
  Zf (Ug 20 (AV.ro x0)) fun v1=>Jt (o ++ [.cells v1 Yb]) fun h0=>ldF h0 0 (.ptr (o).length 0) fun v3=>WC (K BV [v3] h0) fun v4 h5 f6=>Zf (Qg .not (AV.ro v4)) fun v7=>ifK v7 (some (QK false o (.own 4 []) h5 (Zm o.length none f6))) (Zf ((G 0).map AV.ref) fun g8=>Zf (QO h5 g8) fun v9=>ldF h5 0 (.ptr (o).length 0) fun v11=>Zf (YN (.slice 9) v9 v11) fun v12=>Zf (Zx h5 9 v12) fun v13=>Jt (h5 ++ [.cells [(.str []),(.int .i64 0),(.int .i64 0),(.bool false),(.bool false),(.bool false),(.bool false),(.bool false),(.bool false)] YQ]) fun h14=>DT (stV o.length 9 (.ptr (h5).length 0) v13 h14 (Zm o.length none f6)) fun h15 f16=>ldF h15 4 (.ptr (h5).length 0) fun v30=>ifK v30 (Zf (KQ 4 (.ptr (o).length 0)) fun v31=>Zf (Zx h15 4 v31) fun v32=>DT (ZeN Zv 4 [v32] h15) fun v33 h34=>Zf (ZeY 4 56 (.own 4 []) (AV.ro v33) h34) fun v35=>Y7 G K L o  (.ptr (o).length 0) v35 (.ptr (h5).length 0) h34 f16) (Y7 G K L o  (.ptr (o).length 0) (.own 4 []) (.ptr (h5).length 0) h15 f16))
theorem EE (x0:AV) :fnK G K WG L Qb [x0] o=Wi G K L x0 o:=by
 show Yu G 35 o.length K WG L OV (Wn WG Qb o) (Wn WG Qb o) [] (NE [x0]) o none=_
 simp only [OV,Y4,ZY,ZZ,Yi]
 rw [Pq G K L o]
 kernel_rfl
theorem AB {C:Cfg}{x0:AV}:RunT C OD Qb [x0] (fun K=>Wi C.G K C.L x0):=runT rfl fun _ _=>EE ..
def ZjD (G:GT)(K:KT)(L:Nat)(x0 x1:AV)(o:HP):KR :=
  Zf (Ug 4 (AV.ro x0)) fun v1=>Jt (o ++ [.cells v1 Zv]) fun h0=>Zf (Ug 4 (AV.ro x1)) fun v3=>Jt (h0 ++ [.cells v3 Zv]) fun h2=>ldF h2 0 (.ptr (o).length 0) fun v5=>ldF h2 0 (.ptr (h0).length 0) fun v7=>Zf (Za .neq .prim v5 v7) fun v8=>Wx v8 false (ldF h2 1 (.ptr (o).length 0) fun v10=>ldF h2 1 (.ptr (h0).length 0) fun v12=>Zf (Za .neq .prim v10 v12) fun v13=>some (v13,h2,none)) (some (.bool true)) h2 none fun v14 h15 f16=>Wx (AV.ro v14) false (ldF h15 2 (.ptr (o).length 0) fun v18=>ldF h15 2 (.ptr (h0).length 0) fun v20=>Zf (Za .neq .prim v18 v20) fun v21=>some (v21,h15,f16)) (some (.bool true)) h15 f16 fun v22 h23 f24=>ifK (AV.ro v22) (Yn o (.bool false) h23 f24) (ldF h23 3 (.ptr (o).length 0) fun v26=>ldF h23 3 (.ptr (h0).length 0) fun v28=>WC (K PM [v26,v28] h23) fun v29 h30 f31=>some (QK false o v29 h30 (Zm o.length f24 f31)))
theorem Znm {C:Cfg}{x0 x1:AV}:RunT C Hw Zj0 [x0,x1] (fun K=>ZjD C.G K C.L x0 x1):=runT (P := Zrw) rfl fun _ _=>by kernel_rfl
def ZjC (G:GT)(K:KT)(L:Nat)(x0 x1:AV)(o:HP):KR :=
  Zf (Ug 6 (AV.ro x0)) fun v1=>Jt (o ++ [.cells v1 Jq]) fun h0=>Zf (Ug 6 (AV.ro x1)) fun v3=>Jt (h0 ++ [.cells v3 Jq]) fun h2=>ldF h2 0 (.ptr (o).length 0) fun v5=>ldF h2 0 (.ptr (h0).length 0) fun v7=>Zf (Za .eql .prim v5 v7) fun v8=>Wx v8 true (ldF h2 1 (.ptr (o).length 0) fun v10=>ldF h2 1 (.ptr (h0).length 0) fun v12=>Zf (Za .eql .prim v10 v12) fun v13=>some (v13,h2,none)) (some (.bool false)) h2 none fun v14 h15 f16=>Wx (AV.ro v14) true (ldF h15 2 (.ptr (o).length 0) fun v18=>ldF h15 2 (.ptr (h0).length 0) fun v20=>Zf (Za .eql .prim v18 v20) fun v21=>some (v21,h15,f16)) (some (.bool false)) h15 f16 fun v22 h23 f24=>Wx (AV.ro v22) true (ldF h23 3 (.ptr (o).length 0) fun v26=>ldF h23 3 (.ptr (h0).length 0) fun v28=>Zf (Za .eql .prim v26 v28) fun v29=>some (v29,h23,f24)) (some (.bool false)) h23 f24 fun v30 h31 f32=>Wx (AV.ro v30) true (ldF h31 4 (.ptr (o).length 0) fun v34=>ldF h31 4 (.ptr (h0).length 0) fun v36=>WC (K KC [v34,v36] h31) fun v37 h38 f39=>some ((AV.ro v37),h38,(Zm o.length f32 f39))) (some (.bool false)) h31 f32 fun v40 h4 f42=>Wx (AV.ro v40) true (ldF h4 5 (.ptr (o).length 0) fun v44=>ldF h4 5 (.ptr (h0).length 0) fun v46=>WC (K KC [v44,v46] h4) fun v47 h48 f49=>some ((AV.ro v47),h48,(Zm o.length f42 f49))) (some (.bool false)) h4 f42 fun v50 h6 f52=>some (QK false o v50 h6 f52)
theorem Znk {C:Cfg}{x0 x1:AV}:RunT C Zco Zjz [x0,x1] (fun K=>ZjC C.G K C.L x0 x1):=runT (P := Zrv) rfl fun _ _=>by kernel_rfl
def ZdA (G:GT)(K:KT)(L:Nat)(x0 x1 x2:AV)(o:HP):KR :=
  Zf (Ug 3 (AV.ro x0)) fun v1=>Jt (o ++ [.cells v1 Zkh]) fun h0=>ldF h0 0 (.ptr (o).length 0) fun v3=>Zf (QO h0 (AV.ro x1)) fun v4=>Zf (Za .eql .prim v3 v4) fun v5=>Wx v5 true (ldF h0 1 (.ptr (o).length 0) fun v7=>Zf (QO h0 (AV.ro x2)) fun v8=>Zf (Za .eql .prim v7 v8) fun v9=>some (v9,h0,none)) (some (.bool false)) h0 none fun v10 h11 f12=>some (QK false o v10 h11 f12)
theorem ZiO {C:Cfg}{x0 x1 x2:AV}:RunT C Gu Zdy [x0,x1,x2] (fun K=>ZdA C.G K C.L x0 x1 x2):=runT (P := Znd) rfl fun _ _=>by kernel_rfl
def Yg (G:GT)(K:KT)(L:Nat)(o:HP)(q:HP)(g:Eff):KR :=
  Yn o (.int .i64 (-1)) q g
theorem Kv :Yu G 19 o.length K ZW L Vt (Wn ZW Ye o) (Wn ZW Ye o) []=fun e q g=>Yg G K L o  q g:=by kernel_rfl
def ZB (G:GT)(K:KT)(L:Nat)(o:HP)(k0:HP→Eff→KR):Nat→AV→AV→AV→AV→HP→Eff→KR
  | 0,_,_,_,_,_,_=>none
  | m + 1,x0,x1,x7,x8,q,g=>Zf (Za .lss .prim x8 x7) fun v1=>ifK v1 (Zf (YN (.slice 3) x0 x8) fun v2=>Zf (Zx q 3 v2) fun v3=>WC (ZkC K x1 [v3] q) fun v4 h5 f6=>ifK (AV.ro v4) (some (QK false o x8 h5 (Zm o.length g f6))) (Zf (Za .add .prim x8 (.int .i64 1)) fun v7=>ZB G K L o k0 m x0 x1 x7 v7 h5 (Zm o.length g f6))) (k0  q g)
theorem Kw (k0:HP→Eff→KR)(zn:Ig):Yu G 19 o.length K ZW L Vu zn (Wn ZW Ye o) [(0,(fun e q g=>k0 q g))]=fun e q g=>ZB G K L o k0 L (e 0).rd (e 1).rd (e 7).rd (e 8).rd q g:=lpJ (fun m e q g=>ZB G K L o k0 m (e 0).rd (e 1).rd (e 7).rd (e 8).rd q g) rfl (fun _=>by kernel_rfl) L
def WF (G:GT)(K:KT)(L:Nat)(x0 x1:AV)(o:HP):KR :=
  Zf (ZQ o .slice (AV.ro x0)) fun v0=>ZB G K L o (Yg G K L o) L (AV.ro x0) (AV.ro x1) v0 (.int .i64 0) o none
theorem Hf (x0 x1:AV) :fnK G K ZW L Ye [x0,x1] o=WF G K L x0 x1 o:=by
 show Yu G 19 o.length K ZW L QT (Wn ZW Ye o) (Wn ZW Ye o) [] (NE [x0,x1]) o none=_
 simp only [QT,Y4,ZY,ZZ,Yi]
 rw [Kv G K L o ,Kw G K L o (Yg G K L o) _]
 kernel_rfl
theorem Ie {C:Cfg}{x0 x1:AV}:RunT C QQ Ye [x0,x1] (fun K=>WF C.G K C.L x0 x1):=runT rfl fun _ _=>Hf ..
def FQ (G:GT)(K:KT)(L:Nat)(x0:AV)(o:HP):KR :=
  Zf (Za .geq .prim (AV.ro x0) (.int .u8 97)) fun v0=>Wx v0 true (Zf (Za .leq .prim (AV.ro x0) (.int .u8 122)) fun v1=>some (v1,o,none)) (some (.bool false)) o none fun v2 h3 f4=>some (QK false o v2 h3 f4)
theorem ZeO {C:Cfg}{x0:AV}:RunT C ML Fe [x0] (fun K=>FQ C.G K C.L x0):=runT (P := Zjk) rfl fun _ _=>by kernel_rfl
def EI (G:GT)(K:KT)(L:Nat)(x0:AV)(o:HP):KR :=
  Zf (Za .eql .prim (AV.ro x0) (.str [97,100,100])) fun v0=>ifK v0 (ifK v0 (Yn o (.bool true) o none) (Yn o (.bool false) o none)) (Zf (Za .eql .prim (AV.ro x0) (.str [97,102,116,101,114])) fun v1=>ifK v1 (ifK v1 (Yn o (.bool true) o none) (Yn o (.bool false) o none)) (Zf (Za .eql .prim (AV.ro x0) (.str [97,110,100])) fun v2=>ifK v2 (ifK v2 (Yn o (.bool true) o none) (Yn o (.bool false) o none)) (Zf (Za .eql .prim (AV.ro x0) (.str [97,116])) fun v3=>ifK v3 (ifK v3 (Yn o (.bool true) o none) (Yn o (.bool false) o none)) (Zf (Za .eql .prim (AV.ro x0) (.str [98,101,108,116])) fun v4=>ifK v4 (ifK v4 (Yn o (.bool true) o none) (Yn o (.bool false) o none)) (Zf (Za .eql .prim (AV.ro x0) (.str [98,111,111,108])) fun v5=>ifK v5 (ifK v5 (Yn o (.bool true) o none) (Yn o (.bool false) o none)) (Zf (Za .eql .prim (AV.ro x0) (.str [99,111,110,115,101,114,118,101])) fun v6=>ifK v6 (ifK v6 (Yn o (.bool true) o none) (Yn o (.bool false) o none)) (Zf (Za .eql .prim (AV.ro x0) (.str [99,111,110,115,116])) fun v7=>ifK v7 (ifK v7 (Yn o (.bool true) o none) (Yn o (.bool false) o none)) (Zf (Za .eql .prim (AV.ro x0) (.str [99,111,117,110,116])) fun v8=>ifK v8 (ifK v8 (Yn o (.bool true) o none) (Yn o (.bool false) o none)) (Zf (Za .eql .prim (AV.ro x0) (.str [99,121,99,108,101])) fun v9=>ifK v9 (ifK v9 (Yn o (.bool true) o none) (Yn o (.bool false) o none)) (Zf (Za .eql .prim (AV.ro x0) (.str [100,111,119,110])) fun v10=>ifK v10 (ifK v10 (Yn o (.bool true) o none) (Yn o (.bool false) o none)) (Zf (Za .eql .prim (AV.ro x0) (.str [100,114,97,119])) fun v11=>ifK v11 (ifK v11 (Yn o (.bool true) o none) (Yn o (.bool false) o none)) (Zf (Za .eql .prim (AV.ro x0) (.str [100,117,114])) fun v12=>ifK v12 (ifK v12 (Yn o (.bool true) o none) (Yn o (.bool false) o none)) (Zf (Za .eql .prim (AV.ro x0) (.str [101,108,115,101])) fun v13=>ifK v13 (ifK v13 (Yn o (.bool true) o none) (Yn o (.bool false) o none)) (Zf (Za .eql .prim (AV.ro x0) (.str [101,110,100])) fun v14=>ifK v14 (ifK v14 (Yn o (.bool true) o none) (Yn o (.bool false) o none)) (Zf (Za .eql .prim (AV.ro x0) (.str [101,118,101,114,121])) fun v15=>ifK v15 (ifK v15 (Yn o (.bool true) o none) (Yn o (.bool false) o none)) (Zf (Za .eql .prim (AV.ro x0) (.str [102,97,108,115,101])) fun v16=>ifK v16 (ifK v16 (Yn o (.bool true) o none) (Yn o (.bool false) o none)) (Zf (Za .eql .prim (AV.ro x0) (.str [102,97,117,108,116])) fun v17=>ifK v17 (ifK v17 (Yn o (.bool true) o none) (Yn o (.bool false) o none)) (Zf (Za .eql .prim (AV.ro x0) (.str [102,105,102,111])) fun v18=>ifK v18 (ifK v18 (Yn o (.bool true) o none) (Yn o (.bool false) o none)) (Zf (Za .eql .prim (AV.ro x0) (.str [102,114,101,101])) fun v19=>ifK v19 (ifK v19 (Yn o (.bool true) o none) (Yn o (.bool false) o none)) (Zf (Za .eql .prim (AV.ro x0) (.str [102,114,111,109])) fun v20=>ifK v20 (ifK v20 (Yn o (.bool true) o none) (Yn o (.bool false) o none)) (Zf (Za .eql .prim (AV.ro x0) (.str [103,101,111,109])) fun v21=>ifK v21 (ifK v21 (Yn o (.bool true) o none) (Yn o (.bool false) o none)) (Zf (Za .eql .prim (AV.ro x0) (.str [103,101,116])) fun v22=>ifK v22 (ifK v22 (Yn o (.bool true) o none) (Yn o (.bool false) o none)) (Zf (Za .eql .prim (AV.ro x0) (.str [104,111,108,100])) fun v23=>ifK v23 (ifK v23 (Yn o (.bool true) o none) (Yn o (.bool false) o none)) (Zf (Za .eql .prim (AV.ro x0) (.str [105,102])) fun v24=>ifK v24 (ifK v24 (Yn o (.bool true) o none) (Yn o (.bool false) o none)) (Zf (Za .eql .prim (AV.ro x0) (.str [105,110,116])) fun v25=>ifK v25 (ifK v25 (Yn o (.bool true) o none) (Yn o (.bool false) o none)) (Zf (Za .eql .prim (AV.ro x0) (.str [105,110,116,111])) fun v26=>ifK v26 (ifK v26 (Yn o (.bool true) o none) (Yn o (.bool false) o none)) (Zf (Za .eql .prim (AV.ro x0) (.str [108,101,97,115,116])) fun v27=>ifK v27 (ifK v27 (Yn o (.bool true) o none) (Yn o (.bool false) o none)) (Zf (Za .eql .prim (AV.ro x0) (.str [108,101,118,101,108])) fun v28=>ifK v28 (ifK v28 (Yn o (.bool true) o none) (Yn o (.bool false) o none)) (Zf (Za .eql .prim (AV.ro x0) (.str [108,105,102,111])) fun v29=>ifK v29 (ifK v29 (Yn o (.bool true) o none) (Yn o (.bool false) o none)) (Zf (Za .eql .prim (AV.ro x0) (.str [108,105,110,107])) fun v30=>ifK v30 (ifK v30 (Yn o (.bool true) o none) (Yn o (.bool false) o none)) (Zf (Za .eql .prim (AV.ro x0) (.str [108,111,99,97,108])) fun v31=>ifK v31 (ifK v31 (Yn o (.bool true) o none) (Yn o (.bool false) o none)) (Zf (Za .eql .prim (AV.ro x0) (.str [109,97,120])) fun v32=>ifK v32 (ifK v32 (Yn o (.bool true) o none) (Yn o (.bool false) o none)) (Zf (Za .eql .prim (AV.ro x0) (.str [109,105,110])) fun v33=>ifK v33 (ifK v33 (Yn o (.bool true) o none) (Yn o (.bool false) o none)) (Zf (Za .eql .prim (AV.ro x0) (.str [109,111,100,101,108])) fun v34=>ifK v34 (ifK v34 (Yn o (.bool true) o none) (Yn o (.bool false) o none)) (Zf (Za .eql .prim (AV.ro x0) (.str [110,111,116])) fun v35=>ifK v35 (ifK v35 (Yn o (.bool true) o none) (Yn o (.bool false) o none)) (Zf (Za .eql .prim (AV.ro x0) (.str [110,111,119])) fun v36=>ifK v36 (ifK v36 (Yn o (.bool true) o none) (Yn o (.bool false) o none)) (Zf (Za .eql .prim (AV.ro x0) (.str [111,98,115,101,114,118,101])) fun v37=>ifK v37 (ifK v37 (Yn o (.bool true) o none) (Yn o (.bool false) o none)) (Zf (Za .eql .prim (AV.ro x0) (.str [111,114])) fun v38=>ifK v38 (ifK v38 (Yn o (.bool true) o none) (Yn o (.bool false) o none)) (Zf (Za .eql .prim (AV.ro x0) (.str [112,97,114,97,109])) fun v39=>ifK v39 (ifK v39 (Yn o (.bool true) o none) (Yn o (.bool false) o none)) (Zf (Za .eql .prim (AV.ro x0) (.str [112,114,101,101,109,112,116])) fun v40=>ifK v40 (ifK v40 (Yn o (.bool true) o none) (Yn o (.bool false) o none)) (Zf (Za .eql .prim (AV.ro x0) (.str [112,114,105,111])) fun v41=>ifK v41 (ifK v41 (Yn o (.bool true) o none) (Yn o (.bool false) o none)) (Zf (Za .eql .prim (AV.ro x0) (.str [112,117,116])) fun v42=>ifK v42 (ifK v42 (Yn o (.bool true) o none) (Yn o (.bool false) o none)) (Zf (Za .eql .prim (AV.ro x0) (.str [113,117,101,117,101])) fun v43=>ifK v43 (ifK v43 (Yn o (.bool true) o none) (Yn o (.bool false) o none)) (Zf (Za .eql .prim (AV.ro x0) (.str [114,101,108,101,97,115,101])) fun v44=>ifK v44 (ifK v44 (Yn o (.bool true) o none) (Yn o (.bool false) o none)) (Zf (Za .eql .prim (AV.ro x0) (.str [114,101,115,111,117,114,99,101])) fun v45=>ifK v45 (ifK v45 (Yn o (.bool true) o none) (Yn o (.bool false) o none)) (Zf (Za .eql .prim (AV.ro x0) (.str [114,105,100,101])) fun v46=>ifK v46 (ifK v46 (Yn o (.bool true) o none) (Yn o (.bool false) o none)) (Zf (Za .eql .prim (AV.ro x0) (.str [114,111,117,116,105,110,101])) fun v47=>ifK v47 (ifK v47 (Yn o (.bool true) o none) (Yn o (.bool false) o none)) (Zf (Za .eql .prim (AV.ro x0) (.str [115,101,105,122,101])) fun v48=>ifK v48 (ifK v48 (Yn o (.bool true) o none) (Yn o (.bool false) o none)) (Zf (Za .eql .prim (AV.ro x0) (.str [115,101,110,100])) fun v49=>ifK v49 (ifK v49 (Yn o (.bool true) o none) (Yn o (.bool false) o none)) (Zf (Za .eql .prim (AV.ro x0) (.str [115,101,116])) fun v50=>ifK v50 (ifK v50 (Yn o (.bool true) o none) (Yn o (.bool false) o none)) (Zf (Za .eql .prim (AV.ro x0) (.str [115,104,105,102,116])) fun v51=>ifK v51 (ifK v51 (Yn o (.bool true) o none) (Yn o (.bool false) o none)) (Zf (Za .eql .prim (AV.ro x0) (.str [115,105,103,110,97,108])) fun v52=>ifK v52 (ifK v52 (Yn o (.bool true) o none) (Yn o (.bool false) o none)) (Zf (Za .eql .prim (AV.ro x0) (.str [115,105,116,101])) fun v53=>ifK v53 (ifK v53 (Yn o (.bool true) o none) (Yn o (.bool false) o none)) (Zf (Za .eql .prim (AV.ro x0) (.str [115,105,122,101])) fun v54=>ifK v54 (ifK v54 (Yn o (.bool true) o none) (Yn o (.bool false) o none)) (Zf (Za .eql .prim (AV.ro x0) (.str [115,112,97,119,110])) fun v55=>ifK v55 (ifK v55 (Yn o (.bool true) o none) (Yn o (.bool false) o none)) (Zf (Za .eql .prim (AV.ro x0) (.str [115,116,97,114,116])) fun v56=>ifK v56 (ifK v56 (Yn o (.bool true) o none) (Yn o (.bool false) o none)) (Zf (Za .eql .prim (AV.ro x0) (.str [115,116,111,112])) fun v57=>ifK v57 (ifK v57 (Yn o (.bool true) o none) (Yn o (.bool false) o none)) (Zf (Za .eql .prim (AV.ro x0) (.str [115,116,111,114,101])) fun v58=>ifK v58 (ifK v58 (Yn o (.bool true) o none) (Yn o (.bool false) o none)) (Zf (Za .eql .prim (AV.ro x0) (.str [115,116,114,101,97,109])) fun v59=>ifK v59 (ifK v59 (Yn o (.bool true) o none) (Yn o (.bool false) o none)) (Zf (Za .eql .prim (AV.ro x0) (.str [115,117,109])) fun v60=>ifK v60 (ifK v60 (Yn o (.bool true) o none) (Yn o (.bool false) o none)) (Zf (Za .eql .prim (AV.ro x0) (.str [116,97,98,108,101])) fun v61=>ifK v61 (ifK v61 (Yn o (.bool true) o none) (Yn o (.bool false) o none)) (Zf (Za .eql .prim (AV.ro x0) (.str [116,97,108,108,121])) fun v62=>ifK v62 (ifK v62 (Yn o (.bool true) o none) (Yn o (.bool false) o none)) (Zf (Za .eql .prim (AV.ro x0) (.str [116,105,99,107,115])) fun v63=>ifK v63 (ifK v63 (Yn o (.bool true) o none) (Yn o (.bool false) o none)) (Zf (Za .eql .prim (AV.ro x0) (.str [116,105,109,101])) fun v64=>ifK v64 (ifK v64 (Yn o (.bool true) o none) (Yn o (.bool false) o none)) (Zf (Za .eql .prim (AV.ro x0) (.str [116,114,117,101])) fun v65=>ifK v65 (ifK v65 (Yn o (.bool true) o none) (Yn o (.bool false) o none)) (Zf (Za .eql .prim (AV.ro x0) (.str [117,110,105,102,111,114,109])) fun v66=>ifK v66 (ifK v66 (Yn o (.bool true) o none) (Yn o (.bool false) o none)) (Zf (Za .eql .prim (AV.ro x0) (.str [117,110,116,105,108])) fun v67=>ifK v67 (ifK v67 (Yn o (.bool true) o none) (Yn o (.bool false) o none)) (Zf (Za .eql .prim (AV.ro x0) (.str [117,112])) fun v68=>ifK v68 (ifK v68 (Yn o (.bool true) o none) (Yn o (.bool false) o none)) (Zf (Za .eql .prim (AV.ro x0) (.str [118,97,114])) fun v69=>ifK v69 (ifK v69 (Yn o (.bool true) o none) (Yn o (.bool false) o none)) (Zf (Za .eql .prim (AV.ro x0) (.str [119,97,105,116])) fun v70=>ifK v70 (ifK v70 (Yn o (.bool true) o none) (Yn o (.bool false) o none)) (Zf (Za .eql .prim (AV.ro x0) (.str [119,97,105,116,105,110,103])) fun v71=>ifK v71 (ifK v71 (Yn o (.bool true) o none) (Yn o (.bool false) o none)) (Zf (Za .eql .prim (AV.ro x0) (.str [119,104,105,108,101])) fun v72=>ifK v72 (Yn o (.bool true) o none) (Yn o (.bool false) o none)))))))))))))))))))))))))))))))))))))))))))))))))))))))))))))))))))))))))
theorem Zdt {C:Cfg}{x0:AV}:RunT C RH Ef [x0] (fun K=>EI C.G K C.L x0):=runT (P := Zhy) rfl fun _ _=>by kernel_rfl
def ZdE (G:GT)(K:KT)(L:Nat)(x0:AV)(o:HP):KR :=
  Zf (Za .geq .prim (AV.ro x0) (.int .u8 97)) fun v0=>Wx v0 true (Zf (Za .leq .prim (AV.ro x0) (.int .u8 122)) fun v1=>some (v1,o,none)) (some (.bool false)) o none fun v2 h3 f4=>some (QK false o v2 h3 f4)
theorem Zjo {C:Cfg}{x0:AV}:RunT C BX Zd2 [x0] (fun K=>ZdE C.G K C.L x0):=runT (P := Znh) rfl fun _ _=>by kernel_rfl
def ZbJ (G:GT)(K:KT)(L:Nat)(x0:AV)(o:HP):KR :=
  WC (K MM [] o) fun v0 h1 f2=>WC (K Zcp [(AV.ro v0),(AV.ro x0)] h1) fun v3 h4 f5=>Zf (Za .geq .prim (AV.ro v3) (.int .i64 0)) fun v6=>some (QK false o v6 h4 (Zm o.length (Zm o.length none f2) f5))
theorem Zh2 {C:Cfg}{x0:AV}:RunT C PL Zbn [x0] (fun K=>ZbJ C.G K C.L x0):=runT (P := Zll) rfl fun _ _=>by kernel_rfl
def ZdB (G:GT)(K:KT)(L:Nat)(x0:AV)(o:HP):KR :=
  Zf (Ug 20 (AV.ro x0)) fun v1=>Jt (o ++ [.cells v1 Yb]) fun h0=>Zf ((G 0).map AV.ref) fun g2=>Zf (QO h0 g2) fun v3=>ldF h0 0 (.ptr (o).length 0) fun v5=>Zf (YN (.slice 9) v3 v5) fun v6=>Zf (Zx h0 9 v6) fun v7=>Jt (h0 ++ [.cells [(.str []),(.int .i64 0),(.int .i64 0),(.bool false),(.bool false),(.bool false),(.bool false),(.bool false),(.bool false)] YQ]) fun h8=>DT (stV o.length 9 (.ptr (h0).length 0) v7 h8 none) fun h9 f10=>ldF h9 1 (.ptr (h0).length 0) fun v12=>Zf (Za .neq .prim v12 (.int .i64 0)) fun v13=>Wx v13 false (ldF h9 1 (.ptr (o).length 0) fun v15=>Zf (Za .eql .prim v15 (.int .i64 0)) fun v16=>some (v16,h9,f10)) (some (.bool true)) h9 f10 fun v17 h18 f19=>Wx (AV.ro v17) true (ldF h18 2 (.ptr (h0).length 0) fun v21=>Zf (Za .neq .prim v21 (.int .i64 0)) fun v22=>Wx v22 false (ldF h18 2 (.ptr (o).length 0) fun v24=>Zf (Za .eql .prim v24 (.int .i64 0)) fun v25=>some (v25,h18,f19)) (some (.bool true)) h18 f19 fun v26 h27 f28=>some ((AV.ro v26),h27,f28)) (some (.bool false)) h18 f19 fun v29 h30 f31=>Wx (AV.ro v29) true (ldF h30 3 (.ptr (h0).length 0) fun v33=>Wx v33 false (ldF h30 3 (.ptr (o).length 0) fun v35=>Zf (Za .eql .prim v35 (.int .i64 0)) fun v36=>some (v36,h30,f31)) (some (.bool true)) h30 f31 fun v37 h38 f39=>some ((AV.ro v37),h38,f39)) (some (.bool false)) h30 f31 fun v40 h4 f42=>Wx (AV.ro v40) true (ldF h4 4 (.ptr (h0).length 0) fun v44=>Wx v44 false (Zf (KQ 4 (.ptr (o).length 0)) fun v45=>Zf (Zx h4 4 v45) fun v46=>WC (K PH [v46] h4) fun v47 h48 f49=>some ((AV.ro v47),h48,(Zm o.length f42 f49))) (some (.bool true)) h4 f42 fun v50 h11 f52=>some ((AV.ro v50),h11,f52)) (some (.bool false)) h4 f42 fun v53 h14 f55=>Wx (AV.ro v53) true (ldF h14 5 (.ptr (h0).length 0) fun v57=>Wx v57 false (Zf (KQ 8 (.ptr (o).length 0)) fun v58=>Zf (Zx h14 4 v58) fun v59=>WC (K PH [v59] h14) fun v60 h20 f62=>some ((AV.ro v60),h20,(Zm o.length f55 f62))) (some (.bool true)) h14 f55 fun v63 h64 f65=>some ((AV.ro v63),h64,f65)) (some (.bool false)) h14 f55 fun v66 h23 f68=>Wx (AV.ro v66) true (ldF h23 6 (.ptr (h0).length 0) fun v70=>Wx v70 false (ldF h23 12 (.ptr (o).length 0) fun v72=>Zf (ZQ h23 .slice v72) fun v73=>Zf (Za .eql .prim v73 (.int .i64 0)) fun v74=>some (v74,h23,f68)) (some (.bool true)) h23 f68 fun v75 h32 f77=>some ((AV.ro v75),h32,f77)) (some (.bool false)) h23 f68 fun v78 h34 f80=>Wx (AV.ro v78) true (ldF h34 7 (.ptr (h0).length 0) fun v82=>Wx v82 false (Zf (KQ 13 (.ptr (o).length 0)) fun v83=>Zf (Zx h34 6 v83) fun v84=>Zf (fill [(.int .i64 0),(.int .i64 0),(.int .i64 0),(.int .i64 0),(.own 1 []),(.own 1 [])] []) fun v85=>WC (K CJ [v84,(.agg v85)] h34) fun v86 h87 f88=>some ((AV.ro v86),h87,(Zm o.length f80 f88))) (some (.bool true)) h34 f80 fun v89 h41 f91=>some ((AV.ro v89),h41,f91)) (some (.bool false)) h34 f80 fun v43 h51 f94=>Wx (AV.ro v43) true (ldF h51 8 (.ptr (h0).length 0) fun v54=>Wx v54 false (ldF h51 19 (.ptr (o).length 0) fun v56=>Zf (Qg .not v56) fun v61=>some (v61,h51,f94)) (some (.bool true)) h51 f94 fun v67 h69 f102=>some ((AV.ro v67),h69,f102)) (some (.bool false)) h51 f94 fun v71 h76 f105=>some (QK false o v71 h76 f105)
theorem ZiP {C:Cfg}{x0:AV}:RunT C SG Zdz [x0] (fun K=>ZdB C.G K C.L x0):=runT (P := Zne) rfl fun _ _=>by kernel_rfl
def Tn (G:GT)(K:KT)(L:Nat)(x0 x1 x2 x3:AV)(o:HP):KR :=
  Zf (Ug 8 (AV.ro x0)) fun v1=>Jt (o ++ [.cells v1 Yr]) fun h0=>Zf (Za .geq .prim (AV.ro x2) (.int .i64 0)) fun v2=>Wx v2 true (Zf (Zx h0 8 (.ptr (o).length 0)) fun v3=>WC (K Jc [v3,(AV.ro x1),(AV.ro x3)] h0) fun v4 h5 f6=>Zf (Za .lss .prim (AV.ro x2) (AV.ro v4)) fun v7=>some (v7,h5,(Zm o.length none f6))) (some (.bool false)) h0 none fun v8 h9 f10=>some (QK false o v8 h9 f10)
theorem Am {C:Cfg}{x0 x1 x2 x3:AV}:RunT C Qa Df [x0,x1,x2,x3] (fun K=>Tn C.G K C.L x0 x1 x2 x3):=runT (P := Zcd) rfl fun _ _=>by kernel_rfl
def NS (G:GT)(K:KT)(L:Nat)(x0:AV)(o:HP):KR :=
  Zf (Ug 4 (AV.ro x0)) fun v1=>Jt (o ++ [.cells v1 Zv]) fun h0=>Zf (fill [(.bool false)] [(0,1,AV.nm (.bool true))]) fun v2=>Zf (Zx h0 4 (.ptr (o).length 0)) fun v3=>WC (K IR [(.agg v2),v3] h0) fun v4 h5 f6=>some (QK false o v4 h5 (Zm o.length none f6))
theorem ZbU {C:Cfg}{x0:AV}:RunT C LJ ND [x0] (fun K=>NS C.G K C.L x0):=runT (P := ZeQ) rfl fun _ _=>by kernel_rfl
def ZP (G:GT)(K:KT)(L:Nat)(o:HP)(x2:AV)(x3:AV)(x5:AV)(q:HP)(g:Eff):KR :=
  Wx x5 true (ldF q 3 x3 fun v5=>WC (K WY [v5,(.fn WI [] [x2])] q) fun v6 h7 f8=>Zf (Qg .not (AV.ro v6)) fun v9=>some (v9,h7,(Zm o.length g f8))) (some (.bool false)) q g fun v10 h11 f12=>some (QK false o v10 h11 f12)
theorem DK :Yu G 50 o.length K Xg L TS (Wn Xg Xe o) (Wn Xg Xe o) []=fun e q g=>ZP G K L o (e 2).rd (e 3).rd (e 5).rd q g:=by kernel_rfl
def YD (G:GT)(K:KT)(L:Nat)(x0 x1:AV)(o:HP):KR :=
  Zf (Ug 8 (AV.ro x0)) fun v1=>Jt (o ++ [.cells v1 Yr]) fun h0=>Zf (Ug 4 (AV.ro x1)) fun v3=>Jt (h0 ++ [.cells v3 Zv]) fun h2=>ldF h2 0 (.ptr (h0).length 0) fun v14=>Zf (Za .eql .prim v14 (.int .i64 25)) fun v15=>ifK v15 (Zf (Zx h2 8 (.ptr (o).length 0)) fun v16=>ldF h2 2 (.ptr (h0).length 0) fun v18=>WC (K Qa [v16,(.int .i64 1),v18,(.int .i64 0)] h2) fun v19 h20 f21=>ZP G K L o  (.ptr (o).length 0) (.ptr (h0).length 0) (AV.ro v19) h20 (Zm o.length none f21)) (Zf (Za .eql .prim v14 (.int .i64 26)) fun v22=>ifK v22 (Zf (Zx h2 8 (.ptr (o).length 0)) fun v23=>ldF h2 2 (.ptr (h0).length 0) fun v25=>WC (K Qa [v23,(.int .i64 2),v25,(.int .i64 0)] h2) fun v26 h27 f28=>ZP G K L o  (.ptr (o).length 0) (.ptr (h0).length 0) (AV.ro v26) h27 (Zm o.length none f28)) (Zf (Za .eql .prim v14 (.int .i64 22)) fun v29=>ifK v29 (Zf (Zx h2 8 (.ptr (o).length 0)) fun v30=>ldF h2 2 (.ptr (h0).length 0) fun v32=>WC (K Qa [v30,(.int .i64 5),v32,(.int .i64 0)] h2) fun v33 h34 f35=>ZP G K L o  (.ptr (o).length 0) (.ptr (h0).length 0) (AV.ro v33) h34 (Zm o.length none f35)) (Zf (Za .eql .prim v14 (.int .i64 23)) fun v36=>ifK v36 (Zf (Zx h2 8 (.ptr (o).length 0)) fun v37=>ldF h2 2 (.ptr (h0).length 0) fun v39=>WC (K Qa [v37,(.int .i64 6),v39,(.int .i64 0)] h2) fun v40 h4 f42=>ZP G K L o  (.ptr (o).length 0) (.ptr (h0).length 0) (AV.ro v40) h4 (Zm o.length none f42)) (Zf (Za .eql .prim v14 (.int .i64 24)) fun v43=>ifK v43 (ldF h2 2 (.ptr (h0).length 0) fun v45=>Zf (Zx h2 8 (.ptr (o).length 0)) fun v46=>WC (Wl K Jc [v46,(.int .i64 5),(.int .i64 0)] h2) fun v47 h48 f49=>Zf (Zx h48 8 (.ptr (o).length 0)) fun v50=>WC (Wl K Jc [v50,(.int .i64 8),(.int .i64 0)] h48) fun v51 h5 f53=>Zf (Za .add .prim (AV.ro v47) (AV.ro v51)) fun v54=>Zf (Za .lss .prim v45 v54) fun v55=>ZP G K L o  (.ptr (o).length 0) (.ptr (h0).length 0) v55 h5 (Zm o.length (Zm o.length none f49) f53)) (ZP G K L o  (.ptr (o).length 0) (.ptr (h0).length 0) (.bool true) h2 none)))))
theorem Sz (x0 x1:AV) :fnK G K Xg L Xe [x0,x1] o=YD G K L x0 x1 o:=by
 show Yu G 50 o.length K Xg L IX (Wn Xg Xe o) (Wn Xg Xe o) [] (NE [x0,x1]) o none=_
 simp only [IX,Y4,ZY,ZZ,Yi]
 rw [DK G K L o]
 kernel_rfl
theorem SS {C:Cfg}{x0 x1:AV}:RunT C YT Xe [x0,x1] (fun K=>YD C.G K C.L x0 x1):=runT rfl fun _ _=>Sz ..
def ZdD (G:GT)(K:KT)(L:Nat)(x0:AV)(o:HP):KR :=
  Zf (Ug 6 (AV.ro x0)) fun v1=>Jt (o ++ [.cells v1 Jq]) fun h0=>Zf (Zx h0 6 (.ptr (o).length 0)) fun v2=>WC (K PI [v2] h0) fun v3 h4 f5=>Zf (Qg .not (AV.ro v3)) fun v6=>ifK v6 (Yn o (.int .i64 1) h4 (Zm o.length none f5)) (ldF h4 0 (.ptr (o).length 0) fun v8=>Zf (Za .eql .prim v8 (.int .i64 1)) fun v9=>ifK v9 (ldF h4 1 (.ptr (o).length 0) fun v11=>DT (ZeN Dv 1 [v11] h4) fun v12 h13=>WC (K VF [(.int .i64 0),(.int .i64 1000000000),(AV.ro v12)] h13) fun v14 h15 f16=>Zf (Qg .not (AV.ro v14)) fun v17=>ifK v17 (Yn o (.int .i64 2) h15 (Zm o.length (Zm o.length none f5) f16)) (Yn o (.int .i64 0) h15 (Zm o.length (Zm o.length none f5) f16))) (Zf (Za .eql .prim v8 (.int .i64 2)) fun v18=>ifK v18 (ldF h4 1 (.ptr (o).length 0) fun v20=>ldF h4 2 (.ptr (o).length 0) fun v22=>DT (ZeN Dv 1 [v20,v22] h4) fun v23 h24=>WC (K VF [(.int .i64 0),(.int .i64 1000000000),(AV.ro v23)] h24) fun v25 h26 f27=>Wx (AV.ro v25) true (ldF h26 1 (.ptr (o).length 0) fun v29=>ldF h26 2 (.ptr (o).length 0) fun v31=>Zf (Za .leq .prim v29 v31) fun v32=>some (v32,h26,(Zm o.length (Zm o.length none f5) f27))) (some (.bool false)) h26 (Zm o.length (Zm o.length none f5) f27) fun v33 h34 f35=>Zf (Qg .not (AV.ro v33)) fun v36=>ifK v36 (Yn o (.int .i64 2) h34 f35) (Yn o (.int .i64 0) h34 f35)) (Zf (Za .eql .prim v8 (.int .i64 4)) fun v37=>ifK v37 (ldF h4 3 (.ptr (o).length 0) fun v39=>DT (ZeN Dv 1 [v39] h4) fun v40 h7=>WC (K VF [(.int .i64 1),(.int .i64 20),(AV.ro v40)] h7) fun v42 h43 f44=>Wx (AV.ro v42) true (ldF h43 1 (.ptr (o).length 0) fun v46=>ldF h43 2 (.ptr (o).length 0) fun v48=>DT (ZeN Dv 1 [v46,v48] h43) fun v49 h50=>WC (K VF [(.int .i64 0),(.int .i64 1000000),(AV.ro v49)] h50) fun v51 h10 f53=>some ((AV.ro v51),h10,(Zm o.length (Zm o.length (Zm o.length none f5) f44) f53))) (some (.bool false)) h43 (Zm o.length (Zm o.length none f5) f44) fun v54 h19 f56=>Wx (AV.ro v54) true (ldF h19 1 (.ptr (o).length 0) fun v58=>ldF h19 2 (.ptr (o).length 0) fun v60=>Zf (Za .leq .prim v58 v60) fun v61=>some (v61,h19,f56)) (some (.bool false)) h19 f56 fun v62 h63 f64=>Zf (Qg .not (AV.ro v62)) fun v65=>ifK v65 (Yn o (.int .i64 2) h63 f64) (Yn o (.int .i64 0) h63 f64)) (Zf (Za .eql .prim v8 (.int .i64 5)) fun v66=>ifK v66 (ldF h4 1 (.ptr (o).length 0) fun v68=>ldF h4 2 (.ptr (o).length 0) fun v70=>DT (ZeN Dv 1 [v68,v70] h4) fun v71 h72=>WC (K VF [(.int .i64 1),(.int .i64 1000),(AV.ro v71)] h72) fun v73 h21 f75=>Zf (Qg .not (AV.ro v73)) fun v76=>ifK v76 (Yn o (.int .i64 2) h21 (Zm o.length (Zm o.length none f5) f75)) (Yn o (.int .i64 0) h21 (Zm o.length (Zm o.length none f5) f75))) (Zf (Za .eql .prim v8 (.int .i64 3)) fun v77=>ifK v77 (ldF h4 4 (.ptr (o).length 0) fun v79=>Zf (ZQ h4 .slice v79) fun v80=>ldF h4 5 (.ptr (o).length 0) fun v82=>Zf (ZQ h4 .slice v82) fun v83=>Zf (Za .neq .prim v80 v83) fun v84=>ifK v84 (Yn o (.int .i64 8) h4 (Zm o.length none f5)) (Zf (Za .eql .prim v80 (.int .i64 0)) fun v85=>ifK v85 (Yn o (.int .i64 7) h4 (Zm o.length none f5)) (Zf (Za .gtr .prim v80 (.int .i64 20)) fun v86=>ifK v86 (Yn o (.int .i64 6) h4 (Zm o.length none f5)) (ldF h4 4 (.ptr (o).length 0) fun v28=>WC (K VF [(.int .i64 0),(.int .i64 1000000000),v28] h4) fun v89 h30 f91=>Wx (AV.ro v89) true (ldF h30 5 (.ptr (o).length 0) fun v93=>WC (K VF [(.int .i64 1),(.int .i64 1000),v93] h30) fun v38 h95 f96=>some ((AV.ro v38),h95,(Zm o.length (Zm o.length (Zm o.length none f5) f91) f96))) (some (.bool false)) h30 (Zm o.length (Zm o.length none f5) f91) fun v41 h45 f99=>Zf (Qg .not (AV.ro v41)) fun v47=>ifK v47 (Yn o (.int .i64 2) h45 f99) (Yn o (.int .i64 0) h45 f99))))) (Zf (Qg .not (.bool false)) fun v52=>ifK v52 (Yn o (.int .i64 2) h4 (Zm o.length none f5)) (Yn o (.int .i64 0) h4 (Zm o.length none f5))))))))
theorem Zjd {C:Cfg}{x0:AV}:RunT C SH Zd1 [x0] (fun K=>ZdD C.G K C.L x0):=runT (P := Zng) rfl fun _ _=>by kernel_rfl
def ZgL (G:GT)(K:KT)(L:Nat)(x0:AV)(o:HP):KR :=
  Zf (Za .geq .prim (AV.ro x0) (.int .i64 1)) fun v0=>Wx v0 true (Zf (Za .leq .prim (AV.ro x0) (.int .i64 19)) fun v1=>some (v1,o,none)) (some (.bool false)) o none fun v2 h3 f4=>some (QK false o v2 h3 f4)
theorem Zl1 {C:Cfg}{x0:AV}:RunT C PP Zf6 [x0] (fun K=>ZgL C.G K C.L x0):=runT (P := Zpi) rfl fun _ _=>by kernel_rfl
def WE (G:GT)(K:KT)(L:Nat)(o:HP)(x1:AV)(x3:AV)(q:HP)(g:Eff):KR :=
  ldF q 8 x3 fun v17=>Wx v17 false (Zf (KQ 13 x1) fun v18=>Zf (Zx q 6 v18) fun v19=>Zf (fill [(.int .i64 0),(.int .i64 0),(.int .i64 0),(.int .i64 0),(.own 1 []),(.own 1 [])] []) fun v20=>WC (K Zco [v19,(.agg v20)] q) fun v21 h22 f23=>some ((AV.ro v21),h22,(Zm o.length g f23))) (some (.bool true)) q g fun v24 h25 f26=>some (QK false o v24 h25 f26)
theorem Zdo :Yu G 81 o.length K UV L FP (Wn UV GG o) (Wn UV GG o) []=fun e q g=>WE G K L o (e 1).rd (e 3).rd q g:=by kernel_rfl
def WU (G:GT)(K:KT)(L:Nat)(o:HP)(x1:AV)(x3:AV)(x4:AV)(x11:AV)(q:HP)(g:Eff):KR :=
  ifK x11 (Yn o (.bool false) q g) (ldF q 4 x3 fun v28=>Zf (Qg .not v28) fun v29=>Wx v29 true (Zf (KQ 4 x1) fun v30=>Zf (Zx q 4 v30) fun v31=>Zf (Zx q 4 x4) fun v32=>WC (K Hw [v31,v32] q) fun v33 h34 f35=>Zf (Qg .not (AV.ro v33)) fun v36=>some (v36,h34,(Zm o.length g f35))) (some (.bool false)) q g fun v37 h38 f39=>ifK (AV.ro v37) (ifK (AV.ro v37) (Yn o (.bool false) h38 f39) (WE G K L o  x1 x3 h38 f39)) (ldF h38 5 x3 fun v41=>Zf (Qg .not v41) fun v42=>Wx v42 true (Zf (KQ 8 x1) fun v43=>Zf (Zx h38 4 v43) fun v44=>Zf (Zx h38 4 x4) fun v45=>WC (K Hw [v44,v45] h38) fun v46 h47 f48=>Zf (Qg .not (AV.ro v46)) fun v49=>some (v49,h47,(Zm o.length f39 f48))) (some (.bool false)) h38 f39 fun v50 h0 f52=>ifK (AV.ro v50) (ifK (AV.ro v50) (Yn o (.bool false) h0 f52) (WE G K L o  x1 x3 h0 f52)) (ldF h0 7 x3 fun v54=>Zf (Qg .not v54) fun v55=>Wx v55 true (ldF h0 12 x1 fun v57=>Zf (ZQ h0 .slice v57) fun v58=>Zf (Za .gtr .prim v58 (.int .i64 0)) fun v59=>some (v59,h0,f52)) (some (.bool false)) h0 f52 fun v60 h2 f62=>ifK (AV.ro v60) (Yn o (.bool false) h2 f62) (WE G K L o  x1 x3 h2 f62))))
theorem Zdn :Yu G 81 o.length K UV L FO (fun e q g=>(WE G K L o) (e 1).rd (e 3).rd q g) (Wn UV GG o) [(0,(fun e q g=>(WE G K L o) (e 1).rd (e 3).rd q g))]=fun e q g=>WU G K L o (e 1).rd (e 3).rd (e 4).rd (e 11).rd q g:=by kernel_rfl
def Ua (G:GT)(K:KT)(L:Nat)(x0:AV)(o:HP):KR :=
  Zf (Ug 20 (AV.ro x0)) fun v1=>Jt (o ++ [.cells v1 Yb]) fun h0=>WC (We K UF [] h0) fun v2 h3 f4=>ldF h3 0 (.ptr (o).length 0) fun v6=>Zf (YN (.slice 9) (AV.ro v2) v6) fun v7=>Zf (Zx h3 9 v7) fun v8=>Jt (h3 ++ [.cells [(.str []),(.str []),(.str []),(.bool false),(.bool false),(.bool false),(.bool false),(.bool false),(.bool false)] YA]) fun h9=>DT (stV o.length 9 (.ptr (h3).length 0) v8 h9 (Zm o.length none f4)) fun h10 f11=>Zf (fill [(.int .i64 0),(.str []),(.int .i64 0),(.own 4 [])] []) fun v12=>Jt (h10 ++ [.cells [(.int .i64 0),(.str []),(.int .i64 0),(.own 4 [])] Zv]) fun h13=>DT (stV o.length 4 (.ptr (h10).length 0) (.agg v12) h13 f11) fun h14 f15=>ldF h14 1 (.ptr (h3).length 0) fun v64=>Zf (Za .eql .prim v64 (.str [])) fun v65=>Wx v65 true (ldF h14 1 (.ptr (o).length 0) fun v67=>Zf (Za .neq .prim v67 (.int .i64 0)) fun v68=>some (v68,h14,f15)) (some (.bool false)) h14 f15 fun v69 h5 f71=>ifK (AV.ro v69) (WU G K L o  (.ptr (o).length 0) (.ptr (h3).length 0) (.ptr (h10).length 0) (AV.ro v69) h5 f71) (ldF h5 2 (.ptr (h3).length 0) fun v73=>Zf (Za .eql .prim v73 (.str [])) fun v74=>Wx v74 true (ldF h5 2 (.ptr (o).length 0) fun v76=>Zf (Za .neq .prim v76 (.int .i64 0)) fun v77=>some (v77,h5,f71)) (some (.bool false)) h5 f71 fun v78 h16 f80=>ifK (AV.ro v78) (WU G K L o  (.ptr (o).length 0) (.ptr (h3).length 0) (.ptr (h10).length 0) (AV.ro v78) h16 f80) (ldF h16 3 (.ptr (h3).length 0) fun v82=>Zf (Qg .not v82) fun v83=>Wx v83 true (ldF h16 3 (.ptr (o).length 0) fun v85=>Zf (Za .neq .prim v85 (.int .i64 0)) fun v86=>some (v86,h16,f80)) (some (.bool false)) h16 f80 fun v87 h17 f89=>ifK (AV.ro v87) (WU G K L o  (.ptr (o).length 0) (.ptr (h3).length 0) (.ptr (h10).length 0) (AV.ro v87) h17 f89) (ldF h17 6 (.ptr (h3).length 0) fun v91=>Zf (Qg .not v91) fun v18=>Wx v18 true (ldF h17 19 (.ptr (o).length 0) fun v19=>some (v19,h17,f89)) (some (.bool false)) h17 f89 fun v20 h21 f97=>WU G K L o  (.ptr (o).length 0) (.ptr (h3).length 0) (.ptr (h10).length 0) (AV.ro v20) h21 f97)))
theorem Zjb (x0:AV) :fnK G K UV L GG [x0] o=Ua G K L x0 o:=by
 show Yu G 81 o.length K UV L Za0 (Wn UV GG o) (Wn UV GG o) [] (NE [x0]) o none=_
 simp only [Za0,Y4,ZY,ZZ,Yi]
 rw [Zdo G K L o ,Zdn G K L o]
 kernel_rfl
theorem Zl2 {C:Cfg}{x0:AV}:RunT C Zaa GG [x0] (fun K=>Ua C.G K C.L x0):=runT rfl fun _ _=>Zjb ..
def UL (G:GT)(K:KT)(L:Nat)(x0 x1 x2 x3:AV)(o:HP):KR :=
  Zf (Ug 3 (AV.ro x0)) fun v1=>Jt (o ++ [.cells v1 Zy]) fun h0=>Zf (Ug 4 (AV.ro x2)) fun v3=>Jt (h0 ++ [.cells v3 Yp]) fun h2=>Zf (Ug 20 (AV.ro x3)) fun v5=>Jt (h2 ++ [.cells v5 Yb]) fun h4=>WC (We K UF [] h4) fun v6 h7 f8=>ldF h7 0 (.ptr (h2).length 0) fun v10=>Zf (YN (.slice 9) (AV.ro v6) v10) fun v11=>Zf (Zx h7 9 v11) fun v12=>Jt (h7 ++ [.cells [(.str []),(.str []),(.str []),(.bool false),(.bool false),(.bool false),(.bool false),(.bool false),(.bool false)] YA]) fun h13=>DT (stV o.length 9 (.ptr (h7).length 0) v12 h13 (Zm o.length none f8)) fun h14 f15=>Zf (Zx h14 3 (.ptr (o).length 0)) fun v16=>Zf (Zx h14 4 (.ptr (h0).length 0)) fun v17=>ldF h14 1 (.ptr (h7).length 0) fun v19=>ldF h14 1 (.ptr (h2).length 0) fun v21=>WC (K Dc [v16,(AV.ro x1),v17,v19,v21] h14) fun v22 h23 f24=>Zf (Qg .not (AV.ro v22)) fun v25=>ifK v25 (Yn o (.int .i64 2) h23 (Zm o.length f15 f24)) (ldF h23 0 (.ptr (h2).length 0) fun v27=>Zf (Za .eql .prim v27 (.int .i64 15)) fun v28=>ifK v28 (Zf (Zx h23 3 (.ptr (o).length 0)) fun v29=>Zf (Zx h23 20 (.ptr (h2).length 0)) fun v30=>WC (K PO [v29,(AV.ro x1),v30] h23) fun v31 h32 f33=>some (QK false o v31 h32 (Zm o.length (Zm o.length f15 f24) f33))) (Zf (Za .eql .prim v27 (.int .i64 14)) fun v34=>ifK v34 (Zf (Zx h23 3 (.ptr (o).length 0)) fun v35=>ldF h23 1 (.ptr (h2).length 0) fun v37=>WC (K Zfh [v35,(AV.ro x1),v37] h23) fun v38 h39 f40=>Zf (Jr (AV.ro v38) 0) fun v41=>Zf (Jr (AV.ro v38) 1) fun v42=>Zf (Qg .not v42) fun v43=>Wx v43 false (ldF h39 3 (.ptr (h2).length 0) fun v45=>Zf (Za .neq .prim v41 v45) fun v46=>some (v46,h39,(Zm o.length (Zm o.length f15 f24) f40))) (some (.bool true)) h39 (Zm o.length (Zm o.length f15 f24) f40) fun v47 h48 f49=>ifK (AV.ro v47) (Yn o (.int .i64 16) h48 f49) (Zf (Zx h48 3 (.ptr (o).length 0)) fun v50=>ldF h48 1 (.ptr (h2).length 0) fun v52=>Zf (Zx h48 20 (.ptr (h2).length 0)) fun v53=>WC (K PO [v50,v52,v53] h48) fun v54 h9 f56=>some (QK false o v54 h9 (Zm o.length f49 f56)))) (Zf (Zx h23 3 (.ptr (o).length 0)) fun v57=>Zf (Zx h23 4 (.ptr (h0).length 0)) fun v58=>ldF h23 2 (.ptr (h7).length 0) fun v60=>ldF h23 2 (.ptr (h2).length 0) fun v62=>WC (K Dc [v57,(AV.ro x1),v58,v60,v62] h23) fun v63 h64 f65=>Zf (Qg .not (AV.ro v63)) fun v66=>ifK v66 (Yn o (.int .i64 2) h64 (Zm o.length (Zm o.length f15 f24) f65)) (Yn o (.int .i64 0) h64 (Zm o.length (Zm o.length f15 f24) f65)))))
theorem Zh5 {C:Cfg}{x0 x1 x2 x3:AV}:RunT C PQ Zbo [x0,x1,x2,x3] (fun K=>UL C.G K C.L x0 x1 x2 x3):=runT (P := Zlm) rfl fun _ _=>by kernel_rfl
def Qx (G:GT)(K:KT)(L:Nat)(o:HP)(x1:AV)(x3:AV)(y4:AV)(q:HP)(g:Eff):KR :=
  ldF q 7 x3 fun v19=>ifK v19 (ldF q 12 x1 fun v21=>Zf (ZeY 4 56 y4 v21 q) fun v22=>some (QK false o v22 q g)) (some (QK false o y4 q g))
theorem Zdk :Yu G 35 o.length K Ub L FK (Wn Ub UH o) (Wn Ub UH o) []=fun e q g=>Qx G K L o (e 1).rd (e 3).rd (e 4).val q g:=by kernel_rfl
def Qw (G:GT)(K:KT)(L:Nat)(o:HP)(x1:AV)(x3:AV)(y4:AV)(q:HP)(g:Eff):KR :=
  ldF q 5 x3 fun v24=>ifK v24 (Zf (KQ 8 x1) fun v25=>Zf (Zx q 4 v25) fun v26=>DT (ZeN Zv 4 [v26] q) fun v27 h28=>Zf (ZeY 4 56 y4 (AV.ro v27) h28) fun v29=>Qx G K L o  x1 x3 v29 h28 g) (Qx G K L o  x1 x3 y4 q g)
theorem Zdj :Yu G 35 o.length K Ub L DJ (Wn Ub UH o) (Wn Ub UH o) []=fun e q g=>Qw G K L o (e 1).rd (e 3).rd (e 4).val q g:=by
 simp only [DJ,Y4,ZY,ZZ,Yi]
 rw [Zdk G K L o]
 kernel_rfl
def Jm (G:GT)(K:KT)(L:Nat)(x0:AV)(o:HP):KR :=
  Zf (Ug 20 (AV.ro x0)) fun v1=>Jt (o ++ [.cells v1 Yb]) fun h0=>ldF h0 0 (.ptr (o).length 0) fun v3=>WC (K PP [v3] h0) fun v4 h5 f6=>Zf (Qg .not (AV.ro v4)) fun v7=>ifK v7 (some (QK false o (.own 4 []) h5 (Zm o.length none f6))) (WC (We K UF [] h5) fun v8 h9 f10=>ldF h9 0 (.ptr (o).length 0) fun v12=>Zf (YN (.slice 9) (AV.ro v8) v12) fun v13=>Zf (Zx h9 9 v13) fun v14=>Jt (h9 ++ [.cells [(.str []),(.str []),(.str []),(.bool false),(.bool false),(.bool false),(.bool false),(.bool false),(.bool false)] YA]) fun h15=>DT (stV o.length 9 (.ptr (h9).length 0) v14 h15 (Zm o.length (Zm o.length none f6) f10)) fun h16 f17=>ldF h16 4 (.ptr (h9).length 0) fun v31=>ifK v31 (Zf (KQ 4 (.ptr (o).length 0)) fun v32=>Zf (Zx h16 4 v32) fun v33=>DT (ZeN Zv 4 [v33] h16) fun v34 h35=>Zf (ZeY 4 56 (.own 4 []) (AV.ro v34) h35) fun v36=>Qw G K L o  (.ptr (o).length 0) (.ptr (h9).length 0) v36 h35 f17) (Qw G K L o  (.ptr (o).length 0) (.ptr (h9).length 0) (.own 4 []) h16 f17))
theorem ZiY (x0:AV) :fnK G K Ub L UH [x0] o=Jm G K L x0 o:=by
 show Yu G 35 o.length K Ub L Zay (Wn Ub UH o) (Wn Ub UH o) [] (NE [x0]) o none=_
 simp only [Zay,Y4,ZY,ZZ,Yi]
 rw [Zdj G K L o]
 kernel_rfl
theorem Zlw {C:Cfg}{x0:AV}:RunT C CX UH [x0] (fun K=>Jm C.G K C.L x0):=runT rfl fun _ _=>ZiY ..
def EK (G:GT)(K:KT)(L:Nat)(x0:AV)(o:HP):KR :=
  Zf (Ug 4 (AV.ro x0)) fun v1=>Jt (o ++ [.cells v1 Zv]) fun h0=>Zf (Zx h0 4 (.ptr (o).length 0)) fun v2=>WC (K CV [v2,(.bool true)] h0) fun v3 h4 f5=>some (QK false o v3 h4 (Zm o.length none f5))
theorem Zdv {C:Cfg}{x0:AV}:RunT C RI Eg [x0] (fun K=>EK C.G K C.L x0):=runT (P := Zhz) rfl fun _ _=>by kernel_rfl
def Xb (G:GT)(K:KT)(L:Nat)(o:HP)(q:HP)(g:Eff):KR :=
  Yn o (.bool true) q g
theorem ZeJ :Yu G 95 o.length K X9 L Zb5 (Wn X9 Jz o) (Wn X9 Jz o) []=fun e q g=>Xb G K L o  q g:=by kernel_rfl
def JG (G:GT)(K:KT)(L:Nat)(o:HP)(k1:HP→Eff→KR):Nat→AV→AV→AV→AV→AV→HP→Eff→KR
  | 0,_,_,_,_,_,_,_=>none
  | m + 1,x1,x4,x6,x7,x10,q,g=>ldF q 3 x7 fun v15=>Zf (ZQ q .slice v15) fun v16=>Zf (Za .lss .prim x10 v16) fun v17=>ifK v17 (Zf (Zx q 3 x4) fun v18=>Zf (Zx q 4 x6) fun v19=>ldF q 3 x7 fun v21=>Zf (YN (.slice 4) v21 x10) fun v22=>Zf (Zx q 4 v22) fun v23=>WC (Wl K Oi [v18,x1,v19,v23] q) fun v24 h25 f26=>Zf (Qg .not (AV.ro v24)) fun v27=>ifK v27 (Yn o (.bool false) h25 (Zm o.length g f26)) (Zf (Za .add .prim x10 (.int .i64 1)) fun v28=>JG G K L o k1 m x1 x4 x6 x7 v28 h25 (Zm o.length g f26))) (k1  q g)
theorem ZeK (k1:HP→Eff→KR)(zn:Ig):Yu G 95 o.length K X9 L Zb6 zn (Wn X9 Jz o) [(1,(fun e q g=>k1 q g))]=fun e q g=>JG G K L o k1 L (e 1).rd (e 4).rd (e 6).rd (e 7).rd (e 10).rd q g:=lpJ (fun m e q g=>JG G K L o k1 m (e 1).rd (e 4).rd (e 6).rd (e 7).rd (e 10).rd q g) rfl (fun _=>by kernel_rfl) L
def WA (G:GT)(K:KT)(L:Nat)(o:HP)(x1:AV)(x4:AV)(x6:AV)(x7:AV)(q:HP)(g:Eff):KR :=
  JG G K L o (Xb G K L o) L x1 x4 x6 x7 (.int .i64 0) q g
theorem ZeI :Yu G 95 o.length K X9 L Nq (Wn X9 Jz o) (Wn X9 Jz o) []=fun e q g=>WA G K L o (e 1).rd (e 4).rd (e 6).rd (e 7).rd q g:=by
 simp only [Nq,Y4,ZY,ZZ,Yi]
 rw [ZeJ G K L o ,ZeK G K L o (Xb G K L o) _]
 kernel_rfl
def QE (G:GT)(K:KT)(L:Nat)(o:HP)(x1:AV)(x4:AV)(x6:AV)(x7:AV)(x9:AV)(x39:AV)(q:HP)(g:Eff):KR :=
  ifK x39 (Yn o (.bool false) q g) (ldF q 0 x7 fun v30=>Zf (Za .eql .prim v30 (.int .i64 24)) fun v31=>Wx v31 true (ldF q 2 x7 fun v33=>ldF q 2 x9 fun v35=>Zf (ZQ q .slice v35) fun v36=>ldF q 5 x9 fun v38=>Zf (ZQ q .slice v38) fun v39=>Zf (Za .add .prim v36 v39) fun v40=>Zf (Za .geq .prim v33 v40) fun v41=>some (v41,q,g)) (some (.bool false)) q g fun v42 h43 f44=>ifK (AV.ro v42) (Yn o (.bool false) h43 f44) (WA G K L o  x1 x4 x6 x7 h43 f44))
theorem ZeH :Yu G 95 o.length K X9 L Zb4 (fun e q g=>(WA G K L o) (e 1).rd (e 4).rd (e 6).rd (e 7).rd q g) (Wn X9 Jz o) [(0,(fun e q g=>(WA G K L o) (e 1).rd (e 4).rd (e 6).rd (e 7).rd q g))]=fun e q g=>QE G K L o (e 1).rd (e 4).rd (e 6).rd (e 7).rd (e 9).rd (e 39).rd q g:=by kernel_rfl
def QD (G:GT)(K:KT)(L:Nat)(o:HP)(x1:AV)(x4:AV)(x6:AV)(x7:AV)(x9:AV)(x17:AV)(q:HP)(g:Eff):KR :=
  ifK x17 (Yn o (.bool false) q g) (ldF q 0 x7 fun v46=>Zf (Za .eql .prim v46 (.int .i64 22)) fun v47=>Wx v47 true (ldF q 2 x7 fun v49=>ldF q 2 x9 fun v51=>Zf (ZQ q .slice v51) fun v52=>Zf (Za .geq .prim v49 v52) fun v53=>some (v53,q,g)) (some (.bool false)) q g fun v54 h0 f56=>ifK (AV.ro v54) (QE G K L o  x1 x4 x6 x7 x9 (AV.ro v54) h0 f56) (ldF h0 0 x7 fun v58=>Zf (Za .eql .prim v58 (.int .i64 23)) fun v59=>Wx v59 true (ldF h0 2 x7 fun v61=>ldF h0 3 x9 fun v63=>Zf (ZQ h0 .slice v63) fun v64=>Zf (Za .geq .prim v61 v64) fun v65=>some (v65,h0,f56)) (some (.bool false)) h0 f56 fun v66 h2 f68=>QE G K L o  x1 x4 x6 x7 x9 (AV.ro v66) h2 f68))
theorem ZeG :Yu G 95 o.length K X9 L Np (fun e q g=>(WA G K L o) (e 1).rd (e 4).rd (e 6).rd (e 7).rd q g) (Wn X9 Jz o) [(0,(fun e q g=>(WA G K L o) (e 1).rd (e 4).rd (e 6).rd (e 7).rd q g))]=fun e q g=>QD G K L o (e 1).rd (e 4).rd (e 6).rd (e 7).rd (e 9).rd (e 17).rd q g:=by
 simp only [Np,Y4,ZY,ZZ,Yi]
 rw [ZeH G K L o]
 kernel_rfl
def H8 (G:GT)(K:KT)(L:Nat)(x0 x1 x2 x3:AV)(o:HP):KR :=
  Zf (Ug 3 (AV.ro x0)) fun v1=>Jt (o ++ [.cells v1 Zy]) fun h0=>Zf (Ug 4 (AV.ro x2)) fun v3=>Jt (h0 ++ [.cells v3 Yp]) fun h2=>Zf (Ug 4 (AV.ro x3)) fun v5=>Jt (h2 ++ [.cells v5 Zv]) fun h4=>ldF h4 1 (.ptr (o).length 0) fun v7=>Zf (YN (.slice 14) v7 (AV.ro x1)) fun v8=>Zf (KQ 0 v8) fun v9=>Zf (Zx h4 13 v9) fun v10=>Jt (h4 ++ [.cells [(.str []),(.own 3 []),(.own 17 []),(.own 3 []),(.own 3 []),(.own 1 []),(.own 1 []),(.own 1 []),(.own 1 []),(.own 1 []),(.own 4 []),(.own 5 []),(.own 3 [])] Yz]) fun h11=>DT (stV o.length 13 (.ptr (h4).length 0) v10 h11 none) fun h12 f13=>ldF h12 0 (.ptr (h2).length 0) fun v70=>Zf (Za .eql .prim v70 (.int .i64 25)) fun v71=>Wx v71 true (ldF h12 2 (.ptr (h2).length 0) fun v73=>ldF h12 2 (.ptr (h0).length 0) fun v75=>Zf (Za .geq .prim v73 v75) fun v76=>some (v76,h12,f13)) (some (.bool false)) h12 f13 fun v77 h6 f79=>ifK (AV.ro v77) (QD G K L o  (AV.ro x1) (.ptr (o).length 0) (.ptr (h0).length 0) (.ptr (h2).length 0) (.ptr (h4).length 0) (AV.ro v77) h6 f79) (ldF h6 0 (.ptr (h2).length 0) fun v81=>Zf (Za .eql .prim v81 (.int .i64 26)) fun v82=>Wx v82 true (ldF h6 2 (.ptr (h2).length 0) fun v84=>ldF h6 1 (.ptr (h4).length 0) fun v86=>Zf (ZQ h6 .slice v86) fun v87=>Zf (Za .geq .prim v84 v87) fun v14=>some (v14,h6,f79)) (some (.bool false)) h6 f79 fun v89 h15 f91=>QD G K L o  (AV.ro x1) (.ptr (o).length 0) (.ptr (h0).length 0) (.ptr (h2).length 0) (.ptr (h4).length 0) (AV.ro v89) h15 f91)
theorem ZkH (x0 x1 x2 x3:AV) :fnK G K X9 L Jz [x0,x1,x2,x3] o=H8 G K L x0 x1 x2 x3 o:=by
 show Yu G 95 o.length K X9 L ZcB (Wn X9 Jz o) (Wn X9 Jz o) [] (NE [x0,x1,x2,x3]) o none=_
 simp only [ZcB,Y4,ZY,ZZ,Yi]
 rw [ZeI G K L o ,ZeG G K L o]
 kernel_rfl
theorem Znp {C:Cfg}{x0 x1 x2 x3:AV}:RunT C Oi Jz [x0,x1,x2,x3] (fun K=>H8 C.G K C.L x0 x1 x2 x3):=runT rfl fun _ _=>ZkH ..
def ZgF (G:GT)(K:KT)(L:Nat)(x0:AV)(o:HP):KR :=
  Zf (Ug 6 (AV.ro x0)) fun v1=>Jt (o ++ [.cells v1 Jq]) fun h0=>Zf (Zx h0 6 (.ptr (o).length 0)) fun v2=>WC (K SK [v2] h0) fun v3 h4 f5=>Zf (Qg .not (AV.ro v3)) fun v6=>ifK v6 (Yn o (.int .i64 1) h4 (Zm o.length none f5)) (ldF h4 0 (.ptr (o).length 0) fun v8=>Zf (Za .eql .prim v8 (.int .i64 1)) fun v9=>ifK v9 (ldF h4 1 (.ptr (o).length 0) fun v11=>WC (K Xz [v11,(.int .i64 0),(.int .i64 1000000000)] h4) fun v12 h13 f14=>Zf (Qg .not (AV.ro v12)) fun v15=>ifK v15 (Yn o (.int .i64 2) h13 (Zm o.length (Zm o.length none f5) f14)) (Yn o (.int .i64 0) h13 (Zm o.length (Zm o.length none f5) f14))) (Zf (Za .eql .prim v8 (.int .i64 2)) fun v16=>ifK v16 (ldF h4 1 (.ptr (o).length 0) fun v18=>ldF h4 2 (.ptr (o).length 0) fun v20=>WC (K Xz [v18,(.int .i64 0),v20] h4) fun v21 h22 f23=>Wx (AV.ro v21) true (ldF h22 2 (.ptr (o).length 0) fun v25=>Zf (Za .leq .prim v25 (.int .i64 1000000000)) fun v26=>some (v26,h22,(Zm o.length (Zm o.length none f5) f23))) (some (.bool false)) h22 (Zm o.length (Zm o.length none f5) f23) fun v27 h28 f29=>Zf (Qg .not (AV.ro v27)) fun v30=>ifK v30 (Yn o (.int .i64 2) h28 f29) (Yn o (.int .i64 0) h28 f29)) (Zf (Za .eql .prim v8 (.int .i64 3)) fun v31=>ifK v31 (Zf (Zx h4 6 (.ptr (o).length 0)) fun v32=>WC (K CS [v32] h4) fun v33 h34 f35=>some (QK false o v33 h34 (Zm o.length (Zm o.length none f5) f35))) (Zf (Za .eql .prim v8 (.int .i64 4)) fun v36=>ifK v36 (ldF h4 3 (.ptr (o).length 0) fun v38=>WC (K Xz [v38,(.int .i64 1),(.int .i64 20)] h4) fun v39 h7 f41=>Wx (AV.ro v39) true (ldF h7 1 (.ptr (o).length 0) fun v43=>ldF h7 2 (.ptr (o).length 0) fun v45=>WC (K Xz [v43,(.int .i64 0),v45] h7) fun v46 h47 f48=>some ((AV.ro v46),h47,(Zm o.length (Zm o.length (Zm o.length none f5) f41) f48))) (some (.bool false)) h7 (Zm o.length (Zm o.length none f5) f41) fun v49 h50 f51=>Wx (AV.ro v49) true (ldF h50 2 (.ptr (o).length 0) fun v53=>Zf (Za .leq .prim v53 (.int .i64 1000000)) fun v54=>some (v54,h50,f51)) (some (.bool false)) h50 f51 fun v55 h10 f57=>Zf (Qg .not (AV.ro v55)) fun v58=>ifK v58 (Yn o (.int .i64 2) h10 f57) (Yn o (.int .i64 0) h10 f57)) (Zf (Za .eql .prim v8 (.int .i64 5)) fun v59=>ifK v59 (ldF h4 1 (.ptr (o).length 0) fun v61=>WC (K Xz [v61,(.int .i64 1),(.int .i64 1000)] h4) fun v62 h63 f64=>Wx (AV.ro v62) true (ldF h63 2 (.ptr (o).length 0) fun v66=>WC (K Xz [v66,(.int .i64 1),(.int .i64 1000)] h63) fun v67 h68 f69=>some ((AV.ro v67),h68,(Zm o.length (Zm o.length (Zm o.length none f5) f64) f69))) (some (.bool false)) h63 (Zm o.length (Zm o.length none f5) f64) fun v70 h17 f72=>Zf (Qg .not (AV.ro v70)) fun v73=>ifK v73 (Yn o (.int .i64 2) h17 f72) (Yn o (.int .i64 0) h17 f72)) (Zf (Qg .not (.bool true)) fun v74=>ifK v74 (Yn o (.int .i64 2) h4 (Zm o.length none f5)) (Yn o (.int .i64 0) h4 (Zm o.length none f5))))))))
theorem Zlo {C:Cfg}{x0:AV}:RunT C CQ Zf1 [x0] (fun K=>ZgF C.G K C.L x0):=runT (P := Zpc) rfl fun _ _=>by kernel_rfl
def ZaF (G:GT)(K:KT)(L:Nat)(o:HP):KR :=
  Zf (fill [(.str []),(.str []),(.str []),(.bool false),(.bool false),(.bool false),(.bool false),(.bool false),(.bool false)] []) fun v0=>Zf (fill [(.str []),(.str []),(.str []),(.bool false),(.bool false),(.bool false),(.bool false),(.bool false),(.bool false)] [(0,1,AV.nm (.str [115,108,111,116])),(1,1,AV.nm (.str [115,108,111,116])),(4,1,AV.nm (.bool true))]) fun v1=>Zf (fill [(.str []),(.str []),(.str []),(.bool false),(.bool false),(.bool false),(.bool false),(.bool false),(.bool false)] [(0,1,AV.nm (.str [118,97,114])),(1,1,AV.nm (.str [118,97,114])),(4,1,AV.nm (.bool true))]) fun v2=>Zf (fill [(.str []),(.str []),(.str []),(.bool false),(.bool false),(.bool false),(.bool false),(.bool false),(.bool false)] [(0,1,AV.nm (.str [100,114,97,119])),(1,1,AV.nm (.str [115,108,111,116])),(2,1,AV.nm (.str [115,116,114,101,97,109])),(8,1,AV.nm (.bool true))]) fun v3=>Zf (fill [(.str []),(.str []),(.str []),(.bool false),(.bool false),(.bool false),(.bool false),(.bool false),(.bool false)] [(0,1,AV.nm (.str [106,117,109,112])),(1,1,AV.nm (.str [105,110,115,116,114]))]) fun v4=>Zf (fill [(.str []),(.str []),(.str []),(.bool false),(.bool false),(.bool false),(.bool false),(.bool false),(.bool false)] [(0,1,AV.nm (.str [98,114,97,110,99,104])),(1,1,AV.nm (.str [105,110,115,116,114])),(4,1,AV.nm (.bool true))]) fun v5=>Zf (fill [(.str []),(.str []),(.str []),(.bool false),(.bool false),(.bool false),(.bool false),(.bool false),(.bool false)] [(0,1,AV.nm (.str [104,111,108,100])),(4,1,AV.nm (.bool true))]) fun v6=>Zf (fill [(.str []),(.str []),(.str []),(.bool false),(.bool false),(.bool false),(.bool false),(.bool false),(.bool false)] [(0,1,AV.nm (.str [115,101,105,122,101])),(1,1,AV.nm (.str [114,101,115,111,117,114,99,101])),(4,1,AV.nm (.bool true)),(5,1,AV.nm (.bool true)),(6,1,AV.nm (.bool true))]) fun v7=>Zf (fill [(.str []),(.str []),(.str []),(.bool false),(.bool false),(.bool false),(.bool false),(.bool false),(.bool false)] [(0,1,AV.nm (.str [114,101,108,101,97,115,101])),(1,1,AV.nm (.str [114,101,115,111,117,114,99,101])),(4,1,AV.nm (.bool true))]) fun v8=>Zf (fill [(.str []),(.str []),(.str []),(.bool false),(.bool false),(.bool false),(.bool false),(.bool false),(.bool false)] [(0,1,AV.nm (.str [112,117,116])),(1,1,AV.nm (.str [115,116,111,114,101])),(4,1,AV.nm (.bool true))]) fun v9=>Zf (fill [(.str []),(.str []),(.str []),(.bool false),(.bool false),(.bool false),(.bool false),(.bool false),(.bool false)] [(0,1,AV.nm (.str [103,101,116])),(1,1,AV.nm (.str [115,116,111,114,101])),(2,1,AV.nm (.str [115,108,111,116]))]) fun v10=>Zf (fill [(.str []),(.str []),(.str []),(.bool false),(.bool false),(.bool false),(.bool false),(.bool false),(.bool false)] [(0,1,AV.nm (.str [114,105,100,101])),(1,1,AV.nm (.str [98,101,108,116]))]) fun v11=>Zf (fill [(.str []),(.str []),(.str []),(.bool false),(.bool false),(.bool false),(.bool false),(.bool false),(.bool false)] [(0,1,AV.nm (.str [119,97,105,116])),(1,1,AV.nm (.str [113,117,101,117,101]))]) fun v12=>Zf (fill [(.str []),(.str []),(.str []),(.bool false),(.bool false),(.bool false),(.bool false),(.bool false),(.bool false)] [(0,1,AV.nm (.str [115,105,103,110,97,108])),(1,1,AV.nm (.str [113,117,101,117,101])),(4,1,AV.nm (.bool true))]) fun v13=>Zf (fill [(.str []),(.str []),(.str []),(.bool false),(.bool false),(.bool false),(.bool false),(.bool false),(.bool false)] [(0,1,AV.nm (.str [115,101,110,100])),(1,1,AV.nm (.str [115,105,116,101])),(2,1,AV.nm (.str [114,111,117,116,105,110,101])),(3,1,AV.nm (.bool true)),(4,1,AV.nm (.bool true)),(7,1,AV.nm (.bool true))]) fun v14=>Zf (fill [(.str []),(.str []),(.str []),(.bool false),(.bool false),(.bool false),(.bool false),(.bool false),(.bool false)] [(0,1,AV.nm (.str [115,112,97,119,110])),(2,1,AV.nm (.str [114,111,117,116,105,110,101])),(4,1,AV.nm (.bool true)),(7,1,AV.nm (.bool true))]) fun v15=>Zf (fill [(.str []),(.str []),(.str []),(.bool false),(.bool false),(.bool false),(.bool false),(.bool false),(.bool false)] [(0,1,AV.nm (.str [111,98,115,101,114,118,101])),(1,1,AV.nm (.str [116,97,108,108,121])),(4,1,AV.nm (.bool true))]) fun v16=>Zf (fill [(.str []),(.str []),(.str []),(.bool false),(.bool false),(.bool false),(.bool false),(.bool false),(.bool false)] [(0,1,AV.nm (.str [108,101,118,101,108])),(1,1,AV.nm (.str [108,101,118,101,108])),(4,1,AV.nm (.bool true))]) fun v17=>Zf (fill [(.str []),(.str []),(.str []),(.bool false),(.bool false),(.bool false),(.bool false),(.bool false),(.bool false)] [(0,1,AV.nm (.str [99,111,117,110,116])),(1,1,AV.nm (.str [99,111,117,110,116])),(4,1,AV.nm (.bool true))]) fun v18=>Zf (fill [(.str []),(.str []),(.str []),(.bool false),(.bool false),(.bool false),(.bool false),(.bool false),(.bool false)] [(0,1,AV.nm (.str [101,110,100]))]) fun v19=>DT (ZeN YA 9 [(.agg v0),(.agg v1),(.agg v2),(.agg v3),(.agg v4),(.agg v5),(.agg v6),(.agg v7),(.agg v8),(.agg v9),(.agg v10),(.agg v11),(.agg v12),(.agg v13),(.agg v14),(.agg v15),(.agg v16),(.agg v17),(.agg v18),(.agg v19)] o) fun v20 h21=>some (QK false o v20 h21 none)
theorem ZiZ :fnK G K Zpf L Zac [] o=ZaF G K L o:=by kernel_rfl
theorem Zlx {C:Cfg}(h:C.T UF=some Zac){n:Nat}{q:HP}{r:AV×HP×Eff}(hr:ZaF C.G (Zb C n) C.L q=some r):Zb C (n + 1) UF [] q=some r:=Zs3 h (Nat.le_of_ble_eq_true rfl) ((ZiZ ..).trans hr)
def Ku (G:GT)(K:KT)(L:Nat)(o:HP)(q:HP)(g:Eff):KR :=
  Yn o (.bool true) q g
theorem ZaC :Yu G 27 o.length K VQ L NM (Wn VQ J9 o) (Wn VQ J9 o) []=fun e q g=>Ku G K L o  q g:=by kernel_rfl
def V8 (G:GT)(K:KT)(L:Nat)(o:HP)(k0:HP→Eff→KR):Nat→AV→AV→AV→HP→Eff→KR
  | 0,_,_,_,_,_=>none
  | m + 1,x0,x1,x5,q,g=>Zf (ZQ q .slice x0) fun v3=>Zf (Za .lss .prim x5 v3) fun v4=>ifK v4 (Zf (YN (.slice 4) x0 x5) fun v5=>Zf (Zx q 4 v5) fun v6=>Zf (YN (.slice 4) x1 x5) fun v7=>Zf (Zx q 4 v7) fun v8=>WC (Wl K Hw [v6,v8] q) fun v9 h10 f11=>Zf (Qg .not (AV.ro v9)) fun v12=>ifK v12 (Yn o (.bool false) h10 (Zm o.length g f11)) (Zf (Za .add .prim x5 (.int .i64 1)) fun v13=>V8 G K L o k0 m x0 x1 v13 h10 (Zm o.length g f11))) (k0  q g)
theorem ZaD (k0:HP→Eff→KR)(zn:Ig):Yu G 27 o.length K VQ L NP zn (Wn VQ J9 o) [(0,(fun e q g=>k0 q g))]=fun e q g=>V8 G K L o k0 L (e 0).rd (e 1).rd (e 5).rd q g:=lpJ (fun m e q g=>V8 G K L o k0 m (e 0).rd (e 1).rd (e 5).rd q g) rfl (fun _=>by kernel_rfl) L
def Rt (G:GT)(K:KT)(L:Nat)(x0 x1:AV)(o:HP):KR :=
  Zf (ZQ o .slice (AV.ro x0)) fun v0=>Zf (ZQ o .slice (AV.ro x1)) fun v1=>Zf (Za .neq .prim v0 v1) fun v2=>ifK v2 (Yn o (.bool false) o none) (V8 G K L o (Ku G K L o) L (AV.ro x0) (AV.ro x1) (.int .i64 0) o none)
theorem ZeC (x0 x1:AV) :fnK G K VQ L J9 [x0,x1] o=Rt G K L x0 x1 o:=by
 show Yu G 27 o.length K VQ L Nk (Wn VQ J9 o) (Wn VQ J9 o) [] (NE [x0,x1]) o none=_
 simp only [Nk,Y4,ZY,ZZ,Yi]
 rw [ZaC G K L o ,ZaD G K L o (Ku G K L o) _]
 kernel_rfl
theorem Zh3 {C:Cfg}{x0 x1:AV}:RunT C PM J9 [x0,x1] (fun K=>Rt C.G K C.L x0 x1):=runT rfl fun _ _=>ZeC ..
def Uw (G:GT)(K:KT)(L:Nat)(o:HP)(q:HP)(g:Eff):KR :=
  Yn o (.bool true) q g
theorem AO :Yu G 26 o.length K Vh L Pn (Wn Vh VY o) (Wn Vh VY o) []=fun e q g=>Uw G K L o  q g:=by kernel_rfl
def Xk (G:GT)(K:KT)(L:Nat)(o:HP)(k0:HP→Eff→KR):Nat→AV→AV→AV→HP→Eff→KR
  | 0,_,_,_,_,_=>none
  | m + 1,x0,x1,x5,q,g=>Zf (ZQ q .slice x0) fun v3=>Zf (Za .lss .prim x5 v3) fun v4=>ifK v4 (Zf (YN (.slice 1) x0 x5) fun v5=>Zf (QO q v5) fun v6=>Zf (YN (.slice 1) x1 x5) fun v7=>Zf (QO q v7) fun v8=>Zf (Za .neq .prim v6 v8) fun v9=>ifK v9 (Yn o (.bool false) q g) (Zf (Za .add .prim x5 (.int .i64 1)) fun v10=>Xk G K L o k0 m x0 x1 v10 q g)) (k0  q g)
theorem AP (k0:HP→Eff→KR)(zn:Ig):Yu G 26 o.length K Vh L Po zn (Wn Vh VY o) [(0,(fun e q g=>k0 q g))]=fun e q g=>Xk G K L o k0 L (e 0).rd (e 1).rd (e 5).rd q g:=lpJ (fun m e q g=>Xk G K L o k0 m (e 0).rd (e 1).rd (e 5).rd q g) rfl (fun _=>by kernel_rfl) L
def MP (G:GT)(K:KT)(L:Nat)(x0 x1:AV)(o:HP):KR :=
  Zf (ZQ o .slice (AV.ro x0)) fun v0=>Zf (ZQ o .slice (AV.ro x1)) fun v1=>Zf (Za .neq .prim v0 v1) fun v2=>ifK v2 (Yn o (.bool false) o none) (Xk G K L o (Uw G K L o) L (AV.ro x0) (AV.ro x1) (.int .i64 0) o none)
theorem ZcV (x0 x1:AV) :fnK G K Vh L VY [x0,x1] o=MP G K L x0 x1 o:=by
 show Yu G 26 o.length K Vh L DI (Wn Vh VY o) (Wn Vh VY o) [] (NE [x0,x1]) o none=_
 simp only [DI,Y4,ZY,ZZ,Yi]
 rw [AO G K L o ,AP G K L o (Uw G K L o) _]
 kernel_rfl
theorem ZeR {C:Cfg}{x0 x1:AV}:RunT C KC VY [x0,x1] (fun K=>MP C.G K C.L x0 x1):=runT rfl fun _ _=>ZcV ..
def FT (G:GT)(K:KT)(L:Nat)(o:HP):KR :=
  DT (ZeN ZtT 1 [(.str [97,100,100]),(.str [97,102,116,101,114]),(.str [97,110,100]),(.str [97,116]),(.str [98,101,108,116]),(.str [98,111,111,108]),(.str [99,111,110,115,101,114,118,101]),(.str [99,111,110,115,116]),(.str [99,111,117,110,116]),(.str [99,121,99,108,101]),(.str [100,111,119,110]),(.str [100,114,97,119]),(.str [100,117,114]),(.str [101,108,115,101]),(.str [101,110,100]),(.str [101,118,101,114,121]),(.str [102,97,108,115,101]),(.str [102,97,117,108,116]),(.str [102,105,102,111]),(.str [102,114,101,101]),(.str [102,114,111,109]),(.str [103,101,111,109]),(.str [103,101,116]),(.str [104,111,108,100]),(.str [105,102]),(.str [105,110,116]),(.str [105,110,116,111]),(.str [108,101,97,115,116]),(.str [108,101,118,101,108]),(.str [108,105,102,111]),(.str [108,105,110,107]),(.str [108,111,99,97,108]),(.str [109,97,120]),(.str [109,105,110]),(.str [109,111,100,101,108]),(.str [110,111,116]),(.str [110,111,119]),(.str [111,98,115,101,114,118,101]),(.str [111,114]),(.str [112,97,114,97,109]),(.str [112,114,101,101,109,112,116]),(.str [112,114,105,111]),(.str [112,117,116]),(.str [113,117,101,117,101]),(.str [114,101,108,101,97,115,101]),(.str [114,101,115,111,117,114,99,101]),(.str [114,105,100,101]),(.str [114,111,117,116,105,110,101]),(.str [115,101,105,122,101]),(.str [115,101,110,100]),(.str [115,101,116]),(.str [115,104,105,102,116]),(.str [115,105,103,110,97,108]),(.str [115,105,116,101]),(.str [115,105,122,101]),(.str [115,112,97,119,110]),(.str [115,116,97,114,116]),(.str [115,116,111,112]),(.str [115,116,111,114,101]),(.str [115,116,114,101,97,109]),(.str [115,117,109]),(.str [116,97,98,108,101]),(.str [116,97,108,108,121]),(.str [116,105,99,107,115]),(.str [116,105,109,101]),(.str [116,114,117,101]),(.str [117,110,105,102,111,114,109]),(.str [117,110,116,105,108]),(.str [117,112]),(.str [118,97,114]),(.str [119,97,105,116]),(.str [119,97,105,116,105,110,103]),(.str [119,104,105,108,101])] o) fun v0 h1=>some (QK false o v0 h1 none)
theorem Zdb :fnK G K Zjl L Dz [] o=FT G K L o:=by kernel_rfl
theorem ZeS {C:Cfg}(h:C.T MM=some Dz){n:Nat}{q:HP}{r:AV×HP×Eff}(hr:FT C.G (Zb C n) C.L q=some r):Zb C (n + 1) MM [] q=some r:=Zs3 h (Nat.le_of_ble_eq_true rfl) ((Zdb ..).trans hr)
def Tt (G:GT)(K:KT)(L:Nat)(o:HP)(q:HP)(g:Eff):KR :=
  Yn o (.int .i64 (-1)) q g
theorem ZeA :Yu G 19 o.length K HY L Zb0 (Wn HY Ol o) (Wn HY Ol o) []=fun e q g=>Tt G K L o  q g:=by kernel_rfl
def JF (G:GT)(K:KT)(L:Nat)(o:HP)(k0:HP→Eff→KR):Nat→AV→AV→AV→AV→HP→Eff→KR
  | 0,_,_,_,_,_,_=>none
  | m + 1,x0,x1,x5,y5,q,g=>Zf (ZQ q .slice x0) fun v0=>Zf (Za .lss .prim x5 v0) fun v1=>ifK v1 (Zf (YN (.slice 1) x0 x5) fun v2=>Zf (QO q v2) fun v3=>Zf (Za .eql .prim v3 x1) fun v4=>ifK v4 (some (QK false o y5 q g)) (Zf (Za .add .prim x5 (.int .i64 1)) fun v5=>JF G K L o k0 m x0 x1 v5 v5 q g)) (k0  q g)
theorem ZeB (k0:HP→Eff→KR)(zn:Ig):Yu G 19 o.length K HY L Zb1 zn (Wn HY Ol o) [(0,(fun e q g=>k0 q g))]=fun e q g=>JF G K L o k0 L (e 0).rd (e 1).rd (e 5).rd (e 5).val q g:=lpJ (fun m e q g=>JF G K L o k0 m (e 0).rd (e 1).rd (e 5).rd (e 5).val q g) rfl (fun _=>by kernel_rfl) L
def Zda (G:GT)(K:KT)(L:Nat)(x0 x1:AV)(o:HP):KR :=
  JF G K L o (Tt G K L o) L (AV.ro x0) (AV.ro x1) (.int .i64 0) (.int .i64 0) o none
theorem ZkF (x0 x1:AV) :fnK G K HY L Ol [x0,x1] o=Zda G K L x0 x1 o:=by
 show Yu G 19 o.length K HY L Zc7 (Wn HY Ol o) (Wn HY Ol o) [] (NE [x0,x1]) o none=_
 simp only [Zc7,Y4,ZY,ZZ,Yi]
 rw [ZeA G K L o ,ZeB G K L o (Tt G K L o) _]
 kernel_rfl
theorem Znl {C:Cfg}{x0 x1:AV}:RunT C Zcp Ol [x0,x1] (fun K=>Zda C.G K C.L x0 x1):=runT rfl fun _ _=>ZkF ..
def ZgA (G:GT)(K:KT)(L:Nat)(x0:AV)(o:HP):KR :=
  Zf (Ug 4 (AV.ro x0)) fun v1=>Jt (o ++ [.cells v1 Zv]) fun h0=>Zf (Zx h0 4 (.ptr (o).length 0)) fun v2=>Zf (fill [(.int .i64 0),(.str []),(.int .i64 0),(.own 4 [])] []) fun v3=>WC (K PK [v2,(.agg v3)] h0) fun v4 h5 f6=>some (QK false o v4 h5 (Zm o.length none f6))
theorem ZkE {C:Cfg}{x0:AV}:RunT C PH Zfo [x0] (fun K=>ZgA C.G K C.L x0):=runT (P := ZoZ) rfl fun _ _=>by kernel_rfl
def ZgB (G:GT)(K:KT)(L:Nat)(x0 x1:AV)(o:HP):KR :=
  Zf (Ug 6 (AV.ro x0)) fun v1=>Jt (o ++ [.cells v1 Jq]) fun h0=>Zf (Ug 6 (AV.ro x1)) fun v3=>Jt (h0 ++ [.cells v3 Jq]) fun h2=>ldF h2 0 (.ptr (o).length 0) fun v5=>ldF h2 0 (.ptr (h0).length 0) fun v7=>Zf (Za .eql .prim v5 v7) fun v8=>Wx v8 true (ldF h2 1 (.ptr (o).length 0) fun v10=>ldF h2 1 (.ptr (h0).length 0) fun v12=>Zf (Za .eql .prim v10 v12) fun v13=>some (v13,h2,none)) (some (.bool false)) h2 none fun v14 h15 f16=>Wx (AV.ro v14) true (ldF h15 2 (.ptr (o).length 0) fun v18=>ldF h15 2 (.ptr (h0).length 0) fun v20=>Zf (Za .eql .prim v18 v20) fun v21=>some (v21,h15,f16)) (some (.bool false)) h15 f16 fun v22 h23 f24=>Wx (AV.ro v22) true (ldF h23 3 (.ptr (o).length 0) fun v26=>ldF h23 3 (.ptr (h0).length 0) fun v28=>Zf (Za .eql .prim v26 v28) fun v29=>some (v29,h23,f24)) (some (.bool false)) h23 f24 fun v30 h31 f32=>Wx (AV.ro v30) true (ldF h31 4 (.ptr (o).length 0) fun v34=>ldF h31 4 (.ptr (h0).length 0) fun v36=>WC (K Qh [v34,v36] h31) fun v37 h38 f39=>some ((AV.ro v37),h38,(Zm o.length f32 f39))) (some (.bool false)) h31 f32 fun v40 h4 f42=>Wx (AV.ro v40) true (ldF h4 5 (.ptr (o).length 0) fun v44=>ldF h4 5 (.ptr (h0).length 0) fun v46=>WC (K Qh [v44,v46] h4) fun v47 h48 f49=>some ((AV.ro v47),h48,(Zm o.length f42 f49))) (some (.bool false)) h4 f42 fun v50 h6 f52=>some (QK false o v50 h6 f52)
theorem ZkI {C:Cfg}{x0 x1:AV}:RunT C CJ Zfp [x0,x1] (fun K=>ZgB C.G K C.L x0 x1):=runT (P := Zpa) rfl fun _ _=>by kernel_rfl
def Yy (G:GT)(K:KT)(L:Nat)(x0 x1 x2:AV)(o:HP):KR :=
  Zf (Ug 8 (AV.ro x0)) fun v1=>Jt (o ++ [.cells v1 Yr]) fun h0=>Zf (KQ 0 (.ptr (o).length 0)) fun v2=>ldF h0 1 v2 fun v4=>ldF h0 3 (.ptr (o).length 0) fun v6=>Zf (YN (.slice 14) v4 v6) fun v7=>Zf (KQ 0 v7) fun v8=>Zf (Zx h0 13 v8) fun v9=>Jt (h0 ++ [.cells [(.str []),(.own 3 []),(.own 17 []),(.own 3 []),(.own 3 []),(.own 1 []),(.own 1 []),(.own 1 []),(.own 1 []),(.own 1 []),(.own 4 []),(.own 5 []),(.own 3 [])] Yz]) fun h10=>DT (stV o.length 13 (.ptr (h0).length 0) v9 h10 none) fun h11 f12=>Zf (Za .eql .prim (AV.ro x1) (.int .i64 1)) fun v13=>ifK v13 (Zf (KQ 4 (.ptr (o).length 0)) fun v14=>ldF h11 2 v14 fun v16=>some (QK false o v16 h11 f12)) (Zf (Za .eql .prim (AV.ro x1) (.int .i64 2)) fun v17=>ifK v17 (ldF h11 1 (.ptr (h0).length 0) fun v19=>Zf (ZQ h11 .slice v19) fun v20=>some (QK false o v20 h11 f12)) (Zf (Za .eql .prim (AV.ro x1) (.int .i64 3)) fun v21=>ifK v21 (ldF h11 6 (.ptr (h0).length 0) fun v23=>Zf (ZQ h11 .slice v23) fun v24=>some (QK false o v24 h11 f12)) (Zf (Za .eql .prim (AV.ro x1) (.int .i64 4)) fun v25=>ifK v25 (Zf (KQ 4 (.ptr (o).length 0)) fun v26=>ldF h11 3 v26 fun v28=>Zf (ZQ h11 .slice v28) fun v29=>some (QK false o v29 h11 f12)) (Zf (Za .eql .prim (AV.ro x1) (.int .i64 5)) fun v30=>ifK v30 (ldF h11 2 (.ptr (h0).length 0) fun v32=>Zf (ZQ h11 .slice v32) fun v33=>some (QK false o v33 h11 f12)) (Zf (Za .eql .prim (AV.ro x1) (.int .i64 6)) fun v34=>ifK v34 (ldF h11 3 (.ptr (h0).length 0) fun v36=>Zf (ZQ h11 .slice v36) fun v37=>some (QK false o v37 h11 f12)) (Zf (Za .eql .prim (AV.ro x1) (.int .i64 7)) fun v38=>ifK v38 (ldF h11 4 (.ptr (h0).length 0) fun v40=>Zf (ZQ h11 .slice v40) fun v41=>some (QK false o v41 h11 f12)) (Zf (Za .eql .prim (AV.ro x1) (.int .i64 8)) fun v42=>ifK v42 (ldF h11 5 (.ptr (h0).length 0) fun v44=>Zf (ZQ h11 .slice v44) fun v45=>some (QK false o v45 h11 f12)) (Zf (Za .eql .prim (AV.ro x1) (.int .i64 9)) fun v46=>ifK v46 (Zf (KQ 0 (.ptr (o).length 0)) fun v47=>ldF h11 1 v47 fun v49=>Zf (ZQ h11 .slice v49) fun v50=>some (QK false o v50 h11 f12)) (Zf (Za .eql .prim (AV.ro x1) (.int .i64 10)) fun v51=>ifK v51 (Zf (KQ 0 (.ptr (o).length 0)) fun v52=>ldF h11 1 v52 fun v54=>Zf (YN (.slice 14) v54 (AV.ro x2)) fun v55=>ldF h11 13 v55 fun v57=>Zf (ZQ h11 .slice v57) fun v58=>some (QK false o v58 h11 f12)) (Zf (Za .eql .prim (AV.ro x1) (.int .i64 11)) fun v59=>ifK v59 (ldF h11 7 (.ptr (h0).length 0) fun v61=>Zf (ZQ h11 .slice v61) fun v62=>some (QK false o v62 h11 f12)) (Zf (Za .eql .prim (AV.ro x1) (.int .i64 12)) fun v63=>ifK v63 (ldF h11 8 (.ptr (h0).length 0) fun v65=>Zf (ZQ h11 .slice v65) fun v66=>some (QK false o v66 h11 f12)) (Zf (Za .eql .prim (AV.ro x1) (.int .i64 13)) fun v67=>ifK v67 (ldF h11 9 (.ptr (h0).length 0) fun v69=>Zf (ZQ h11 .slice v69) fun v70=>some (QK false o v70 h11 f12)) (Yn o (.int .i64 1) h11 f12)))))))))))))
theorem SQ {C:Cfg}{x0 x1 x2:AV}:RunT C Jc RN [x0,x1,x2] (fun K=>Yy C.G K C.L x0 x1 x2):=runT (P := ZaW) rfl fun _ _=>by kernel_rfl
def RZ (G:GT)(K:KT)(L:Nat)(x0 x1:AV)(o:HP):KR :=
  Zf (Ug 1 (AV.ro x0)) fun v1=>Jt (o ++ [.cells v1 UC]) fun h0=>Zf (Ug 4 (AV.ro x1)) fun v3=>Jt (h0 ++ [.cells v3 Zv]) fun h2=>Zf (Zx h2 4 (.ptr (h0).length 0)) fun v4=>WC (K Gw [v4] h2) fun v5 h6 f7=>Zf (Za .gtr .prim (AV.ro v5) (.int .i64 60)) fun v8=>ifK v8 (Yn o (.int .i64 6) h6 (Zm o.length none f7)) (Zf (Zx h6 4 (.ptr (h0).length 0)) fun v9=>WC (K Gv [v9] h6) fun v10 h11 f12=>Zf (Za .gtr .prim (AV.ro v10) (.int .i64 12)) fun v13=>ifK v13 (Yn o (.int .i64 11) h11 (Zm o.length (Zm o.length none f7) f12)) (Zf (Zx h11 1 (.ptr (o).length 0)) fun v14=>Zf (Zx h11 4 (.ptr (h0).length 0)) fun v15=>WC (K Xc [v14,v15] h11) fun v16 h17 f18=>some (QK false o v16 h17 (Zm o.length (Zm o.length (Zm o.length none f7) f12) f18))))
theorem SV {C:Cfg}{x0 x1:AV}:RunT C IR RP [x0,x1] (fun K=>RZ C.G K C.L x0 x1):=runT (P := ZaX) rfl fun _ _=>by kernel_rfl
def Lp (G:GT)(K:KT)(L:Nat)(x0 x1:AV)(o:HP):KR :=
  Zf (Ug 4 (AV.ro x0)) fun v1=>Jt (o ++ [.cells v1 Zv]) fun h0=>Zf (Zx h0 8 (AV.ro x1)) fun v2=>Zf (Zx h0 4 (.ptr (o).length 0)) fun v3=>WC (K YT [v2,v3] h0) fun v4 h5 f6=>Zf (Qg .not (AV.ro v4)) fun v7=>some (QK false o v7 h5 (Zm o.length none f6))
theorem PR {C:Cfg}{x0 x1:AV}:RunT C WI MR [x0,x1] (fun K=>Lp C.G K C.L x0 x1):=runT (P := EW) rfl fun _ _=>by kernel_rfl
def XY (G:GT)(K:KT)(L:Nat)(x0 x1:AV)(o:HP):KR :=
  WC (K Q4 [(AV.ro x0),(AV.ro x1)] o) fun v0 h1 f2=>Zf (Za .geq .prim (AV.ro v0) (.int .i64 0)) fun v3=>some (QK false o v3 h1 (Zm o.length none f2))
theorem UW {C:Cfg}{x0 x1:AV}:RunT C WY XM [x0,x1] (fun K=>XY C.G K C.L x0 x1):=runT (P := KU) rfl fun _ _=>by kernel_rfl
def Kr (G:GT)(K:KT)(L:Nat)(o:HP)(q:HP)(g:Eff):KR :=
  Yn o (.bool false) q g
theorem Za5 :Yu G 54 o.length K VN L NH (Wn VN J6 o) (Wn VN J6 o) []=fun e q g=>Kr G K L o  q g:=by kernel_rfl
def IP (G:GT)(K:KT)(L:Nat)(o:HP)(x1:AV)(x3:AV)(y3:AV)(x13:AV)(x27:AV)(q:HP)(g:Eff):KR :=
  ifK x27 (Wx x3 true (ldF q 3 x1 fun v26=>Zf (Za .eql .prim v26 (.int .i64 0)) fun v27=>some (v27,q,g)) (some (.bool false)) q g fun v28 h29 f30=>some (QK false o v28 h29 f30)) (Zf (Za .eql .prim x13 (.int .i64 4)) fun v31=>ifK v31 (some (QK false o y3 q g)) (Zf (Za .eql .prim x13 (.int .i64 3)) fun v32=>ifK v32 (ldF q 1 x1 fun v34=>Zf (Za .eql .prim v34 (.int .i64 0)) fun v35=>Wx v35 true (ldF q 2 x1 fun v37=>Zf (Za .eql .prim v37 (.int .i64 0)) fun v38=>some (v38,q,g)) (some (.bool false)) q g fun v39 h0 f41=>Wx (AV.ro v39) true (ldF h0 3 x1 fun v43=>Zf (Za .eql .prim v43 (.int .i64 0)) fun v44=>some (v44,h0,f41)) (some (.bool false)) h0 f41 fun v45 h46 f47=>some (QK false o v45 h46 f47)) (Kr G K L o   q g)))
theorem Za4 :Yu G 54 o.length K VN L NG (fun e q g=>(Kr G K L o) q g) (Wn VN J6 o) [(0,(fun e q g=>(Kr G K L o) q g))]=fun e q g=>IP G K L o (e 1).rd (e 3).rd (e 3).val (e 13).rd (e 27).rd q g:=by kernel_rfl
def Ns (G:GT)(K:KT)(L:Nat)(x0:AV)(o:HP):KR :=
  Zf (Ug 6 (AV.ro x0)) fun v1=>Jt (o ++ [.cells v1 Jq]) fun h0=>ldF h0 4 (.ptr (o).length 0) fun v3=>Zf (ZQ h0 .slice v3) fun v4=>ldF h0 5 (.ptr (o).length 0) fun v6=>Zf (ZQ h0 .slice v6) fun v7=>Zf (Za .add .prim v4 v7) fun v8=>Zf (Za .eql .prim v8 (.int .i64 0)) fun v9=>ldF h0 0 (.ptr (o).length 0) fun v11=>Zf (Za .eql .prim v11 (.int .i64 1)) fun v12=>ifK v12 (Wx v9 true (ldF h0 2 (.ptr (o).length 0) fun v14=>Zf (Za .eql .prim v14 (.int .i64 0)) fun v15=>some (v15,h0,none)) (some (.bool false)) h0 none fun v16 h17 f18=>Wx (AV.ro v16) true (ldF h17 3 (.ptr (o).length 0) fun v20=>Zf (Za .eql .prim v20 (.int .i64 0)) fun v21=>some (v21,h17,f18)) (some (.bool false)) h17 f18 fun v22 h23 f24=>some (QK false o v22 h23 f24)) (Zf (Za .eql .prim v11 (.int .i64 2)) fun v48=>ifK v48 (IP G K L o  (.ptr (o).length 0) v9 v9 v11 v48 h0 none) (Zf (Za .eql .prim v11 (.int .i64 5)) fun v49=>IP G K L o  (.ptr (o).length 0) v9 v9 v11 v49 h0 none))
theorem Ze7 (x0:AV) :fnK G K VN L J6 [x0] o=Ns G K L x0 o:=by
 show Yu G 54 o.length K VN L PY (Wn VN J6 o) (Wn VN J6 o) [] (NE [x0]) o none=_
 simp only [PY,Y4,ZY,ZZ,Yi]
 rw [Za5 G K L o ,Za4 G K L o]
 kernel_rfl
theorem ZgM {C:Cfg}{x0:AV}:RunT C PI J6 [x0] (fun K=>Ns C.G K C.L x0):=runT rfl fun _ _=>Ze7 ..
def ZbA (G:GT)(K:KT)(L:Nat)(x0 x1 x2:AV)(o:HP):KR :=
  Zf (Ug 1 (AV.ro x0)) fun v1=>Jt (o ++ [.cells v1 Dv]) fun h0=>Zf (Ug 1 (AV.ro x1)) fun v3=>Jt (h0 ++ [.cells v3 Dv]) fun h2=>WC (K Va [(AV.ro x2),(.fn OE [] [(.ptr (o).length 0),(.ptr (h0).length 0)])] h2) fun v4 h5 f6=>Zf (Qg .not (AV.ro v4)) fun v7=>some (QK false o v7 h5 (Zm o.length none f6))
theorem ZgN {C:Cfg}{x0 x1 x2:AV}:RunT C VF Zbj [x0,x1,x2] (fun K=>ZbA C.G K C.L x0 x1 x2):=runT (P := Zli) rfl fun _ _=>by kernel_rfl
def Dn (G:GT)(K:KT)(L:Nat)(x0 x1 x2 x3 x4:AV)(o:HP):KR :=
  Zf (Ug 3 (AV.ro x0)) fun v1=>Jt (o ++ [.cells v1 Zy]) fun h0=>Zf (Ug 4 (AV.ro x2)) fun v3=>Jt (h0 ++ [.cells v3 Yp]) fun h2=>Zf (Za .eql .prim (AV.ro x3) (.str [])) fun v4=>Wx v4 false (Zf (Za .geq .prim (AV.ro x4) (.int .i64 0)) fun v5=>Wx v5 true (Zf (Zx h2 3 (.ptr (o).length 0)) fun v6=>Zf (Zx h2 4 (.ptr (h0).length 0)) fun v7=>WC (K CY [v6,(AV.ro x1),v7,(AV.ro x3)] h2) fun v8 h9 f10=>Zf (Za .lss .prim (AV.ro x4) (AV.ro v8)) fun v11=>some (v11,h9,(Zm o.length none f10))) (some (.bool false)) h2 none fun v12 h13 f14=>some ((AV.ro v12),h13,f14)) (some (.bool true)) h2 none fun v15 h16 f17=>some (QK false o v15 h16 f17)
theorem Zjq {C:Cfg}{x0 x1 x2 x3 x4:AV}:RunT C Dc Zd4 [x0,x1,x2,x3,x4] (fun K=>Dn C.G K C.L x0 x1 x2 x3 x4):=runT (P := Znj) rfl fun _ _=>by kernel_rfl
def Ny (G:GT)(K:KT)(L:Nat)(x0 x1 x2:AV)(o:HP):KR :=
  Zf (Ug 3 (AV.ro x0)) fun v1=>Jt (o ++ [.cells v1 Zy]) fun h0=>Zf (Ug 20 (AV.ro x2)) fun v3=>Jt (h0 ++ [.cells v3 Yb]) fun h2=>ldF h2 1 (.ptr (o).length 0) fun v5=>Zf (YN (.slice 14) v5 (AV.ro x1)) fun v6=>ldF h2 13 v6 fun v8=>ldF h2 2 (.ptr (h0).length 0) fun v10=>Zf (Za .lss .prim v10 (.int .i64 0)) fun v11=>Wx v11 false (ldF h2 2 (.ptr (h0).length 0) fun v13=>Zf (ZQ h2 .slice v8) fun v14=>Zf (Za .geq .prim v13 v14) fun v15=>some (v15,h2,none)) (some (.bool true)) h2 none fun v16 h17 f18=>ifK (AV.ro v16) (Yn o (.int .i64 2) h17 f18) (ldF h17 12 (.ptr (h0).length 0) fun v20=>Zf (ZQ h17 .slice v20) fun v21=>ldF h17 2 (.ptr (h0).length 0) fun v23=>Zf (YN (.slice 4) v8 v23) fun v24=>ldF h17 1 v24 fun v26=>Zf (Za .neq .prim v21 v26) fun v27=>ifK v27 (Yn o (.int .i64 8) h17 f18) (Yn o (.int .i64 0) h17 f18))
theorem Zly {C:Cfg}{x0 x1 x2:AV}:RunT C PO Zf4 [x0,x1,x2] (fun K=>Ny C.G K C.L x0 x1 x2):=runT (P := Zpg) rfl fun _ _=>by kernel_rfl
def ZgI (G:GT)(K:KT)(L:Nat)(x0 x1:AV)(o:HP):KR :=
  Zf (Ug 4 (AV.ro x0)) fun v1=>Jt (o ++ [.cells v1 Zv]) fun h0=>Zf (Zx h0 4 (.ptr (o).length 0)) fun v2=>WC (K IW [v2] h0) fun v3 h4 f5=>Zf (Za .gtr .prim (AV.ro v3) (.int .i64 60)) fun v6=>ifK v6 (Yn o (.int .i64 6) h4 (Zm o.length none f5)) (Zf (Zx h4 4 (.ptr (o).length 0)) fun v7=>WC (K IV [v7] h4) fun v8 h9 f10=>Zf (Za .gtr .prim (AV.ro v8) (.int .i64 12)) fun v11=>ifK v11 (Yn o (.int .i64 11) h9 (Zm o.length (Zm o.length none f5) f10)) (Zf (Zx h9 4 (.ptr (o).length 0)) fun v12=>WC (K TZ [v12,(AV.ro x1)] h9) fun v13 h14 f15=>some (QK false o v13 h14 (Zm o.length (Zm o.length (Zm o.length none f5) f10) f15))))
theorem Zlu {C:Cfg}{x0 x1:AV}:RunT C CV Zf3 [x0,x1] (fun K=>ZgI C.G K C.L x0 x1):=runT (P := Zpe) rfl fun _ _=>by kernel_rfl
def GZ (G:GT)(K:KT)(L:Nat)(o:HP)(q:HP)(g:Eff):KR :=
  Yn o (.bool false) q g
theorem ZbI :Yu G 56 o.length K JM L ED (Wn JM U9 o) (Wn JM U9 o) []=fun e q g=>GZ G K L o  q g:=by kernel_rfl
def Tq (G:GT)(K:KT)(L:Nat)(o:HP)(x1:AV)(x3:AV)(y3:AV)(x15:AV)(x29:AV)(q:HP)(g:Eff):KR :=
  ifK x29 (ldF q 3 x1 fun v29=>Zf (Za .eql .prim v29 (.int .i64 0)) fun v30=>Wx v30 true (some (x3,q,g)) (some (.bool false)) q g fun v31 h32 f33=>some (QK false o v31 h32 f33)) (Zf (Za .eql .prim x15 (.int .i64 3)) fun v34=>ifK v34 (ldF q 1 x1 fun v36=>Zf (Za .eql .prim v36 (.int .i64 0)) fun v37=>Wx v37 true (ldF q 2 x1 fun v39=>Zf (Za .eql .prim v39 (.int .i64 0)) fun v40=>some (v40,q,g)) (some (.bool false)) q g fun v41 h42 f43=>Wx (AV.ro v41) true (ldF h42 3 x1 fun v45=>Zf (Za .eql .prim v45 (.int .i64 0)) fun v46=>some (v46,h42,f43)) (some (.bool false)) h42 f43 fun v47 h48 f49=>some (QK false o v47 h48 f49)) (Zf (Za .eql .prim x15 (.int .i64 4)) fun v50=>ifK v50 (some (QK false o y3 q g)) (GZ G K L o   q g)))
theorem ZbH :Yu G 56 o.length K JM L EC (fun e q g=>(GZ G K L o) q g) (Wn JM U9 o) [(0,(fun e q g=>(GZ G K L o) q g))]=fun e q g=>Tq G K L o (e 1).rd (e 3).rd (e 3).val (e 15).rd (e 29).rd q g:=by kernel_rfl
def EJ (G:GT)(K:KT)(L:Nat)(x0:AV)(o:HP):KR :=
  Zf (Ug 6 (AV.ro x0)) fun v1=>Jt (o ++ [.cells v1 Jq]) fun h0=>ldF h0 4 (.ptr (o).length 0) fun v3=>Zf (ZQ h0 .slice v3) fun v4=>Zf (Za .eql .prim v4 (.int .i64 0)) fun v5=>Wx v5 true (ldF h0 5 (.ptr (o).length 0) fun v7=>Zf (ZQ h0 .slice v7) fun v8=>Zf (Za .eql .prim v8 (.int .i64 0)) fun v9=>some (v9,h0,none)) (some (.bool false)) h0 none fun v10 h11 f12=>ldF h11 0 (.ptr (o).length 0) fun v14=>Zf (Za .eql .prim v14 (.int .i64 1)) fun v15=>ifK v15 (ldF h11 2 (.ptr (o).length 0) fun v17=>Zf (Za .eql .prim v17 (.int .i64 0)) fun v18=>Wx v18 true (ldF h11 3 (.ptr (o).length 0) fun v20=>Zf (Za .eql .prim v20 (.int .i64 0)) fun v21=>some (v21,h11,f12)) (some (.bool false)) h11 f12 fun v22 h23 f24=>Wx (AV.ro v22) true (some ((AV.ro v10),h23,f24)) (some (.bool false)) h23 f24 fun v25 h26 f27=>some (QK false o v25 h26 f27)) (Zf (Za .eql .prim v14 (.int .i64 2)) fun v51=>ifK v51 (Tq G K L o  (.ptr (o).length 0) (AV.ro v10) v10 v14 v51 h11 f12) (Zf (Za .eql .prim v14 (.int .i64 5)) fun v52=>Tq G K L o  (.ptr (o).length 0) (AV.ro v10) v10 v14 v52 h11 f12))
theorem ZgG (x0:AV) :fnK G K JM L U9 [x0] o=EJ G K L x0 o:=by
 show Yu G 56 o.length K JM L E8 (Wn JM U9 o) (Wn JM U9 o) [] (NE [x0]) o none=_
 simp only [E8,Y4,ZY,ZZ,Yi]
 rw [ZbI G K L o ,ZbH G K L o]
 kernel_rfl
theorem Zjn {C:Cfg}{x0:AV}:RunT C SK U9 [x0] (fun K=>EJ C.G K C.L x0):=runT rfl fun _ _=>ZgG ..
def ZbG (G:GT)(K:KT)(L:Nat)(x0 x1 x2:AV)(o:HP):KR :=
  Zf (Za .geq .prim (AV.ro x0) (AV.ro x1)) fun v0=>Wx v0 true (Zf (Za .leq .prim (AV.ro x0) (AV.ro x2)) fun v1=>some (v1,o,none)) (some (.bool false)) o none fun v2 h3 f4=>some (QK false o v2 h3 f4)
theorem Zh1 {C:Cfg}{x0 x1 x2:AV}:RunT C Xz Zbm [x0,x1,x2] (fun K=>ZbG C.G K C.L x0 x1 x2):=runT (P := Zlk) rfl fun _ _=>by kernel_rfl
def IA (G:GT)(K:KT)(L:Nat)(o:HP)(q:HP)(g:Eff):KR :=
  Yn o (.int .i64 0) q g
theorem ZcW :Yu G 42 o.length K UN L F5 (Wn UN Gz o) (Wn UN Gz o) []=fun e q g=>IA G K L o  q g:=by kernel_rfl
def JV (G:GT)(K:KT)(L:Nat)(o:HP)(k0:HP→Eff→KR):Nat→AV→AV→HP→Eff→KR
  | 0,_,_,_,_=>none
  | m + 1,x1,x3,q,g=>ldF q 4 x1 fun v18=>Zf (ZQ q .slice v18) fun v19=>Zf (Za .lss .prim x3 v19) fun v20=>ifK v20 (ldF q 4 x1 fun v22=>Zf (YN (.slice 1) v22 x3) fun v23=>Zf (QO q v23) fun v24=>WC (K Xz [v24,(.int .i64 0),(.int .i64 1000000000)] q) fun v25 h26 f27=>Zf (Qg .not (AV.ro v25)) fun v28=>Wx v28 false (ldF h26 5 x1 fun v30=>Zf (YN (.slice 1) v30 x3) fun v31=>Zf (QO h26 v31) fun v32=>WC (K Xz [v32,(.int .i64 1),(.int .i64 1000)] h26) fun v33 h34 f35=>Zf (Qg .not (AV.ro v33)) fun v36=>some (v36,h34,(Zm o.length (Zm o.length g f27) f35))) (some (.bool true)) h26 (Zm o.length g f27) fun v37 h38 f39=>ifK (AV.ro v37) (Yn o (.int .i64 2) h38 f39) (Zf (Za .add .prim x3 (.int .i64 1)) fun v40=>JV G K L o k0 m x1 v40 h38 f39)) (k0  q g)
theorem ZcX (k0:HP→Eff→KR)(zn:Ig):Yu G 42 o.length K UN L F6 zn (Wn UN Gz o) [(0,(fun e q g=>k0 q g))]=fun e q g=>JV G K L o k0 L (e 1).rd (e 3).rd q g:=lpJ (fun m e q g=>JV G K L o k0 m (e 1).rd (e 3).rd q g) rfl (fun _=>by kernel_rfl) L
def Nw (G:GT)(K:KT)(L:Nat)(x0:AV)(o:HP):KR :=
  Zf (Ug 6 (AV.ro x0)) fun v1=>Jt (o ++ [.cells v1 Jq]) fun h0=>ldF h0 4 (.ptr (o).length 0) fun v3=>Zf (ZQ h0 .slice v3) fun v4=>ldF h0 5 (.ptr (o).length 0) fun v6=>Zf (ZQ h0 .slice v6) fun v7=>Zf (Za .neq .prim v4 v7) fun v8=>ifK v8 (Yn o (.int .i64 8) h0 none) (ldF h0 4 (.ptr (o).length 0) fun v10=>Zf (ZQ h0 .slice v10) fun v11=>Zf (Za .eql .prim v11 (.int .i64 0)) fun v12=>ifK v12 (Yn o (.int .i64 7) h0 none) (ldF h0 4 (.ptr (o).length 0) fun v14=>Zf (ZQ h0 .slice v14) fun v15=>Zf (Za .gtr .prim v15 (.int .i64 20)) fun v16=>ifK v16 (Yn o (.int .i64 6) h0 none) (JV G K L o (IA G K L o) L (.ptr (o).length 0) (.int .i64 0) h0 none)))
theorem ZiT (x0:AV) :fnK G K UN L Gz [x0] o=Nw G K L x0 o:=by
 show Yu G 42 o.length K UN L Zat (Wn UN Gz o) (Wn UN Gz o) [] (NE [x0]) o none=_
 simp only [Zat,Y4,ZY,ZZ,Yi]
 rw [ZcW G K L o ,ZcX G K L o (IA G K L o) _]
 kernel_rfl
theorem Zlp {C:Cfg}{x0:AV}:RunT C CS Gz [x0] (fun K=>Nw C.G K C.L x0):=runT rfl fun _ _=>ZiT ..
def ZpY (G:GT)(K:KT)(L:Nat)(x0:AV)(o:HP):KR :=
  Zf (Za .geq .prim (AV.ro x0) (.int .i64 (-1000000000000))) fun v0=>Wx v0 true (Zf (Za .leq .prim (AV.ro x0) (.int .i64 1000000000000)) fun v1=>some (v1,o,none)) (some (.bool false)) o none fun v2 h3 f4=>some (QK false o v2 h3 f4)
theorem Zr1 {C:Cfg}{x0:AV}:RunT C ZeX ZpQ [x0] (fun K=>ZpY C.G K C.L x0):=runT (P := Zvi) rfl fun _ _=>by kernel_rfl
def MO (G:GT)(K:KT)(L:Nat)(o:HP)(q:HP)(g:Eff):KR :=
  Yn o (.bool true) q g
theorem ZcM :Yu G 52 o.length K UM L Fg (Wn UM Gy o) (Wn UM Gy o) []=fun e q g=>MO G K L o  q g:=by kernel_rfl
def I9 (G:GT)(K:KT)(L:Nat)(o:HP)(k0:HP→Eff→KR):Nat→AV→AV→AV→AV→HP→Eff→KR
  | 0,_,_,_,_,_,_=>none
  | m + 1,x3,x36,x37,x38,q,g=>Zf (Za .lss .prim x38 x37) fun v38=>ifK v38 (Zf (YN (.slice 4) x36 x38) fun v39=>Zf (Zx q 4 v39) fun v40=>Jt (q ++ [.cells [(.int .i64 0),(.str []),(.int .i64 0),(.own 4 [])] Zv]) fun h1=>DT (stV o.length 4 (.ptr (q).length 0) v40 h1 g) fun h42 f43=>Zf (Zx h42 4 (.ptr (q).length 0)) fun v44=>ldF h42 3 x3 fun v46=>Zf (YN (.slice 4) v46 x38) fun v47=>Zf (Zx h42 4 v47) fun v48=>WC (Wl K PK [v44,v48] h42) fun v49 h50 f51=>Zf (Qg .not (AV.ro v49)) fun v52=>ifK v52 (Yn o (.bool false) h50 (Zm o.length f43 f51)) (Zf (Za .add .prim x38 (.int .i64 1)) fun v53=>I9 G K L o k0 m x3 x36 x37 v53 h50 (Zm o.length f43 f51))) (k0  q g)
theorem ZcN (k0:HP→Eff→KR)(zn:Ig):Yu G 52 o.length K UM L Fh zn (Wn UM Gy o) [(0,(fun e q g=>k0 q g))]=fun e q g=>I9 G K L o k0 L (e 3).rd (e 36).rd (e 37).rd (e 38).rd q g:=lpJ (fun m e q g=>I9 G K L o k0 m (e 3).rd (e 36).rd (e 37).rd (e 38).rd q g) rfl (fun _=>by kernel_rfl) L
def Nu (G:GT)(K:KT)(L:Nat)(x0 x1:AV)(o:HP):KR :=
  Zf (Ug 4 (AV.ro x0)) fun v1=>Jt (o ++ [.cells v1 Zv]) fun h0=>Zf (Ug 4 (AV.ro x1)) fun v3=>Jt (h0 ++ [.cells v3 Zv]) fun h2=>ldF h2 0 (.ptr (o).length 0) fun v5=>ldF h2 0 (.ptr (h0).length 0) fun v7=>Zf (Za .neq .prim v5 v7) fun v8=>Wx v8 false (ldF h2 1 (.ptr (o).length 0) fun v10=>ldF h2 1 (.ptr (h0).length 0) fun v12=>Zf (Za .neq .prim v10 v12) fun v13=>some (v13,h2,none)) (some (.bool true)) h2 none fun v14 h15 f16=>Wx (AV.ro v14) false (ldF h15 2 (.ptr (o).length 0) fun v18=>ldF h15 2 (.ptr (h0).length 0) fun v20=>Zf (Za .neq .prim v18 v20) fun v21=>some (v21,h15,f16)) (some (.bool true)) h15 f16 fun v22 h23 f24=>Wx (AV.ro v22) false (ldF h23 3 (.ptr (o).length 0) fun v26=>Zf (ZQ h23 .slice v26) fun v27=>ldF h23 3 (.ptr (h0).length 0) fun v29=>Zf (ZQ h23 .slice v29) fun v30=>Zf (Za .neq .prim v27 v30) fun v31=>some (v31,h23,f24)) (some (.bool true)) h23 f24 fun v32 h33 f34=>ifK (AV.ro v32) (Yn o (.bool false) h33 f34) (ldF h33 3 (.ptr (o).length 0) fun v36=>Zf (ZQ h33 .slice v36) fun v37=>I9 G K L o (MO G K L o) L (.ptr (h0).length 0) v36 v37 (.int .i64 0) h33 f34)
theorem ZiR (x0 x1:AV) :fnK G K UM L Gy [x0,x1] o=Nu G K L x0 x1 o:=by
 show Yu G 52 o.length K UM L Zal (Wn UM Gy o) (Wn UM Gy o) [] (NE [x0,x1]) o none=_
 simp only [Zal,Y4,ZY,ZZ,Yi]
 rw [ZcM G K L o ,ZcN G K L o (MO G K L o) _]
 kernel_rfl
theorem ZkO {C:Cfg}{x0 x1:AV}:RunT C PK Gy [x0,x1] (fun K=>Nu C.G K C.L x0 x1):=runT rfl fun _ _=>ZiR ..
def Qp (G:GT)(K:KT)(L:Nat)(o:HP)(q:HP)(g:Eff):KR :=
  Yn o (.bool true) q g
theorem Ls :Yu G 26 o.length K YK L GR (Wn YK YW o) (Wn YK YW o) []=fun e q g=>Qp G K L o  q g:=by kernel_rfl
def YH (G:GT)(K:KT)(L:Nat)(o:HP)(k0:HP→Eff→KR):Nat→AV→AV→AV→AV→HP→Eff→KR
  | 0,_,_,_,_,_,_=>none
  | m + 1,x0,x1,x12,x13,q,g=>Zf (Za .lss .prim x13 x12) fun v4=>ifK v4 (Zf (YN (.slice 1) x0 x13) fun v5=>Zf (QO q v5) fun v6=>Zf (YN (.slice 1) x1 x13) fun v7=>Zf (QO q v7) fun v8=>Zf (Za .neq .prim v6 v8) fun v9=>ifK v9 (Yn o (.bool false) q g) (Zf (Za .add .prim x13 (.int .i64 1)) fun v10=>YH G K L o k0 m x0 x1 x12 v10 q g)) (k0  q g)
theorem Lt (k0:HP→Eff→KR)(zn:Ig):Yu G 26 o.length K YK L GU zn (Wn YK YW o) [(0,(fun e q g=>k0 q g))]=fun e q g=>YH G K L o k0 L (e 0).rd (e 1).rd (e 12).rd (e 13).rd q g:=lpJ (fun m e q g=>YH G K L o k0 m (e 0).rd (e 1).rd (e 12).rd (e 13).rd q g) rfl (fun _=>by kernel_rfl) L
def V4 (G:GT)(K:KT)(L:Nat)(x0 x1:AV)(o:HP):KR :=
  Zf (ZQ o .slice (AV.ro x0)) fun v0=>Zf (ZQ o .slice (AV.ro x1)) fun v1=>Zf (Za .neq .prim v0 v1) fun v2=>ifK v2 (Yn o (.bool false) o none) (Zf (ZQ o .slice (AV.ro x0)) fun v3=>YH G K L o (Qp G K L o) L (AV.ro x0) (AV.ro x1) v3 (.int .i64 0) o none)
theorem Bd (x0 x1:AV) :fnK G K YK L YW [x0,x1] o=V4 G K L x0 x1 o:=by
 show Yu G 26 o.length K YK L Us (Wn YK YW o) (Wn YK YW o) [] (NE [x0,x1]) o none=_
 simp only [Us,Y4,ZY,ZZ,Yi]
 rw [Ls G K L o ,Lt G K L o (Qp G K L o) _]
 kernel_rfl
theorem BQ {C:Cfg}{x0 x1:AV}:RunT C Qh YW [x0,x1] (fun K=>V4 C.G K C.L x0 x1):=runT rfl fun _ _=>Bd ..
def GY (G:GT)(K:KT)(L:Nat)(o:HP)(y3:AV)(q:HP)(g:Eff):KR :=
  some (QK false o y3 q g)
theorem ZbD :Yu G 19 o.length K JL L Ey (Wn JL U8 o) (Wn JL U8 o) []=fun e q g=>GY G K L o (e 3).val q g:=by kernel_rfl
def Jl (G:GT)(K:KT)(L:Nat)(o:HP)(k0:AV→HP→Eff→KR):Nat→AV→AV→AV→AV→AV→HP→Eff→KR
  | 0,_,_,_,_,_,_,_=>none
  | m + 1,x3,y3,x7,x8,x9,q,g=>Zf (Za .lss .prim x9 x8) fun v5=>ifK v5 (Zf (YN (.slice 4) x7 x9) fun v6=>Zf (Zx q 4 v6) fun v7=>Jt (q ++ [.cells [(.int .i64 0),(.str []),(.int .i64 0),(.own 4 [])] Zv]) fun h8=>DT (stV o.length 4 (.ptr (q).length 0) v7 h8 g) fun h9 f10=>Zf (Zx h9 4 (.ptr (q).length 0)) fun v11=>WC (K Gw [v11] h9) fun v12 h13 f14=>Zf (Za .add .prim x3 (AV.ro v12)) fun v15=>Zf (Za .add .prim x9 (.int .i64 1)) fun v16=>Jl G K L o k0 m v15 v15 x7 x8 v16 h13 (Zm o.length f10 f14)) (k0 y3 q g)
theorem ZbE (k0:AV→HP→Eff→KR)(zn:Ig):Yu G 19 o.length K JL L Ez zn (Wn JL U8 o) [(0,(fun e q g=>k0 (e 3).val q g))]=fun e q g=>Jl G K L o k0 L (e 3).rd (e 3).val (e 7).rd (e 8).rd (e 9).rd q g:=lpJ (fun m e q g=>Jl G K L o k0 m (e 3).rd (e 3).val (e 7).rd (e 8).rd (e 9).rd q g) rfl (fun _=>by kernel_rfl) L
def EH (G:GT)(K:KT)(L:Nat)(x0:AV)(o:HP):KR :=
  Zf (Ug 4 (AV.ro x0)) fun v1=>Jt (o ++ [.cells v1 Zv]) fun h0=>ldF h0 3 (.ptr (o).length 0) fun v3=>Zf (ZQ h0 .slice v3) fun v4=>Jl G K L o (GY G K L o) L (.int .i64 1) (.int .i64 1) v3 v4 (.int .i64 0) h0 none
theorem ZgD (x0:AV) :fnK G K JL L U8 [x0] o=EH G K L x0 o:=by
 show Yu G 19 o.length K JL L Ew (Wn JL U8 o) (Wn JL U8 o) [] (NE [x0]) o none=_
 simp only [Ew,Y4,ZY,ZZ,Yi]
 rw [ZbD G K L o ,ZbE G K L o (GY G K L o) _]
 kernel_rfl
theorem Zjh {C:Cfg}{x0:AV}:RunT C Gw U8 [x0] (fun K=>EH C.G K C.L x0):=runT rfl fun _ _=>ZgD ..
def GX (G:GT)(K:KT)(L:Nat)(o:HP)(x3:AV)(q:HP)(g:Eff):KR :=
  Zf (Za .add .prim x3 (.int .i64 1)) fun v2=>some (QK false o v2 q g)
theorem ZbB :Yu G 20 o.length K JK L Et (Wn JK U7 o) (Wn JK U7 o) []=fun e q g=>GX G K L o (e 3).rd q g:=by kernel_rfl
def Jk (G:GT)(K:KT)(L:Nat)(o:HP)(k0:AV→HP→Eff→KR):Nat→AV→AV→AV→AV→HP→Eff→KR
  | 0,_,_,_,_,_,_=>none
  | m + 1,x3,x7,x8,x9,q,g=>Zf (Za .lss .prim x9 x8) fun v6=>ifK v6 (Zf (YN (.slice 4) x7 x9) fun v7=>Zf (Zx q 4 v7) fun v8=>Jt (q ++ [.cells [(.int .i64 0),(.str []),(.int .i64 0),(.own 4 [])] Zv]) fun h9=>DT (stV o.length 4 (.ptr (q).length 0) v8 h9 g) fun h10 f11=>Zf (Zx h10 4 (.ptr (q).length 0)) fun v12=>WC (K Gv [v12] h10) fun v13 h14 f15=>Zf (Zxi [x3,(AV.ro v13)]) fun v16=>Zf (Za .add .prim x9 (.int .i64 1)) fun v17=>Jk G K L o k0 m v16 x7 x8 v17 h14 (Zm o.length f11 f15)) (k0 x3 q g)
theorem ZbC (k0:AV→HP→Eff→KR)(zn:Ig):Yu G 20 o.length K JK L Eu zn (Wn JK U7 o) [(0,(fun e q g=>k0 (e 3).rd q g))]=fun e q g=>Jk G K L o k0 L (e 3).rd (e 7).rd (e 8).rd (e 9).rd q g:=lpJ (fun m e q g=>Jk G K L o k0 m (e 3).rd (e 7).rd (e 8).rd (e 9).rd q g) rfl (fun _=>by kernel_rfl) L
def EG (G:GT)(K:KT)(L:Nat)(x0:AV)(o:HP):KR :=
  Zf (Ug 4 (AV.ro x0)) fun v1=>Jt (o ++ [.cells v1 Zv]) fun h0=>ldF h0 3 (.ptr (o).length 0) fun v4=>Zf (ZQ h0 .slice v4) fun v5=>Jk G K L o (GX G K L o) L (.int .i64 0) v4 v5 (.int .i64 0) h0 none
theorem ZgC (x0:AV) :fnK G K JK L U7 [x0] o=EG G K L x0 o:=by
 show Yu G 20 o.length K JK L Es (Wn JK U7 o) (Wn JK U7 o) [] (NE [x0]) o none=_
 simp only [Es,Y4,ZY,ZZ,Yi]
 rw [ZbB G K L o ,ZbC G K L o (GX G K L o) _]
 kernel_rfl
theorem Zjg {C:Cfg}{x0:AV}:RunT C Gv U7 [x0] (fun K=>EG C.G K C.L x0):=runT rfl fun _ _=>ZgC ..
def XX (G:GT)(K:KT)(L:Nat)(o:HP)(q:HP)(g:Eff):KR :=
  Yn o (.int .i64 0) q g
theorem DL :Yu G 29 o.length K WL L TT (Wn WL Qo o) (Wn WL Qo o) []=fun e q g=>XX G K L o  q g:=by kernel_rfl
def WZ (G:GT)(K:KT)(L:Nat)(o:HP)(k0:HP→Eff→KR):Nat→AV→AV→AV→AV→HP→Eff→KR
  | 0,_,_,_,_,_,_=>none
  | m + 1,x2,x16,x17,x18,q,g=>Zf (Za .lss .prim x18 x17) fun v13=>ifK v13 (Zf (YN (.slice 4) x16 x18) fun v14=>Zf (Zx q 4 v14) fun v15=>Jt (q ++ [.cells [(.int .i64 0),(.str []),(.int .i64 0),(.own 4 [])] Zv]) fun h16=>DT (stV o.length 4 (.ptr (q).length 0) v15 h16 g) fun h17 f18=>Zf (Zx h17 1 x2) fun v19=>Zf (Zx h17 4 (.ptr (q).length 0)) fun v20=>WC (K Xc [v19,v20] h17) fun v21 h22 f23=>Zf (Za .neq .prim (AV.ro v21) (.int .i64 0)) fun v24=>ifK v24 (some (QK false o v21 h22 (Zm o.length f18 f23))) (Zf (Za .add .prim x18 (.int .i64 1)) fun v25=>WZ G K L o k0 m x2 x16 x17 v25 h22 (Zm o.length f18 f23))) (k0  q g)
theorem DN (k0:HP→Eff→KR)(zn:Ig):Yu G 29 o.length K WL L TU zn (Wn WL Qo o) [(0,(fun e q g=>k0 q g))]=fun e q g=>WZ G K L o k0 L (e 2).rd (e 16).rd (e 17).rd (e 18).rd q g:=lpJ (fun m e q g=>WZ G K L o k0 m (e 2).rd (e 16).rd (e 17).rd (e 18).rd q g) rfl (fun _=>by kernel_rfl) L
def Ob (G:GT)(K:KT)(L:Nat)(x0 x1:AV)(o:HP):KR :=
  Zf (Ug 1 (AV.ro x0)) fun v1=>Jt (o ++ [.cells v1 UC]) fun h0=>Zf (Ug 4 (AV.ro x1)) fun v3=>Jt (h0 ++ [.cells v3 Zv]) fun h2=>Zf (Zx h2 1 (.ptr (o).length 0)) fun v4=>Zf (Zx h2 4 (.ptr (h0).length 0)) fun v5=>WC (K OC [v4,v5] h2) fun v6 h7 f8=>Zf (Za .neq .prim (AV.ro v6) (.int .i64 0)) fun v9=>ifK v9 (some (QK false o v6 h7 (Zm o.length none f8))) (ldF h7 3 (.ptr (h0).length 0) fun v11=>Zf (ZQ h7 .slice v11) fun v12=>WZ G K L o (XX G K L o) L (.ptr (o).length 0) v11 v12 (.int .i64 0) h7 (Zm o.length none f8))
theorem S9 (x0 x1:AV) :fnK G K WL L Qo [x0,x1] o=Ob G K L x0 x1 o:=by
 show Yu G 29 o.length K WL L IY (Wn WL Qo o) (Wn WL Qo o) [] (NE [x0,x1]) o none=_
 simp only [IY,Y4,ZY,ZZ,Yi]
 rw [DL G K L o ,DN G K L o (XX G K L o) _]
 kernel_rfl
theorem Ea {C:Cfg}{x0 x1:AV}:RunT C Xc Qo [x0,x1] (fun K=>Ob C.G K C.L x0 x1):=runT rfl fun _ _=>S9 ..
def Yd (G:GT)(K:KT)(L:Nat)(o:HP)(q:HP)(g:Eff):KR :=
  Yn o (.int .i64 (-1)) q g
theorem U4 :Yu G 19 o.length K ZT L XU (Wn ZT Ya o) (Wn ZT Ya o) []=fun e q g=>Yd G K L o  q g:=by kernel_rfl
def ZU (G:GT)(K:KT)(L:Nat)(o:HP)(k0:HP→Eff→KR):Nat→AV→AV→AV→AV→HP→Eff→KR
  | 0,_,_,_,_,_,_=>none
  | m + 1,x0,x1,x7,x8,q,g=>Zf (Za .lss .prim x8 x7) fun v1=>ifK v1 (Zf (YN (.slice 4) x0 x8) fun v2=>Zf (Zx q 4 v2) fun v3=>WC (ZkC K x1 [v3] q) fun v4 h5 f6=>ifK (AV.ro v4) (some (QK false o x8 h5 (Zm o.length g f6))) (Zf (Za .add .prim x8 (.int .i64 1)) fun v7=>ZU G K L o k0 m x0 x1 x7 v7 h5 (Zm o.length g f6))) (k0  q g)
theorem U5 (k0:HP→Eff→KR)(zn:Ig):Yu G 19 o.length K ZT L XV zn (Wn ZT Ya o) [(0,(fun e q g=>k0 q g))]=fun e q g=>ZU G K L o k0 L (e 0).rd (e 1).rd (e 7).rd (e 8).rd q g:=lpJ (fun m e q g=>ZU G K L o k0 m (e 0).rd (e 1).rd (e 7).rd (e 8).rd q g) rfl (fun _=>by kernel_rfl) L
def Wv (G:GT)(K:KT)(L:Nat)(x0 x1:AV)(o:HP):KR :=
  Zf (ZQ o .slice (AV.ro x0)) fun v0=>ZU G K L o (Yd G K L o) L (AV.ro x0) (AV.ro x1) v0 (.int .i64 0) o none
theorem KP (x0 x1:AV) :fnK G K ZT L Ya [x0,x1] o=Wv G K L x0 x1 o:=by
 show Yu G 19 o.length K ZT L QB (Wn ZT Ya o) (Wn ZT Ya o) [] (NE [x0,x1]) o none=_
 simp only [QB,Y4,ZY,ZZ,Yi]
 rw [U4 G K L o ,U5 G K L o (Yd G K L o) _]
 kernel_rfl
theorem Gs {C:Cfg}{x0 x1:AV}:RunT C Q4 Ya [x0,x1] (fun K=>Wv C.G K C.L x0 x1):=runT rfl fun _ _=>KP ..
def EF (G:GT)(K:KT)(L:Nat)(x0 x1 x2:AV)(o:HP):KR :=
  Zf (QO o (AV.ro x1)) fun v0=>Zf (Za .lss .prim (AV.ro x0) v0) fun v1=>Wx v1 false (Zf (QO o (AV.ro x2)) fun v2=>Zf (Za .gtr .prim (AV.ro x0) v2) fun v3=>some (v3,o,none)) (some (.bool true)) o none fun v4 h5 f6=>some (QK false o v4 h5 f6)
theorem Zdp {C:Cfg}{x0 x1 x2:AV}:RunT C OE Ed [x0,x1,x2] (fun K=>EF C.G K C.L x0 x1 x2):=runT (P := Zhx) rfl fun _ _=>by kernel_rfl
def Ux (G:GT)(K:KT)(L:Nat)(x0 x1:AV)(o:HP):KR :=
  WC (K VG [(AV.ro x0),(AV.ro x1)] o) fun v0 h1 f2=>Zf (Za .geq .prim (AV.ro v0) (.int .i64 0)) fun v3=>some (QK false o v3 h1 (Zm o.length none f2))
theorem TG {C:Cfg}{x0 x1:AV}:RunT C Va Ul [x0,x1] (fun K=>Ux C.G K C.L x0 x1):=runT (P := MI) rfl fun _ _=>by kernel_rfl
def Vb (G:GT)(K:KT)(L:Nat)(x0 x1 x2 x3:AV)(o:HP):KR :=
  Zf (Ug 3 (AV.ro x0)) fun v1=>Jt (o ++ [.cells v1 Zy]) fun h0=>Zf (Ug 4 (AV.ro x2)) fun v3=>Jt (h0 ++ [.cells v3 Yp]) fun h2=>ldF h2 1 (.ptr (o).length 0) fun v5=>Zf (YN (.slice 14) v5 (AV.ro x1)) fun v6=>Zf (KQ 0 v6) fun v7=>Zf (Zx h2 13 v7) fun v8=>Jt (h2 ++ [.cells [(.str []),(.own 3 []),(.own 17 []),(.own 3 []),(.own 3 []),(.own 1 []),(.own 1 []),(.own 1 []),(.own 1 []),(.own 1 []),(.own 4 []),(.own 5 []),(.own 3 [])] Yz]) fun h9=>DT (stV o.length 13 (.ptr (h2).length 0) v8 h9 none) fun h10 f11=>Zf (Za .eql .prim (AV.ro x3) (.str [115,108,111,116])) fun v12=>ifK v12 (ldF h10 2 (.ptr (h0).length 0) fun v14=>some (QK false o v14 h10 f11)) (Zf (Za .eql .prim (AV.ro x3) (.str [105,110,115,116,114])) fun v15=>ifK v15 (ldF h10 3 (.ptr (h0).length 0) fun v17=>Zf (ZQ h10 .slice v17) fun v18=>some (QK false o v18 h10 f11)) (Zf (Za .eql .prim (AV.ro x3) (.str [115,105,116,101])) fun v19=>ifK v19 (ldF h10 1 (.ptr (o).length 0) fun v21=>Zf (ZQ h10 .slice v21) fun v22=>some (QK false o v22 h10 f11)) (Zf (Za .eql .prim (AV.ro x3) (.str [118,97,114])) fun v23=>ifK v23 (ldF h10 1 (.ptr (h2).length 0) fun v25=>Zf (ZQ h10 .slice v25) fun v26=>some (QK false o v26 h10 f11)) (Zf (Za .eql .prim (AV.ro x3) (.str [114,101,115,111,117,114,99,101])) fun v27=>ifK v27 (ldF h10 2 (.ptr (h2).length 0) fun v29=>Zf (ZQ h10 .slice v29) fun v30=>some (QK false o v30 h10 f11)) (Zf (Za .eql .prim (AV.ro x3) (.str [115,116,111,114,101])) fun v31=>ifK v31 (ldF h10 3 (.ptr (h2).length 0) fun v33=>Zf (ZQ h10 .slice v33) fun v34=>some (QK false o v34 h10 f11)) (Zf (Za .eql .prim (AV.ro x3) (.str [98,101,108,116])) fun v35=>ifK v35 (ldF h10 4 (.ptr (h2).length 0) fun v37=>Zf (ZQ h10 .slice v37) fun v38=>some (QK false o v38 h10 f11)) (Zf (Za .eql .prim (AV.ro x3) (.str [113,117,101,117,101])) fun v39=>ifK v39 (ldF h10 5 (.ptr (h2).length 0) fun v41=>Zf (ZQ h10 .slice v41) fun v42=>some (QK false o v42 h10 f11)) (Zf (Za .eql .prim (AV.ro x3) (.str [115,116,114,101,97,109])) fun v43=>ifK v43 (ldF h10 6 (.ptr (h2).length 0) fun v45=>Zf (ZQ h10 .slice v45) fun v46=>some (QK false o v46 h10 f11)) (Zf (Za .eql .prim (AV.ro x3) (.str [116,97,108,108,121])) fun v47=>ifK v47 (ldF h10 7 (.ptr (h2).length 0) fun v49=>Zf (ZQ h10 .slice v49) fun v50=>some (QK false o v50 h10 f11)) (Zf (Za .eql .prim (AV.ro x3) (.str [108,101,118,101,108])) fun v51=>ifK v51 (ldF h10 8 (.ptr (h2).length 0) fun v53=>Zf (ZQ h10 .slice v53) fun v54=>some (QK false o v54 h10 f11)) (ldF h10 9 (.ptr (h2).length 0) fun v56=>Zf (ZQ h10 .slice v56) fun v57=>some (QK false o v57 h10 f11))))))))))))
theorem Zlz {C:Cfg}{x0 x1 x2 x3:AV}:RunT C CY Zf5 [x0,x1,x2,x3] (fun K=>Vb C.G K C.L x0 x1 x2 x3):=runT (P := Zph) rfl fun _ _=>by kernel_rfl
def IE (G:GT)(K:KT)(L:Nat)(o:HP)(y3:AV)(q:HP)(g:Eff):KR :=
  some (QK false o y3 q g)
theorem Zde :Yu G 21 o.length K UR L FC (Wn UR G7 o) (Wn UR G7 o) []=fun e q g=>IE G K L o (e 3).val q g:=by kernel_rfl
def JY (G:GT)(K:KT)(L:Nat)(o:HP)(k0:AV→HP→Eff→KR):Nat→AV→AV→AV→AV→HP→Eff→KR
  | 0,_,_,_,_,_,_=>none
  | m + 1,x1,x3,y3,x4,q,g=>ldF q 3 x1 fun v3=>Zf (ZQ q .slice v3) fun v4=>Zf (Za .lss .prim x4 v4) fun v5=>ifK v5 (ldF q 3 x1 fun v7=>Zf (YN (.slice 4) v7 x4) fun v8=>Zf (Zx q 4 v8) fun v9=>WC (K IW [v9] q) fun v10 h11 f12=>Zf (Za .add .prim x3 (AV.ro v10)) fun v13=>Zf (Za .add .prim x4 (.int .i64 1)) fun v14=>JY G K L o k0 m x1 v13 v13 v14 h11 (Zm o.length g f12)) (k0 y3 q g)
theorem Zdf (k0:AV→HP→Eff→KR)(zn:Ig):Yu G 21 o.length K UR L FD zn (Wn UR G7 o) [(0,(fun e q g=>k0 (e 3).val q g))]=fun e q g=>JY G K L o k0 L (e 1).rd (e 3).rd (e 3).val (e 4).rd q g:=lpJ (fun m e q g=>JY G K L o k0 m (e 1).rd (e 3).rd (e 3).val (e 4).rd q g) rfl (fun _=>by kernel_rfl) L
def ZaB (G:GT)(K:KT)(L:Nat)(x0:AV)(o:HP):KR :=
  Zf (Ug 4 (AV.ro x0)) fun v1=>Jt (o ++ [.cells v1 Zv]) fun h0=>JY G K L o (IE G K L o) L (.ptr (o).length 0) (.int .i64 1) (.int .i64 1) (.int .i64 0) h0 none
theorem ZiW (x0:AV) :fnK G K UR L G7 [x0] o=ZaB G K L x0 o:=by
 show Yu G 21 o.length K UR L Zaw (Wn UR G7 o) (Wn UR G7 o) [] (NE [x0]) o none=_
 simp only [Zaw,Y4,ZY,ZZ,Yi]
 rw [Zde G K L o ,Zdf G K L o (IE G K L o) _]
 kernel_rfl
theorem Zlt {C:Cfg}{x0:AV}:RunT C IW G7 [x0] (fun K=>ZaB C.G K C.L x0):=runT rfl fun _ _=>ZiW ..
def IC (G:GT)(K:KT)(L:Nat)(o:HP)(x3:AV)(q:HP)(g:Eff):KR :=
  Zf (Za .add .prim x3 (.int .i64 1)) fun v2=>some (QK false o v2 q g)
theorem Zdc :Yu G 22 o.length K UQ L F9 (Wn UQ G6 o) (Wn UQ G6 o) []=fun e q g=>IC G K L o (e 3).rd q g:=by kernel_rfl
def JX (G:GT)(K:KT)(L:Nat)(o:HP)(k0:AV→HP→Eff→KR):Nat→AV→AV→AV→HP→Eff→KR
  | 0,_,_,_,_,_=>none
  | m + 1,x1,x3,x4,q,g=>ldF q 3 x1 fun v4=>Zf (ZQ q .slice v4) fun v5=>Zf (Za .lss .prim x4 v5) fun v6=>ifK v6 (ldF q 3 x1 fun v8=>Zf (YN (.slice 4) v8 x4) fun v9=>Zf (Zx q 4 v9) fun v10=>WC (K IV [v10] q) fun v11 h12 f13=>Zf (Zxi [x3,(AV.ro v11)]) fun v14=>Zf (Za .add .prim x4 (.int .i64 1)) fun v15=>JX G K L o k0 m x1 v14 v15 h12 (Zm o.length g f13)) (k0 x3 q g)
theorem Zdd (k0:AV→HP→Eff→KR)(zn:Ig):Yu G 22 o.length K UQ L FB zn (Wn UQ G6 o) [(0,(fun e q g=>k0 (e 3).rd q g))]=fun e q g=>JX G K L o k0 L (e 1).rd (e 3).rd (e 4).rd q g:=lpJ (fun m e q g=>JX G K L o k0 m (e 1).rd (e 3).rd (e 4).rd q g) rfl (fun _=>by kernel_rfl) L
def ZaA (G:GT)(K:KT)(L:Nat)(x0:AV)(o:HP):KR :=
  Zf (Ug 4 (AV.ro x0)) fun v1=>Jt (o ++ [.cells v1 Zv]) fun h0=>JX G K L o (IC G K L o) L (.ptr (o).length 0) (.int .i64 0) (.int .i64 0) h0 none
theorem ZiV (x0:AV) :fnK G K UQ L G6 [x0] o=ZaA G K L x0 o:=by
 show Yu G 22 o.length K UQ L Zav (Wn UQ G6 o) (Wn UQ G6 o) [] (NE [x0]) o none=_
 simp only [Zav,Y4,ZY,ZZ,Yi]
 rw [Zdc G K L o ,Zdd G K L o (IC G K L o) _]
 kernel_rfl
theorem Zls {C:Cfg}{x0:AV}:RunT C IV G6 [x0] (fun K=>ZaA C.G K C.L x0):=runT rfl fun _ _=>ZiV ..
def Tu (G:GT)(K:KT)(L:Nat)(o:HP)(q:HP)(g:Eff):KR :=
  Yn o (.int .i64 0) q g
theorem ZeD :Yu G 167 o.length K Ia L Zb2 (Wn Ia Om o) (Wn Ia Om o) []=fun e q g=>Tu G K L o  q g:=by kernel_rfl
def UK (G:GT)(K:KT)(L:Nat)(o:HP)(k0:HP→Eff→KR):Nat→AV→AV→AV→HP→Eff→KR
  | 0,_,_,_,_,_=>none
  | m + 1,x1,x2,x10,q,g=>ldF q 3 x2 fun v167=>Zf (ZQ q .slice v167) fun v168=>Zf (Za .lss .prim x10 v168) fun v4=>ifK v4 (ldF q 3 x2 fun v171=>Zf (YN (.slice 4) v171 x10) fun v5=>Zf (Zx q 4 v5) fun v173=>WC (K TZ [v173,x1] q) fun v6 h7 f176=>Zf (Za .neq .prim (AV.ro v6) (.int .i64 0)) fun v8=>ifK v8 (some (QK false o v6 h7 (Zm o.length g f176))) (Zf (Za .add .prim x10 (.int .i64 1)) fun v9=>UK G K L o k0 m x1 x2 v9 h7 (Zm o.length g f176))) (k0  q g)
theorem ZeE (k0:HP→Eff→KR)(zn:Ig):Yu G 167 o.length K Ia L Zb3 zn (Wn Ia Om o) [(0,(fun e q g=>k0 q g))]=fun e q g=>UK G K L o k0 L (e 1).rd (e 2).rd (e 10).rd q g:=lpJ (fun m e q g=>UK G K L o k0 m (e 1).rd (e 2).rd (e 10).rd q g) rfl (fun _=>by kernel_rfl) L
def Zdg (G:GT)(K:KT)(L:Nat)(x0 x1:AV)(o:HP):KR :=
  Zf (Ug 4 (AV.ro x0)) fun v1=>Jt (o ++ [.cells v1 Zv]) fun h0=>ldF h0 0 (.ptr (o).length 0) fun v3=>WC (K CU [v3] h0) fun v4 h5 f6=>Zf (Za .geq .prim (AV.ro v4) (.int .i64 0)) fun v7=>Wx v7 true (Wx (AV.ro x1) true (ldF h5 0 (.ptr (o).length 0) fun v9=>Zf (Za .neq .prim v9 (.int .i64 3)) fun v10=>some (v10,h5,(Zm o.length none f6))) (some (.bool false)) h5 (Zm o.length none f6) fun v11 h12 f13=>Wx (AV.ro v11) false (Zf (Qg .not (AV.ro x1)) fun v14=>Wx v14 true (ldF h12 0 (.ptr (o).length 0) fun v16=>Zf (Za .leq .prim v16 (.int .i64 24)) fun v17=>some (v17,h12,f13)) (some (.bool false)) h12 f13 fun v18 h19 f20=>some ((AV.ro v18),h19,f20)) (some (.bool true)) h12 f13 fun v21 h22 f23=>some ((AV.ro v21),h22,f23)) (some (.bool false)) h5 (Zm o.length none f6) fun v24 h25 f26=>Zf (Qg .not (AV.ro x1)) fun v27=>Wx v27 true (ldF h25 0 (.ptr (o).length 0) fun v29=>Zf (Za .eql .prim v29 (.int .i64 3)) fun v30=>Wx v30 false (ldF h25 0 (.ptr (o).length 0) fun v32=>WC (K BZ [v32] h25) fun v33 h34 f35=>some ((AV.ro v33),h34,(Zm o.length f26 f35))) (some (.bool true)) h25 f26 fun v36 h37 f38=>some ((AV.ro v36),h37,f38)) (some (.bool false)) h25 f26 fun v39 h2 f41=>Wx (AV.ro x1) true (ldF h2 0 (.ptr (o).length 0) fun v43=>WC (K BZ [v43] h2) fun v44 h45 f46=>Wx (AV.ro v44) false (ldF h45 0 (.ptr (o).length 0) fun v48=>Zf (Za .eql .prim v48 (.int .i64 25)) fun v49=>some (v49,h45,(Zm o.length f41 f46))) (some (.bool true)) h45 (Zm o.length f41 f46) fun v50 h8 f52=>Wx (AV.ro v50) false (ldF h8 0 (.ptr (o).length 0) fun v54=>Zf (Za .eql .prim v54 (.int .i64 26)) fun v55=>some (v55,h8,f52)) (some (.bool true)) h8 f52 fun v56 h57 f58=>some ((AV.ro v56),h57,f58)) (some (.bool false)) h2 f41 fun v59 h60 f61=>ldF h60 0 (.ptr (o).length 0) fun v63=>Zf (Za .eql .prim v63 (.int .i64 1)) fun v64=>Wx v64 false (ldF h60 0 (.ptr (o).length 0) fun v66=>Zf (Za .eql .prim v66 (.int .i64 2)) fun v67=>some (v67,h60,f61)) (some (.bool true)) h60 f61 fun v68 h15 f70=>Wx (AV.ro v68) false (some ((AV.ro v59),h15,f70)) (some (.bool true)) h15 f70 fun v71 h72 f73=>Zf (Qg .not (AV.ro v24)) fun v74=>Wx v74 false (Zf (Qg .not (AV.ro v39)) fun v75=>Wx v75 true (ldF h72 1 (.ptr (o).length 0) fun v77=>Zf (Za .neq .prim v77 (.str [])) fun v78=>some (v78,h72,f73)) (some (.bool false)) h72 f73 fun v79 h80 f81=>some ((AV.ro v79),h80,f81)) (some (.bool true)) h72 f73 fun v82 h28 f84=>Wx (AV.ro v82) false (Zf (Qg .not (AV.ro v71)) fun v85=>Wx v85 true (ldF h28 2 (.ptr (o).length 0) fun v87=>Zf (Za .neq .prim v87 (.int .i64 0)) fun v31=>some (v31,h28,f84)) (some (.bool false)) h28 f84 fun v89 h40 f91=>some ((AV.ro v89),h40,f91)) (some (.bool true)) h28 f84 fun v42 h47 f94=>Wx (AV.ro v42) false (ldF h47 3 (.ptr (o).length 0) fun v51=>Zf (ZQ h47 .slice v51) fun v53=>Zf (Za .neq .prim v53 (AV.ro v4)) fun v62=>some (v62,h47,f94)) (some (.bool true)) h47 f94 fun v65 h69 f101=>ifK (AV.ro v65) (Yn o (.int .i64 1) h69 f101) (ldF h69 0 (.ptr (o).length 0) fun v76=>Zf (Za .eql .prim v76 (.int .i64 1)) fun v83=>Wx v83 true (ldF h69 2 (.ptr (o).length 0) fun v86=>WC (Wl K ZeX [v86] h69) fun v107 h88 f109=>Zf (Qg .not (AV.ro v107)) fun v90=>some (v90,h88,(Zm o.length f101 f109))) (some (.bool false)) h69 f101 fun v92 h112 f113=>Wx (AV.ro v92) false (ldF h112 0 (.ptr (o).length 0) fun v93=>Zf (Za .eql .prim v93 (.int .i64 2)) fun v95=>Wx v95 true (ldF h112 2 (.ptr (o).length 0) fun v96=>Zf (Za .neq .prim v96 (.int .i64 0)) fun v97=>some (v97,h112,f113)) (some (.bool false)) h112 f113 fun v98 h99 f122=>Wx (AV.ro v98) true (ldF h99 2 (.ptr (o).length 0) fun v124=>Zf (Za .neq .prim v124 (.int .i64 1)) fun v100=>some (v100,h99,f122)) (some (.bool false)) h99 f122 fun v102 h127 f128=>some ((AV.ro v102),h127,f128)) (some (.bool true)) h112 f113 fun v103 h104 f131=>Wx (AV.ro v103) false (Wx (AV.ro v59) true (ldF h104 2 (.ptr (o).length 0) fun v105=>Zf (Za .lss .prim v105 (.int .i64 0)) fun v106=>Wx v106 false (ldF h104 2 (.ptr (o).length 0) fun v108=>ldF h104 0 (.ptr (o).length 0) fun v138=>WC (Wl K Zcq [v138] h104) fun v139 h110 f141=>Zf (Za .gtr .prim v108 (AV.ro v139)) fun v111=>some (v111,h110,(Zm o.length f131 f141))) (some (.bool true)) h104 f131 fun v143 h114 f145=>some ((AV.ro v143),h114,f145)) (some (.bool false)) h104 f131 fun v146 h115 f148=>some ((AV.ro v146),h115,f148)) (some (.bool true)) h104 f131 fun v116 h117 f151=>ifK (AV.ro v116) (Yn o (.int .i64 2) h117 f151) (Wx (AV.ro v39) true (ldF h117 1 (.ptr (o).length 0) fun v118=>WC (K TY [v118] h117) fun v154 h119 f156=>Zf (Za .neq .prim (AV.ro v154) (.int .i64 0)) fun v157=>some (v157,h119,(Zm o.length f151 f156))) (some (.bool false)) h117 f151 fun v120 h121 f160=>ifK (AV.ro v120) (ldF h121 1 (.ptr (o).length 0) fun v162=>WC (K TY [v162] h121) fun v123 h125 f165=>some (QK false o v123 h125 (Zm o.length f160 f165))) (UK G K L o (Tu G K L o) L (AV.ro x1) (.ptr (o).length 0) (.int .i64 0) h121 f160)))
theorem ZkG (x0 x1:AV) :fnK G K Ia L Om [x0,x1] o=Zdg G K L x0 x1 o:=by
 show Yu G 167 o.length K Ia L Zc9 (Wn Ia Om o) (Wn Ia Om o) [] (NE [x0,x1]) o none=_
 simp only [Zc9,Y4,ZY,ZZ,Yi]
 rw [ZeD G K L o ,ZeE G K L o (Tu G K L o) _]
 kernel_rfl
theorem Zno {C:Cfg}{x0 x1:AV}:RunT C TZ Om [x0,x1] (fun K=>Zdg C.G K C.L x0 x1):=runT rfl fun _ _=>ZkG ..
def ZpX (G:GT)(K:KT)(L:Nat)(x0:AV)(o:HP):KR :=
  Zf (Za .geq .prim (AV.ro x0) (.int .i64 (-1000000000000))) fun v0=>Wx v0 true (Zf (Za .leq .prim (AV.ro x0) (.int .i64 1000000000000)) fun v1=>some (v1,o,none)) (some (.bool false)) o none fun v2 h3 f4=>some (QK false o v2 h3 f4)
theorem Zro {C:Cfg}{x0:AV}:RunT C ZeW ZpP [x0] (fun K=>ZpX C.G K C.L x0):=runT (P := Zvh) rfl fun _ _=>by kernel_rfl
def Dl (G:GT)(K:KT)(L:Nat)(x0 x1:AV)(o:HP):KR :=
  Zf (Ug 1 (AV.ro x0)) fun v1=>Jt (o ++ [.cells v1 UC]) fun h0=>Zf (Ug 4 (AV.ro x1)) fun v3=>Jt (h0 ++ [.cells v3 Zv]) fun h2=>Zf (Zx h2 1 (.ptr (o).length 0)) fun v4=>ldF h2 0 (.ptr (h0).length 0) fun v6=>WC (Wl K IU [v4,v6] h2) fun v7 h8 f9=>Zf (Qg .not (AV.ro v7)) fun v10=>Wx v10 false (ldF h8 3 (.ptr (h0).length 0) fun v12=>Zf (ZQ h8 .slice v12) fun v13=>ldF h8 0 (.ptr (h0).length 0) fun v15=>WC (Wl K RG [v15] h8) fun v16 h17 f18=>Zf (Za .neq .prim v13 (AV.ro v16)) fun v19=>some (v19,h17,(Zm o.length (Zm o.length none f9) f18))) (some (.bool true)) h8 (Zm o.length none f9) fun v20 h21 f22=>Wx (AV.ro v20) false (ldF h21 1 (.ptr (h0).length 0) fun v24=>Zf (Za .neq .prim v24 (.str [])) fun v25=>Wx v25 true (Zf (Zx h21 1 (.ptr (o).length 0)) fun v26=>ldF h21 0 (.ptr (h0).length 0) fun v28=>WC (Wl K UE [v26,v28] h21) fun v29 h30 f31=>Zf (Qg .not (AV.ro v29)) fun v32=>some (v32,h30,(Zm o.length f22 f31))) (some (.bool false)) h21 f22 fun v33 h34 f35=>some ((AV.ro v33),h34,f35)) (some (.bool true)) h21 f22 fun v36 h37 f38=>ifK (AV.ro v36) (Yn o (.int .i64 1) h37 f38) (ldF h37 0 (.ptr (h0).length 0) fun v40=>Zf (Za .eql .prim v40 (.int .i64 1)) fun v41=>ifK v41 (ldF h37 2 (.ptr (h0).length 0) fun v43=>WC (K ZeW [v43] h37) fun v44 h45 f46=>Zf (Qg .not (AV.ro v44)) fun v47=>ifK v47 (Yn o (.int .i64 2) h45 (Zm o.length f38 f46)) (Yn o (.int .i64 0) h45 (Zm o.length f38 f46))) (Zf (Zx h37 1 (.ptr (o).length 0)) fun v48=>ldF h37 0 (.ptr (h0).length 0) fun v50=>WC (K Gt [v48,v50] h37) fun v51 h5 f53=>Zf (Jr (AV.ro v51) 0) fun v54=>Zf (Jr (AV.ro v51) 1) fun v55=>Zf (Jr (AV.ro v51) 2) fun v56=>Zf (Qg .not v56) fun v57=>Wx v57 true (ldF h5 2 (.ptr (h0).length 0) fun v59=>Zf (Za .neq .prim v59 (.int .i64 0)) fun v60=>some (v60,h5,(Zm o.length f38 f53))) (some (.bool false)) h5 (Zm o.length f38 f53) fun v61 h11 f63=>ifK (AV.ro v61) (Yn o (.int .i64 1) h11 f63) (Wx v56 true (ldF h11 2 (.ptr (h0).length 0) fun v65=>Zf (Za .lss .prim v65 v54) fun v66=>Wx v66 false (ldF h11 2 (.ptr (h0).length 0) fun v68=>Zf (Za .gtr .prim v68 v55) fun v69=>some (v69,h11,f63)) (some (.bool true)) h11 f63 fun v70 h14 f72=>some ((AV.ro v70),h14,f72)) (some (.bool false)) h11 f63 fun v73 h23 f75=>ifK (AV.ro v73) (Yn o (.int .i64 2) h23 f75) (Zf (Zx h23 1 (.ptr (o).length 0)) fun v76=>ldF h23 0 (.ptr (h0).length 0) fun v78=>WC (K UE [v76,v78] h23) fun v79 h80 f81=>ifK (AV.ro v79) (ldF h80 1 (.ptr (h0).length 0) fun v83=>WC (K OG [v83] h80) fun v84 h27 f86=>some (QK false o v84 h27 (Zm o.length (Zm o.length f75 f81) f86))) (Yn o (.int .i64 0) h80 (Zm o.length f75 f81))))))
theorem Ap {C:Cfg}{x0 x1:AV}:RunT C OC Dh [x0,x1] (fun K=>Dl C.G K C.L x0 x1):=runT (P := Zce) rfl fun _ _=>by kernel_rfl
def WB (G:GT)(K:KT)(L:Nat)(o:HP)(q:HP)(g:Eff):KR :=
  Yn o (.int .i64 (-1)) q g
theorem O7 :Yu G 19 o.length K Y0 L Ut (Wn Y0 YB o) (Wn Y0 YB o) []=fun e q g=>WB G K L o  q g:=by kernel_rfl
def YE (G:GT)(K:KT)(L:Nat)(o:HP)(k0:HP→Eff→KR):Nat→AV→AV→AV→AV→HP→Eff→KR
  | 0,_,_,_,_,_,_=>none
  | m + 1,x0,x1,x7,x8,q,g=>Zf (Za .lss .prim x8 x7) fun v1=>ifK v1 (Zf (YN (.slice 1) x0 x8) fun v2=>Zf (QO q v2) fun v3=>WC (ZkC K x1 [v3] q) fun v4 h5 f6=>ifK (AV.ro v4) (some (QK false o x8 h5 (Zm o.length g f6))) (Zf (Za .add .prim x8 (.int .i64 1)) fun v7=>YE G K L o k0 m x0 x1 x7 v7 h5 (Zm o.length g f6))) (k0  q g)
theorem O8 (k0:HP→Eff→KR)(zn:Ig):Yu G 19 o.length K Y0 L Uu zn (Wn Y0 YB o) [(0,(fun e q g=>k0 q g))]=fun e q g=>YE G K L o k0 L (e 0).rd (e 1).rd (e 7).rd (e 8).rd q g:=lpJ (fun m e q g=>YE G K L o k0 m (e 0).rd (e 1).rd (e 7).rd (e 8).rd q g) rfl (fun _=>by kernel_rfl) L
def VL (G:GT)(K:KT)(L:Nat)(x0 x1:AV)(o:HP):KR :=
  Zf (ZQ o .slice (AV.ro x0)) fun v0=>YE G K L o (WB G K L o) L (AV.ro x0) (AV.ro x1) v0 (.int .i64 0) o none
theorem MB (x0 x1:AV) :fnK G K Y0 L YB [x0,x1] o=VL G K L x0 x1 o:=by
 show Yu G 19 o.length K Y0 L VK (Wn Y0 YB o) (Wn Y0 YB o) [] (NE [x0,x1]) o none=_
 simp only [VK,Y4,ZY,ZZ,Yi]
 rw [O7 G K L o ,O8 G K L o (WB G K L o) _]
 kernel_rfl
theorem LC {C:Cfg}{x0 x1:AV}:RunT C VG YB [x0,x1] (fun K=>VL C.G K C.L x0 x1):=runT rfl fun _ _=>MB ..
def ZgH (G:GT)(K:KT)(L:Nat)(x0:AV)(o:HP):KR :=
  Zf (Za .lss .prim (AV.ro x0) (.int .i64 1)) fun v0=>Wx v0 false (Zf (Za .gtr .prim (AV.ro x0) (.int .i64 26)) fun v1=>some (v1,o,none)) (some (.bool true)) o none fun v2 h3 f4=>ifK (AV.ro v2) (Yn o (.int .i64 (-1)) h3 f4) (Zf (Za .geq .prim (AV.ro x0) (.int .i64 5)) fun v5=>Wx v5 true (Zf (Za .leq .prim (AV.ro x0) (.int .i64 8)) fun v6=>some (v6,h3,f4)) (some (.bool false)) h3 f4 fun v7 h8 f9=>ifK (AV.ro v7) (Yn o (.int .i64 1) h8 f9) (Zf (Za .geq .prim (AV.ro x0) (.int .i64 9)) fun v10=>Wx v10 true (Zf (Za .leq .prim (AV.ro x0) (.int .i64 21)) fun v11=>some (v11,h8,f9)) (some (.bool false)) h8 f9 fun v12 h13 f14=>ifK (AV.ro v12) (Yn o (.int .i64 2) h13 f14) (Yn o (.int .i64 0) h13 f14)))
theorem Zlr {C:Cfg}{x0:AV}:RunT C CU Zf2 [x0] (fun K=>ZgH C.G K C.L x0):=runT (P := Zpd) rfl fun _ _=>by kernel_rfl
def ZdF (G:GT)(K:KT)(L:Nat)(x0:AV)(o:HP):KR :=
  Zf (Za .geq .prim (AV.ro x0) (.int .i64 22)) fun v0=>Wx v0 true (Zf (Za .leq .prim (AV.ro x0) (.int .i64 24)) fun v1=>some (v1,o,none)) (some (.bool false)) o none fun v2 h3 f4=>some (QK false o v2 h3 f4)
theorem Zjp {C:Cfg}{x0:AV}:RunT C BZ Zd3 [x0] (fun K=>ZdF C.G K C.L x0):=runT (P := Zni) rfl fun _ _=>by kernel_rfl
def ZjE (G:GT)(K:KT)(L:Nat)(x0:AV)(o:HP):KR :=
  Zf (Za .eql .prim (AV.ro x0) (.int .i64 25)) fun v0=>ifK v0 (Yn o (.int .i64 15) o none) (Zf (Za .eql .prim (AV.ro x0) (.int .i64 26)) fun v1=>ifK v1 (Yn o (.int .i64 31) o none) (Yn o (.int .i64 63) o none))
theorem Znn {C:Cfg}{x0:AV}:RunT C Zcq Zj1 [x0] (fun K=>ZjE C.G K C.L x0):=runT (P := Zrx) rfl fun _ _=>by kernel_rfl
def Ba (G:GT)(K:KT)(L:Nat)(x0 x1:AV)(o:HP):KR :=
  Zf (Ug 1 (AV.ro x0)) fun v1=>Jt (o ++ [.cells v1 UC]) fun h0=>Zf (Za .eql .prim (AV.ro x1) (.int .i64 3)) fun v2=>ifK v2 (ldF h0 0 (.ptr (o).length 0) fun v4=>Zf (Qg .not v4) fun v5=>some (QK false o v5 h0 none)) (Zf (Za .eql .prim (AV.ro x1) (.int .i64 25)) fun v6=>ifK v6 (ifK v6 (ldF h0 0 (.ptr (o).length 0) fun v8=>some (QK false o v8 h0 none)) (WC (K RG [(AV.ro x1)] h0) fun v9 h10 f11=>Zf (Za .geq .prim (AV.ro v9) (.int .i64 0)) fun v12=>some (QK false o v12 h10 (Zm o.length none f11)))) (Zf (Za .eql .prim (AV.ro x1) (.int .i64 26)) fun v13=>ifK v13 (ldF h0 0 (.ptr (o).length 0) fun v15=>some (QK false o v15 h0 none)) (WC (K RG [(AV.ro x1)] h0) fun v16 h17 f18=>Zf (Za .geq .prim (AV.ro v16) (.int .i64 0)) fun v19=>some (QK false o v19 h17 (Zm o.length none f18)))))
theorem SX {C:Cfg}{x0 x1:AV}:RunT C IU RQ [x0,x1] (fun K=>Ba C.G K C.L x0 x1):=runT (P := ZaY) rfl fun _ _=>by kernel_rfl
def ZgE (G:GT)(K:KT)(L:Nat)(x0:AV)(o:HP):KR :=
  Zf (Za .eql .prim (AV.ro x0) (.int .i64 1)) fun v0=>Wx v0 false (Zf (Za .eql .prim (AV.ro x0) (.int .i64 2)) fun v1=>some (v1,o,none)) (some (.bool true)) o none fun v2 h3 f4=>Wx (AV.ro v2) false (Zf (Za .eql .prim (AV.ro x0) (.int .i64 3)) fun v5=>some (v5,h3,f4)) (some (.bool true)) h3 f4 fun v6 h7 f8=>Wx (AV.ro v6) false (Zf (Za .eql .prim (AV.ro x0) (.int .i64 4)) fun v9=>some (v9,h7,f8)) (some (.bool true)) h7 f8 fun v10 h11 f12=>ifK (AV.ro v10) (Yn o (.int .i64 0) h11 f12) (Zf (Za .geq .prim (AV.ro x0) (.int .i64 5)) fun v13=>Wx v13 true (Zf (Za .leq .prim (AV.ro x0) (.int .i64 8)) fun v14=>some (v14,h11,f12)) (some (.bool false)) h11 f12 fun v15 h16 f17=>ifK (AV.ro v15) (Yn o (.int .i64 1) h16 f17) (Zf (Za .geq .prim (AV.ro x0) (.int .i64 9)) fun v18=>Wx v18 true (Zf (Za .leq .prim (AV.ro x0) (.int .i64 21)) fun v19=>some (v19,h16,f17)) (some (.bool false)) h16 f17 fun v20 h21 f22=>ifK (AV.ro v20) (Yn o (.int .i64 2) h21 f22) (Zf (Za .geq .prim (AV.ro x0) (.int .i64 22)) fun v23=>Wx v23 true (Zf (Za .leq .prim (AV.ro x0) (.int .i64 26)) fun v24=>some (v24,h21,f22)) (some (.bool false)) h21 f22 fun v25 h26 f27=>ifK (AV.ro v25) (Yn o (.int .i64 0) h26 f27) (Yn o (.int .i64 (-1)) h26 f27))))
theorem ZkP {C:Cfg}{x0:AV}:RunT C RG Zfq [x0] (fun K=>ZgE C.G K C.L x0):=runT (P := Zpb) rfl fun _ _=>by kernel_rfl
def Bc (G:GT)(K:KT)(L:Nat)(x0 x1:AV)(o:HP):KR :=
  Zf (Ug 1 (AV.ro x0)) fun v1=>Jt (o ++ [.cells v1 UC]) fun h0=>Zf (Za .eql .prim (AV.ro x1) (.int .i64 3)) fun v2=>Wx v2 false (WC (K Rf [(AV.ro x1)] h0) fun v3 h4 f5=>Wx (AV.ro v3) true (ldF h4 0 (.ptr (o).length 0) fun v7=>Zf (Qg .not v7) fun v8=>some (v8,h4,(Zm o.length none f5))) (some (.bool false)) h4 (Zm o.length none f5) fun v9 h10 f11=>some ((AV.ro v9),h10,f11)) (some (.bool true)) h0 none fun v12 h13 f14=>some (QK false o v12 h13 f14)
theorem SY {C:Cfg}{x0 x1:AV}:RunT C UE RS [x0,x1] (fun K=>Bc C.G K C.L x0 x1):=runT (P := ZaZ) rfl fun _ _=>by kernel_rfl
def Lr (G:GT)(K:KT)(L:Nat)(x0 x1:AV)(o:HP):KR :=
  Zf (Ug 1 (AV.ro x0)) fun v1=>Jt (o ++ [.cells v1 UC]) fun h0=>Zf (Za .eql .prim (AV.ro x1) (.int .i64 2)) fun v2=>ifK v2 (some (QK false o (.tup [(AV.nm (.int .i64 0)),(AV.nm (.int .i64 1)),(AV.nm (.bool true))]) h0 none)) (Zf (Za .eql .prim (AV.ro x1) (.int .i64 25)) fun v3=>ifK v3 (some (QK false o (.tup [(AV.nm (.int .i64 0)),(AV.nm (.int .i64 15)),(AV.nm (.bool true))]) h0 none)) (Zf (Za .eql .prim (AV.ro x1) (.int .i64 26)) fun v4=>ifK v4 (some (QK false o (.tup [(AV.nm (.int .i64 0)),(AV.nm (.int .i64 31)),(AV.nm (.bool true))]) h0 none)) (WC (K Rf [(AV.ro x1)] h0) fun v5 h6 f7=>Wx (AV.ro v5) true (ldF h6 0 (.ptr (o).length 0) fun v9=>some (v9,h6,(Zm o.length none f7))) (some (.bool false)) h6 (Zm o.length none f7) fun v10 h11 f12=>ifK (AV.ro v10) (some (QK false o (.tup [(AV.nm (.int .i64 0)),(AV.nm (.int .i64 63)),(AV.nm (.bool true))]) h11 f12)) (some (QK false o (.tup [(AV.nm (.int .i64 0)),(AV.nm (.int .i64 0)),(AV.nm (.bool false))]) h11 f12)))))
theorem PS {C:Cfg}{x0 x1:AV}:RunT C Gt MS [x0,x1] (fun K=>Lr C.G K C.L x0 x1):=runT (P := EY) rfl fun _ _=>by kernel_rfl
def ZbF (G:GT)(K:KT)(L:Nat)(x0:AV)(o:HP):KR :=
  Zf (Za .geq .prim (AV.ro x0) (.int .i64 22)) fun v0=>Wx v0 true (Zf (Za .leq .prim (AV.ro x0) (.int .i64 24)) fun v1=>some (v1,o,none)) (some (.bool false)) o none fun v2 h3 f4=>some (QK false o v2 h3 f4)
theorem ZgX {C:Cfg}{x0:AV}:RunT C Rf Zbk [x0] (fun K=>ZbF C.G K C.L x0):=runT (P := Zlj) rfl fun _ _=>by kernel_rfl
end Go.Proofs.YtleomfgijkapfaaGreatDoor
end
section
namespace Go.Proofs.YtleomfgijkapfaaGreatDoor
open Go Go.RowKit Go.Proofs.YtleomfgijkapfaaGreatDoor.Abs
open Nat (reduceAdd reduceLeDiff)
set_option maxRecDepth 100000
def cT (f:FuncId):Option AFn:=(tab.find? (·.1 == f)).map (·.2)
structure OB (C:Cfg):Prop where
 T:C.T=cT
 L:9223372036854775808≤C.L
 G:∀ (n:Int) (hp:List Zw),0≤n→n≤1000→C.T Je=none∧C.O Je [.own 2 [],.int .i64 n] hp=some (.own 2 [],hp,none)
def nameOf:List AV→List UInt8
 | .str s :: _=>s
 | _=>[]
def isN (name:List UInt8)(r:List AV):Bool:=decide (nameOf r=name)
def ZmL (p:List AV→Bool):List (List AV)→Nat→Int
 | [],_=>-1
 | r :: rs,i=>if p r=true then (i:Int) else ZmL p rs (i + 1)
theorem Zup (K:FuncId→List AV→List Zw→KR)(f:FuncId)(c:List AV)(args:List AV)(hp:List Zw):ZkC K (.fn f [] c) args hp=K f (args ++ c.map AV.nm) hp:=rfl
section
variable {C:Cfg}(hC:OB C)
include hC
theorem ZdJ (n:Nat)(hp0:List Zw)(name:List UInt8)(rows:List (List AV))(hl:rows.length≤4611686018427387)(hrow:∀ r ∈ rows,r=[.str (nameOf r)]):∀ (r q:List (List AV)) (m:Nat),rows=q ++ r→r.length < m →
  JF C.G (Zb C n) C.L hp0 (Tt C.G (Zb C n) C.L hp0) m (.lst 1 rows) (.str name) (.int .i64 q.length) (.int .i64 q.length) hp0 none=some (.int .i64 (ZmL (isN name) r q.length),hp0,none)
 | _,_,0,_,h=>by omega
 | [],q,m + 1,hs,_=>by
  have hlen:(rows.length:Int)=q.length:=by rw [hs]; simp
  simp only [JF,Tt,EVQ,hlen,Int.lt_irrefl,decide_false,Bool.false_eq_true,if_false,ZmL]
 | x :: r,q,m + 1,hs,hm=>by
  have hlen:(rows.length:Int)=q.length + (r.length + 1):=by rw [hs]; simp
  have hlt:(q.length:Int) < q.length + (r.length + 1):=by omega
  have hql:q.length + (r.length + 1)≤4611686018427387:=by rw [hs] at hl; simpa using hl
  have hx:=hrow x (by rw [hs]; simp)
  have hg:rows[q.length]? = some [.str (nameOf x)]:=by rw [← hx,hs]; simp
  have ih:=ZdJ n hp0 name rows hl hrow r (q ++ [x]) m (by rw [hs]; simp) (by simpa using hm)
  simp only [List.length_append,List.length_cons,List.length_nil,Nat.zero_add] at ih
  have hwr:=Zfe q.length (by omega)
  by_cases hn:nameOf x=name
  ·have hp1:isN name x=true:=by simp [isN,hn]
   simp only [JF,EVQ,hlen,hlt,decide_true,if_true,Jn,hg,hn,ZmL,hp1]
  ·have hp1:isN name x=false:=by simp [isN,hn]
   simp only [JF,EVQ,hlen,hlt,decide_true,if_true,Jn,hg,hn,decide_false,ZmL,hp1,Bool.false_eq_true,if_false,hwr]
   exact ih
theorem ZwW (n:Nat)(hp:List Zw)(name:List UInt8)(rows:List (List AV))(hl:rows.length≤4611686018427387)(hrow:∀ r ∈ rows,r=[.str (nameOf r)]) :
  Zb C (n + 1) Zcp [.lst 1 rows,.str name] hp=some (.int .i64 (ZmL (isN name) rows 0),hp,none):=by
 refine Znl (by rw [hC.T]; rfl) ?_
 have h:=ZdJ hC n hp name rows hl hrow rows [] C.L rfl (by have:=hC.L; omega)
 simp only [Zda,EVQ]
 exact h
end
end Go.Proofs.YtleomfgijkapfaaGreatDoor
end
section
namespace Go.Proofs.YtleomfgijkapfaaGreatDoor
open Go Go.RowKit Go.Proofs.YtleomfgijkapfaaGreatDoor.Abs
open Nat (reduceAdd reduceLeDiff)
end Go.Proofs.YtleomfgijkapfaaGreatDoor
end
section
namespace Go.Proofs.YtleomfgijkapfaaGreatDoor
open Go Go.RowKit Go.Proofs.YtleomfgijkapfaaGreatDoor.Abs
open Nat (reduceAdd reduceLeDiff)
end Go.Proofs.YtleomfgijkapfaaGreatDoor
end
section
namespace Go.Proofs.YtleomfgijkapfaaGreatDoor
open Go Go.RowKit Go.Proofs.YtleomfgijkapfaaGreatDoor.Abs
open Nat (reduceAdd reduceLeDiff)
end Go.Proofs.YtleomfgijkapfaaGreatDoor
end
section
namespace Go.Proofs.YtleomfgijkapfaaGreatDoor
open Go Go.RowKit Go.Proofs.YtleomfgijkapfaaGreatDoor.Abs
open Nat (reduceAdd reduceLeDiff)
set_option maxRecDepth 100000
def ZrK (n:Int):Bool:=decide (97≤n) && decide (n≤122)
def Zsl (n:Int):Bool:=ZrK n || decide (n=95) || (decide (48≤n) && decide (n≤57))
def kws:List (List UInt8):=[[97,100,100],[97,102,116,101,114],[97,110,100],[97,116],[98,101,108,116],[98,111,111,108],[99,111,110,115,101,114,118,101],[99,111,110,115,116],[99,111,117,110,116],[99,121,99,108,101],[100,111,119,110],[100,114,97,119],[100,117,114],[101,108,115,101],[101,110,100],[101,118,101,114,121],[102,97,108,115,101],[102,97,117,108,116],[102,105,102,111],[102,114,101,101],[102,114,111,109],[103,101,111,109],[103,101,116],[104,111,108,100],[105,102],[105,110,116],[105,110,116,111],[108,101,97,115,116],[108,101,118,101,108],[108,105,102,111],[108,105,110,107],[108,111,99,97,108],[109,97,120],[109,105,110],[109,111,100,101,108],[110,111,116],[110,111,119],[111,98,115,101,114,118,101],[111,114],[112,97,114,97,109],[112,114,101,101,109,112,116],[112,114,105,111],[112,117,116],[113,117,101,117,101],[114,101,108,101,97,115,101],[114,101,115,111,117,114,99,101],[114,105,100,101],[114,111,117,116,105,110,101],[115,101,105,122,101],[115,101,110,100],[115,101,116],[115,104,105,102,116],[115,105,103,110,97,108],[115,105,116,101],[115,105,122,101],[115,112,97,119,110],[115,116,97,114,116],[115,116,111,112],[115,116,111,114,101],[115,116,114,101,97,109],[115,117,109],[116,97,98,108,101],[116,97,108,108,121],[116,105,99,107,115],[116,105,109,101],[116,114,117,101],[117,110,105,102,111,114,109],[117,110,116,105,108],[117,112],[118,97,114],[119,97,105,116],[119,97,105,116,105,110,103],[119,104,105,108,101]]
def kwB (s:List UInt8):Bool:=kws.any fun k=>decide (s=k)
def LW (s:List UInt8):Int :=
 match s with
 | []=>3
 | c :: r=>if 24 < (c :: r).length∨ZrK c.toNat=false∨kwB (c :: r)=true then 3 else if (c :: r).all (fun x=>Zsl x.toNat) then 0 else 3
def inB (n:Int):Bool:=decide (-1000000000000≤n) && decide (n≤1000000000000)
theorem Zhg (s q r:List UInt8)(c:UInt8)(h:s=q ++ c :: r):TA (.str s) (.int .i64 q.length)=some (.int .u8 c.toNat):=by
 subst h; simp [TA]
theorem Z0l (b x:Bool)(hp:List Zw):(if b=true then some ((AV.bool true),hp,(none:Eff)) else some ((AV.bool x),hp,none))=some (.bool (b || x),hp,none):=by cases b <;> rfl
theorem ZyR (b x:Bool)(hp:List Zw):(if b=true then some ((AV.bool (b || false)),hp,(none:Eff)) else some ((AV.bool x),hp,none))=some (.bool (b || x),hp,none):=by cases b <;> rfl
theorem Zxf {α:Type}(b:Bool)(x y z:α):(if b=true then (if b=true then x else y) else z)=if b=true then x else z:=by cases b <;> rfl
section
variable {C:Cfg}(hC:OB C)
include hC
theorem ZwV (n:Nat)(x:Int)(hp:List Zw):Zb C (n + 1) ZeW [.int .i64 x] hp=some (.bool (inB x),hp,none):=by
 refine Zro (by rw [hC.T]; rfl) ?_
 by_cases h1:-1000000000000≤x <;> by_cases h2:x≤1000000000000 <;> simp [ZpX,EVQ,inB,h1,h2]
theorem Z0c (n:Nat)(x:Int)(hp:List Zw):Zb C (n + 1) ZeX [.int .i64 x] hp=some (.bool (inB x),hp,none):=by
 refine Zr1 (by rw [hC.T]; rfl) ?_
 by_cases h1:-1000000000000≤x <;> by_cases h2:x≤1000000000000 <;> simp [ZpY,EVQ,inB,h1,h2]
theorem Zqa (n:Nat)(x:Int)(hp:List Zw):Zb C (n + 1) ML [.int .u8 x] hp=some (.bool (ZrK x),hp,none):=by
 refine ZeO (by rw [hC.T]; rfl) ?_
 by_cases h1:97≤x <;> by_cases h2:x≤122 <;> simp [FQ,EVQ,ZrK,h1,h2]
theorem ZmD (n:Nat)(x:Int)(hp:List Zw):Zb C (n + 1) BX [.int .u8 x] hp=some (.bool (ZrK x),hp,none):=by
 refine Zjo (by rw [hC.T]; rfl) ?_
 by_cases h1:97≤x <;> by_cases h2:x≤122 <;> simp [ZdE,EVQ,ZrK,h1,h2]
set_option maxHeartbeats 2000000 in
theorem Zst (n:Nat)(s:List UInt8)(hp:List Zw):Zb C (n + 1) RH [.str s] hp=some (.bool (kwB s),hp,none):=by
 refine Zdt (by rw [hC.T]; rfl) ?_
 simp only [EI,EVQ,Zxf,Z0l,ZyR,kwB,kws,List.any_cons,List.any_nil]
theorem Zo6 (n:Nat)(hp:List Zw):Zb C (n + 1) MM [] hp=some (.own 1 (kws.map fun x=>[.str x]),hp,none):=by
 refine ZeS (by rw [hC.T]; rfl) ?_
 rfl
omit hC in
theorem Zqi (s:List UInt8):∀ (l:List (List UInt8)) (i:Nat),decide (ZmL (isN s) (l.map fun x=>[.str x]) i ≥ 0)=l.any fun k=>decide (s=k)
 | [],_=>rfl
 | x :: r,i=>by
  have hx:isN s [.str x]=decide (x=s):=rfl
  simp only [List.map_cons,ZmL,List.any_cons,hx]
  by_cases h:x=s
  ·subst h; simp
  ·have h':¬ s=x:=fun e=>h e.symm
   simp [h,h',← Zqi s r (i + 1)]
theorem Zrf (n:Nat)(s:List UInt8)(hp:List Zw):Zb C (n + 2) PL [.str s] hp=some (.bool (kwB s),hp,none):=by
 refine Zh2 (by rw [hC.T]; rfl) ?_
 have h1:=Zo6 hC n hp
 have h2:=ZwW hC n hp s (kws.map fun x=>[.str x]) (by simp [kws]) (fun r hr=>by obtain ⟨x,_,rfl⟩:=List.mem_map.1 hr; rfl)
 have h3:=Zqi s kws 0
 simp only [ZbJ,EVQ,h1,h2,kwB,← h3]
theorem EO (n:Nat)(hp0:List Zw)(s:List UInt8)(hl:s.length≤140737488355328):∀ (r q:List UInt8) (m:Nat),s=q ++ r→r.length < m →
  V7 C.G (Zb C (n + 1)) C.L hp0 (Kt C.G (Zb C (n + 1)) C.L hp0) m (.str s) (.int .i64 s.length) (.int .i64 q.length) hp0 none=some (.int .i64 (if r.all (fun x=>Zsl x.toNat) then 0 else 3),hp0,none)
 | _,_,0,_,h=>by omega
 | [],q,m + 1,hq,_=>by
  have hlen:(s.length:Int)=q.length:=by rw [hq]; simp
  simp only [V7,Kt,EVQ,hlen,Int.lt_irrefl,decide_false,Bool.false_eq_true,if_false,List.all_nil,if_true]
 | c :: r,q,m + 1,hq,hm=>by
  have hlen:(s.length:Int)=q.length + (r.length + 1):=by rw [hq]; simp
  have hlt:(q.length:Int) < q.length + (r.length + 1):=by omega
  have hql:q.length + (r.length + 1)≤140737488355328:=by rw [hq] at hl; simpa using hl
  have hx:=Zhg s q r c hq
  have h1:=Zqa hC n (c.toNat:Int) hp0
  have ih:=EO n hp0 s hl r (q ++ [c]) m (by rw [hq]; simp) (by simpa using hm)
  simp only [List.length_append,List.length_cons,List.length_nil,Nat.zero_add] at ih
  have hwr:=Zfe q.length (by omega)
  rw [hlen] at ih ⊢
  have hch:Zsl (c.toNat:Int)=(ZrK (c.toNat:Int) || decide ((c.toNat:Int)=95) || (decide (48≤(c.toNat:Int)) && decide ((c.toNat:Int)≤57))):=rfl
  rw [List.all_cons,hch]
  have q4:decide (48≤(c.toNat:Int))=!decide ((c.toNat:Int) < 48):=by by_cases h:(c.toNat:Int) < 48 <;> simp [h] <;> omega
  have q5:decide ((c.toNat:Int)≤57)=!decide ((c.toNat:Int) > 57):=by by_cases h:(c.toNat:Int) > 57 <;> simp [h] <;> omega
  have q6:decide ((c.toNat:Int)≠95)=!decide ((c.toNat:Int)=95):=by by_cases h:(c.toNat:Int)=95 <;> simp [h]
  rw [q4,q5]
  obtain ⟨lb,hb⟩:∃ b,ZrK (c.toNat:Int)=b:=⟨_,rfl⟩
  obtain ⟨b1,hb1⟩:∃ b,decide ((c.toNat:Int) < 48)=b:=⟨_,rfl⟩
  obtain ⟨b2,hb2⟩:∃ b,decide ((c.toNat:Int) > 57)=b:=⟨_,rfl⟩
  obtain ⟨b3,hb3⟩:∃ b,decide ((c.toNat:Int)=95)=b:=⟨_,rfl⟩
  cases lb <;> cases b1 <;> cases b2 <;> cases b3 <;> simp only [V7,EVQ,hlt,decide_true,hx,h1,hb,hb1,hb2,hb3,q6,BLQ,if_true,if_false,ne_eq,reduceCtorEq,hwr,ih]
theorem ZkM (n:Nat)(s:List UInt8)(hl:s.length≤140737488355328)(hp:List Zw):Zb C (n + 2) OG [.str s] hp=some (.int .i64 (LW s),hp,none):=by
 refine Zhn (by rw [hC.T]; rfl) ?_
 cases s with
 | nil=>simp [UJ,EVQ,LW]
 | cons c r =>
  have h0:decide (c :: r=([]:List UInt8))=false:=rfl
  have h1:=Zqa hC n (c.toNat:Int) hp
  have h2:=Zst hC n (c :: r) hp
  have hx:TA (.str (c :: r)) (.int .i64 0)=some (.int .u8 c.toNat):=Zhg (c :: r) [] r c rfl
  have h3:=EO hC n hp (c :: r) hl (c :: r) [] C.L rfl (by have:=hC.L; omega)
  by_cases q1:24 < (c :: r).length
  ·have q1':(((c :: r).length:Nat):Int) > 24:=by omega
   simp only [UJ,EVQ,h0,q1',LW,q1,true_or,BLQ,if_true,if_false,ne_eq,reduceCtorEq]
  ·have q1':¬ (((c :: r).length:Nat):Int) > 24:=by omega
   cases q2:ZrK (c.toNat:Int) with
   | false=>simp only [UJ,EVQ,h0,q1',LW,q1,hx,h1,q2,true_or,or_true,BLQ,if_true,if_false,ne_eq,reduceCtorEq]
   | true =>
    cases q3:kwB (c :: r) with
    | true=>simp only [UJ,EVQ,h0,q1',LW,q1,hx,h1,q2,h2,q3,true_or,or_true,BLQ,if_true,if_false,ne_eq,reduceCtorEq]
    | false=>simp only [UJ,EVQ,h0,q1',LW,q1,hx,h1,q2,h2,q3,or_false,false_or,BLQ,if_true,if_false,ne_eq,reduceCtorEq]; exact h3
theorem NU (n:Nat)(hp0:List Zw)(s:List UInt8)(hl:s.length≤140737488355328):∀ (r q:List UInt8) (m:Nat),s=q ++ r→r.length < m →
  JW C.G (Zb C (n + 1)) C.L hp0 (IB C.G (Zb C (n + 1)) C.L hp0) m (.str s) (.int .i64 q.length) hp0 none=some (.int .i64 (if r.all (fun x=>Zsl x.toNat) then 0 else 3),hp0,none)
 | _,_,0,_,h=>by omega
 | [],q,m + 1,hq,_=>by
  have hlen:(s.length:Int)=q.length:=by rw [hq]; simp
  simp only [JW,IB,EVQ,hlen,Int.lt_irrefl,decide_false,Bool.false_eq_true,if_false,List.all_nil,if_true]
 | c :: r,q,m + 1,hq,hm=>by
  have hlen:(s.length:Int)=q.length + (r.length + 1):=by rw [hq]; simp
  have hlt:(q.length:Int) < q.length + (r.length + 1):=by omega
  have hql:q.length + (r.length + 1)≤140737488355328:=by rw [hq] at hl; simpa using hl
  have hx:=Zhg s q r c hq
  have h1:=ZmD hC n (c.toNat:Int) hp0
  have ih:=NU n hp0 s hl r (q ++ [c]) m (by rw [hq]; simp) (by simpa using hm)
  simp only [List.length_append,List.length_cons,List.length_nil,Nat.zero_add] at ih
  have hwr:=Zfe q.length (by omega)
  have hch:Zsl (c.toNat:Int)=(ZrK (c.toNat:Int) || decide ((c.toNat:Int)=95) || (decide (48≤(c.toNat:Int)) && decide ((c.toNat:Int)≤57))):=rfl
  rw [List.all_cons,hch]
  have q4:decide (48≤(c.toNat:Int))=!decide ((c.toNat:Int) < 48):=by by_cases h:(c.toNat:Int) < 48 <;> simp [h] <;> omega
  have q5:decide ((c.toNat:Int)≤57)=!decide ((c.toNat:Int) > 57):=by by_cases h:(c.toNat:Int) > 57 <;> simp [h] <;> omega
  have q6:decide ((c.toNat:Int)≠95)=!decide ((c.toNat:Int)=95):=by by_cases h:(c.toNat:Int)=95 <;> simp [h]
  rw [q4,q5]
  obtain ⟨lb,hb⟩:∃ b,ZrK (c.toNat:Int)=b:=⟨_,rfl⟩
  obtain ⟨b1,hb1⟩:∃ b,decide ((c.toNat:Int) < 48)=b:=⟨_,rfl⟩
  obtain ⟨b2,hb2⟩:∃ b,decide ((c.toNat:Int) > 57)=b:=⟨_,rfl⟩
  obtain ⟨b3,hb3⟩:∃ b,decide ((c.toNat:Int)=95)=b:=⟨_,rfl⟩
  cases lb <;> cases b1 <;> cases b2 <;> cases b3 <;> simp only [JW,EVQ,hlen,hlt,decide_true,hx,h1,hb,hb1,hb2,hb3,q6,BLQ,if_true,if_false,ne_eq,reduceCtorEq,hwr,ih]
theorem Zjf (n:Nat)(s:List UInt8)(hl:s.length≤140737488355328)(hp:List Zw):Zb C (n + 3) TY [.str s] hp=some (.int .i64 (LW s),hp,none):=by
 refine Zlq (by rw [hC.T]; rfl) ?_
 cases s with
 | nil=>simp [Oc,EVQ,LW]
 | cons c r =>
  have h0:¬ ((((c :: r).length:Nat):Int) < 1):=by simp; omega
  have h1:=ZmD hC (n + 1) (c.toNat:Int) hp
  have h2:=Zrf hC n (c :: r) hp
  have hx:TA (.str (c :: r)) (.int .i64 0)=some (.int .u8 c.toNat):=Zhg (c :: r) [] r c rfl
  have h3:=NU hC (n + 1) hp (c :: r) hl (c :: r) [] C.L rfl (by have:=hC.L; omega)
  by_cases q1:24 < (c :: r).length
  ·have q1':(((c :: r).length:Nat):Int) > 24:=by omega
   simp only [Oc,EVQ,h0,q1',LW,q1,true_or,BLQ,if_true,if_false,ne_eq,reduceCtorEq]
  ·have q1':¬ (((c :: r).length:Nat):Int) > 24:=by omega
   cases q2:ZrK (c.toNat:Int) with
   | false=>simp only [Oc,EVQ,h0,q1',LW,q1,hx,h1,q2,true_or,or_true,BLQ,if_true,if_false,ne_eq,reduceCtorEq]
   | true =>
    cases q3:kwB (c :: r) with
    | true=>simp only [Oc,EVQ,h0,q1',LW,q1,hx,h1,q2,h2,q3,true_or,or_true,BLQ,if_true,if_false,ne_eq,reduceCtorEq]
    | false=>simp only [Oc,EVQ,h0,q1',LW,q1,hx,h1,q2,h2,q3,or_false,false_or,BLQ,if_true,if_false,ne_eq,reduceCtorEq]; exact h3
end
end Go.Proofs.YtleomfgijkapfaaGreatDoor
end
section
namespace Go.Proofs.YtleomfgijkapfaaGreatDoor.Abs
open Go
theorem EVo :
  (∀ {α β:Type} (x:α) (f:α→β),Option.map f (some x)=some (f x)) ∧
  (∀ {α:Type} (v:α) (k:α→KR),Zf (some v) k=k v) ∧
  (∀ {α β:Type} (a:α) (b:β) (k:α→β→KR),DT (some (a,b)) k=k a b) ∧
  (∀ {α β γ:Type} (a:α) (b:β) (c:γ) (k:α→β→γ→KR),WC (some (a,b,c)) k=k a b c) ∧
  (∀ (b:Bool) (x y:KR),ifK (.bool b) x y=if b=true then x else y) ∧
  (∀ (x:KR) (hp:List Zw) (ef:Eff) (k:AV→List Zw→Eff→KR),Ci (some true) x hp ef k=WC x k) ∧
  (∀ (x:KR) (hp:List Zw) (ef:Eff) (k:AV→List Zw→Eff→KR),Ci (some false) x hp ef k=k .undef hp ef) ∧
  (∀ (b:Bool),Cf true (.bool b)=some b) ∧
  (∀ (b:Bool),Cf false (.bool b)=some (!b)) ∧
  (∀ (a b:AV),Zjm (.bool true) a b=some a) ∧
  (∀ (a b:AV),Zjm (.bool false) a b=some b) ∧
  (∀ (v:AV),gif true v=v) ∧
  (∀ (b:Bool) (v:AV) (hp:List Zw) (ef:Eff) (k:AV→List Zw→Eff→KR),Ci (some b) (some (v,hp,ef)) hp ef k=k (gif b v) hp ef) ∧
  (∀ (b:Bool) (v:AV),AV.ro (gif b v)=gif b (AV.ro v)) ∧
  (∀ (b c:Bool),Zjm (.bool b) (gif b (.bool c)) (.bool false)=some (.bool (b && c))) ∧
  (∀ (b c:Bool),Zjm (.bool b) (.bool true) (gif (!b) (.bool c))=some (.bool (b || c))) ∧
  (∀ (b c:Bool) (hp:List Zw) (ef:Eff) (k:AV→List Zw→Eff→KR),Wx (.bool b) true (some (.bool c,hp,ef)) (some (.bool false)) hp ef k=k (.bool (b && c)) hp ef) ∧
  (∀ (b c:Bool) (hp:List Zw) (ef:Eff) (k:AV→List Zw→Eff→KR),Wx (.bool b) false (some (.bool c,hp,ef)) (some (.bool true)) hp ef k=k (.bool (b || c)) hp ef) ∧
  (∀ (x:KR) (o:Option AV) (hp:List Zw) (ef:Eff) (k:AV→List Zw→Eff→KR),Wx (.bool true) true x o hp ef k=WC x k) ∧
  (∀ (x:KR) (v:AV) (hp:List Zw) (ef:Eff) (k:AV→List Zw→Eff→KR),Wx (.bool false) true x (some v) hp ef k=k v hp ef) ∧
  (∀ (x:KR) (v:AV) (hp:List Zw) (ef:Eff) (k:AV→List Zw→Eff→KR),Wx (.bool true) false x (some v) hp ef k=k v hp ef) ∧
  (∀ (x:KR) (o:Option AV) (hp:List Zw) (ef:Eff) (k:AV→List Zw→Eff→KR),Wx (.bool false) false x o hp ef k=WC x k) ∧
  (∀ {α:Type} (x:α) (k:α→KR),Jt x k=k x) ∧
  (∀ (b:Bool),AV.ro (.bool b)=.bool b) ∧
  (∀ (k:IntKind) (n:Int),AV.ro (.int k n)=.int k n) ∧
  (∀ (s:List UInt8),AV.ro (.str s)=.str s) ∧
  (∀ (k:Nat) (r:List (List AV)),AV.ro (.lst k r)=.lst k r) ∧
  (∀ (k:Nat) (r:List (List AV)),AV.ro (.own k r)=.lst k r) ∧
  (∀ (c:List AV),AV.ro (.agg c)=.agg c) ∧
  (∀ (c:List AV),AV.ro (.tup c)=.tup c) ∧
  (∀ (g o:Nat),AV.ro (.ptr g o)=.ptr g o) ∧
  (∀ (g:Nat),AV.ro (.map g)=.map g) ∧
  (∀ (c:List AV),AV.ro (.ref c)=.ref c) ∧
  (∀ (f:FuncId) (a c:List AV),AV.ro (.fn f a c)=.fn f a c) ∧
  (AV.ro .undef=.undef) ∧
  (∀ (b:Bool),AV.nm (.bool b)=.bool b) ∧
  (∀ (k:IntKind) (n:Int),AV.nm (.int k n)=.int k n) ∧
  (∀ (s:List UInt8),AV.nm (.str s)=.str s) ∧
  (∀ (k:Nat) (r:List (List AV)),AV.nm (.lst k r)=.lst k r) ∧
  (∀ (k:Nat) (r:List (List AV)),AV.nm (.own k r)=.lst k r) ∧
  (∀ (c:List AV),AV.nm (.agg c)=.agg (c.map AV.ro)) ∧
  (∀ (g o:Nat),AV.nm (.ptr g o)=.ptr g o) ∧
  (∀ (g:Nat),AV.nm (.map g)=.map g) ∧
  (∀ (f:FuncId) (a c:List AV),AV.nm (.fn f a c)=.fn f a c) ∧
  (∀ (k:IntKind) (a b:Int),Za .add .prim (.int k a) (.int k b)=some (.int k (k.wrap (a + b)))) ∧
  (∀ (k:IntKind) (a b:Int),Za .sub .prim (.int k a) (.int k b)=some (.int k (k.wrap (a - b)))) ∧
  (∀ (k:IntKind) (a b:Int),Za .mul .prim (.int k a) (.int k b)=some (.int k (k.wrap (a * b)))) ∧
  (∀ (k:IntKind) (a b:Int),Za .eql .prim (.int k a) (.int k b)=some (.bool (decide (a=b)))) ∧
  (∀ (k:IntKind) (a b:Int),Za .neq .prim (.int k a) (.int k b)=some (.bool (decide (a≠b)))) ∧
  (∀ (k:IntKind) (a b:Int),Za .lss .prim (.int k a) (.int k b)=some (.bool (decide (a < b)))) ∧
  (∀ (k:IntKind) (a b:Int),Za .leq .prim (.int k a) (.int k b)=some (.bool (decide (a≤b)))) ∧
  (∀ (k:IntKind) (a b:Int),Za .gtr .prim (.int k a) (.int k b)=some (.bool (decide (b < a)))) ∧
  (∀ (k:IntKind) (a b:Int),Za .geq .prim (.int k a) (.int k b)=some (.bool (decide (b≤a)))) ∧
  (∀ (a b:List UInt8),Za .eql .prim (.str a) (.str b)=some (.bool (decide (a=b)))) ∧
  (∀ (a b:List UInt8),Za .neq .prim (.str a) (.str b)=some (.bool (decide (a≠b)))) ∧
  (∀ (ks:List CK) (k:IntKind) (x y:Int) (l m:List AV),Qq (.int :: ks) (.int k x :: l) (.int k y :: m)=if x=y then Qq ks l m else some false) ∧
  (∀ (ks:List CK) (x y:List UInt8) (l m:List AV),Qq (.str :: ks) (.str x :: l) (.str y :: m)=if x=y then Qq ks l m else some false) ∧
  (∀ (ks:List CK) (x y:Bool) (l m:List AV),Qq (.bool :: ks) (.bool x :: l) (.bool y :: m)=if x=y then Qq ks l m else some false) ∧
  (Qq [] [] []=some true) ∧
  (∀ (p:Prop) [Decidable p] (b:Bool),(if p then some b else some false)=some (decide p && b)) ∧
  (∀ (ks:List CK) (a b:List AV),Za .eql (.struct ks) (.agg a) (.agg b)=(Qq ks a b).map .bool) ∧
  (∀ (ks:List CK) (a b:List AV),Za .neq (.struct ks) (.agg a) (.agg b)=(Qq ks a b).map fun b=>.bool (!b)) ∧
  (∀ (a b:Bool),Za .eql .bool (.bool a) (.bool b)=some (.bool (a == b))) ∧
  (∀ (a b:Bool),Za .neq .bool (.bool a) (.bool b)=some (.bool (!(a == b)))) ∧
  (∀ (b:Bool),Qg .not (.bool b)=some (.bool (!b))) ∧
  (∀ (k:IntKind) (n:Int),Qg .neg (.int k n)=some (.int k (k.wrap (0 - n)))) ∧
  (∀ (hp:List Zw) (s:List UInt8),ZQ hp .str (.str s)=some (.int .i64 s.length)) ∧
  (∀ (hp:List Zw) (k:Nat) (r:List (List AV)),ZQ hp .slice (.lst k r)=some (.int .i64 r.length)) ∧
  (∀ (hp:List Zw) (k k':IntKind) (n:Int),Tm hp (.int k) (.int k' n)=some (.int k (k.wrap n))) ∧
  (∀ (l:List AV) (i:Nat),Jr (.tup l) i=(l[i]?).map AV.ro) ∧
  (∀ (bs:Nat) (ef:Eff),Zm bs ef none=ef) ∧
  (∀ (hp0:List Zw) (b:Bool) (hp:List Zw),QK false hp0 (.bool b) hp none=(.bool b,hp0,none)) ∧
  (∀ (hp0:List Zw) (k:IntKind) (n:Int) (hp:List Zw),QK false hp0 (.int k n) hp none=(.int k n,hp0,none)) ∧
  (∀ (hp0:List Zw) (s:List UInt8) (hp:List Zw),QK false hp0 (.str s) hp none=(.str s,hp0,none)) ∧
  (∀ (hp0:List Zw) (k:Nat) (r:List (List AV)) (hp:List Zw),QK false hp0 (.lst k r) hp none=(.lst k r,hp0,none)) ∧
  (∀ (hp0:List Zw) (k:Nat) (r:List (List AV)) (hp:List Zw),QK false hp0 (.own k r) hp none=(.own k r,hp0,none)) ∧
  (∀ (bs:Nat) (hp:List Zw) (k:IntKind) (n:Int),AQ bs hp (.int k n)=some (.int k n)) ∧
  (∀ (bs:Nat) (hp:List Zw) (s:List UInt8),AQ bs hp (.str s)=some (.str s)) ∧
  (∀ (bs:Nat) (hp:List Zw) (b:Bool),AQ bs hp (.bool b)=some (.bool b)) ∧
  (∀ (bs:Nat) (hp:List Zw) (k:Nat) (r:List (List AV)),AQ bs hp (.lst k r)=some (.lst k r)) ∧
  (∀ (o:Nat) (c:List AV),KQ o (.ref c)=some (.ref (c.drop o))) ∧
  (∀ (o g p:Nat),KQ o (.ptr g p)=some (.ptr g (p + o))) ∧
  (∀ (hp:List Zw) (c:AV) (l:List AV),QO hp (.ref (c :: l))=some c.ro) :=
 ⟨fun x f=>rfl,@Zwy,@Zww,@Zwx,@ZyM,@Zqp,@Zqo,@ZmR,@ZmQ,@Ztj,@Zti,@ZyL,@Zhf,@Zw5,@Zq3,@Zq4,@Zs8,@Zwd,@Zwf,@Zwc,@Zwe,@Zwb,@Zwk,@ZtF,@Zw6,@ZwC,@Zw7,@Zw9,@Zw4,@ZwD,@ZwA,@Zw8,@ZwB,@Zz1,ZqB,@ZsP,@Zwm,@Zwr,@Zwn,@Zwp,@Du,@Zwq,@Zwo,@Zzd,@Zy3,@ZyA,@Zy6,@Z02,@Z07,@Z06,@Z05,@Z04,@Z03,@Z0C,@Z0D,@Zzu,@Zzw,@Zw0,Zzv,@Z0B,@Zy5,@Zy8,@Zy4,@Zy7,@ZzI,@ZzH,@ZyT,@ZyS,@ZyE,@ZzN,@Zj2,@Zqh,@Zsz,@Zs2,@Zs0,@Zs1,@Zql,@Zqn,@ZmN,@Zqm,@Zsx,@Zsw,@ZsH⟩
theorem EV:type_of% (And.intro Zo8 (And.intro ZsE EVo)):=And.intro Zo8 (And.intro ZsE EVo)
theorem BL:(!true)=false∧(!false)=true∧(∀ b:Bool,(b && true)=b)∧(∀ b:Bool,(true && b)=b)∧(∀ b:Bool,(b && false)=false)∧(∀ b:Bool,(false && b)=false)∧(∀ b:Bool,(b || true)=true)∧(∀ b:Bool,(true || b)=true)∧(∀ b:Bool,(b || false)=b)∧(∀ b:Bool,(false || b)=b)∧(∀ b:Bool,(!!b)=b):=by
 refine ⟨rfl,rfl,?_,?_,?_,?_,?_,?_,?_,?_,?_⟩ <;> intro b <;> cases b <;> rfl
theorem ifI (c:Prop)[Decidable c](k:IntKind)(a b:Int)(hp:List Zw)(e:Eff):(if c then some (AV.int k a,hp,e) else some (AV.int k b,hp,e))=some (AV.int k (if c then a else b),hp,e):=by split <;> rfl
theorem ifB (c:Prop)[Decidable c](a b:Bool)(hp:List Zw)(e:Eff):(if c then some (AV.bool a,hp,e) else some (AV.bool b,hp,e))=some (AV.bool (if c then a else b),hp,e):=by split <;> rfl
theorem ifS (c:Prop)[Decidable c](a b:List UInt8)(hp:List Zw)(e:Eff):(if c then some (AV.str a,hp,e) else some (AV.str b,hp,e))=some (AV.str (if c then a else b),hp,e):=by split <;> rfl
theorem IFJ:(∀ (c:Prop) [Decidable c] (k:IntKind) (a b:Int) (hp:List Zw) (e:Eff),(if c then some (AV.int k a,hp,e) else some (AV.int k b,hp,e))=some (AV.int k (if c then a else b),hp,e)) ∧
  (∀ (c:Prop) [Decidable c] (a b:Bool) (hp:List Zw) (e:Eff),(if c then some (AV.bool a,hp,e) else some (AV.bool b,hp,e))=some (AV.bool (if c then a else b),hp,e)) ∧
  (∀ (c:Prop) [Decidable c] (a b:List UInt8) (hp:List Zw) (e:Eff),(if c then some (AV.str a,hp,e) else some (AV.str b,hp,e))=some (AV.str (if c then a else b),hp,e)) ∧
  (∀ {α:Type} (c:Prop) [Decidable c] (a b d:α),(if c then (if c then a else b) else d)=if c then a else d)∧(∀ {α:Type} (c:Prop) [Decidable c] (a b d:α),(if c then a else (if c then b else d))=if c then a else d)∧(∀ {α:Type} (a b:α),(if true=true then a else b)=a)∧(∀ {α:Type} (a b:α),(if false=true then a else b)=b)∧(∀ {α:Type} (a b:α),(if True then a else b)=a)∧(∀ {α:Type} (a b:α),(if False then a else b)=b)∧(∀ (i:Decidable True),@decide True i=true)∧(∀ (i:Decidable False),@decide False i=false):=⟨ifI,ifB,ifS,fun c _ a b d=>by split <;> rfl,fun c _ a b d=>by split <;> rfl,fun _ _=>rfl,fun _ _=>rfl,fun _ _=>rfl,fun _ _=>rfl,fun i=>by cases i <;> simp,fun i=>by cases i <;> simp⟩
section
variable {hp:List Zw}{g:Nat}{cs:List AV}{t:TypeId}
theorem SC (h:hp[g]? = some (.cells cs t))(x:Zw):(hp ++ [x])[g]? = some (.cells cs t):=by rw [List.getElem?_append_left (List.getElem?_eq_some_iff.1 h).1]; exact h
theorem ZyK {es:List (AV×AV)}(h:hp[g]? = some (.map es))(x:Zw):(hp ++ [x])[g]? = some (.map es):=by rw [List.getElem?_append_left (List.getElem?_eq_some_iff.1 h).1]; exact h
theorem ER (h:hp[g]? = some (.cells cs t))(n:Nat)(h1:cs.length=n)(h2:cs.map AV.ro=cs):Zx hp n (.ptr g 0)=some (.agg cs):=by
 rw [Zhj h n 0 (by omega),List.drop_zero,List.take_of_length_le (by omega),h2]
theorem LG (h:hp[g]? = some (.cells cs t)) :
  (∀ o,QO hp (.ptr g o)=(cs[o]?).map AV.ro)∧(∀ x o,QO (hp ++ [x]) (.ptr g o)=(cs[o]?).map AV.ro) ∧
  (∀ x y o,QO (hp ++ [x] ++ [y]) (.ptr g o)=(cs[o]?).map AV.ro)∧(∀ x y z o,QO (hp ++ [x] ++ [y] ++ [z]) (.ptr g o)=(cs[o]?).map AV.ro) ∧
  (∀ n,cs.length=n→cs.map AV.ro=cs→Zx hp n (.ptr g 0)=some (.agg cs))∧(∀ x n,cs.length=n→cs.map AV.ro=cs→Zx (hp ++ [x]) n (.ptr g 0)=some (.agg cs)) ∧
  (∀ x y n,cs.length=n→cs.map AV.ro=cs→Zx (hp ++ [x] ++ [y]) n (.ptr g 0)=some (.agg cs))∧(∀ x y z n,cs.length=n→cs.map AV.ro=cs→Zx (hp ++ [x] ++ [y] ++ [z]) n (.ptr g 0)=some (.agg cs)) :=
 ⟨fun o=>ZaS h o,fun x o=>ZaS (SC h x) o,fun x y o=>ZaS (SC (SC h x) y) o,fun x y z o=>ZaS (SC (SC (SC h x) y) z) o,
  fun n=>ER h n,fun x n=>ER (SC h x) n,fun x y n=>ER (SC (SC h x) y) n,fun x y z n=>ER (SC (SC (SC h x) y) z) n⟩
end
theorem st_all (bs n:Nat)(h:List Zw)(cs c:List AV)(t:TypeId)(ef:Eff)(h1:c.length=n)(h2:cs.length=n)(h4:bs≤h.length):stV bs n (.ptr h.length 0) (.agg c) (h ++ [.cells cs t]) ef=some (h ++ [.cells c t],ef):=by
 rw [ZvL bs n h cs t 0 (.agg c) ef h1 (by omega) rfl h4]
 have:splice cs 0 c=c:=by simp [splice,h1,← h2]
 rw [XW,this]
theorem ZwQ (n:Nat)(c:List AV)(h:c.length=n):Ug n (.agg c)=some c:=ZwP n c h
theorem ZyB:(∀ s,Ug 1 (.str s)=some [.str s])∧(∀ k x,Ug 1 (.int k x)=some [.int k x])∧(∀ b,Ug 1 (.bool b)=some [.bool b])∧(∀ k r,Ug 1 (.lst k r)=some [.lst k r])∧(∀ m,Ug 1 (.map m)=some [.map m])∧(∀ g o,Ug 1 (.ptr g o)=some [.ptr g o])∧(∀ f a c,Ug 1 (.fn f a c)=some [.fn f a c]):=⟨fun _=>rfl,fun _ _=>rfl,fun _=>rfl,fun _ _=>rfl,fun _=>rfl,fun _ _=>rfl,fun _ _ _=>rfl⟩
theorem LD :
  (∀ (h:List Zw) (cs:List AV) (t:TypeId) (o:Nat),QO (h ++ [.cells cs t]) (.ptr h.length o)=(cs[o]?).map AV.ro) ∧
  (∀ (h:List Zw) (cs:List AV) (t:TypeId) (o:Nat) (x:Zw),QO (h ++ [.cells cs t] ++ [x]) (.ptr h.length o)=(cs[o]?).map AV.ro) ∧
  (∀ (h:List Zw) (cs:List AV) (t:TypeId) (o:Nat) (x y:Zw),QO (h ++ [.cells cs t] ++ [x] ++ [y]) (.ptr h.length o)=(cs[o]?).map AV.ro) ∧
  (∀ (h:List Zw) (cs:List AV) (t:TypeId) (o:Nat) (x y z:Zw),QO (h ++ [.cells cs t] ++ [x] ++ [y] ++ [z]) (.ptr h.length o)=(cs[o]?).map AV.ro) ∧
  (∀ (h:List Zw) (cs:List AV) (t:TypeId) (n:Nat),cs.length=n→cs.map AV.ro=cs→Zx (h ++ [.cells cs t]) n (.ptr h.length 0)=some (.agg cs)) ∧
  (∀ (h:List Zw) (cs:List AV) (t:TypeId) (n:Nat) (x:Zw),cs.length=n→cs.map AV.ro=cs→Zx (h ++ [.cells cs t] ++ [x]) n (.ptr h.length 0)=some (.agg cs)) ∧
  (∀ (h:List Zw) (cs:List AV) (t:TypeId) (n:Nat) (x y:Zw),cs.length=n→cs.map AV.ro=cs→Zx (h ++ [.cells cs t] ++ [x] ++ [y]) n (.ptr h.length 0)=some (.agg cs)) ∧
  (∀ (h:List Zw) (cs:List AV) (t:TypeId) (n:Nat) (x y z:Zw),cs.length=n→cs.map AV.ro=cs→Zx (h ++ [.cells cs t] ++ [x] ++ [y] ++ [z]) n (.ptr h.length 0)=some (.agg cs)) ∧
  (∀ (g o:Nat),KQ o (.ptr g 0)=some (.ptr g o))∧(∀ (n:Nat) (c:List AV),c.length=n→Ug n (.agg c)=some c)∧(∀ (α β:Type) (f:α→β) (l:List α),(l.map f).length=l.length) ∧
  (∀ (hp:List Zw) (n:Nat) (c:List AV),c.length=n→c.map AV.ro=c→Zx hp n (.ref c)=some (.agg c))∧(∀ c:List AV,KQ 0 (.ref c)=some (.ref c))∧(∀ n:Nat,0 + n=n)∧(∀ (hp:List Zw) (c:List AV),QO hp (.ref c)=(c[0]?).map AV.ro)∧(∀ (α:Type) (l:List α) (i j:Nat),(l.drop i)[j]? = l[i + j]?)∧(∀ n:Nat,n + 0=n) :=
 ⟨fun h cs t o=>ZuJ h cs t o,fun h cs t o x=>ZaS (SC (JI h _) x) o,fun h cs t o x y=>ZaS (SC (SC (JI h _) x) y) o,fun h cs t o x y z=>ZaS (SC (SC (SC (JI h _) x) y) z) o,
  fun h cs t n=>ER (JI h _) n,fun h cs t n x=>ER (SC (JI h _) x) n,fun h cs t n x y=>ER (SC (SC (JI h _) x) y) n,fun h cs t n x y z=>ER (SC (SC (SC (JI h _) x) y) z) n,
  fun g o=>by rw [Zsw,Nat.zero_add],ZwQ,fun _ _ f l=>List.length_map f,fun hp n c h1 h2=>by rw [ZsF hp n c (by omega),List.take_of_length_le (by omega),h2],fun c=>by rw [Zsx,List.drop_zero],Nat.zero_add,fun hp c=>by cases c <;> rfl,fun _ l i j=>List.getElem?_drop,Nat.add_zero⟩
def ZzS (x:KR)(hp:List Zw):KR :=
 match x with
 | some (v,_,none)=>if v.flat then some (v,hp,none) else none
 | _=>none
theorem QC :
  (∀ (K:FuncId→List AV→List Zw→KR) (f:FuncId) (a:List AV) (hp:List Zw),Wl K f a hp=ZzS (K f a hp) hp) ∧
  (∀ (b:Bool) (h hp:List Zw),ZzS (some (.bool b,h,none)) hp=some (.bool b,hp,none)) ∧
  (∀ (k:IntKind) (x:Int) (h hp:List Zw),ZzS (some (.int k x,h,none)) hp=some (.int k x,hp,none)) ∧
  (∀ (s:List UInt8) (h hp:List Zw),ZzS (some (.str s,h,none)) hp=some (.str s,hp,none)) :=
 ⟨fun _ _ _ _=>rfl,fun _ _ _=>rfl,fun _ _ _ _=>rfl,fun _ _ _=>rfl⟩
theorem lp {α:Type}(row:α→List AV){l q r:List α}{x:α}(h:l=q ++ x :: r)(hb:l.length≤4611686018427387) :
  decide ((q.length:Int) < (l.length:Int))=true∧(l.map row)[q.length]? = some (row x)∧IntKind.i64.wrap ((q.length:Int) + 1)=((q ++ [x]).length:Int)∧l=(q ++ [x]) ++ r∧x ∈ l:=by
 subst h
 refine ⟨?_,?_,?_,by simp,by simp⟩
 ·simp only [List.length_append,List.length_cons,decide_eq_true_eq]; omega
 ·simp
 ·have:q.length < 4611686018427387904:=by simp at hb; omega
  rw [Zfe _ this]; simp
theorem lp0 {α:Type}{l q:List α}(h:l=q ++ []):decide ((q.length:Int) < (l.length:Int))=false:=by
 subst h; simp
def NV {α:Type}(f:α→Int):List α→Int
 | []=>0
 | x :: r=>if decide (f x≠0)=true then f x else NV f r
def all2 {α:Type}(f:α→α→Bool):List α→List α→Bool
 | x :: r,y :: s=>if (!(f x y))=true then false else all2 f r s
 | _,_=>true
def ZuL {α:Type}(f:α→Int):List α→Int→Int
 | [],n=>n
 | x :: r,n=>ZuL f r (if f x > n then f x else n)
theorem fuel {C:Cfg}{N d:Nat}(h:d + 1≤N):∃ m,N=m + 1∧d≤m:=⟨N - 1,by omega,by omega⟩
theorem LIT :
  (∀ (e:TypeId) (k:IntKind) (x:Int) (hp:List Zw),ZeN e 1 [.int k x] hp=some (.own 1 [[.int k x]],hp))∧(∀ (e:TypeId) (k l:IntKind) (x y:Int) (hp:List Zw),ZeN e 1 [.int k x,.int l y] hp=some (.own 1 [[.int k x],[.int l y]],hp)) ∧
  (∀ (e:TypeId) (s:List UInt8) (hp:List Zw),ZeN e 1 [.str s] hp=some (.own 1 [[.str s]],hp)) :=
 ⟨fun _ _ _ _=>rfl,fun _ _ _ _ _ _=>rfl,fun _ _ _=>rfl⟩
theorem EX:(∀ (a:AV) (l:List AV),Jr (.tup (a :: l)) 0=some a.ro)∧(∀ (a b:AV) (l:List AV),Jr (.tup (a :: b :: l)) 1=some b.ro)∧(∀ (a b c:AV) (l:List AV),Jr (.tup (a :: b :: c :: l)) 2=some c.ro)∧(∀ (a b c d:AV) (l:List AV),Jr (.tup (a :: b :: c :: d :: l)) 3=some d.ro)∧(∀ (a b c d e:AV) (l:List AV),Jr (.tup (a :: b :: c :: d :: e :: l)) 4=some e.ro) :=
 ⟨fun _ _=>rfl,fun _ _ _=>rfl,fun _ _ _ _=>rfl,fun _ _ _ _ _=>rfl,fun _ _ _ _ _ _=>rfl⟩
def sumW {α:Type}(f:α→Int):List α→Int→Int
 | [],n=>n
 | x :: r,n=>sumW f r (IntKind.i64.wrap (n + f x))
theorem max2 (a b:Int):Zxi [.int .i64 a,.int .i64 b]=some (.int .i64 (if b > a then b else a)):=rfl
theorem min2 (a b:Int):ZyZ [.int .i64 a,.int .i64 b]=some (.int .i64 (if b < a then b else a)):=rfl
theorem Iw {α:Type}(a b c d:α)(l:List α):(a :: l)[0]? = some a∧(a :: b :: l)[1]? = some b∧(a :: b :: c :: l)[2]? = some c∧(a :: b :: c :: d :: l)[3]? = some d:=⟨rfl,rfl,rfl,rfl⟩
theorem GI:(∀ (α:Type) (a:α) (l:List α),(a :: l)[0]? = some a)∧(∀ (α:Type) (a b:α) (l:List α),(a :: b :: l)[1]? = some b)∧(∀ (α:Type) (a b c:α) (l:List α),(a :: b :: c :: l)[2]? = some c)∧(∀ (α:Type) (a b c d:α) (l:List α),(a :: b :: c :: d :: l)[3]? = some d):=⟨fun _ _ _=>rfl,fun _ _ _ _=>rfl,fun _ _ _ _ _=>rfl,fun _ _ _ _ _ _=>rfl⟩
def ZwZ (hp0:List Zw)(x y:Option AV)(d:AV×List Zw×Eff):AV×List Zw×Eff :=
 match x,y with
 | some a,some b=>(.tup [a,b],hp0,none)
 | _,_=>d
def Zxa (hp0:List Zw)(x y z:Option AV)(d:AV×List Zw×Eff):AV×List Zw×Eff :=
 match x,y,z with
 | some a,some b,some c=>(.tup [a,b,c],hp0,none)
 | _,_,_=>d
theorem TUP:(∀ (hp0:List Zw) (a b:AV) (hp:List Zw),QK false hp0 (.tup [a,b]) hp none=ZwZ hp0 (AQ hp0.length hp a) (AQ hp0.length hp b) (.tup [a,b],hp,none)) ∧
  (∀ (hp0:List Zw) (a b c:AV) (hp:List Zw),QK false hp0 (.tup [a,b,c]) hp none=Zxa hp0 (AQ hp0.length hp a) (AQ hp0.length hp b) (AQ hp0.length hp c) (.tup [a,b,c],hp,none)) ∧
  (∀ (hp0:List Zw) (a b:AV) (d:AV×List Zw×Eff),ZwZ hp0 (some a) (some b) d=(.tup [a,b],hp0,none)) ∧
  (∀ (hp0:List Zw) (a b c:AV) (d:AV×List Zw×Eff),Zxa hp0 (some a) (some b) (some c) d=(.tup [a,b,c],hp0,none)):=by
 refine ⟨fun hp0 a b hp=>?_,fun hp0 a b c hp=>?_,fun _ _ _ _=>rfl,fun _ _ _ _ _=>rfl⟩
 ·rw [Zo9]
  cases h1:AQ hp0.length hp a <;> cases h2:AQ hp0.length hp b <;> simp [ZwZ,h1,h2]
 ·rw [Zo9]
  cases h1:AQ hp0.length hp a <;> cases h2:AQ hp0.length hp b <;> cases h3:AQ hp0.length hp c <;> simp [Zxa,h1,h2,h3]
theorem CO:type_of% (And.intro @EV (And.intro @LD (And.intro @BL (And.intro @IFJ (And.intro @GI @QC))))):=And.intro @EV (And.intro @LD (And.intro @BL (And.intro @IFJ (And.intro @GI @QC))))
theorem COe:type_of% (And.intro CO (And.intro @List.length_cons.{0} @List.length_nil.{0})):=And.intro CO (And.intro @List.length_cons.{0} @List.length_nil.{0})
end Go.Proofs.YtleomfgijkapfaaGreatDoor.Abs
end
section
namespace Go.Proofs.YtleomfgijkapfaaGreatDoor
open Go Go.RowKit Go.Proofs.YtleomfgijkapfaaGreatDoor.Abs
open Nat (reduceAdd reduceLeDiff)
set_option maxRecDepth 100000
set_option maxHeartbeats 0
def ints (l:List Int):List (List AV):=l.map fun x=>[.int .i64 x]
def strs (l:List (List UInt8)):List (List AV):=l.map fun x=>[.str x]
structure ZpO where
 Name:List UInt8
 Ty:Int
 N:Int
 deriving DecidableEq
def Zkc (x:ZpO):List AV:=[.str x.Name,.int .i64 x.Ty,.int .i64 x.N]
structure ZnQ (x:ZpO):Prop where
 Name:x.Name.length≤140737488351232
 Ty:-9223372036854775808≤x.Ty∧x.Ty≤9223372036854775807
 N:-9223372036854775808≤x.N∧x.N≤9223372036854775807
structure ZnM where
 At_:Int
 Units:Int
 deriving DecidableEq
def Zpk (x:ZnM):List AV:=[.int .i64 x.At_,.int .i64 x.Units]
structure ZpM (x:ZnM):Prop where
 At_:-9223372036854775808≤x.At_∧x.At_≤9223372036854775807
 Units:-9223372036854775808≤x.Units∧x.Units≤9223372036854775807
structure Gg where
 Op:Int
 A:Int
 B:Int
 N:Int
 Values:List Int
 Weights:List Int
 deriving DecidableEq
def Jv (x:Gg):List AV:=[.int .i64 x.Op,.int .i64 x.A,.int .i64 x.B,.int .i64 x.N,.lst 1 (ints x.Values),.lst 1 (ints x.Weights)]
theorem Znq (x:Gg):(Jv x).length=6:=by rfl
theorem MQ (x:Gg):(Jv x).map AV.ro=Jv x:=by rfl
theorem Zvm (x:Gg):AV.nm (.agg (Jv x))=.agg (Jv x):=by rw [Du,MQ]
theorem Zto (x:Gg):(Jv x)[0]? = some (.int .i64 x.Op):=by rfl
theorem Ztp (x:Gg):(Jv x)[1]? = some (.int .i64 x.A):=by rfl
theorem Ztq (x:Gg):(Jv x)[2]? = some (.int .i64 x.B):=by rfl
theorem Ztr (x:Gg):(Jv x)[3]? = some (.int .i64 x.N):=by rfl
theorem Zts (x:Gg):(Jv x)[4]? = some (.lst 1 (ints x.Values)):=by rfl
theorem Ztt (x:Gg):(Jv x)[5]? = some (.lst 1 (ints x.Weights)):=by rfl
structure OI (x:Gg):Prop where
 Op:-9223372036854775808≤x.Op∧x.Op≤9223372036854775807
 A:-9223372036854775808≤x.A∧x.A≤9223372036854775807
 B:-9223372036854775808≤x.B∧x.B≤9223372036854775807
 N:-9223372036854775808≤x.N∧x.N≤9223372036854775807
 Values:x.Values.length * 8≤140737488351232∧∀ y ∈ x.Values,-9223372036854775808≤y∧y≤9223372036854775807
 Weights:x.Weights.length * 8≤140737488351232∧∀ y ∈ x.Weights,-9223372036854775808≤y∧y≤9223372036854775807
structure ZrM where
 Stream:List UInt8
 Up:Gg
 Down:Gg
 deriving DecidableEq
def Zty (x:ZrM):List AV:=[.str x.Stream] ++ Jv x.Up ++ Jv x.Down
structure ZrO (x:ZrM):Prop where
 Stream:x.Stream.length≤140737488351232
 Up:OI x.Up
 Down:OI x.Down
structure Ri where
 Name:List UInt8
 Units:Int
 Shift:List ZnM
 Cycle:Int
 Fault:ZrM
 deriving DecidableEq
def Ib (x:Ri):List AV:=[.str x.Name,.int .i64 x.Units,.lst 2 (x.Shift.map Zpk),.int .i64 x.Cycle] ++ Zty x.Fault
structure MN (x:Ri):Prop where
 Name:x.Name.length≤140737488351232
 Units:-9223372036854775808≤x.Units∧x.Units≤9223372036854775807
 Shift:x.Shift.length * 16≤140737488351232∧∀ y ∈ x.Shift,ZpM y
 Cycle:-9223372036854775808≤x.Cycle∧x.Cycle≤9223372036854775807
 Fault:ZrO x.Fault
structure Zcr where
 Name:List UInt8
 Room:Int
 Policy:Int
 deriving DecidableEq
def P8 (x:Zcr):List AV:=[.str x.Name,.int .i64 x.Room,.int .i64 x.Policy]
structure Zfj (x:Zcr):Prop where
 Name:x.Name.length≤140737488351232
 Room:-9223372036854775808≤x.Room∧x.Room≤9223372036854775807
 Policy:-9223372036854775808≤x.Policy∧x.Policy≤9223372036854775807
structure Zfg where
 Name:List UInt8
 Length:Int
 Step:Int
 deriving DecidableEq
def EZ (x:Zfg):List AV:=[.str x.Name,.int .i64 x.Length,.int .i64 x.Step]
structure Zjx (x:Zfg):Prop where
 Name:x.Name.length≤140737488351232
 Length:-9223372036854775808≤x.Length∧x.Length≤9223372036854775807
 Step:-9223372036854775808≤x.Step∧x.Step≤9223372036854775807
structure ZpL where
 Name:List UInt8
 Ty:Int
 deriving DecidableEq
def Zh6 (x:ZpL):List AV:=[.str x.Name,.int .i64 x.Ty]
structure ZnO (x:ZpL):Prop where
 Name:x.Name.length≤140737488351232
 Ty:-9223372036854775808≤x.Ty∧x.Ty≤9223372036854775807
structure ZH where
 Op:Int
 Name:List UInt8
 N:Int
 Kids:List ZH
mutual
def Zt:ZH→List AV
 | ⟨a0,a1,a2,a3⟩=>[.int .i64 a0,.str a1,.int .i64 a2,.lst 4 (Znr a3)]
def Znr:List ZH→List (List AV)
 | []=>[]
 | x :: l=>Zt x :: Znr l
end
theorem ZjY:∀ l:List ZH,Znr l=l.map Zt
 | []=>by rw [Znr]; rfl
 | x :: l=>by rw [Znr,ZjY l]; rfl
theorem Y1 (x:ZH):Zt x=[.int .i64 x.Op,.str x.Name,.int .i64 x.N,.lst 4 (x.Kids.map Zt)]:=by
 cases x; rw [Zt]; simp only [ZjY]
theorem X5 (x:ZH):(Zt x).length=4:=by rw [Y1]; rfl
theorem VU (x:ZH):(Zt x).map AV.ro=Zt x:=by rw [Y1]; rfl
theorem Zvn (x:ZH):AV.nm (.agg (Zt x))=.agg (Zt x):=by rw [Du,VU]
theorem Ztu (x:ZH):(Zt x)[0]? = some (.int .i64 x.Op):=by rw [Y1]; rfl
theorem Ztv (x:ZH):(Zt x)[1]? = some (.str x.Name):=by rw [Y1]; rfl
theorem Ztw (x:ZH):(Zt x)[2]? = some (.int .i64 x.N):=by rw [Y1]; rfl
theorem Ztx (x:ZH):(Zt x)[3]? = some (.lst 4 (x.Kids.map Zt)):=by rw [Y1]; rfl
inductive Y2:ZH→Prop
 | mk (x:ZH) (hOp:-9223372036854775808≤x.Op∧x.Op≤9223372036854775807) (hName:x.Name.length≤140737488351232) (hN:-9223372036854775808≤x.N∧x.N≤9223372036854775807) (hKids1:x.Kids.length * 56≤140737488351232) (hKids2:∀ y ∈ x.Kids,Y2 y):Y2 x
theorem Y2.Op {x:ZH}(h:Y2 x):-9223372036854775808≤x.Op∧x.Op≤9223372036854775807:=by cases h; assumption
theorem Y2.Name {x:ZH}(h:Y2 x):x.Name.length≤140737488351232:=by cases h; assumption
theorem Y2.N {x:ZH}(h:Y2 x):-9223372036854775808≤x.N∧x.N≤9223372036854775807:=by cases h; assumption
theorem Y2.Kids {x:ZH}(h:Y2 x):x.Kids.length * 56≤140737488351232∧∀ y ∈ x.Kids,Y2 y:=by cases h; constructor <;> assumption
structure VH where
 Op:Int
 Name:List UInt8
 Of:List UInt8
 E:ZH
 F:ZH
 Args:List ZH
 Dist:Gg
 Flag:Bool
 Body:List VH
 Else:List VH
mutual
def XZ:VH→List AV
 | ⟨a0,a1,a2,a3,a4,a5,a6,a7,a8,a9⟩=>[.int .i64 a0,.str a1,.str a2] ++ Zt a3 ++ Zt a4 ++ [.lst 4 (a5.map Zt)] ++ Jv a6 ++ [.bool a7,.lst 21 (Zka a8),.lst 21 (Zka a9)]
def Zka:List VH→List (List AV)
 | []=>[]
 | x :: l=>XZ x :: Zka l
end
theorem Zkb:∀ l:List VH,Zka l=l.map XZ
 | []=>by rw [Zka]; rfl
 | x :: l=>by rw [Zka,Zkb l]; rfl
theorem KZ (x:VH):XZ x=[.int .i64 x.Op,.str x.Name,.str x.Of] ++ Zt x.E ++ Zt x.F ++ [.lst 4 (x.Args.map Zt)] ++ Jv x.Dist ++ [.bool x.Flag,.lst 21 (x.Body.map XZ),.lst 21 (x.Else.map XZ)]:=by
 cases x; rw [XZ]; simp only [Zkb]
theorem ZtB (x:VH):(XZ x).length=21:=by rw [KZ]; simp only [Y1]; rfl
theorem Zv3 (x:VH):(XZ x).map AV.ro=XZ x:=by rw [KZ]; simp only [Y1]; rfl
theorem ZxO (x:VH):(XZ x)[0]? = some (.int .i64 x.Op):=by rw [KZ]; simp only [Y1]; rfl
theorem ZxP (x:VH):(XZ x)[1]? = some (.str x.Name):=by rw [KZ]; simp only [Y1]; rfl
theorem ZxQ (x:VH):(XZ x)[2]? = some (.str x.Of):=by rw [KZ]; simp only [Y1]; rfl
theorem Zvz (x:VH):(XZ x)[11]? = some (.lst 4 (x.Args.map Zt)):=by rw [KZ]; simp only [Y1]; rfl
theorem Zv0 (x:VH):(XZ x)[18]? = some (.bool x.Flag):=by rw [KZ]; simp only [Y1]; rfl
theorem Zv1 (x:VH):(XZ x)[19]? = some (.lst 21 (x.Body.map XZ)):=by rw [KZ]; simp only [Y1]; rfl
theorem Zv2 (x:VH):(XZ x)[20]? = some (.lst 21 (x.Else.map XZ)):=by rw [KZ]; simp only [Y1]; rfl
theorem Zr9 (x:VH):((XZ x).drop 3).take 4=Zt x.E:=by rw [KZ]; simp only [Y1]; rfl
theorem ZrA (x:VH):((XZ x).drop 7).take 4=Zt x.F:=by rw [KZ]; simp only [Y1]; rfl
theorem Zl4 (x:VH):((XZ x).drop 12).take 6=Jv x.Dist:=by rw [KZ]; simp only [Y1]; rfl
inductive XA:VH→Prop
 | mk (x:VH) (hOp:-9223372036854775808≤x.Op∧x.Op≤9223372036854775807) (hName:x.Name.length≤140737488351232) (hOf:x.Of.length≤140737488351232) (hE:Y2 x.E) (hF:Y2 x.F) (hArgs1:x.Args.length * 56≤140737488351232) (hArgs2:∀ y ∈ x.Args,Y2 y) (hDist:OI x.Dist) (hFlag:True) (hBody1:x.Body.length * 312≤140737488351232) (hBody2:∀ y ∈ x.Body,XA y) (hElse1:x.Else.length * 312≤140737488351232) (hElse2:∀ y ∈ x.Else,XA y):XA x
theorem XA.Op {x:VH}(h:XA x):-9223372036854775808≤x.Op∧x.Op≤9223372036854775807:=by cases h; assumption
theorem XA.Name {x:VH}(h:XA x):x.Name.length≤140737488351232:=by cases h; assumption
theorem XA.Of {x:VH}(h:XA x):x.Of.length≤140737488351232:=by cases h; assumption
theorem XA.E {x:VH}(h:XA x):Y2 x.E:=by cases h; assumption
theorem XA.F {x:VH}(h:XA x):Y2 x.F:=by cases h; assumption
theorem XA.Args {x:VH}(h:XA x):x.Args.length * 56≤140737488351232∧∀ y ∈ x.Args,Y2 y:=by cases h; constructor <;> assumption
theorem XA.Dist {x:VH}(h:XA x):OI x.Dist:=by cases h; assumption
theorem XA.Flag {x:VH}(h:XA x):True:=by cases h; assumption
theorem XA.Body {x:VH}(h:XA x):x.Body.length * 312≤140737488351232∧∀ y ∈ x.Body,XA y:=by cases h; constructor <;> assumption
theorem XA.Else {x:VH}(h:XA x):x.Else.length * 312≤140737488351232∧∀ y ∈ x.Else,XA y:=by cases h; constructor <;> assumption
structure Uj where
 Name:List UInt8
 Params:List ZpL
 Locals:List ZpL
 Body:List VH
def Vj (x:Uj):List AV:=[.str x.Name,.lst 2 (x.Params.map Zh6),.lst 2 (x.Locals.map Zh6),.lst 21 (x.Body.map XZ)]
theorem Znu (x:Uj):(Vj x).length=4:=by rfl
theorem Zh8 (x:Uj):(Vj x).map AV.ro=Vj x:=by rfl
theorem Zpn (x:Uj):AV.nm (.agg (Vj x))=.agg (Vj x):=by rw [Du,Zh8]
theorem Zr5 (x:Uj):(Vj x)[0]? = some (.str x.Name):=by rfl
theorem Zr6 (x:Uj):(Vj x)[1]? = some (.lst 2 (x.Params.map Zh6)):=by rfl
theorem Zr7 (x:Uj):(Vj x)[2]? = some (.lst 2 (x.Locals.map Zh6)):=by rfl
theorem Zr8 (x:Uj):(Vj x)[3]? = some (.lst 21 (x.Body.map XZ)):=by rfl
structure Zbg (x:Uj):Prop where
 Name:x.Name.length≤140737488351232
 Params:x.Params.length * 24≤140737488351232∧∀ y ∈ x.Params,ZnO y
 Locals:x.Locals.length * 24≤140737488351232∧∀ y ∈ x.Locals,ZnO y
 Body:x.Body.length * 312≤140737488351232∧∀ y ∈ x.Body,XA y
structure ZpN where
 Routine:List UInt8
 Args:List Int
 At_:Int
 Every:Int
 Until:Int
 deriving DecidableEq
def ZjZ (x:ZpN):List AV:=[.str x.Routine,.lst 1 (ints x.Args),.int .i64 x.At_,.int .i64 x.Every,.int .i64 x.Until]
structure Zfi (x:ZpN):Prop where
 Routine:x.Routine.length≤140737488351232
 Args:x.Args.length * 8≤140737488351232∧∀ y ∈ x.Args,-9223372036854775808≤y∧y≤9223372036854775807
 At_:-9223372036854775808≤x.At_∧x.At_≤9223372036854775807
 Every:-9223372036854775808≤x.Every∧x.Every≤9223372036854775807
 Until:-9223372036854775808≤x.Until∧x.Until≤9223372036854775807
structure ZwL where
 Coef:Int
 What:List UInt8
 Name:List UInt8
 deriving DecidableEq
def ZxS (x:ZwL):List AV:=[.int .i64 x.Coef,.str x.What,.str x.Name]
structure ZvS (x:ZwL):Prop where
 Coef:-9223372036854775808≤x.Coef∧x.Coef≤9223372036854775807
 What:x.What.length≤140737488351232
 Name:x.Name.length≤140737488351232
structure ZzO where
 Name:List UInt8
 Terms:List ZwL
 Total:Int
 deriving DecidableEq
def Zys (x:ZzO):List AV:=[.str x.Name,.lst 3 (x.Terms.map ZxS),.int .i64 x.Total]
structure ZrP (x:ZzO):Prop where
 Name:x.Name.length≤140737488351232
 Terms:x.Terms.length * 40≤140737488351232∧∀ y ∈ x.Terms,ZvS y
 Total:-9223372036854775808≤x.Total∧x.Total≤9223372036854775807
structure YX where
 Name:List UInt8
 Vars:List ZpO
 Resources:List Ri
 Stores:List Zcr
 Belts:List Zfg
 Queues:List (List UInt8)
 Streams:List (List UInt8)
 Tallies:List (List UInt8)
 Levels:List (List UInt8)
 Counts:List (List UInt8)
 Routines:List Uj
 Starts:List ZpN
 Laws:List ZzO
def Yh (x:YX):List AV:=[.str x.Name,.lst 3 (x.Vars.map Zkc),.lst 17 (x.Resources.map Ib),.lst 3 (x.Stores.map P8),.lst 3 (x.Belts.map EZ),.lst 1 (strs x.Queues),.lst 1 (strs x.Streams),.lst 1 (strs x.Tallies),.lst 1 (strs x.Levels),.lst 1 (strs x.Counts),.lst 4 (x.Routines.map Vj),.lst 5 (x.Starts.map ZjZ),.lst 3 (x.Laws.map Zys)]
theorem VV (x:YX):(Yh x).length=13:=by rfl
theorem Ou (x:YX):(Yh x).map AV.ro=Yh x:=by rfl
theorem Zn4 (x:YX):AV.nm (.agg (Yh x))=.agg (Yh x):=by rw [Du,Ou]
theorem Zpy (x:YX):(Yh x)[0]? = some (.str x.Name):=by rfl
theorem Zpz (x:YX):(Yh x)[1]? = some (.lst 3 (x.Vars.map Zkc)):=by rfl
theorem Zp0 (x:YX):(Yh x)[2]? = some (.lst 17 (x.Resources.map Ib)):=by rfl
theorem Zp1 (x:YX):(Yh x)[3]? = some (.lst 3 (x.Stores.map P8)):=by rfl
theorem Zp2 (x:YX):(Yh x)[4]? = some (.lst 3 (x.Belts.map EZ)):=by rfl
theorem Zp3 (x:YX):(Yh x)[5]? = some (.lst 1 (strs x.Queues)):=by rfl
theorem Zp4 (x:YX):(Yh x)[6]? = some (.lst 1 (strs x.Streams)):=by rfl
theorem Zp5 (x:YX):(Yh x)[7]? = some (.lst 1 (strs x.Tallies)):=by rfl
theorem Zp6 (x:YX):(Yh x)[8]? = some (.lst 1 (strs x.Levels)):=by rfl
theorem Zp7 (x:YX):(Yh x)[9]? = some (.lst 1 (strs x.Counts)):=by rfl
theorem Zn1 (x:YX):(Yh x)[10]? = some (.lst 4 (x.Routines.map Vj)):=by rfl
theorem Zn2 (x:YX):(Yh x)[11]? = some (.lst 5 (x.Starts.map ZjZ)):=by rfl
theorem Zn3 (x:YX):(Yh x)[12]? = some (.lst 3 (x.Laws.map Zys)):=by rfl
structure Oj (x:YX):Prop where
 Name:x.Name.length≤140737488351232
 Vars:x.Vars.length * 32≤140737488351232∧∀ y ∈ x.Vars,ZnQ y
 Resources:x.Resources.length * 232≤140737488351232∧∀ y ∈ x.Resources,MN y
 Stores:x.Stores.length * 32≤140737488351232∧∀ y ∈ x.Stores,Zfj y
 Belts:x.Belts.length * 32≤140737488351232∧∀ y ∈ x.Belts,Zjx y
 Queues:x.Queues.length * 16≤140737488351232∧∀ y ∈ x.Queues,y.length≤140737488351232
 Streams:x.Streams.length * 16≤140737488351232∧∀ y ∈ x.Streams,y.length≤140737488351232
 Tallies:x.Tallies.length * 16≤140737488351232∧∀ y ∈ x.Tallies,y.length≤140737488351232
 Levels:x.Levels.length * 16≤140737488351232∧∀ y ∈ x.Levels,y.length≤140737488351232
 Counts:x.Counts.length * 16≤140737488351232∧∀ y ∈ x.Counts,y.length≤140737488351232
 Routines:x.Routines.length * 88≤140737488351232∧∀ y ∈ x.Routines,Zbg y
 Starts:x.Starts.length * 64≤140737488351232∧∀ y ∈ x.Starts,Zfi y
 Laws:x.Laws.length * 48≤140737488351232∧∀ y ∈ x.Laws,ZrP y
structure Yo where
 Op:Int
 A:Int
 B:Int
 C:Int
 E:ZH
 F:ZH
 Args:List ZH
 Dist:Gg
 Flag:Bool
def ZL (x:Yo):List AV:=[.int .i64 x.Op,.int .i64 x.A,.int .i64 x.B,.int .i64 x.C] ++ Zt x.E ++ Zt x.F ++ [.lst 4 (x.Args.map Zt)] ++ Jv x.Dist ++ [.bool x.Flag]
theorem Qi (x:Yo):(ZL x).length=20:=by simp only [ZL,Y1]; rfl
theorem Zns (x:Yo):(ZL x).map AV.ro=ZL x:=by simp only [ZL,Y1]; rfl
theorem ZtA (x:Yo):AV.nm (.agg (ZL x))=.agg (ZL x):=by rw [Du,Zns]
theorem Zvp (x:Yo):(ZL x)[0]? = some (.int .i64 x.Op):=by simp only [ZL,Y1]; rfl
theorem Zvq (x:Yo):(ZL x)[1]? = some (.int .i64 x.A):=by simp only [ZL,Y1]; rfl
theorem Zvr (x:Yo):(ZL x)[2]? = some (.int .i64 x.B):=by simp only [ZL,Y1]; rfl
theorem Zvs (x:Yo):(ZL x)[3]? = some (.int .i64 x.C):=by simp only [ZL,Y1]; rfl
theorem Zvt (x:Yo):(ZL x)[4]? = some (.int .i64 x.E.Op):=by simp only [ZL,Y1]; rfl
theorem Zvu (x:Yo):(ZL x)[5]? = some (.str x.E.Name):=by simp only [ZL,Y1]; rfl
theorem Zvv (x:Yo):(ZL x)[6]? = some (.int .i64 x.E.N):=by simp only [ZL,Y1]; rfl
theorem Zvw (x:Yo):(ZL x)[7]? = some (.lst 4 (x.E.Kids.map Zt)):=by simp only [ZL,Y1]; rfl
theorem Zvx (x:Yo):(ZL x)[8]? = some (.int .i64 x.F.Op):=by simp only [ZL,Y1]; rfl
theorem Zvy (x:Yo):(ZL x)[9]? = some (.str x.F.Name):=by simp only [ZL,Y1]; rfl
theorem Ztz (x:Yo):(ZL x)[10]? = some (.int .i64 x.F.N):=by simp only [ZL,Y1]; rfl
theorem Zt0 (x:Yo):(ZL x)[11]? = some (.lst 4 (x.F.Kids.map Zt)):=by simp only [ZL,Y1]; rfl
theorem Zt1 (x:Yo):(ZL x)[12]? = some (.lst 4 (x.Args.map Zt)):=by simp only [ZL,Y1]; rfl
theorem Zt2 (x:Yo):(ZL x)[13]? = some (.int .i64 x.Dist.Op):=by simp only [ZL,Y1]; rfl
theorem Zt3 (x:Yo):(ZL x)[14]? = some (.int .i64 x.Dist.A):=by simp only [ZL,Y1]; rfl
theorem Zt4 (x:Yo):(ZL x)[15]? = some (.int .i64 x.Dist.B):=by simp only [ZL,Y1]; rfl
theorem Zt5 (x:Yo):(ZL x)[16]? = some (.int .i64 x.Dist.N):=by simp only [ZL,Y1]; rfl
theorem Zt6 (x:Yo):(ZL x)[17]? = some (.lst 1 (ints x.Dist.Values)):=by simp only [ZL,Y1]; rfl
theorem Zt7 (x:Yo):(ZL x)[18]? = some (.lst 1 (ints x.Dist.Weights)):=by simp only [ZL,Y1]; rfl
theorem Zt8 (x:Yo):(ZL x)[19]? = some (.bool x.Flag):=by simp only [ZL,Y1]; rfl
theorem Bj (x:Yo):((ZL x).drop 4).take 4=Zt x.E:=by simp only [ZL,Y1]; rfl
theorem Oe (x:Yo):((ZL x).drop 8).take 4=Zt x.F:=by simp only [ZL,Y1]; rfl
theorem VZ (x:Yo):((ZL x).drop 13).take 6=Jv x.Dist:=by simp only [ZL,Y1]; rfl
structure LK (x:Yo):Prop where
 Op:-9223372036854775808≤x.Op∧x.Op≤9223372036854775807
 A:-9223372036854775808≤x.A∧x.A≤9223372036854775807
 B:-9223372036854775808≤x.B∧x.B≤9223372036854775807
 C:-9223372036854775808≤x.C∧x.C≤9223372036854775807
 E:Y2 x.E
 F:Y2 x.F
 Args:x.Args.length * 56≤140737488351232∧∀ y ∈ x.Args,Y2 y
 Dist:OI x.Dist
 Flag:True
structure Q3 where
 Name:List UInt8
 Params:Int
 Slots:Int
 Instrs:List Yo
def Qr (x:Q3):List AV:=[.str x.Name,.int .i64 x.Params,.int .i64 x.Slots,.lst 20 (x.Instrs.map ZL)]
theorem Ztn (x:Q3):(Qr x).length=4:=by rfl
theorem Zq6 (x:Q3):(Qr x).map AV.ro=Qr x:=by rfl
theorem Zvl (x:Q3):AV.nm (.agg (Qr x))=.agg (Qr x):=by rw [Du,Zq6]
theorem ZxB (x:Q3):(Qr x)[0]? = some (.str x.Name):=by rfl
theorem ZxC (x:Q3):(Qr x)[1]? = some (.int .i64 x.Params):=by rfl
theorem ZxD (x:Q3):(Qr x)[2]? = some (.int .i64 x.Slots):=by rfl
theorem ZxE (x:Q3):(Qr x)[3]? = some (.lst 20 (x.Instrs.map ZL)):=by rfl
structure OH (x:Q3):Prop where
 Name:x.Name.length≤140737488351232
 Params:-9223372036854775808≤x.Params∧x.Params≤9223372036854775807
 Slots:-9223372036854775808≤x.Slots∧x.Slots≤9223372036854775807
 Instrs:x.Instrs.length * 256≤140737488351232∧∀ y ∈ x.Instrs,LK y
structure Ym where
 Decl:YX
 Routines:List Q3
def ZF (x:Ym):List AV:=Yh x.Decl ++ [.lst 4 (x.Routines.map Qr)]
theorem TF (x:Ym):(ZF x).length=14:=by rfl
theorem ZdM (x:Ym):(ZF x).map AV.ro=ZF x:=by rfl
theorem Zn0 (x:Ym):AV.nm (.agg (ZF x))=.agg (ZF x):=by rw [Du,ZdM]
theorem Zpo (x:Ym):(ZF x)[0]? = some (.str x.Decl.Name):=by rfl
theorem Zpp (x:Ym):(ZF x)[1]? = some (.lst 3 (x.Decl.Vars.map Zkc)):=by rfl
theorem Zpq (x:Ym):(ZF x)[2]? = some (.lst 17 (x.Decl.Resources.map Ib)):=by rfl
theorem Zpr (x:Ym):(ZF x)[3]? = some (.lst 3 (x.Decl.Stores.map P8)):=by rfl
theorem Zps (x:Ym):(ZF x)[4]? = some (.lst 3 (x.Decl.Belts.map EZ)):=by rfl
theorem Zpt (x:Ym):(ZF x)[5]? = some (.lst 1 (strs x.Decl.Queues)):=by rfl
theorem Zpu (x:Ym):(ZF x)[6]? = some (.lst 1 (strs x.Decl.Streams)):=by rfl
theorem Zpv (x:Ym):(ZF x)[7]? = some (.lst 1 (strs x.Decl.Tallies)):=by rfl
theorem Zpw (x:Ym):(ZF x)[8]? = some (.lst 1 (strs x.Decl.Levels)):=by rfl
theorem Zpx (x:Ym):(ZF x)[9]? = some (.lst 1 (strs x.Decl.Counts)):=by rfl
theorem Znv (x:Ym):(ZF x)[10]? = some (.lst 4 (x.Decl.Routines.map Vj)):=by rfl
theorem Znw (x:Ym):(ZF x)[11]? = some (.lst 5 (x.Decl.Starts.map ZjZ)):=by rfl
theorem Znx (x:Ym):(ZF x)[12]? = some (.lst 3 (x.Decl.Laws.map Zys)):=by rfl
theorem Zny (x:Ym):(ZF x)[13]? = some (.lst 4 (x.Routines.map Qr)):=by rfl
theorem Uy (x:Ym):((ZF x).drop 0).take 13=Yh x.Decl:=by rfl
structure Ae (x:Ym):Prop where
 Decl:Oj x.Decl
 Routines:x.Routines.length * 56≤140737488351232∧∀ y ∈ x.Routines,OH y
structure Zff where
 From:Int
 To:Int
 Delay:Int
 deriving DecidableEq
def DU (x:Zff):List AV:=[.int .i64 x.From,.int .i64 x.To,.int .i64 x.Delay]
theorem Zvk (x:Zff):(DU x).length=3:=by rfl
theorem Ztm (x:Zff):(DU x).map AV.ro=DU x:=by rfl
theorem ZxA (x:Zff):AV.nm (.agg (DU x))=.agg (DU x):=by rw [Du,Ztm]
theorem Zzx (x:Zff):(DU x)[0]? = some (.int .i64 x.From):=by rfl
theorem Zzy (x:Zff):(DU x)[1]? = some (.int .i64 x.To):=by rfl
theorem Zzz (x:Zff):(DU x)[2]? = some (.int .i64 x.Delay):=by rfl
structure ZwK (x:Zff):Prop where
 From:-9223372036854775808≤x.From∧x.From≤9223372036854775807
 To:-9223372036854775808≤x.To∧x.To≤9223372036854775807
 Delay:-9223372036854775808≤x.Delay∧x.Delay≤9223372036854775807
structure ZN where
 Name:List UInt8
 Sites:List Ym
 Links:List Zff
def ZX (x:ZN):List AV:=[.str x.Name,.lst 14 (x.Sites.map ZF),.lst 3 (x.Links.map DU)]
theorem Znt (x:ZN):(ZX x).length=3:=by rfl
theorem Zbb (x:ZN):(ZX x).map AV.ro=ZX x:=by rfl
theorem Zpl (x:ZN):AV.nm (.agg (ZX x))=.agg (ZX x):=by rw [Du,Zbb]
theorem Zr2 (x:ZN):(ZX x)[0]? = some (.str x.Name):=by rfl
theorem Zr3 (x:ZN):(ZX x)[1]? = some (.lst 14 (x.Sites.map ZF)):=by rfl
theorem Zr4 (x:ZN):(ZX x)[2]? = some (.lst 3 (x.Links.map DU)):=by rfl
structure Qn (x:ZN):Prop where
 Name:x.Name.length≤140737488351232
 Sites:x.Sites.length * 328≤140737488351232∧∀ y ∈ x.Sites,Ae y
 Links:x.Links.length * 24≤140737488351232∧∀ y ∈ x.Links,ZwK y
structure ZwJ where
 From:List UInt8
 To:List UInt8
 Delay:Int
 deriving DecidableEq
def Z0v (x:ZwJ):List AV:=[.str x.From,.str x.To,.int .i64 x.Delay]
structure Zyv (x:ZwJ):Prop where
 From:x.From.length≤140737488351232
 To:x.To.length≤140737488351232
 Delay:-9223372036854775808≤x.Delay∧x.Delay≤9223372036854775807
structure Zjw where
 Name:List UInt8
 Params:List ZpO
 Sites:List YX
 Links:List ZwJ
def Zw1 (x:Zjw):List AV:=[.str x.Name,.lst 3 (x.Params.map Zkc),.lst 13 (x.Sites.map Yh),.lst 3 (x.Links.map Z0v)]
structure ZnP (x:Zjw):Prop where
 Name:x.Name.length≤140737488351232
 Params:x.Params.length * 32≤140737488351232∧∀ y ∈ x.Params,ZnQ y
 Sites:x.Sites.length * 304≤140737488351232∧∀ y ∈ x.Sites,Oj y
 Links:x.Links.length * 40≤140737488351232∧∀ y ∈ x.Links,Zyv y
structure O9 where
 word:List UInt8
 a:Int
 b:Int
 c:Bool
 e:Bool
 f:Bool
 args:Bool
 dist:Bool
 preempt:Bool
 deriving DecidableEq
def Jp (x:O9):List AV:=[.str x.word,.int .i64 x.a,.int .i64 x.b,.bool x.c,.bool x.e,.bool x.f,.bool x.args,.bool x.dist,.bool x.preempt]
theorem Bl (x:O9):(Jp x).length=9:=by rfl
theorem ZqA (x:O9):(Jp x).map AV.ro=Jp x:=by rfl
theorem Zv7 (x:O9):AV.nm (.agg (Jp x))=.agg (Jp x):=by rw [Du,ZqA]
theorem ZxU (x:O9):(Jp x)[0]? = some (.str x.word):=by rfl
theorem ZxV (x:O9):(Jp x)[1]? = some (.int .i64 x.a):=by rfl
theorem ZxW (x:O9):(Jp x)[2]? = some (.int .i64 x.b):=by rfl
theorem ZxX (x:O9):(Jp x)[3]? = some (.bool x.c):=by rfl
theorem ZxY (x:O9):(Jp x)[4]? = some (.bool x.e):=by rfl
theorem ZxZ (x:O9):(Jp x)[5]? = some (.bool x.f):=by rfl
theorem Zya (x:O9):(Jp x)[6]? = some (.bool x.args):=by rfl
theorem Zyb (x:O9):(Jp x)[7]? = some (.bool x.dist):=by rfl
theorem Zyc (x:O9):(Jp x)[8]? = some (.bool x.preempt):=by rfl
structure Zyx (x:O9):Prop where
 word:x.word.length≤140737488351232
 a:-9223372036854775808≤x.a∧x.a≤9223372036854775807
 b:-9223372036854775808≤x.b∧x.b≤9223372036854775807
 c:True
 e:True
 f:True
 args:True
 dist:True
 preempt:True
structure YO where
 Word:List UInt8
 A:List UInt8
 B:List UInt8
 C:Bool
 E:Bool
 F:Bool
 Flag:Bool
 Args:Bool
 Dist:Bool
 deriving DecidableEq
def Gq (x:YO):List AV:=[.str x.Word,.str x.A,.str x.B,.bool x.C,.bool x.E,.bool x.F,.bool x.Flag,.bool x.Args,.bool x.Dist]
theorem L8 (x:YO):(Gq x).length=9:=by rfl
theorem Zl3 (x:YO):(Gq x).map AV.ro=Gq x:=by rfl
theorem Zvo (x:YO):AV.nm (.agg (Gq x))=.agg (Gq x):=by rw [Du,Zl3]
theorem ZxF (x:YO):(Gq x)[0]? = some (.str x.Word):=by rfl
theorem ZxG (x:YO):(Gq x)[1]? = some (.str x.A):=by rfl
theorem ZxH (x:YO):(Gq x)[2]? = some (.str x.B):=by rfl
theorem ZxI (x:YO):(Gq x)[3]? = some (.bool x.C):=by rfl
theorem ZxJ (x:YO):(Gq x)[4]? = some (.bool x.E):=by rfl
theorem ZxK (x:YO):(Gq x)[5]? = some (.bool x.F):=by rfl
theorem ZxL (x:YO):(Gq x)[6]? = some (.bool x.Flag):=by rfl
theorem ZxM (x:YO):(Gq x)[7]? = some (.bool x.Args):=by rfl
theorem ZxN (x:YO):(Gq x)[8]? = some (.bool x.Dist):=by rfl
structure YP where
 p:ZN
 site:Int
 c:Q3
def WS (x:YP):List AV:=ZX x.p ++ [.int .i64 x.site] ++ Qr x.c
theorem Zkd (x:YP):(WS x).length=8:=by rfl
theorem Zn8 (x:YP):(WS x).map AV.ro=WS x:=by rfl
theorem ZtJ (x:YP):AV.nm (.agg (WS x))=.agg (WS x):=by rw [Du,Zn8]
theorem ZvB (x:YP):(WS x)[0]? = some (.str x.p.Name):=by rfl
theorem ZvC (x:YP):(WS x)[1]? = some (.lst 14 (x.p.Sites.map ZF)):=by rfl
theorem ZvD (x:YP):(WS x)[2]? = some (.lst 3 (x.p.Links.map DU)):=by rfl
theorem ZvE (x:YP):(WS x)[3]? = some (.int .i64 x.site):=by rfl
theorem ZvF (x:YP):(WS x)[4]? = some (.str x.c.Name):=by rfl
theorem ZvG (x:YP):(WS x)[5]? = some (.int .i64 x.c.Params):=by rfl
theorem ZvH (x:YP):(WS x)[6]? = some (.int .i64 x.c.Slots):=by rfl
theorem ZvI (x:YP):(WS x)[7]? = some (.lst 20 (x.c.Instrs.map ZL)):=by rfl
theorem ZhD (x:YP):((WS x).drop 0).take 3=ZX x.p:=by rfl
theorem ZpA (x:YP):((WS x).drop 4).take 4=Qr x.c:=by rfl
structure UG (x:YP):Prop where
 p:Qn x.p
 site:-9223372036854775808≤x.site∧x.site≤9223372036854775807
 c:OH x.c
end Go.Proofs.YtleomfgijkapfaaGreatDoor
end
section
namespace Go.Proofs.YtleomfgijkapfaaGreatDoor
open Go Go.RowKit Go.Proofs.YtleomfgijkapfaaGreatDoor.Abs
open Nat (reduceAdd reduceLeDiff)
set_option maxRecDepth 100000
theorem VM (l:List Int):(ints l).length=l.length:=by simp [ints]
theorem ZzL {n:Int}(h1:-9223372036854775808≤n)(h2:n≤9223372036854775807):IntKind.i64.wrap n=n:=i64_in h1 h2
theorem Zut {C:Cfg}(hC:OB C)(N:Nat)(hN:1≤N)(hp:HP)(x:Int):Zb C N ZeW [.int .i64 x] hp=some (.bool (inB x),hp,none):=by
 obtain ⟨m,rfl⟩:∃ m,N=m + 1:=⟨N - 1,by omega⟩
 exact ZwV hC m x hp
theorem Zuu {C:Cfg}(hC:OB C)(N:Nat)(hN:1≤N)(hp:HP)(x:Int):Zb C N ZeX [.int .i64 x] hp=some (.bool (inB x),hp,none):=by
 obtain ⟨m,rfl⟩:∃ m,N=m + 1:=⟨N - 1,by omega⟩
 exact Z0c hC m x hp
theorem ZbO {C:Cfg}(hC:OB C)(N:Nat)(hN:2≤N)(hp:HP)(s:List UInt8)(hl:s.length≤140737488351232):Zb C N OG [.str s] hp=some (.int .i64 (LW s),hp,none):=by
 obtain ⟨m,rfl⟩:∃ m,N=m + 2:=⟨N - 2,by omega⟩
 exact ZkM hC m s (by omega) hp
theorem ZgS {C:Cfg}(hC:OB C)(N:Nat)(hN:3≤N)(hp:HP)(s:List UInt8)(hl:s.length≤140737488351232):Zb C N TY [.str s] hp=some (.int .i64 (LW s),hp,none):=by
 obtain ⟨m,rfl⟩:∃ m,N=m + 3:=⟨N - 3,by omega⟩
 exact Zjf hC m s (by omega) hp
theorem Hg {C:Cfg}(K:KT)(hp0:HP)(a b:List Int)(ha:a.length≤4611686018427387)(hb:b.length≤4611686018427387):∀ (r1 r2 q1 q2:List Int) (m:Nat),a=q1 ++ r1→b=q2 ++ r2→q1.length=q2.length→r1.length=r2.length→r1.length < m →
  YH C.G K C.L hp0 (Qp C.G K C.L hp0) m (.lst 1 (ints a)) (.lst 1 (ints b)) (.int .i64 (a.length:Int)) (.int .i64 (q1.length:Int)) hp0 none=some (.bool (decide (r1=r2)),hp0,none)
 | _,_,_,_,0,_,_,_,_,h=>by omega
 | [],[],q1,q2,m + 1,h1,h2,_,_,_=>by
  have l0:=lp0 h1
  simp only [YH,Qp,EV,l0,VM,Bool.false_eq_true,if_false,decide_true]
 | [],y :: r2,q1,q2,m + 1,_,_,_,h,_=>by simp at h
 | x :: r1,[],q1,q2,m + 1,_,_,_,h,_=>by simp at h
 | x :: r1,y :: r2,q1,q2,m + 1,h1,h2,hq,hr,hm=>by
  obtain ⟨a1,a2,a3,a4,_⟩:=lp (fun x=>[.int .i64 x]) h1 ha
  obtain ⟨_,b2,_,b4,_⟩:=lp (fun x=>[.int .i64 x]) h2 hb
  rw [← hq] at b2
  have ih:=Hg (C := C) K hp0 a b ha hb r1 r2 (q1 ++ [x]) (q2 ++ [y]) m a4 b4 (by simp [hq]) (by simpa using hr) (by simpa using hm)
  have g1:(ints a)[q1.length]? = some [.int .i64 x]:=a2
  have g2:(ints b)[q1.length]? = some [.int .i64 y]:=b2
  by_cases hxy:x=y
  ·subst hxy
   have hd:decide (x :: r1=x :: r2)=decide (r1=r2):=by by_cases h:r1=r2 <;> simp [h]
   simp only [YH,EV,VM,a1,a3,Jn,g1,g2,ih,hd,ne_eq,not_true_eq_false,decide_false,Bool.false_eq_true,if_false,if_true]
  ·have hd:decide (x :: r1=y :: r2)=false:=by simp [hxy]
   simp only [YH,EV,VM,a1,Jn,g1,g2,hd,hxy,ne_eq,not_false_eq_true,decide_true,if_true]
theorem Ot {C:Cfg}(hC:OB C)(N:Nat)(hN:1≤N)(hp:HP)(a b:List Int)(ha:a.length≤4611686018427387)(hb:b.length≤4611686018427387):Zb C N Qh [.lst 1 (ints a),.lst 1 (ints b)] hp=some (.bool (decide (a=b)),hp,none):=by
 obtain ⟨m,rfl⟩:∃ m,N=m + 1:=⟨N - 1,by omega⟩
 refine BQ (by rw [hC.T]; rfl) ?_
 by_cases hab:a.length=b.length
 ·have h:=Hg (C := C) (Zb C m) hp a b ha hb a b [] [] C.L rfl rfl rfl hab (by have:=hC.L; omega)
  have h1:((a.length:Int)=b.length):=by omega
  simp only [List.length_nil,Int.natCast_zero,h1] at h
  simp only [V4,EV,VM,h1,ne_eq,not_true_eq_false,decide_false,Bool.false_eq_true,if_false,h]
 ·have h1:¬ ((a.length:Int)=b.length):=by omega
  have h2:¬ a=b:=fun e=>hab (by rw [e])
  simp only [V4,EV,VM,h1,h2,ne_eq,not_false_eq_true,decide_true,decide_false,if_true]
theorem Py {C:Cfg}(K:KT)(hp0:HP)(a b:List Int)(ha:a.length≤4611686018427387)(hb:b.length≤4611686018427387):∀ (r1 r2 q1 q2:List Int) (m:Nat),a=q1 ++ r1→b=q2 ++ r2→q1.length=q2.length→r1.length=r2.length→r1.length < m →
  Xk C.G K C.L hp0 (Uw C.G K C.L hp0) m (.lst 1 (ints a)) (.lst 1 (ints b)) (.int .i64 (q1.length:Int)) hp0 none=some (.bool (decide (r1=r2)),hp0,none)
 | _,_,_,_,0,_,_,_,_,h=>by omega
 | [],[],q1,q2,m + 1,h1,h2,_,_,_=>by
  have l0:=lp0 h1
  simp only [Xk,Uw,EV,l0,VM,Bool.false_eq_true,if_false,decide_true]
 | [],y :: r2,q1,q2,m + 1,_,_,_,h,_=>by simp at h
 | x :: r1,[],q1,q2,m + 1,_,_,_,h,_=>by simp at h
 | x :: r1,y :: r2,q1,q2,m + 1,h1,h2,hq,hr,hm=>by
  obtain ⟨a1,a2,a3,a4,_⟩:=lp (fun x=>[.int .i64 x]) h1 ha
  obtain ⟨_,b2,_,b4,_⟩:=lp (fun x=>[.int .i64 x]) h2 hb
  rw [← hq] at b2
  have ih:=Py (C := C) K hp0 a b ha hb r1 r2 (q1 ++ [x]) (q2 ++ [y]) m a4 b4 (by simp [hq]) (by simpa using hr) (by simpa using hm)
  have g1:(ints a)[q1.length]? = some [.int .i64 x]:=a2
  have g2:(ints b)[q1.length]? = some [.int .i64 y]:=b2
  by_cases hxy:x=y
  ·subst hxy
   have hd:decide (x :: r1=x :: r2)=decide (r1=r2):=by by_cases h:r1=r2 <;> simp [h]
   simp only [Xk,EV,VM,a1,a3,Jn,g1,g2,ih,hd,ne_eq,not_true_eq_false,decide_false,Bool.false_eq_true,if_false,if_true]
  ·have hd:decide (x :: r1=y :: r2)=false:=by simp [hxy]
   simp only [Xk,EV,VM,a1,Jn,g1,g2,hd,hxy,ne_eq,not_false_eq_true,decide_true,if_true]
theorem FW {C:Cfg}(hC:OB C)(N:Nat)(hN:1≤N)(hp:HP)(a b:List Int)(ha:a.length≤4611686018427387)(hb:b.length≤4611686018427387):Zb C N KC [.lst 1 (ints a),.lst 1 (ints b)] hp=some (.bool (decide (a=b)),hp,none):=by
 obtain ⟨m,rfl⟩:∃ m,N=m + 1:=⟨N - 1,by omega⟩
 refine ZeR (by rw [hC.T]; rfl) ?_
 by_cases hab:a.length=b.length
 ·have h:=Py (C := C) (Zb C m) hp a b ha hb a b [] [] C.L rfl rfl rfl hab (by have:=hC.L; omega)
  have h1:((a.length:Int)=b.length):=by omega
  simp only [List.length_nil,Int.natCast_zero,h1] at h
  simp only [MP,EV,VM,h1,ne_eq,not_true_eq_false,decide_false,Bool.false_eq_true,if_false,h]
 ·have h1:¬ ((a.length:Int)=b.length):=by omega
  have h2:¬ a=b:=fun e=>hab (by rw [e])
  simp only [MP,EV,VM,h1,h2,ne_eq,not_false_eq_true,decide_true,decide_false,if_true]
def btw (x lo hi:Int):Bool:=decide (lo≤x) && decide (x≤hi)
def Zbe (d:Gg):Bool :=
 if decide (d.Op=1)=true then decide ((d.Values.length:Int) + d.Weights.length=0) && decide (d.B=0) && decide (d.N=0)
 else if decide (d.Op=2)=true then decide ((d.Values.length:Int) + d.Weights.length=0) && decide (d.N=0)
 else if decide (d.Op=5)=true then decide ((d.Values.length:Int) + d.Weights.length=0) && decide (d.N=0)
 else if decide (d.Op=4)=true then decide ((d.Values.length:Int) + d.Weights.length=0)
 else if decide (d.Op=3)=true then decide (d.A=0) && decide (d.B=0) && decide (d.N=0)
 else false
theorem OI.v {d:Gg}(h:OI d):d.Values.length≤4611686018427387:=by have:=h.Values.1; omega
theorem OI.w {d:Gg}(h:OI d):d.Weights.length≤4611686018427387:=by have:=h.Weights.1; omega
theorem OI.wr {d:Gg}(h:OI d):IntKind.i64.wrap ((d.Values.length:Int) + (d.Weights.length:Int))=(d.Values.length:Int) + (d.Weights.length:Int):=by
 have:=h.v; have:=h.w; exact ZzL (by omega) (by omega)
theorem DV:(∀ d,(Jv d).length=6)∧(∀ d,(Jv d).map AV.ro=Jv d)∧(∀ x,(Jv x)[0]? = some (.int .i64 x.Op))∧(∀ x,(Jv x)[1]? = some (.int .i64 x.A))∧(∀ x,(Jv x)[2]? = some (.int .i64 x.B))∧(∀ x,(Jv x)[3]? = some (.int .i64 x.N))∧(∀ x,(Jv x)[4]? = some (.lst 1 (ints x.Values)))∧(∀ x,(Jv x)[5]? = some (.lst 1 (ints x.Weights))):=⟨Znq,MQ,Zto,Ztp,Ztq,Ztr,Zts,Ztt⟩
theorem ZkK {C:Cfg}(hC:OB C)(N:Nat)(hN:1≤N)(hp:HP)(d:Gg)(hd:OI d):Zb C N PI [.agg (Jv d)] hp=some (.bool (Zbe d),hp,none):=by
 obtain ⟨m,rfl⟩:∃ m,N=m + 1:=⟨N - 1,by omega⟩
 refine ZgM (by rw [hC.T]; rfl) ?_
 generalize Zb C m=K at *
 simp only [Ns,IP,Kr,EV,LD,BL,IFJ,reduceAdd,reduceLeDiff,Nat.reduceBEq,GI,hd.wr,DV,VM,Zbe]
def ZhQ (d:Gg):Bool :=
 if decide (d.Op=1)=true then decide (d.B=0) && decide (d.N=0) && (decide ((d.Values.length:Int)=0) && decide ((d.Weights.length:Int)=0))
 else if decide (d.Op=2)=true then decide (d.N=0) && (decide ((d.Values.length:Int)=0) && decide ((d.Weights.length:Int)=0))
 else if decide (d.Op=5)=true then decide (d.N=0) && (decide ((d.Values.length:Int)=0) && decide ((d.Weights.length:Int)=0))
 else if decide (d.Op=3)=true then decide (d.A=0) && decide (d.B=0) && decide (d.N=0)
 else if decide (d.Op=4)=true then (decide ((d.Values.length:Int)=0) && decide ((d.Weights.length:Int)=0))
 else false
def Zx8 (lo hi:Int)(x:Int):Bool:=decide (x < lo) || decide (hi < x)
def Zwi {α:Type}(f:α→Bool):List α→Int→Int
 | [],_=>-1
 | x :: r,i=>if f x=true then i else Zwi f r (i + 1)
theorem Zs9 {α:Type}(f:α→Bool):∀ (l:List α) (i:Int),0≤i→decide (0≤Zwi f l i)=l.any f
 | [],i,h=>by simp [Zwi]
 | x :: r,i,h=>by
  have ih:=Zs9 f r (i + 1) (by omega)
  cases hx:f x <;> simp [Zwi,hx,h]
  simpa using ih
def Ud (lo hi:Int)(l:List Int):Bool:=!(l.any (Zx8 lo hi))
def ZbL (d:Gg):Int :=
 if (!(Zbe d))=true then 1
 else if decide (d.Op=1)=true then (if (!(Ud 0 1000000000 [d.A]))=true then 2 else 0)
 else if decide (d.Op=2)=true then (if (!(Ud 0 1000000000 [d.A,d.B] && decide (d.A≤d.B)))=true then 2 else 0)
 else if decide (d.Op=4)=true then (if (!(Ud 1 20 [d.N] && Ud 0 1000000 [d.A,d.B] && decide (d.A≤d.B)))=true then 2 else 0)
 else if decide (d.Op=5)=true then (if (!(Ud 1 1000 [d.A,d.B]))=true then 2 else 0)
 else if decide (d.Op=3)=true then
  (if decide ((d.Values.length:Int)≠(d.Weights.length:Int))=true then 8 else if decide ((d.Values.length:Int)=0)=true then 7 else if decide (20 < (d.Values.length:Int))=true then 6
   else if (!(Ud 0 1000000000 d.Values && Ud 1 1000 d.Weights))=true then 2 else 0)
 else 2
def ZwH:List Int→List Int→Int
 | x :: r,y :: s=>if (!(btw x 0 1000000000) || !(btw y 1 1000))=true then 2 else ZwH r s
 | _,_=>0
def ZnF (d:Gg):Int :=
 if decide ((d.Values.length:Int)≠(d.Weights.length:Int))=true then 8 else if decide ((d.Values.length:Int)=0)=true then 7 else if decide (20 < (d.Values.length:Int))=true then 6 else ZwH d.Values d.Weights
def Zsr (d:Gg):Int :=
 if (!(ZhQ d))=true then 1
 else if decide (d.Op=1)=true then (if (!(btw d.A 0 1000000000))=true then 2 else 0)
 else if decide (d.Op=2)=true then (if (!(btw d.A 0 d.B && decide (d.B≤1000000000)))=true then 2 else 0)
 else if decide (d.Op=3)=true then ZnF d
 else if decide (d.Op=4)=true then (if (!(btw d.N 1 20 && btw d.A 0 d.B && decide (d.B≤1000000)))=true then 2 else 0)
 else if decide (d.Op=5)=true then (if (!(btw d.A 1 1000 && btw d.B 1 1000))=true then 2 else 0)
 else 0
theorem ZmB {C:Cfg}(hC:OB C)(N:Nat)(hN:1≤N)(hp:HP)(d:Gg):Zb C N SK [.agg (Jv d)] hp=some (.bool (ZhQ d),hp,none):=by
 obtain ⟨m,rfl⟩:∃ m,N=m + 1:=⟨N - 1,by omega⟩
 refine Zjn (by rw [hC.T]; rfl) ?_
 generalize Zb C m=K at *
 simp only [EJ,Tq,GZ,EV,LD,BL,IFJ,reduceAdd,reduceLeDiff,Nat.reduceBEq,GI,DV,VM,ZhQ]
theorem ZbP {C:Cfg}(hC:OB C)(N:Nat)(hN:1≤N)(hp:HP)(x lo hi:Int):Zb C N Xz [.int .i64 x,.int .i64 lo,.int .i64 hi] hp=some (.bool (btw x lo hi),hp,none):=by
 obtain ⟨m,rfl⟩:∃ m,N=m + 1:=⟨N - 1,by omega⟩
 refine Zh1 (by rw [hC.T]; rfl) ?_
 generalize Zb C m=K at *
 simp only [ZbG,EV,LD,BL,IFJ,reduceAdd,reduceLeDiff,Nat.reduceBEq,GI,btw]
theorem ZgP {C:Cfg}(hC:OB C)(N:Nat)(hN:1≤N)(hp:HP)(x lo hi:Int)(g g2:Nat)(tg tg2:TypeId)(hg:hp[g]? = some (.cells [.int .i64 lo] tg))(hg2:hp[g2]? = some (.cells [.int .i64 hi] tg2)):Zb C N OE [.int .i64 x,.ptr g 0,.ptr g2 0] hp=some (.bool (Zx8 lo hi x),hp,none):=by
 obtain ⟨m,rfl⟩:∃ m,N=m + 1:=⟨N - 1,by omega⟩
 refine Zdp (by rw [hC.T]; rfl) ?_
 generalize Zb C m=K at *
 simp only [EF,EV,LD,BL,IFJ,reduceAdd,reduceLeDiff,Nat.reduceBEq,GI,LG hg,LG hg2,Zx8,List.getElem?_cons_zero]
theorem ZdG {C:Cfg}(K:KT)(hp0:HP)(fv:AV)(f:Int→Bool)(l:List Int)(hl:l.length≤4611686018427387)(hf:∀ x ∈ l,ZkC K fv [.int .i64 x] hp0=some (.bool (f x),hp0,none)):∀ (r q:List Int) (m:Nat),l=q ++ r→r.length < m →
  YE C.G K C.L hp0 (WB C.G K C.L hp0) m (.lst 1 (ints l)) fv (.int .i64 (l.length:Int)) (.int .i64 (q.length:Int)) hp0 none=some (.int .i64 (Zwi f r q.length),hp0,none)
 | _,_,0,_,h=>by omega
 | [],q,m + 1,h,_=>by
  have l0:=lp0 h
  simp only [YE,WB,EV,l0,Zwi,IFJ]
 | x :: r,q,m + 1,h,hm=>by
  obtain ⟨a1,a2,a3,a4,a5⟩:=lp (fun x=>[.int .i64 x]) h hl
  have g1:(ints l)[q.length]? = some [.int .i64 x]:=a2
  have ih:=ZdG (C := C) K hp0 fv f l hl hf r (q ++ [x]) m a4 (by simpa using hm)
  have a6:((q ++ [x]).length:Int)=(q.length:Int) + 1:=by simp
  have hc:=hf x a5
  simp only [YE,EV,a1,a3,Jn,g1,hc,ih,IFJ,Zwi]
  rw [a6]
theorem MC {C:Cfg}(hC:OB C)(N:Nat)(hN:2≤N)(hp:HP)(l:List Int)(hl:l.length≤4611686018427387)(g:FuncId)(c:List AV)(f:Int→Bool)(hf:∀ x ∈ l,Zb C (N - 2) g ([.int .i64 x] ++ c.map AV.nm) hp=some (.bool (f x),hp,none)) :
  Zb C N Va [.lst 1 (ints l),.fn g [] c] hp=some (.bool (l.any f),hp,none):=by
 obtain ⟨m,rfl⟩:∃ m,N=m + 2:=⟨N - 2,by omega⟩
 refine TG (by rw [hC.T]; rfl) ?_
 have h1:Zb C (m + 1) VG [.lst 1 (ints l),.fn g [] c] hp=some (.int .i64 (Zwi f l 0),hp,none):=by
  refine LC (by rw [hC.T]; rfl) ?_
  have h:=ZdG (C := C) (Zb C m) hp (.fn g [] c) f l hl (fun x hx=>by rw [Zup]; exact hf x hx) l [] C.L rfl (by have:=hC.L; omega)
  simp only [VL,EV,VM]
  exact h
 simp only [Ux,EV,h1,Zs9 f l 0 (by omega)]
theorem ZkL {C:Cfg}(hC:OB C)(N:Nat)(hN:4≤N)(hp:HP)(lo hi:Int)(l:List Int)(hl:l.length≤4611686018427387):Zb C N VF [.int .i64 lo,.int .i64 hi,.lst 1 (ints l)] hp=some (.bool (Ud lo hi l),hp,none):=by
 obtain ⟨m,rfl⟩:∃ m,N=m + 1:=⟨N - 1,by omega⟩
 refine ZgN (by rw [hC.T]; rfl) ?_
 have q:=MC hC m (by omega) (hp ++ [.cells [.int .i64 lo] Dv] ++ [.cells [.int .i64 hi] Dv]) l hl OE [.ptr hp.length 0,.ptr (hp ++ [Zw.cells [.int .i64 lo] Dv]).length 0] (Zx8 lo hi) fun x _=>ZgP hC (m - 2) (by omega) _ x lo hi _ _ _ _ (SC (JI _ _) _) (JI _ _)
 simp only [ZbA,EV,LD,ZyB,q,Ud]
theorem FX {C:Cfg}(K:KT)(hp0 hp:HP)(d:Gg)(hd:OI d)(hK:∀ (hp:HP) (x lo hi:Int),K Xz [.int .i64 x,.int .i64 lo,.int .i64 hi] hp=some (.bool (btw x lo hi),hp,none))(g:Nat)(tg:TypeId)(hg:hp[g]? = some (.cells (Jv d) tg)) :
  ∀ (r1 r2 q1 q2:List Int) (m:Nat),d.Values=q1 ++ r1→d.Weights=q2 ++ r2→q1.length=q2.length→r1.length=r2.length→r1.length < m →
  JV C.G K C.L hp0 (IA C.G K C.L hp0) m (.ptr g 0) (.int .i64 (q1.length:Int)) hp none=some (.int .i64 (ZwH r1 r2),hp0,none)
 | _,_,_,_,0,_,_,_,_,h=>by omega
 | [],[],q1,q2,m + 1,h1,h2,_,_,_=>by
  have l0:=lp0 h1
  simp only [JV,IA,EV,LD,LG hg,DV,l0,VM,IFJ,ZwH]
 | [],y :: r2,q1,q2,m + 1,_,_,_,h,_=>by simp at h
 | x :: r1,[],q1,q2,m + 1,_,_,_,h,_=>by simp at h
 | x :: r1,y :: r2,q1,q2,m + 1,h1,h2,hq,hr,hm=>by
  obtain ⟨a1,a2,a3,a4,_⟩:=lp (fun x=>[.int .i64 x]) h1 hd.v
  obtain ⟨_,b2,_,b4,_⟩:=lp (fun x=>[.int .i64 x]) h2 hd.w
  rw [← hq] at b2
  have ih:=FX (C := C) K hp0 hp d hd hK g tg hg r1 r2 (q1 ++ [x]) (q2 ++ [y]) m a4 b4 (by simp [hq]) (by simpa using hr) (by simpa using hm)
  have g1:(ints d.Values)[q1.length]? = some [.int .i64 x]:=a2
  have g2:(ints d.Weights)[q1.length]? = some [.int .i64 y]:=b2
  simp only [JV,EV,LD,LG hg,GI,DV,a1,a3,VM,Jn,g1,g2,hK,ih,IFJ,ZwH]
theorem Zo0 {C:Cfg}(hC:OB C)(N:Nat)(hN:2≤N)(hp:HP)(d:Gg)(hd:OI d):Zb C N CS [.agg (Jv d)] hp=some (.int .i64 (ZnF d),hp,none):=by
 obtain ⟨m,rfl⟩:∃ m,N=m + 1:=⟨N - 1,by omega⟩
 have q0:=ZbP hC m (by omega)
 refine Zlp (by rw [hC.T]; rfl) ?_
 by_cases hlen:d.Values.length=d.Weights.length
 ·have h:=FX (C := C) (Zb C m) hp (hp ++ [.cells (Jv d) Jq]) d hd q0 hp.length Jq (JI _ _) d.Values d.Weights [] [] C.L rfl rfl rfl hlen (by have:=hC.L; have:=hd.v; omega)
  simp only [List.length_nil,Int.natCast_zero] at h
  simp only [Nw,EV,LD,BL,IFJ,DV,VM,ZnF,h]
 have hl2:decide ((d.Values.length:Int)≠(d.Weights.length:Int))=true:=by simp only [decide_eq_true_eq]; omega
 simp only [Nw,EV,LD,BL,IFJ,reduceAdd,reduceLeDiff,Nat.reduceBEq,GI,q0,hd.v,DV,VM,ZnF,hl2]
theorem l1 (x:Int):([[AV.int .i64 x]]:List (List AV))=ints [x]:=rfl
theorem l2 (x y:Int):([[AV.int .i64 x],[AV.int .i64 y]]:List (List AV))=ints [x,y]:=rfl
theorem lw1 (x:Int):([x].length≤4611686018427387)=True:=by simp
theorem lw2 (x y:Int):([x,y].length≤4611686018427387)=True:=by simp
theorem Dp {C:Cfg}(hC:OB C)(N:Nat)(hN:5≤N)(hp:HP)(d:Gg)(hd:OI d):Zb C N SH [.agg (Jv d)] hp=some (.int .i64 (ZbL d),hp,none):=by
 obtain ⟨m,rfl⟩:∃ m,N=m + 1:=⟨N - 1,by omega⟩
 have q0:=ZkK hC m (by omega)
 have q1:=ZkL hC m (by omega)
 refine Zjd (by rw [hC.T]; rfl) ?_
 generalize Zb C m=K at *
 simp only [ZdD,EV,LD,BL,IFJ,reduceAdd,reduceLeDiff,Nat.reduceBEq,GI,q0,q1,hd,hd.v,hd.w,DV,VM,ZbL,LIT,l1 d.A,l1 d.N,l2 d.A d.B,lw1,lw2]
theorem Zoz {C:Cfg}(hC:OB C)(N:Nat)(hN:3≤N)(hp:HP)(d:Gg)(hd:OI d):Zb C N CQ [.agg (Jv d)] hp=some (.int .i64 (Zsr d),hp,none):=by
 obtain ⟨m,rfl⟩:∃ m,N=m + 1:=⟨N - 1,by omega⟩
 have q0:=ZmB hC m (by omega)
 have q1:=ZbP hC m (by omega)
 have q2:=Zo0 hC m (by omega)
 refine Zlo (by rw [hC.T]; rfl) ?_
 generalize Zb C m=K at *
 simp only [ZgF,EV,LD,BL,IFJ,reduceAdd,reduceLeDiff,Nat.reduceBEq,GI,q0,q1,q2,hd,DV,VM,Zsr]
end Go.Proofs.YtleomfgijkapfaaGreatDoor
end
section
namespace Go.Proofs.YtleomfgijkapfaaGreatDoor
open Go Go.RowKit Go.Proofs.YtleomfgijkapfaaGreatDoor.Abs
open Nat (reduceAdd reduceLeDiff)
set_option maxRecDepth 100000
def ZrL (op:Int):Bool:=decide (22≤op) && decide (op≤24)
def ZoH (op:Int):Int :=
 if (decide (op=1) || decide (op=2) || decide (op=3) || decide (op=4))=true then 0
 else if (decide (5≤op) && decide (op≤8))=true then 1
 else if (decide (9≤op) && decide (op≤21))=true then 2
 else if (decide (22≤op) && decide (op≤26))=true then 0 else -1
def ZjO (code:Bool)(op:Int):Bool :=
 if decide (op=3)=true then !code else if decide (op=25)=true then code else if decide (op=26)=true then code else decide (0≤ZoH op)
def ZmV (code:Bool)(op:Int):Bool:=decide (op=3) || (ZrL op && !code)
def ZtY (code:Bool)(op:Int):Int×Int×Bool :=
 if decide (op=2)=true then (0,1,true) else if decide (op=25)=true then (0,15,true) else if decide (op=26)=true then (0,31,true) else if (ZrL op && code)=true then (0,63,true) else (0,0,false)
def ZeP (code:Bool)(e:ZH):Int :=
 if (!(ZjO code e.Op) || decide ((e.Kids.length:Int)≠ZoH e.Op) || (decide (e.Name≠[]) && !(ZmV code e.Op)))=true then 1
 else if decide (e.Op=1)=true then (if (!(inB e.N))=true then 2 else 0)
 else if (!(ZtY code e.Op).2.2 && decide (e.N≠0))=true then 1
 else if ((ZtY code e.Op).2.2 && (decide (e.N < (ZtY code e.Op).1) || decide ((ZtY code e.Op).2.1 < e.N)))=true then 2
 else if ZmV code e.Op=true then LW e.Name else 0
theorem VT:(∀ d,(Zt d).length=4)∧(∀ d,(Zt d).map AV.ro=Zt d)∧(∀ x,(Zt x)[0]? = some (.int .i64 x.Op))∧(∀ x,(Zt x)[1]? = some (.str x.Name))∧(∀ x,(Zt x)[2]? = some (.int .i64 x.N))∧(∀ x,(Zt x)[3]? = some (.lst 4 (x.Kids.map Zt))):=⟨X5,VU,Ztu,Ztv,Ztw,Ztx⟩
theorem ZbZ {x e:ZH}(h:x ∈ e.Kids):SizeOf.sizeOf x < SizeOf.sizeOf e:=by
 cases e
 have:=List.sizeOf_lt_of_mem h
 simp at *
 omega
theorem ZdR (e:ZH):0 < SizeOf.sizeOf e:=by cases e; simp; omega
theorem Y2.k {e:ZH}(h:Y2 e):e.Kids.length≤4611686018427387:=by have:=h.Kids.1; omega
theorem Y2.n {e:ZH}(h:Y2 e):e.Name.length≤140737488351232:=h.Name
theorem ONE:(∀ a:AV,[a].length=1)∧(∀ b:Bool,[AV.bool b].map AV.ro=[.bool b]):=⟨fun _=>rfl,fun _=>rfl⟩
theorem ZbN {C:Cfg}(hC:OB C)(N:Nat)(hN:1≤N)(hp:HP)(op:Int):Zb C N Rf [.int .i64 op] hp=some (.bool (ZrL op),hp,none):=by
 obtain ⟨m,rfl⟩:∃ m,N=m + 1:=⟨N - 1,by omega⟩
 refine ZgX (by rw [hC.T]; rfl) ?_
 generalize Zb C m=K at *
 simp only [ZbF,EV,LD,BL,IFJ,reduceAdd,reduceLeDiff,Nat.reduceBEq,GI,ZrL]
theorem ZgQ {C:Cfg}(hC:OB C)(N:Nat)(hN:1≤N)(hp:HP)(op:Int):Zb C N RG [.int .i64 op] hp=some (.int .i64 (ZoH op),hp,none):=by
 obtain ⟨m,rfl⟩:∃ m,N=m + 1:=⟨N - 1,by omega⟩
 refine ZkP (by rw [hC.T]; rfl) ?_
 generalize Zb C m=K at *
 simp only [ZgE,EV,LD,BL,IFJ,reduceAdd,reduceLeDiff,Nat.reduceBEq,GI,ZoH]
theorem ZaK {C:Cfg}(hC:OB C)(N:Nat)(hN:2≤N)(hp:HP)(code:Bool)(op:Int):Zb C N IU [.agg [.bool code],.int .i64 op] hp=some (.bool (ZjO code op),hp,none):=by
 obtain ⟨m,rfl⟩:∃ m,N=m + 1:=⟨N - 1,by omega⟩
 have q0:=ZgQ hC m (by omega)
 refine SX (by rw [hC.T]; rfl) ?_
 generalize Zb C m=K at *
 simp only [Ba,EV,LD,BL,IFJ,reduceAdd,reduceLeDiff,Nat.reduceBEq,GI,q0,ZjO,GI,ONE]
theorem ZaL {C:Cfg}(hC:OB C)(N:Nat)(hN:2≤N)(hp:HP)(code:Bool)(op:Int):Zb C N UE [.agg [.bool code],.int .i64 op] hp=some (.bool (ZmV code op),hp,none):=by
 obtain ⟨m,rfl⟩:∃ m,N=m + 1:=⟨N - 1,by omega⟩
 have q0:=ZbN hC m (by omega)
 refine SY (by rw [hC.T]; rfl) ?_
 generalize Zb C m=K at *
 simp only [Bc,EV,LD,BL,IFJ,reduceAdd,reduceLeDiff,Nat.reduceBEq,GI,q0,ZmV,GI,ONE]
theorem EL {C:Cfg}(hC:OB C)(N:Nat)(hN:2≤N)(hp:HP)(code:Bool)(op:Int):Zb C N Gt [.agg [.bool code],.int .i64 op] hp=some (.tup [.int .i64 (ZtY code op).1,.int .i64 (ZtY code op).2.1,.bool (ZtY code op).2.2],hp,none):=by
 obtain ⟨m,rfl⟩:∃ m,N=m + 1:=⟨N - 1,by omega⟩
 have q0:=ZbN hC m (by omega)
 refine PS (by rw [hC.T]; rfl) ?_
 generalize Zb C m=K at *
 simp only [Lr,EV,LD,BL,IFJ,reduceAdd,reduceLeDiff,Nat.reduceBEq,GI,q0,ZtY,GI,ONE,TUP]
 (repeat' split) <;> rfl
theorem ZbM {C:Cfg}(hC:OB C)(N:Nat)(hN:3≤N)(hp:HP)(code:Bool)(e:ZH)(he:Y2 e):Zb C N OC [.agg [.bool code],.agg (Zt e)] hp=some (.int .i64 (ZeP code e),hp,none):=by
 obtain ⟨m,rfl⟩:∃ m,N=m + 1:=⟨N - 1,by omega⟩
 have q0:=ZaK hC m (by omega)
 have q1:=ZgQ hC m (by omega)
 have q2:=ZaL hC m (by omega)
 have q3:=Zut hC m (by omega)
 have q4:=EL hC m (by omega)
 have q5:=ZbO hC m (by omega)
 refine Ap (by rw [hC.T]; rfl) ?_
 generalize Zb C m=K at *
 simp only [Dl,EV,LD,BL,IFJ,reduceAdd,reduceLeDiff,Nat.reduceBEq,GI,q0,q1,q2,q3,q4,q5,he.n,VT,ZeP,GI,ONE,QC,EX]
mutual
def Hl (code:Bool):ZH→Int
 | ⟨o,a,n,ks⟩=>if decide (ZeP code ⟨o,a,n,ks⟩≠0)=true then ZeP code ⟨o,a,n,ks⟩ else Zhp code ks
def Zhp (code:Bool):List ZH→Int
 | []=>0
 | x :: r=>if decide (Hl code x≠0)=true then Hl code x else Zhp code r
end
theorem ZjQ (code:Bool):∀ l:List ZH,Zhp code l=NV (Hl code) l
 | []=>by rw [Zhp]; rfl
 | x :: r=>by rw [Zhp,ZjQ code r]; rfl
theorem Zho (code:Bool)(e:ZH):Hl code e=if decide (ZeP code e≠0)=true then ZeP code e else NV (Hl code) e.Kids:=by
 cases e; rw [Hl,ZjQ]
mutual
def ZlF:ZH→Int
 | ⟨_,_,_,ks⟩=>Zso ks 1
def Zso:List ZH→Int→Int
 | [],n=>n
 | x :: r,n=>Zso r (IntKind.i64.wrap (n + ZlF x))
end
theorem ZpW:∀ (l:List ZH) (n:Int),Zso l n=sumW ZlF l n
 | [],n=>by rw [Zso]; rfl
 | x :: r,n=>by rw [Zso,ZpW r]; rfl
theorem Zsn (e:ZH):ZlF e=sumW ZlF e.Kids 1:=by cases e; rw [ZlF,ZpW]
mutual
def Zjc:ZH→Int
 | ⟨_,_,_,ks⟩=>IntKind.i64.wrap (Zsq ks 0 + 1)
def Zsq:List ZH→Int→Int
 | [],n=>n
 | x :: r,n=>Zsq r (if Zjc x > n then Zjc x else n)
end
theorem ZpZ:∀ (l:List ZH) (n:Int),Zsq l n=ZuL Zjc l n
 | [],n=>by rw [Zsq]; rfl
 | x :: r,n=>by rw [Zsq,ZpZ r]; rfl
theorem Zsp (e:ZH):Zjc e=IntKind.i64.wrap (ZuL Zjc e.Kids 0 + 1):=by cases e; rw [Zjc,ZpZ]
def Zu8 (a b:ZH):Bool:=decide (a.Op≠b.Op) || decide (a.Name≠b.Name) || decide (a.N≠b.N)
mutual
def PE:ZH→ZH→Bool
 | ⟨o,a,n,ks⟩,e=>if (Zu8 ⟨o,a,n,ks⟩ e || decide ((ks.length:Int)≠(e.Kids.length:Int)))=true then false else ZhE ks e.Kids
def ZhE:List ZH→List ZH→Bool
 | x :: r,y :: s=>if (!(PE x y))=true then false else ZhE r s
 | _,_=>true
end
theorem Zn9:∀ l m:List ZH,ZhE l m=all2 PE l m
 | [],[]=>by rw [ZhE] <;> simp [all2]
 | [],y :: s=>by rw [ZhE] <;> simp [all2]
 | x :: r,[]=>by rw [ZhE] <;> simp [all2]
 | x :: r,y :: s=>by rw [ZhE,Zn9 r s]; rfl
theorem ZqD (a b:ZH):PE a b=if (Zu8 a b || decide ((a.Kids.length:Int)≠(b.Kids.length:Int)))=true then false else all2 PE a.Kids b.Kids:=by
 cases a; rw [PE,Zn9]
section
variable {C:Cfg}(hp0:HP)
theorem EN (K:KT)(l:List ZH)(hl:l.length≤4611686018427387)(hK:∀ x ∈ l,∀ hp,K Gw [.agg (Zt x)] hp=some (.int .i64 (ZlF x),hp,none)):∀ (r q:List ZH) (m:Nat) (hp:HP) (n:Int),l=q ++ r→r.length < m→hp0.length≤hp.length →
  Jl C.G K C.L hp0 (GY C.G K C.L hp0) m (.int .i64 n) (.int .i64 n) (.lst 4 (l.map Zt)) (.int .i64 (l.length:Int)) (.int .i64 (q.length:Int)) hp none=some (.int .i64 (sumW ZlF r n),hp0,none)
 | _,_,0,_,_,_,h,_=>by omega
 | [],q,m + 1,hp,n,h,_,hh=>by
  have l0:=lp0 h
  simp only [Jl,GY,EV,l0,sumW,IFJ]
 | x :: r,q,m + 1,hp,n,h,hm,hh=>by
  obtain ⟨a1,a2,a3,a4,a5⟩:=lp Zt h hl
  have ih:=EN K l hl hK r (q ++ [x]) m (hp ++ [.cells (Zt x) Zv]) (IntKind.i64.wrap (n + ZlF x)) a4 (by simpa using hm) (by simp; omega)
  have hc:=hK x a5
  have st:=st_all hp0.length 4 hp [(.int .i64 0),(.str []),(.int .i64 0),(.own 4 [])] (Zt x) Zv none (X5 x) rfl hh
  simp only [Jl,EV,LD,VT,a1,a2,a3,Jn,st,hc,ih,IFJ,sumW]
theorem EM (K:KT)(l:List ZH)(hl:l.length≤4611686018427387)(hK:∀ x ∈ l,∀ hp,K Gv [.agg (Zt x)] hp=some (.int .i64 (Zjc x),hp,none)):∀ (r q:List ZH) (m:Nat) (hp:HP) (n:Int),l=q ++ r→r.length < m→hp0.length≤hp.length →
  Jk C.G K C.L hp0 (GX C.G K C.L hp0) m (.int .i64 n) (.lst 4 (l.map Zt)) (.int .i64 (l.length:Int)) (.int .i64 (q.length:Int)) hp none=some (.int .i64 (IntKind.i64.wrap (ZuL Zjc r n + 1)),hp0,none)
 | _,_,0,_,_,_,h,_=>by omega
 | [],q,m + 1,hp,n,h,_,hh=>by
  have l0:=lp0 h
  simp only [Jk,GX,EV,l0,ZuL,IFJ]
 | x :: r,q,m + 1,hp,n,h,hm,hh=>by
  obtain ⟨a1,a2,a3,a4,a5⟩:=lp Zt h hl
  have ih:=EM K l hl hK r (q ++ [x]) m (hp ++ [.cells (Zt x) Zv]) (if Zjc x > n then Zjc x else n) a4 (by simpa using hm) (by simp; omega)
  have hc:=hK x a5
  have st:=st_all hp0.length 4 hp [(.int .i64 0),(.str []),(.int .i64 0),(.own 4 [])] (Zt x) Zv none (X5 x) rfl hh
  simp only [Jk,EV,LD,VT,a1,a2,a3,Jn,st,hc,max2,ih,IFJ,ZuL]
theorem TV (K:KT)(code:Bool)(g:Nat)(tg:TypeId)(l:List ZH)(hl:l.length≤4611686018427387)(hK:∀ x ∈ l,∀ hp,K Xc [.agg [.bool code],.agg (Zt x)] hp=some (.int .i64 (Hl code x),hp,none)):∀ (r q:List ZH) (m:Nat) (hp:HP),l=q ++ r→r.length < m→hp0.length≤hp.length→hp[g]? = some (.cells [.bool code] tg) →
  WZ C.G K C.L hp0 (XX C.G K C.L hp0) m (.ptr g 0) (.lst 4 (l.map Zt)) (.int .i64 (l.length:Int)) (.int .i64 (q.length:Int)) hp none=some (.int .i64 (NV (Hl code) r),hp0,none)
 | _,_,0,_,_,h,_,_=>by omega
 | [],q,m + 1,hp,h,_,hh,hg=>by
  have l0:=lp0 h
  simp only [WZ,XX,EV,l0,NV,IFJ]
 | x :: r,q,m + 1,hp,h,hm,hh,hg=>by
  obtain ⟨a1,a2,a3,a4,a5⟩:=lp Zt h hl
  have ih:=TV K code g tg l hl hK r (q ++ [x]) m (hp ++ [.cells (Zt x) Zv]) a4 (by simpa using hm) (by simp; omega) (SC hg _)
  have hc:=hK x a5
  have st:=st_all hp0.length 4 hp [(.int .i64 0),(.str []),(.int .i64 0),(.own 4 [])] (Zt x) Zv none (X5 x) rfl hh
  simp only [WZ,EV,LD,LG hg,ONE,VT,a1,a2,a3,Jn,st,hc,ih,IFJ,NV]
theorem FZ (K:KT)(e:ZH)(he:Y2 e)(g:Nat)(tg:TypeId)(hp:HP)(hg:hp[g]? = some (.cells (Zt e) tg))(hK:∀ x ∈ e.Kids,∀ hp,K IW [.agg (Zt x)] hp=some (.int .i64 (ZlF x),hp,none)):∀ (r q:List ZH) (m:Nat) (n:Int),e.Kids=q ++ r→r.length < m →
  JY C.G K C.L hp0 (IE C.G K C.L hp0) m (.ptr g 0) (.int .i64 n) (.int .i64 n) (.int .i64 (q.length:Int)) hp none=some (.int .i64 (sumW ZlF r n),hp0,none)
 | _,_,0,_,_,h=>by omega
 | [],q,m + 1,n,h,_=>by
  have l0:=lp0 h
  simp only [JY,IE,EV,LD,LG hg,VT,l0,sumW,IFJ]
 | x :: r,q,m + 1,n,h,hm=>by
  obtain ⟨a1,a2,a3,a4,a5⟩:=lp Zt h he.k
  have ih:=FZ K e he g tg hp hg hK r (q ++ [x]) m (IntKind.i64.wrap (n + ZlF x)) a4 (by simpa using hm)
  have hc:=hK x a5
  simp only [JY,EV,LD,LG hg,VT,a1,a2,a3,Jn,hc,ih,IFJ,sumW]
theorem FY (K:KT)(e:ZH)(he:Y2 e)(g:Nat)(tg:TypeId)(hp:HP)(hg:hp[g]? = some (.cells (Zt e) tg))(hK:∀ x ∈ e.Kids,∀ hp,K IV [.agg (Zt x)] hp=some (.int .i64 (Zjc x),hp,none)):∀ (r q:List ZH) (m:Nat) (n:Int),e.Kids=q ++ r→r.length < m →
  JX C.G K C.L hp0 (IC C.G K C.L hp0) m (.ptr g 0) (.int .i64 n) (.int .i64 (q.length:Int)) hp none=some (.int .i64 (IntKind.i64.wrap (ZuL Zjc r n + 1)),hp0,none)
 | _,_,0,_,_,h=>by omega
 | [],q,m + 1,n,h,_=>by
  have l0:=lp0 h
  simp only [JX,IC,EV,LD,LG hg,VT,l0,ZuL,IFJ]
 | x :: r,q,m + 1,n,h,hm=>by
  obtain ⟨a1,a2,a3,a4,a5⟩:=lp Zt h he.k
  have ih:=FY K e he g tg hp hg hK r (q ++ [x]) m (if Zjc x > n then Zjc x else n) a4 (by simpa using hm)
  have hc:=hK x a5
  simp only [JX,EV,LD,LG hg,VT,a1,a2,a3,Jn,hc,max2,ih,IFJ,ZuL]
theorem NT (K:KT)(a b:List ZH)(ha:a.length≤4611686018427387)(hb:b.length≤4611686018427387)(hp:HP)(hK:∀ x ∈ a,∀ y ∈ b,∀ hp,K Hw [.agg (Zt x),.agg (Zt y)] hp=some (.bool (PE x y),hp,none)):∀ (r q s p:List ZH) (m:Nat),a=q ++ r→b=p ++ s→q.length=p.length→r.length=s.length→r.length < m →
  V8 C.G K C.L hp0 (Ku C.G K C.L hp0) m (.lst 4 (a.map Zt)) (.lst 4 (b.map Zt)) (.int .i64 (q.length:Int)) hp none=some (.bool (all2 PE r s),hp0,none)
 | _,_,_,_,0,_,_,_,_,h=>by omega
 | [],q,s,p,m + 1,h,_,_,_,_=>by
  have l0:=lp0 h
  simp only [V8,Ku,EV,LD,l0,all2,IFJ]
 | x :: r,q,[],p,m + 1,h,_,_,hs,_=>by simp at hs
 | x :: r,q,y :: s,p,m + 1,h,h2,hq,hs,hm=>by
  obtain ⟨a1,a2,a3,a4,a5⟩:=lp Zt h ha
  obtain ⟨_,b2,_,b4,b5⟩:=lp Zt h2 hb
  rw [← hq] at b2
  have ih:=NT K a b ha hb hp hK r (q ++ [x]) s (p ++ [y]) m a4 b4 (by simp [hq]) (by simpa using hs) (by simpa using hm)
  have hc:=hK x a5 y b5
  simp only [V8,EV,LD,VT,a1,a2,b2,a3,Jn,QC,hc,ih,IFJ,all2]
end
theorem FV {C:Cfg}(hC:OB C):∀ (k N:Nat) (hN:k + 1≤N) (e:ZH),SizeOf.sizeOf e≤k→Y2 e→∀ hp:HP,Zb C N Gw [.agg (Zt e)] hp=some (.int .i64 (ZlF e),hp,none)
 | 0,_,_,e,he,_,_=>absurd he (by have:=ZdR e; omega)
 | k + 1,N,hN,e,he,ok,hp=>by
  obtain ⟨m,rfl⟩:∃ m,N=m + 1:=⟨N - 1,by omega⟩
  have hK:∀ x ∈ e.Kids,∀ hp,Zb C m Gw [.agg (Zt x)] hp=some (.int .i64 (ZlF x),hp,none):=fun x hx hp=>FV hC k m (by omega) x (by have:=ZbZ hx; omega) (ok.Kids.2 x hx) hp
  refine Zjh (by rw [hC.T]; rfl) ?_
  have hL:e.Kids.length < C.L:=by have:=hC.L; have:=ok.k; omega
  have h:=EN (C := C) hp (Zb C m) e.Kids ok.k hK e.Kids [] C.L (hp ++ [.cells (Zt e) Zv]) 1 rfl hL (by simp)
  simp only [List.length_nil,Int.natCast_zero] at h
  simp only [EH,EV,LD,BL,IFJ,VT,ok,ok.k,ok.n,h]
  rw [Zsn]
theorem ZmA {C:Cfg}(hC:OB C)(N:Nat)(hp:HP)(e:ZH)(hN:SizeOf.sizeOf e + 1≤N)(ok:Y2 e):Zb C N Gw [.agg (Zt e)] hp=some (.int .i64 (ZlF e),hp,none):=FV hC _ N hN e (Nat.le_refl _) ok hp
theorem FU {C:Cfg}(hC:OB C):∀ (k N:Nat) (hN:k + 1≤N) (e:ZH),SizeOf.sizeOf e≤k→Y2 e→∀ hp:HP,Zb C N Gv [.agg (Zt e)] hp=some (.int .i64 (Zjc e),hp,none)
 | 0,_,_,e,he,_,_=>absurd he (by have:=ZdR e; omega)
 | k + 1,N,hN,e,he,ok,hp=>by
  obtain ⟨m,rfl⟩:∃ m,N=m + 1:=⟨N - 1,by omega⟩
  have hK:∀ x ∈ e.Kids,∀ hp,Zb C m Gv [.agg (Zt x)] hp=some (.int .i64 (Zjc x),hp,none):=fun x hx hp=>FU hC k m (by omega) x (by have:=ZbZ hx; omega) (ok.Kids.2 x hx) hp
  refine Zjg (by rw [hC.T]; rfl) ?_
  have hL:e.Kids.length < C.L:=by have:=hC.L; have:=ok.k; omega
  have h:=EM (C := C) hp (Zb C m) e.Kids ok.k hK e.Kids [] C.L (hp ++ [.cells (Zt e) Zv]) 0 rfl hL (by simp)
  simp only [List.length_nil,Int.natCast_zero] at h
  simp only [EG,EV,LD,BL,IFJ,VT,ok,ok.k,ok.n,h]
  rw [Zsp]
theorem Zm9 {C:Cfg}(hC:OB C)(N:Nat)(hp:HP)(e:ZH)(hN:SizeOf.sizeOf e + 1≤N)(ok:Y2 e):Zb C N Gv [.agg (Zt e)] hp=some (.int .i64 (Zjc e),hp,none):=FU hC _ N hN e (Nat.le_refl _) ok hp
theorem ZbR {C:Cfg}(hC:OB C):∀ (k N:Nat) (hN:k + 1≤N) (e:ZH),SizeOf.sizeOf e≤k→Y2 e→∀ hp:HP,Zb C N IW [.agg (Zt e)] hp=some (.int .i64 (ZlF e),hp,none)
 | 0,_,_,e,he,_,_=>absurd he (by have:=ZdR e; omega)
 | k + 1,N,hN,e,he,ok,hp=>by
  obtain ⟨m,rfl⟩:∃ m,N=m + 1:=⟨N - 1,by omega⟩
  have hK:∀ x ∈ e.Kids,∀ hp,Zb C m IW [.agg (Zt x)] hp=some (.int .i64 (ZlF x),hp,none):=fun x hx hp=>ZbR hC k m (by omega) x (by have:=ZbZ hx; omega) (ok.Kids.2 x hx) hp
  refine Zlt (by rw [hC.T]; rfl) ?_
  have hL:e.Kids.length < C.L:=by have:=hC.L; have:=ok.k; omega
  have h:=FZ (C := C) hp (Zb C m) e ok hp.length Zv (hp ++ [.cells (Zt e) Zv]) (JI _ _) hK e.Kids [] C.L 1 rfl hL
  simp only [List.length_nil,Int.natCast_zero] at h
  simp only [ZaB,EV,LD,BL,IFJ,VT,ok,ok.k,ok.n,h]
  rw [Zsn]
theorem Zo3 {C:Cfg}(hC:OB C)(N:Nat)(hp:HP)(e:ZH)(hN:SizeOf.sizeOf e + 1≤N)(ok:Y2 e):Zb C N IW [.agg (Zt e)] hp=some (.int .i64 (ZlF e),hp,none):=ZbR hC _ N hN e (Nat.le_refl _) ok hp
theorem ZbQ {C:Cfg}(hC:OB C):∀ (k N:Nat) (hN:k + 1≤N) (e:ZH),SizeOf.sizeOf e≤k→Y2 e→∀ hp:HP,Zb C N IV [.agg (Zt e)] hp=some (.int .i64 (Zjc e),hp,none)
 | 0,_,_,e,he,_,_=>absurd he (by have:=ZdR e; omega)
 | k + 1,N,hN,e,he,ok,hp=>by
  obtain ⟨m,rfl⟩:∃ m,N=m + 1:=⟨N - 1,by omega⟩
  have hK:∀ x ∈ e.Kids,∀ hp,Zb C m IV [.agg (Zt x)] hp=some (.int .i64 (Zjc x),hp,none):=fun x hx hp=>ZbQ hC k m (by omega) x (by have:=ZbZ hx; omega) (ok.Kids.2 x hx) hp
  refine Zls (by rw [hC.T]; rfl) ?_
  have hL:e.Kids.length < C.L:=by have:=hC.L; have:=ok.k; omega
  have h:=FY (C := C) hp (Zb C m) e ok hp.length Zv (hp ++ [.cells (Zt e) Zv]) (JI _ _) hK e.Kids [] C.L 0 rfl hL
  simp only [List.length_nil,Int.natCast_zero] at h
  simp only [ZaA,EV,LD,BL,IFJ,VT,ok,ok.k,ok.n,h]
  rw [Zsp]
theorem Zo2 {C:Cfg}(hC:OB C)(N:Nat)(hp:HP)(e:ZH)(hN:SizeOf.sizeOf e + 1≤N)(ok:Y2 e):Zb C N IV [.agg (Zt e)] hp=some (.int .i64 (Zjc e),hp,none):=ZbQ hC _ N hN e (Nat.le_refl _) ok hp
theorem Lu {C:Cfg}(hC:OB C)(code:Bool):∀ (k N:Nat) (hN:k + 4≤N) (e:ZH),SizeOf.sizeOf e≤k→Y2 e→∀ hp:HP,Zb C N Xc [.agg [.bool code],.agg (Zt e)] hp=some (.int .i64 (Hl code e),hp,none)
 | 0,_,_,e,he,_,_=>absurd he (by have:=ZdR e; omega)
 | k + 1,N,hN,e,he,ok,hp=>by
  obtain ⟨m,rfl⟩:∃ m,N=m + 1:=⟨N - 1,by omega⟩
  have hK:∀ x ∈ e.Kids,∀ hp,Zb C m Xc [.agg [.bool code],.agg (Zt x)] hp=some (.int .i64 (Hl code x),hp,none):=fun x hx hp=>Lu hC code k m (by omega) x (by have:=ZbZ hx; omega) (ok.Kids.2 x hx) hp
  have q0:=ZbM hC m (by omega)
  refine Ea (by rw [hC.T]; rfl) ?_
  have hL:e.Kids.length < C.L:=by have:=hC.L; have:=ok.k; omega
  have h:=TV (C := C) hp (Zb C m) code hp.length UC e.Kids ok.k hK e.Kids [] C.L (hp ++ [.cells [.bool code] UC] ++ [.cells (Zt e) Zv]) rfl hL (by simp) (SC (JI _ _) _)
  simp only [List.length_nil,Int.natCast_zero] at h
  simp only [Ob,EV,LD,BL,IFJ,VT,ok,ok.k,ok.n,ONE,GI,q0,h]
  rw [Zho]
theorem ZaM {C:Cfg}(hC:OB C)(code:Bool)(N:Nat)(hp:HP)(e:ZH)(hN:SizeOf.sizeOf e + 4≤N)(ok:Y2 e):Zb C N Xc [.agg [.bool code],.agg (Zt e)] hp=some (.int .i64 (Hl code e),hp,none):=Lu hC code _ N hN e (Nat.le_refl _) ok hp
theorem Zje {C:Cfg}(hC:OB C)(m:Nat)(a b:List ZH)(ha:a.length≤4611686018427387)(hb:b.length≤4611686018427387)(hp:HP)(hK:∀ x ∈ a,∀ y ∈ b,∀ hp,Zb C m Hw [.agg (Zt x),.agg (Zt y)] hp=some (.bool (PE x y),hp,none)):Zb C (m + 1) PM [.lst 4 (a.map Zt),.lst 4 (b.map Zt)] hp=some (.bool (if decide ((a.length:Int)≠(b.length:Int))=true then false else all2 PE a b),hp,none):=by
 refine Zh3 (by rw [hC.T]; rfl) ?_
 by_cases hlen:a.length=b.length
 ·have h:=NT (C := C) hp (Zb C m) a b ha hb hp hK a [] b [] C.L rfl rfl rfl hlen (by have:=hC.L; omega)
  simp only [List.length_nil,Int.natCast_zero] at h
  simp only [Rt,EV,LD,BL,IFJ,h]
 ·have h2:decide ((a.length:Int)≠(b.length:Int))=true:=by simp only [decide_eq_true_eq]; omega
  simp only [Rt,EV,LD,BL,IFJ,h2]
theorem ZdH {C:Cfg}(hC:OB C):∀ (k N:Nat) (hN:2 * k + 1≤N) (e b:ZH),SizeOf.sizeOf e≤k→Y2 e→Y2 b→∀ hp:HP,Zb C N Hw [.agg (Zt e),.agg (Zt b)] hp=some (.bool (PE e b),hp,none)
 | 0,_,_,e,_,he,_,_,_=>absurd he (by have:=ZdR e; omega)
 | k + 1,N,hN,e,b,he,ok,okb,hp=>by
  obtain ⟨m,rfl⟩:∃ m,N=m + 2:=⟨N - 2,by omega⟩
  have hK:∀ x ∈ e.Kids,∀ y ∈ b.Kids,∀ hp,Zb C m Hw [.agg (Zt x),.agg (Zt y)] hp=some (.bool (PE x y),hp,none):=fun x hx y hy hp=>ZdH hC k m (by omega) x y (by have:=ZbZ hx; omega) (ok.Kids.2 x hx) (okb.Kids.2 y hy) hp
  have h:=fun hp=>Zje hC m e.Kids b.Kids ok.k okb.k hp hK
  refine Znm (by rw [hC.T]; rfl) ?_
  rw [ZqD]
  unfold Zu8
  simp only [ZjD,EV,LD,BL,IFJ,VT,h]
  cases (decide (e.Op≠b.Op) || decide (e.Name≠b.Name) || decide (e.N≠b.N)) <;> simp only [BL,IFJ]
theorem ZjH {C:Cfg}(hC:OB C)(N:Nat)(hp:HP)(e b:ZH)(hN:2 * SizeOf.sizeOf e + 1≤N)(ok:Y2 e)(okb:Y2 b):Zb C N Hw [.agg (Zt e),.agg (Zt b)] hp=some (.bool (PE e b),hp,none):=ZdH hC _ N hN e b (Nat.le_refl _) ok okb hp
def Zf9 (op:Int):Int :=
 if (decide (op < 1) || decide (26 < op))=true then -1 else if (decide (5≤op) && decide (op≤8))=true then 1 else if (decide (9≤op) && decide (op≤21))=true then 2 else 0
def ZuN (op:Int):Int:=if decide (op=25)=true then 15 else if decide (op=26)=true then 31 else 63
def Zrk (code:Bool)(e:ZH):Int :=
 if (!(decide (0≤Zf9 e.Op) && ((code && decide (e.Op≠3)) || (!code && decide (e.Op≤24)))) || (!(!code && (decide (e.Op=3) || ZrL e.Op)) && decide (e.Name≠[])) || (!(decide (e.Op=1) || decide (e.Op=2) || (code && (ZrL e.Op || decide (e.Op=25) || decide (e.Op=26)))) && decide (e.N≠0)) || decide ((e.Kids.length:Int)≠Zf9 e.Op))=true then 1
 else if ((decide (e.Op=1) && !(inB e.N)) || ((decide (e.Op=2) && decide (e.N≠0)) && decide (e.N≠1)) || ((code && (ZrL e.Op || decide (e.Op=25) || decide (e.Op=26))) && (decide (e.N < 0) || decide (ZuN e.Op < e.N))))=true then 2
 else if ((!code && (decide (e.Op=3) || ZrL e.Op)) && decide (LW e.Name≠0))=true then LW e.Name else 0
theorem Z0N (op:Int):1≤op∧op≤26→op=1∨op=2∨op=3∨op=4∨op=5∨op=6∨op=7∨op=8∨op=9∨op=10∨op=11∨op=12∨op=13∨op=14∨op=15∨op=16∨op=17∨op=18∨op=19∨op=20∨op=21∨op=22∨op=23∨op=24∨op=25∨op=26:=by omega
theorem Zu7 (code:Bool)(e:ZH):Zrk code e=ZeP code e:=by
 obtain ⟨op,nm,n,ks⟩:=e
 by_cases h:1≤op∧op≤26
 ·rcases Z0N op h with rfl | rfl | rfl | rfl | rfl | rfl | rfl | rfl | rfl | rfl | rfl | rfl | rfl | rfl | rfl | rfl | rfl | rfl | rfl | rfl | rfl | rfl | rfl | rfl | rfl | rfl <;> cases code <;> simp [Zrk,ZeP,Zf9,ZuN,ZrL,ZoH,ZjO,ZmV,ZtY] <;> grind
 ·have h1:Zf9 op=-1:=by simp only [Zf9]; rw [if_pos]; simp; omega
  have h2:ZoH op=-1:=by
   simp only [ZoH]
   rw [if_neg (by simp; omega),if_neg (by simp; omega),if_neg (by simp; omega),if_neg (by simp; omega)]
  have h3:ZjO code op=false:=by
   simp only [ZjO,h2]
   rw [if_neg (by simp; omega),if_neg (by simp; omega),if_neg (by simp; omega)]; rfl
  simp [Zrk,ZeP,h1,h2,h3]
theorem ZsR (code:Bool)(e:ZH):(if decide (Zrk code e≠0)=true then Zrk code e else NV (Hl code) e.Kids)=Hl code e:=by rw [Zu7,← Zho]
theorem ZmC {C:Cfg}(hC:OB C)(N:Nat)(hN:1≤N)(hp:HP)(op:Int):Zb C N BZ [.int .i64 op] hp=some (.bool (ZrL op),hp,none):=by
 obtain ⟨m,rfl⟩:∃ m,N=m + 1:=⟨N - 1,by omega⟩
 refine Zjp (by rw [hC.T]; rfl) ?_
 generalize Zb C m=K at *
 simp only [ZdF,EV,LD,BL,IFJ,reduceAdd,reduceLeDiff,Nat.reduceBEq,GI,ZrL]
theorem Zo1 {C:Cfg}(hC:OB C)(N:Nat)(hN:1≤N)(hp:HP)(op:Int):Zb C N CU [.int .i64 op] hp=some (.int .i64 (Zf9 op),hp,none):=by
 obtain ⟨m,rfl⟩:∃ m,N=m + 1:=⟨N - 1,by omega⟩
 refine Zlr (by rw [hC.T]; rfl) ?_
 generalize Zb C m=K at *
 simp only [ZgH,EV,LD,BL,IFJ,reduceAdd,reduceLeDiff,Nat.reduceBEq,GI,Zf9]
theorem Zrd {C:Cfg}(hC:OB C)(N:Nat)(hN:1≤N)(hp:HP)(op:Int):Zb C N Zcq [.int .i64 op] hp=some (.int .i64 (ZuN op),hp,none):=by
 obtain ⟨m,rfl⟩:∃ m,N=m + 1:=⟨N - 1,by omega⟩
 refine Znn (by rw [hC.T]; rfl) ?_
 generalize Zb C m=K at *
 simp only [ZjE,EV,LD,BL,IFJ,reduceAdd,reduceLeDiff,Nat.reduceBEq,GI,ZuN]
theorem ZbS {C:Cfg}(K:KT)(hp0:HP)(code:Bool)(e:ZH)(he:Y2 e)(g:Nat)(tg:TypeId)(hp:HP)(hg:hp[g]? = some (.cells (Zt e) tg))(hK:∀ x ∈ e.Kids,∀ hp,K TZ [.agg (Zt x),.bool code] hp=some (.int .i64 (Hl code x),hp,none)):∀ (r q:List ZH) (m:Nat),e.Kids=q ++ r→r.length < m →
  UK C.G K C.L hp0 (Tu C.G K C.L hp0) m (.bool code) (.ptr g 0) (.int .i64 (q.length:Int)) hp none=some (.int .i64 (NV (Hl code) r),hp0,none)
 | _,_,0,_,h=>by omega
 | [],q,m + 1,h,_=>by
  have l0:=lp0 h
  simp only [UK,Tu,EV,LD,LG hg,VT,l0,NV,IFJ]
 | x :: r,q,m + 1,h,hm=>by
  obtain ⟨a1,a2,a3,a4,a5⟩:=lp Zt h he.k
  have ih:=ZbS (C := C) K hp0 code e he g tg hp hg hK r (q ++ [x]) m a4 (by simpa using hm)
  have hc:=hK x a5
  simp only [UK,EV,LD,LG hg,VT,a1,a2,a3,Jn,hc,ih,IFJ,NV]
theorem ZdI {C:Cfg}(hC:OB C)(code:Bool):∀ (k N:Nat) (hN:k + 4≤N) (e:ZH),SizeOf.sizeOf e≤k→Y2 e→∀ hp:HP,Zb C N TZ [.agg (Zt e),.bool code] hp=some (.int .i64 (Hl code e),hp,none)
 | 0,_,_,e,he,_,_=>absurd he (by have:=ZdR e; omega)
 | k + 1,N,hN,e,he,ok,hp=>by
  obtain ⟨m,rfl⟩:∃ m,N=m + 1:=⟨N - 1,by omega⟩
  have hK:∀ x ∈ e.Kids,∀ hp,Zb C m TZ [.agg (Zt x),.bool code] hp=some (.int .i64 (Hl code x),hp,none):=fun x hx hp=>ZdI hC code k m (by omega) x (by have:=ZbZ hx; omega) (ok.Kids.2 x hx) hp
  have q0:=Zo1 hC m (by omega)
  have q1:=ZmC hC m (by omega)
  have q2:=Zrd hC m (by omega)
  have q3:=Zuu hC m (by omega)
  have q4:=ZgS hC m (by omega)
  refine Zno (by rw [hC.T]; rfl) ?_
  have hL:e.Kids.length < C.L:=by have:=hC.L; have:=ok.k; omega
  have h:=ZbS (C := C) (Zb C m) hp code e ok hp.length Zv (hp ++ [.cells (Zt e) Zv]) (JI _ _) hK e.Kids [] C.L rfl hL
  simp only [List.length_nil,Int.natCast_zero] at h
  simp only [Zdg,EV,LD,BL,IFJ,VT,ok,ok.k,ok.n,QC,q0,q1,q2,q3,q4,h]
  rw [← ZsR]
  simp only [Zrk]
  grind
theorem Zre {C:Cfg}(hC:OB C)(code:Bool)(N:Nat)(hp:HP)(e:ZH)(hN:SizeOf.sizeOf e + 4≤N)(ok:Y2 e):Zb C N TZ [.agg (Zt e),.bool code] hp=some (.int .i64 (Hl code e),hp,none):=ZdI hC code _ N hN e (Nat.le_refl _) ok hp
def Jj (code:Bool)(e:ZH):Int:=if decide (60 < ZlF e)=true then 6 else if decide (12 < Zjc e)=true then 11 else Hl code e
theorem ZaJ {C:Cfg}(hC:OB C)(N:Nat)(hp:HP)(code:Bool)(e:ZH)(hN:SizeOf.sizeOf e + 5≤N)(ok:Y2 e):Zb C N IR [.agg [.bool code],.agg (Zt e)] hp=some (.int .i64 (Jj code e),hp,none):=by
 obtain ⟨m,rfl⟩:∃ m,N=m + 1:=⟨N - 1,by omega⟩
 have q0:=fun hp=>ZmA hC m hp e (by omega) ok
 have q1:=fun hp=>Zm9 hC m hp e (by omega) ok
 have q2:=fun hp=>ZaM hC code m hp e (by omega) ok
 refine SV (by rw [hC.T]; rfl) ?_
 simp only [RZ,EV,LD,BL,IFJ,VT,ok,Jj,ONE,q0,q1,q2]
theorem Zo4 {C:Cfg}(hC:OB C)(N:Nat)(hp:HP)(code:Bool)(e:ZH)(hN:SizeOf.sizeOf e + 5≤N)(ok:Y2 e):Zb C N CV [.agg (Zt e),.bool code] hp=some (.int .i64 (Jj code e),hp,none):=by
 obtain ⟨m,rfl⟩:∃ m,N=m + 1:=⟨N - 1,by omega⟩
 have q0:=fun hp=>Zo3 hC m hp e (by omega) ok
 have q1:=fun hp=>Zo2 hC m hp e (by omega) ok
 have q2:=fun hp=>Zre hC code m hp e (by omega) ok
 refine Zlu (by rw [hC.T]; rfl) ?_
 simp only [ZgI,EV,LD,BL,IFJ,VT,ok,Jj,q0,q1,q2]
end Go.Proofs.YtleomfgijkapfaaGreatDoor
end
section
namespace Go.Proofs.YtleomfgijkapfaaGreatDoor
open Go Go.RowKit Go.Proofs.YtleomfgijkapfaaGreatDoor.Abs
open Nat (reduceAdd reduceLeDiff)
set_option maxRecDepth 100000
theorem ZxR:(∀ d,(XZ d).length=21)∧(∀ d,(XZ d).map AV.ro=XZ d)∧(∀ x,((XZ x).drop 3).take 4=Zt x.E)∧(∀ x,((XZ x).drop 7).take 4=Zt x.F)∧(∀ x,((XZ x).drop 12).take 6=Jv x.Dist)∧(∀ x,(XZ x)[0]? = some (.int .i64 x.Op))∧(∀ x,(XZ x)[1]? = some (.str x.Name))∧(∀ x,(XZ x)[2]? = some (.str x.Of))∧(∀ x,(XZ x)[11]? = some (.lst 4 (x.Args.map Zt)))∧(∀ x,(XZ x)[18]? = some (.bool x.Flag))∧(∀ x,(XZ x)[19]? = some (.lst 21 (x.Body.map XZ)))∧(∀ x,(XZ x)[20]? = some (.lst 21 (x.Else.map XZ))):=⟨ZtB,Zv3,Zr9,ZrA,Zl4,ZxO,ZxP,ZxQ,Zvz,Zv0,Zv1,Zv2⟩
def Zju (e:ZH):Bool:=decide (e.Op=0) && decide (e.Name=[]) && decide (e.N=0) && decide ((e.Kids.length:Int)=0)
def ZhT (d:Gg):Bool:=decide (d.Op=0) && decide (d.A=0) && decide (d.B=0) && decide (d.N=0) && decide (d.Values=[]) && decide (d.Weights=[])
theorem zx1:([.int .i64 0,.str [],.int .i64 0,.own 4 []]:List AV).length=4∧([.int .i64 0,.str [],.int .i64 0,.own 4 []]:List AV).map AV.ro=[.int .i64 0,.str [],.int .i64 0,.lst 4 []]:=⟨rfl,rfl⟩
theorem zd1:([.int .i64 0,.int .i64 0,.int .i64 0,.int .i64 0,.own 1 [],.own 1 []]:List AV).length=6:=rfl
theorem GI2:(∀ (α:Type) (a b c d e:α) (l:List α),(a :: b :: c :: d :: e :: l)[4]? = some e)∧(∀ (α:Type) (a b c d e f:α) (l:List α),(a :: b :: c :: d :: e :: f :: l)[5]? = some f):=⟨fun _ _ _ _ _ _ _=>rfl,fun _ _ _ _ _ _ _ _=>rfl⟩
theorem ZeM {C:Cfg}(hC:OB C)(N:Nat)(hN:1≤N)(hp:HP)(e:ZH)(ok:Y2 e):Zb C N PK [.agg (Zt e),.agg [.int .i64 0,.str [],.int .i64 0,.own 4 []]] hp=some (.bool (Zju e),hp,none):=by
 obtain ⟨m,rfl⟩:∃ m,N=m + 1:=⟨N - 1,by omega⟩
 refine ZkO (by rw [hC.T]; rfl) ?_
 have n0:(([]:List (List AV)).length:Int)=0:=rfl
 obtain ⟨L,hL⟩:∃ L,C.L=L + 1:=⟨C.L - 1,by have:=hC.L; omega⟩
 by_cases hlen:e.Kids.length=0
 ·have h0:(e.Kids.length:Int)=0:=by omega
  have l0:decide ((0:Int) < 0)=false:=by decide
  simp only [Nu,EV,LD,BL,IFJ,VT,zx1,GI,n0,h0,hL,I9,MO,l0,Zju,ne_eq,not_true_eq_false,decide_false,decide_true]
  by_cases h1:e.Op=0 <;> by_cases h2:e.Name=[] <;> by_cases h3:e.N=0 <;> simp [h1,h2,h3]
 ·have h0:¬ (e.Kids.length:Int)=0:=by omega
  simp only [Nu,EV,LD,BL,IFJ,VT,zx1,GI,n0,h0,Zju,ne_eq,not_false_eq_true,decide_true,decide_false]
theorem ZeL {C:Cfg}(hC:OB C)(N:Nat)(hN:2≤N)(hp:HP)(d:Gg)(hd:OI d):Zb C N CJ [.agg (Jv d),.agg [.int .i64 0,.int .i64 0,.int .i64 0,.int .i64 0,.own 1 [],.own 1 []]] hp=some (.bool (ZhT d),hp,none):=by
 obtain ⟨m,rfl⟩:∃ m,N=m + 1:=⟨N - 1,by omega⟩
 have q1:∀ hp,Zb C m Qh [.lst 1 (ints d.Values),.lst 1 []] hp=some (.bool (decide (d.Values=[])),hp,none):=fun hp=>Ot hC m (by omega) hp d.Values [] hd.v (by simp)
 have q2:∀ hp,Zb C m Qh [.lst 1 (ints d.Weights),.lst 1 []] hp=some (.bool (decide (d.Weights=[])),hp,none):=fun hp=>Ot hC m (by omega) hp d.Weights [] hd.w (by simp)
 refine ZkI (by rw [hC.T]; rfl) ?_
 simp only [ZgB,EV,LD,BL,IFJ,DV,zd1,GI,GI2,q1,q2,ZhT]
theorem ZgR {C:Cfg}(hC:OB C)(N:Nat)(hN:2≤N)(hp:HP)(d:Gg)(hd:OI d):Zb C N Zco [.agg (Jv d),.agg [.int .i64 0,.int .i64 0,.int .i64 0,.int .i64 0,.own 1 [],.own 1 []]] hp=some (.bool (ZhT d),hp,none):=by
 obtain ⟨m,rfl⟩:∃ m,N=m + 1:=⟨N - 1,by omega⟩
 have q1:∀ hp,Zb C m KC [.lst 1 (ints d.Values),.lst 1 []] hp=some (.bool (decide (d.Values=[])),hp,none):=fun hp=>FW hC m (by omega) hp d.Values [] hd.v (by simp)
 have q2:∀ hp,Zb C m KC [.lst 1 (ints d.Weights),.lst 1 []] hp=some (.bool (decide (d.Weights=[])),hp,none):=fun hp=>FW hC m (by omega) hp d.Weights [] hd.w (by simp)
 refine Znk (by rw [hC.T]; rfl) ?_
 simp only [ZjC,EV,LD,BL,IFJ,DV,zd1,GI,GI2,q1,q2,ZhT]
end Go.Proofs.YtleomfgijkapfaaGreatDoor
end
section
namespace Go.Proofs.YtleomfgijkapfaaGreatDoor
open Go Go.RowKit Go.Proofs.YtleomfgijkapfaaGreatDoor.Abs
open Nat (reduceAdd reduceLeDiff)
set_option maxRecDepth 100000
theorem XA.a {s:VH}(h:XA s):s.Args.length≤4611686018427387:=by have:=h.Args.1; omega
theorem Z0O (s:VH):SizeOf.sizeOf s.E < SizeOf.sizeOf s∧SizeOf.sizeOf s.F < SizeOf.sizeOf s∧SizeOf.sizeOf s.Args < SizeOf.sizeOf s∧SizeOf.sizeOf s.Body < SizeOf.sizeOf s∧SizeOf.sizeOf s.Else < SizeOf.sizeOf s:=by
 cases s; simp; omega
theorem Zyj (lo hi a:Int):Ud lo hi [a]=btw a lo hi:=by
 simp only [Ud,List.any_cons,List.any_nil,Zx8,btw,Bool.or_false,Bool.not_or,← decide_not,Int.not_lt]
theorem Zyk (lo hi a b:Int):Ud lo hi [a,b]=(btw a lo hi && btw b lo hi):=by
 simp only [Ud,List.any_cons,List.any_nil,Zx8,btw,Bool.or_false,Bool.not_or,← decide_not,Int.not_lt]
theorem Zyl (lo hi a:Int)(l:List Int):Ud lo hi (a :: l)=(btw a lo hi && Ud lo hi l):=by
 simp only [Ud,List.any_cons,Zx8,btw,Bool.not_or,← decide_not,Int.not_lt]
theorem ZwI:∀ (l m:List Int),l.length=m.length→ZwH l m=if (!(Ud 0 1000000000 l && Ud 1 1000 m))=true then 2 else 0
 | [],[],_=>by simp [ZwH,Ud]
 | [],y :: m,h=>by simp at h
 | x :: l,[],h=>by simp at h
 | x :: l,y :: m,h=>by
  have ih:=ZwI l m (by simpa using h)
  simp only [ZwH,Zyl,ih]
  generalize Ud 0 1000000000 l=c1
  generalize Ud 1 1000 m=c2
  cases btw x 0 1000000000 <;> cases btw y 1 1000 <;> cases c1 <;> cases c2 <;> rfl
theorem Z0m (a b:Nat):decide ((a:Int) + (b:Int)=0)=(decide ((a:Int)=0) && decide ((b:Int)=0)):=by
 rw [← Bool.decide_and]; congr 1; apply propext; omega
theorem ZtV (d:Gg):ZhQ d=Zbe d:=by
 simp only [ZhQ,Zbe,Z0m]
 by_cases h1:d.Op=1
 ·simp [h1]; ac_rfl
 by_cases h2:d.Op=2
 ·simp [h2,Bool.and_comm]
 by_cases h5:d.Op=5
 ·simp [h5,Bool.and_comm]
 by_cases h3:d.Op=3
 ·simp [h3]
 by_cases h4:d.Op=4
 ·simp [h4]
 simp [h1,h2,h3,h4,h5]
theorem Zus (d:Gg):Zsr d=ZbL d:=by
 simp only [Zsr,ZbL,ZtV,Zyj,Zyk,ZnF]
 by_cases hu:Zbe d=true
 ·simp only [hu]
  by_cases h1:d.Op=1
  ·simp [h1]
  by_cases h2:d.Op=2
  ·simp only [h2,btw]; simp; grind
  by_cases h3:d.Op=3
  ·simp only [h3]
   by_cases hl:d.Values.length=d.Weights.length
   ·rw [ZwI _ _ hl]; simp
   ·have:¬ ((d.Values.length:Int)=d.Weights.length):=by omega
    simp [this]
  by_cases h4:d.Op=4
  ·simp only [h4,btw]; simp; grind
  by_cases h5:d.Op=5
  ·simp [h5]
  ·exfalso
   simp [Zbe,h1,h2,h3,h4,h5] at hu
 ·simp [hu]
end Go.Proofs.YtleomfgijkapfaaGreatDoor
end
section
namespace Go.Proofs.YtleomfgijkapfaaGreatDoor
open Go Go.RowKit Go.Proofs.YtleomfgijkapfaaGreatDoor.Abs
open Nat (reduceAdd reduceLeDiff)
set_option maxRecDepth 100000
theorem rfS:(∀ x,(XZ x).drop 19=[.lst 21 (x.Body.map XZ),.lst 21 (x.Else.map XZ)])∧(∀ x,(XZ x).drop 20=[.lst 21 (x.Else.map XZ)]):=by
 constructor <;> intro x <;> rw [KZ,Y1,Y1] <;> rfl
mutual
def ZzQ:VH→Int→Int
 | ⟨_,_,_,_,_,_,_,_,b,e⟩,n=>IntKind.i64.wrap (IntKind.i64.wrap (IntKind.i64.wrap (n + 1) + Za2 b 0) + Za2 e 0)
def Za2:List VH→Int→Int
 | [],n=>n
 | x :: r,n=>Za2 r (ZzQ x n)
end
theorem Zsm (s:VH)(n:Int):ZzQ s n=IntKind.i64.wrap (IntKind.i64.wrap (IntKind.i64.wrap (n + 1) + Za2 s.Body 0) + Za2 s.Else 0):=by cases s; rw [ZzQ]
theorem Z0P {s:VH}{l:List VH}(h:s ∈ l):SizeOf.sizeOf s < SizeOf.sizeOf l∧SizeOf.sizeOf s.Body < SizeOf.sizeOf l∧SizeOf.sizeOf s.Else < SizeOf.sizeOf l:=by
 have:=List.sizeOf_lt_of_mem h
 have:=Z0O s
 omega
def Zyw (l:List VH):Prop:=l.length≤4611686018427387∧∀ s ∈ l,XA s
theorem XA.b {s:VH}(h:XA s):Zyw s.Body∧Zyw s.Else:=by
 have h1:=h.Body; have h2:=h.Else
 exact ⟨⟨by omega,h1.2⟩,by omega,h2.2⟩
theorem Z0Q (l:List VH):0 < SizeOf.sizeOf l:=by cases l <;> simp <;> omega
section
variable {C:Cfg}(hp0:HP)(l:List VH)(hl:l.length≤4611686018427387)(K:KT)
include hl
theorem Cb (hp:HP)(hK:∀ x ∈ l,∀ hp,K Jd [.lst 21 (x.Body.map XZ)] hp=some (.int .i64 (Za2 x.Body 0),hp,none)∧K Jd [.lst 21 (x.Else.map XZ)] hp=some (.int .i64 (Za2 x.Else 0),hp,none)):∀ (r q:List VH) (m:Nat) (n:Int),l=q ++ r→r.length < m →
  JZ C.G K C.L hp0 (IG C.G K C.L hp0) m (.lst 21 (l.map XZ)) (.int .i64 n) (.int .i64 n) (.int .i64 (q.length:Int)) hp none=some (.int .i64 (Za2 r n),hp0,none)
 | _,_,0,_,_,h=>by omega
 | [],q,m + 1,n,h,_=>by
  have l0:=lp0 h
  simp only [JZ,IG,COe,reduceAdd,reduceLeDiff,Nat.reduceBEq,l0,Za2]
 | x :: r,q,m + 1,n,h,hm=>by
  obtain ⟨a1,a2,a3,a4,a5⟩:=lp XZ h hl
  have ih:=Cb hp hK r (q ++ [x]) m (ZzQ x n) a4 (by simpa using hm)
  have hc:=hK x a5 hp
  rw [Zsm] at ih
  simp only [JZ,CO,QC,ZxR,rfS,a1,a2,a3,Jn,hc,ih,Za2,Zsm]
end
theorem Nz {C:Cfg}(hC:OB C):∀ (k N:Nat) (hN:k + 1≤N) (l:List VH),SizeOf.sizeOf l≤k→Zyw l→∀ hp:HP,Zb C N Jd [.lst 21 (l.map XZ)] hp=some (.int .i64 (Za2 l 0),hp,none)
 | 0,_,_,l,he,_,_=>absurd he (by have:=Z0Q l; omega)
 | k + 1,N,hN,l,he,ok,hp=>by
  obtain ⟨m,rfl⟩:∃ m,N=m + 1:=⟨N - 1,by omega⟩
  have hK:∀ x ∈ l,∀ hp,Zb C m Jd [.lst 21 (x.Body.map XZ)] hp=some (.int .i64 (Za2 x.Body 0),hp,none)∧Zb C m Jd [.lst 21 (x.Else.map XZ)] hp=some (.int .i64 (Za2 x.Else 0),hp,none):=fun x hx hp=>by
   have:=Z0P hx
   have:=(ok.2 x hx).b
   exact ⟨Nz hC k m (by omega) x.Body (by omega) this.1 hp,Nz hC k m (by omega) x.Else (by omega) this.2 hp⟩
  have hL:l.length < C.L:=by have:=hC.L; have:=ok.1; omega
  have h:=Cb (C := C) hp l ok.1 (Zb C m) hp hK l [] C.L 0 rfl hL
  simp only [List.length_nil,Int.natCast_zero] at h
  refine Zlv (by rw [hC.T]; rfl) ?_
  simp only [ZaE,EV,LD,BL,IFJ,h]
theorem Zo5 {C:Cfg}(hC:OB C)(N:Nat)(hp:HP)(l:List VH)(hN:SizeOf.sizeOf l + 1≤N)(ok:Zyw l):Zb C N Jd [.lst 21 (l.map XZ)] hp=some (.int .i64 (Za2 l 0),hp,none):=Nz hC _ N hN l (Nat.le_refl _) ok hp
end Go.Proofs.YtleomfgijkapfaaGreatDoor
end
section
namespace Go.Proofs.YtleomfgijkapfaaGreatDoor.Abs
open Go
def Upd (g:Nat)(es:List (AV×AV))(hp hp':List Zw):Prop:=hp.length≤hp'.length∧hp'[g]? = some (.map es)∧∀ i,i < hp.length→i≠g→hp'[i]? = hp[i]?
theorem Upd.refl {g:Nat}{es:List (AV×AV)}{hp:List Zw}(h:hp[g]? = some (.map es)):Upd g es hp hp:=⟨Nat.le_refl _,h,fun _ _ _=>rfl⟩
theorem Upd.trans {g:Nat}{e1 e2:List (AV×AV)}{a b c:List Zw}(h1:Upd g e1 a b)(h2:Upd g e2 b c):Upd g e2 a c :=
 ⟨Nat.le_trans h1.1 h2.1,h2.2.1,fun i hi hn=>(h2.2.2 i (by have:=h1.1; omega) hn).trans (h1.2.2 i hi hn)⟩
theorem Upd.app {g:Nat}{es:List (AV×AV)}{a b:List Zw}(h:Upd g es a b)(x:Zw):Upd g es a (b ++ [x]) :=
 ⟨by have:=h.1; simp; omega,ZyK h.2.1 x,fun i hi hn=>by rw [List.getElem?_append_left (by have:=h.1; omega)]; exact h.2.2 i hi hn⟩
theorem Upd.off {g:Nat}{es:List (AV×AV)}{a c:List Zw}{x:Zw}(h:Upd g es (a ++ [x]) c):Upd g es a c :=
 ⟨by have:=h.1; simp at this; omega,h.2.1,fun i hi hn=>by rw [h.2.2 i (by simp; omega) hn,List.getElem?_append_left hi]⟩
theorem Upd.get {g:Nat}{es:List (AV×AV)}{a b:List Zw}(h:Upd g es a b){i:Nat}{o:Zw}(hi:a[i]? = some o)(hn:i≠g):b[i]? = some o:=by
 rw [h.2.2 i (List.getElem?_eq_some_iff.1 hi).1 hn]; exact hi
def Efs (g:Nat)(es0 es:List (AV×AV))(ef:Eff):Prop:=(ef=none∧es=es0)∨ef=some (g,0)
theorem Efs.refl (g:Nat)(es:List (AV×AV)):Efs g es es none:=.inl ⟨rfl,rfl⟩
theorem Efs.after {g bs:Nat}(hb:g < bs){a b c:List (AV×AV)}{ef ef':Eff}(h1:Efs g a b ef)(h2:Efs g b c ef'):Efs g a c (Zm bs ef ef'):=by
 rcases h1 with ⟨rfl,rfl⟩ | rfl <;> rcases h2 with ⟨rfl,rfl⟩ | rfl
 ·exact .inl ⟨rfl,rfl⟩
 ·right; simp [Zm,hb,Eff.or]
 ·right; rfl
 ·right; simp [Zm,hb,Eff.or]
theorem Efs.drop {g bs:Nat}(hb:bs≤g){b c:List (AV×AV)}{ef ef':Eff}(h:Efs g b c ef'):Zm bs ef ef'=ef:=by
 rcases h with ⟨rfl,rfl⟩ | rfl
 ·rfl
 ·simp only [Zm]; rw [if_neg (by omega)]
def Sc (g:Nat)(es0 es:List (AV×AV))(hp:List Zw)(e:Int)(r:KR):Prop:=∃ hp' ef,r=some (.int .i64 e,hp',ef)∧Upd g es hp hp'∧Efs g es0 es ef
theorem Sc.fin {g:Nat}{es0 es:List (AV×AV)}{hp0 hp:List Zw}{ef:Eff}(e:Int)(h0:hp0[g]? = some (.map es0))(hu:Upd g es hp0 hp)(he:Efs g es0 es ef):Sc g es0 es hp0 e (some (QK false hp0 (.int .i64 e) hp ef)):=by
 have hg:g < hp0.length:=(List.getElem?_eq_some_iff.1 h0).1
 rcases he with ⟨rfl,rfl⟩ | rfl
 ·exact ⟨hp0,none,rfl,Upd.refl h0,Efs.refl _ _⟩
 ·have key:QK false hp0 (.int .i64 e) hp (some (g,0))=if (hp.take hp0.length).all (Zw.under hp0.length)=true then (.int .i64 e,hp.take hp0.length,some (g,0)) else (.int .i64 e,hp,some (g,0)):=rfl
  rw [key]
  split
  ·refine ⟨_,_,rfl,⟨by have:=hu.1; simp; omega,?_,fun i hi hn=>?_⟩,.inr rfl⟩
   ·rw [List.getElem?_take_of_lt hg]; exact hu.2.1
   ·rw [List.getElem?_take_of_lt hi]; exact hu.2.2 i hi hn
  ·exact ⟨_,_,rfl,hu,.inr rfl⟩
def Z0d (l:List (List UInt8)):List (AV×AV):=l.map fun s=>(.str s,.bool true)
def Z0e (l:List (List UInt8×List UInt8)):List (AV×AV):=l.map fun s=>(.agg [.str s.1,.str s.2],.bool true)
theorem Upd.set {hp:List Zw}{g:Nat}{es es':List (AV×AV)}(hg:hp[g]? = some (.map es)):Upd g es' hp (hp.set g (.map es')) :=
 ⟨by simp,by rw [List.getElem?_set_self (List.getElem?_eq_some_iff.1 hg).1],fun i hi hn=>by rw [List.getElem?_set_ne (fun e=>hn e.symm)]⟩
end Go.Proofs.YtleomfgijkapfaaGreatDoor.Abs
end
section
namespace Go.Proofs.YtleomfgijkapfaaGreatDoor
open Go Go.RowKit Go.Proofs.YtleomfgijkapfaaGreatDoor.Abs
open Nat (reduceAdd reduceLeDiff)
set_option maxRecDepth 100000
theorem MN.s {d:Ri}(h:MN d):d.Shift.length≤4611686018427387:=by have:=h.Shift.1; omega
end Go.Proofs.YtleomfgijkapfaaGreatDoor
end
section
namespace Go.Proofs.YtleomfgijkapfaaGreatDoor
open Go Go.RowKit Go.Proofs.YtleomfgijkapfaaGreatDoor.Abs
open Nat (reduceAdd reduceLeDiff)
end Go.Proofs.YtleomfgijkapfaaGreatDoor
end
section
namespace Go.Proofs.YtleomfgijkapfaaGreatDoor
open Go Go.RowKit Go.Proofs.YtleomfgijkapfaaGreatDoor.Abs
open Nat (reduceAdd reduceLeDiff)
set_option maxRecDepth 100000
theorem Oj.st {d:YX}(h:Oj d):d.Streams.length≤4611686018427387∧d.Counts.length≤4611686018427387∧d.Stores.length≤4611686018427387∧d.Routines.length≤4611686018427387:=by
 have:=h.Streams.1; have:=h.Counts.1; have:=h.Stores.1; have:=h.Routines.1; omega
theorem Zfi.a {s:ZpN}(h:Zfi s):s.Args.length≤4611686018427387:=by have:=h.Args.1; omega
theorem Zbg.p {r:Uj}(h:Zbg r):r.Params.length≤4611686018427387∧r.Locals.length≤4611686018427387∧Zyw r.Body:=by
 have:=h.Params.1; have:=h.Locals.1; have:=h.Body
 exact ⟨by omega,by omega,by omega,this.2⟩
end Go.Proofs.YtleomfgijkapfaaGreatDoor
end
section
namespace Go.Proofs.YtleomfgijkapfaaGreatDoor
open Go Go.RowKit Go.Proofs.YtleomfgijkapfaaGreatDoor.Abs
open Nat (reduceAdd reduceLeDiff)
set_option maxRecDepth 100000
abbrev Seen:=List (List UInt8)
end Go.Proofs.YtleomfgijkapfaaGreatDoor
end
section
namespace Go.Proofs.YtleomfgijkapfaaGreatDoor
open Go Go.RowKit Go.Proofs.YtleomfgijkapfaaGreatDoor.Abs
open Nat (reduceAdd reduceLeDiff)
set_option maxRecDepth 100000
structure SI (g gs gd gp:Nat)(d:YX)(s:Seen)(hp:HP):Prop where
 m:hp[g]? = some (.map (Z0d s))
 c:hp[gs]? = some (.cells [.map g] DX)
 d:hp[gd]? = some (.cells (Yh d) Yz)
 p:hp[gp]? = some (.cells [.fn ZhW [] [.ptr gs 0]] BR)
 n1:gs≠g
 n2:gd≠g
 n3:gp≠g
theorem SI.app {g gs gd gp:Nat}{d:YX}{s:Seen}{hp:HP}(h:SI g gs gd gp d s hp)(x:Zw):SI g gs gd gp d s (hp ++ [x]):=⟨ZyK h.m x,SC h.c x,SC h.d x,SC h.p x,h.n1,h.n2,h.n3⟩
structure SL (g gs gd:Nat)(d:YX)(s:Seen)(hp:HP):Prop where
 m:hp[g]? = some (.map (Z0d s))
 c:hp[gs]? = some (.cells [.map g] DX)
 d:hp[gd]? = some (.cells (Yh d) Yz)
 n1:gs≠g
 n2:gd≠g
theorem SL.app {g gs gd:Nat}{d:YX}{s:Seen}{hp:HP}(h:SL g gs gd d s hp)(x:Zw):SL g gs gd d s (hp ++ [x]):=⟨ZyK h.m x,SC h.c x,SC h.d x,h.n1,h.n2⟩
theorem ZrP.t {l:ZzO}(h:ZrP l):l.Terms.length≤4611686018427387:=by have:=h.Terms.1; omega
theorem Oj.l2 {d:YX}(h:Oj d):d.Vars.length≤4611686018427387∧d.Resources.length≤4611686018427387∧d.Belts.length≤4611686018427387∧d.Queues.length≤4611686018427387∧d.Tallies.length≤4611686018427387∧d.Levels.length≤4611686018427387∧d.Starts.length≤4611686018427387∧d.Laws.length≤4611686018427387:=by
 have:=h.Vars.1; have:=h.Resources.1; have:=h.Belts.1; have:=h.Queues.1; have:=h.Tallies.1; have:=h.Levels.1; have:=h.Starts.1; have:=h.Laws.1; omega
end Go.Proofs.YtleomfgijkapfaaGreatDoor
end
section
namespace Go.Proofs.YtleomfgijkapfaaGreatDoor
open Go Go.RowKit Go.Proofs.YtleomfgijkapfaaGreatDoor.Abs
open Nat (reduceAdd reduceLeDiff)
set_option maxRecDepth 100000
abbrev Step:=Seen→Int×Seen
end Go.Proofs.YtleomfgijkapfaaGreatDoor
end
section
namespace Go.Proofs.YtleomfgijkapfaaGreatDoor
open Go Go.RowKit Go.Proofs.YtleomfgijkapfaaGreatDoor.Abs
open Nat (reduceAdd reduceLeDiff)
set_option maxRecDepth 100000
abbrev Zyz:=List (List UInt8×List UInt8)
structure LI (g gs gm:Nat)(mo:Zjw)(s:Zyz)(hp:HP):Prop where
 m:hp[g]? = some (.map (Z0e s))
 c:hp[gs]? = some (.cells [.map g] Ac)
 d:hp[gm]? = some (.cells (Zw1 mo) ZnG)
 n1:gs≠g
 n2:gm≠g
theorem LI.app {g gs gm:Nat}{m:Zjw}{s:Zyz}{hp:HP}(h:LI g gs gm m s hp)(x:Zw):LI g gs gm m s (hp ++ [x]):=⟨ZyK h.m x,SC h.c x,SC h.d x,h.n1,h.n2⟩
theorem ZnP.l {m:Zjw}(h:ZnP m):m.Params.length≤4611686018427387∧m.Sites.length≤4611686018427387∧m.Links.length≤4611686018427387:=by
 have:=h.Params.1; have:=h.Sites.1; have:=h.Links.1; omega
structure CI (g gs:Nat)(s:Seen)(hp:HP):Prop where
 m:hp[g]? = some (.map (Z0d s))
 c:hp[gs]? = some (.cells [.map g] DX)
 n1:gs≠g
theorem CI.app {g gs:Nat}{s:Seen}{hp:HP}(h:CI g gs s hp)(x:Zw):CI g gs s (hp ++ [x]):=⟨ZyK h.m x,SC h.c x,h.n1⟩
end Go.Proofs.YtleomfgijkapfaaGreatDoor
end
section
namespace Go.Proofs.YtleomfgijkapfaaGreatDoor
open Go Go.RowKit Go.Proofs.YtleomfgijkapfaaGreatDoor.Abs
open Nat (reduceAdd reduceLeDiff)
set_option maxRecDepth 100000
theorem kd (k:Nat):(∀ j:Nat,k=j→decide (((k:Nat):Int)=(j:Int))=true)∧(∀ j:Nat,k≠j→decide (((k:Nat):Int)=(j:Int))=false):=⟨fun j h=>by simp [h],fun j h=>by simp only [decide_eq_false_iff_not]; omega⟩
end Go.Proofs.YtleomfgijkapfaaGreatDoor
end
section
namespace Go.Proofs.YtleomfgijkapfaaGreatDoor
open Go Go.RowKit Go.Proofs.YtleomfgijkapfaaGreatDoor.Abs
open Nat (reduceAdd reduceLeDiff)
end Go.Proofs.YtleomfgijkapfaaGreatDoor
end
section
namespace Go.Proofs.YtleomfgijkapfaaGreatDoor
open Go Go.RowKit Go.Proofs.YtleomfgijkapfaaGreatDoor.Abs
open Nat (reduceAdd reduceLeDiff)
end Go.Proofs.YtleomfgijkapfaaGreatDoor
end
section
namespace Go.Proofs.YtleomfgijkapfaaGreatDoor
open Go Go.RowKit Go.Proofs.YtleomfgijkapfaaGreatDoor.Abs
open Nat (reduceAdd reduceLeDiff)
end Go.Proofs.YtleomfgijkapfaaGreatDoor
end
section
namespace Go.Proofs.YtleomfgijkapfaaGreatDoor
open Go Go.RowKit Go.Proofs.YtleomfgijkapfaaGreatDoor.Abs
open Nat (reduceAdd reduceLeDiff)
set_option maxRecDepth 100000
noncomputable def eqv {α:Type}(a b:α):Bool:=@decide (a=b) (Classical.propDecidable _)
theorem N8 {α:Type}{a b:α}:eqv a b=true↔a=b:=by unfold eqv; simp
theorem ZwX {α:Type}{a b:α}(i:Decidable (a≠b)):@decide (a≠b) i=!eqv a b:=by
 rw [Bool.eq_iff_iff]; simp [← Bool.not_eq_true,N8]
theorem Zuy {α:Type}(a:α):eqv a a=true:=N8.2 rfl
theorem Zsu {α:Type}{a b:α}(h:a≠b):eqv a b=false:=by
 rw [← Bool.not_eq_true,N8]; exact h
theorem Zux {α:Type}(x y:α)(l m:List α):eqv (x :: l) (y :: m)=(eqv x y && eqv l m):=by
 rw [Bool.eq_iff_iff,Bool.and_eq_true,N8,N8,N8,List.cons.injEq]
theorem ZwY {α:Type}{l m:List α}(h:l.length≠m.length):eqv l m=false:=Zsu fun e=>h (by rw [e])
theorem eqB (a b:Bool):(a == b)=eqv a b:=by cases a <;> cases b <;> simp [eqv]
theorem Zuw (a b:ZH):eqv a b=(eqv a.Op b.Op && (eqv a.Name b.Name && (eqv a.N b.N && (eqv a.Kids b.Kids)))):=by
 rw [Bool.eq_iff_iff]; simp only [Bool.and_eq_true,N8]; cases a; cases b; simp only [ZH.mk.injEq,and_assoc]
end Go.Proofs.YtleomfgijkapfaaGreatDoor
end
section
namespace Go.Proofs.YtleomfgijkapfaaGreatDoor
open Go Go.RowKit Go.Proofs.YtleomfgijkapfaaGreatDoor.Abs
open Nat (reduceAdd reduceLeDiff)
set_option maxRecDepth 100000
def Yq {α β:Type}(o:Option α)(k:α→Option β):Option β :=
 match o with
 | some v=>k v
 | none=>none
theorem Ze {α β:Type}(v:α)(k:α→Option β):Yq (some v) k=k v:=by simp [Yq]
theorem Yc {α β:Type}(k:α→Option β):Yq none k=none:=by simp [Yq]
theorem Un {α β:Type}{o:Option α}{k:α→Option β}{r:β}(h:Yq o k=some r):∃ v,o=some v∧k v=some r:=by
 cases o with
 | none=>simp [Yq] at h
 | some v=>exact ⟨v,rfl,h⟩
def Iw {α:Type}(l:List α)(i:Int):Option α:=if 0≤i then l[i.toNat]? else none
theorem Wj {α:Type}{l:List α}{i:Int}{x:α}(h:Iw l i=some x):x ∈ l:=by
 unfold Iw at h
 split at h
 ·exact List.mem_of_getElem? h
 ·cases h
theorem Tz {α:Type}{row:α→List AV}{l:List α}{i:Int}{x:α}{k:Nat}(h:Iw l i=some x){ik:IntKind}:YN (.slice k) (.lst k (l.map row)) (.int ik i)=some (.ref (row x)):=by
 unfold Iw at h
 split at h
 ·rename_i h0; simp [YN,h0,h]
 ·cases h
def Rj {α:Type}(b:Nat)(l m:List α):Option (List α):=if (l.length + m.length) * b≤140737488355328 then some (l ++ m) else none
theorem Di {α:Type}{row:α→List AV}(hr:∀ x,(row x).all AV.noId1=true){l m c:List α}{k b:Nat}{hp:HP}(h:Rj b l m=some c):ZeY k b (.own k (l.map row)) (.lst k (m.map row)) hp=some (.own k (c.map row)):=by
 unfold Rj at h
 split at h
 ·rename_i hc; cases h; simp [ZeY,rowsOf,hc,hr]
 ·cases h
section
variable {hp:HP}{g:Nat}{cs:List AV}{t:TypeId}
theorem Js (hg:hp[g]? = some (.cells cs t)){n o:Nat}{d:List AV}(h1:o + n≤cs.length)(h2:(cs.drop o).take n=d)(h3:d.map AV.ro=d):Zx hp n (.ptr g o)=some (.agg d):=by
 rw [Zhj hg n o h1,h2,h3]
theorem Hq {bs n o:Nat}{v:AV}{cs':List AV}(hg:hp[g]? = some (.cells cs t))(h1:v.cells.length=n)(h2:o + n≤cs.length)(h3:v.laid=true)(h4:bs≤g)(h5:splice cs o v.cells=cs'):stV bs n (.ptr g o) v hp none=some (hp.set g (.cells cs' t),none):=by
 have:Zjj bs none g 0=none:=by simp [Zjj]; omega
 simp only [stV,hg,h1,h2,h3,h5,this,and_self,if_true]
theorem set_self {x:Zw}(hg:hp[g]? = some x)(y:Zw):(hp.set g y)[g]? = some y:=by
 have:=(List.getElem?_eq_some_iff.1 hg).1
 simp [this]
theorem ZtO {f:Nat}{x:Zw}(hf:hp[f]? = some x)(h:f≠g)(y:Zw):(hp.set g y)[f]? = some x:=by
 rw [List.getElem?_set_ne (by omega)]; exact hf
end
theorem mkH (h:HP)(x:Zw):∃ k,h ++ [x]=k∧k[h.length]? = some x∧k.length=h.length + 1:=⟨_,rfl,JI ..,by simp⟩
theorem seH {h:HP}{g:Nat}{x:Zw}(hg:h[g]? = some x)(y:Zw):∃ k,h.set g y=k∧k[g]? = some y∧k.length=h.length:=⟨_,rfl,set_self hg y,by simp⟩
theorem keA {h k:HP}{g:Nat}{cs:List AV}{t:TypeId}{x:Zw}(e:h ++ [x]=k)(hg:h[g]? = some (.cells cs t)):k[g]? = some (.cells cs t):=by rw [← e]; exact SC hg x
theorem keS {h k:HP}{f g:Nat}{x y:Zw}(e:h.set g y=k)(hf:h[f]? = some x)(n:f≠g):k[f]? = some x:=by rw [← e]; exact ZtO hf n y
abbrev OkL {α:Type}(b:Nat)(P:α→Prop)(l:List α):Prop:=l.length * b≤140737488351232∧∀ y ∈ l,P y
theorem exM (hp:HP){N:Nat}(h:1≤N):∃ M,N=M + 1∧hp.length≤hp.length:=⟨N - 1,by omega,Nat.le_refl _⟩
abbrev OkM {α:Type}(b:Nat)(P:α→Prop)(l:List α):Prop:=l.length * b≤140737488355328∧∀ y ∈ l,P y
theorem ZeZ {hp:HP}{c d:List AV}{n:Nat}(h1:n≤c.length)(h2:c.take n=d)(h3:d.map AV.ro=d):Zx hp n (.ref c)=some (.agg d):=by
 rw [ZsF hp n c h1,h2,h3]
theorem Xn {c d:List AV}{n:Nat}(h1:d.length=n)(h2:c.length=n):splice c 0 d=d:=by simp [splice,h1,← h2]
theorem ZaT {α:Type}{row:α→List AV}{e:TypeId}{k:Nat}(h1:∀ x,(row x).length=k)(h2:∀ x,(row x).all AV.noId1=true)(h3:∀ x,(row x).map AV.ro=row x){hp:HP}(l:List α):ZeN e k (l.map fun x=>.agg (row x)) hp=some (.own k (l.map row),hp):=by
 simp [ZeN,AV.cells,h1,h2,h3,Function.comp_def]
theorem ZyO:ints []=[]:=rfl
theorem ZzE:strs []=[]:=rfl
theorem Z0j (l:List Int):(ints l).length=l.length:=by simp [ints]
theorem Z00 (l:List (List UInt8)):(strs l).length=l.length:=by simp [strs]
theorem Z0M (hp0:HP)(c:List AV)(hp:HP)(h:c.all AV.noId1=true)(h2:c.map AV.ro=c):QK false hp0 (.agg c) hp none=(.agg c,hp0,none):=by
 refine Zxb ?_
 have:∀ (d:List AV),d.all AV.noId1=true→d.map AV.ro=d→d.mapM (ZrJ hp0.length hp 4)=some d:=by
  intro d
  induction d with
  | nil=>intros; rfl
  | cons a l ih =>
   intro h1 h2
   simp only [List.all_cons,Bool.and_eq_true] at h1
   simp only [List.map_cons,List.cons.injEq] at h2
   have e1:ZrJ hp0.length hp 4 a=some a:=by
    rw [show some a=some a.ro from by rw [h2.1]]
    cases a with
    | fn f x y =>
     have:=h1.1
     simp only [AV.noId1] at this
     simp only [ZrJ,this,if_true]
     simp only [Bool.and_eq_true,List.isEmpty_iff] at this
     rw [this.1,this.2]; rfl
    | _=>first | rfl | (simp [AV.noId1] at h1)
   rw [List.mapM_cons,e1,ih h1.2 h2.2]; rfl
 rw [frz,AQ,this c h h2]; rfl
 all_goals simp
theorem Z0f (bs:Nat)(hp:HP)(c:List AV)(h:c.all AV.noId1=true)(h2:c.map AV.ro=c):AQ bs hp (.agg c)=some (.agg c):=by
 have:∀ (d:List AV),d.all AV.noId1=true→d.map AV.ro=d→d.mapM (ZrJ bs hp 4)=some d:=by
  intro d
  induction d with
  | nil=>intros; rfl
  | cons a l ih =>
   intro h1 h2
   simp only [List.all_cons,Bool.and_eq_true] at h1
   simp only [List.map_cons,List.cons.injEq] at h2
   have e1:ZrJ bs hp 4 a=some a:=by
    rw [show some a=some a.ro from by rw [h2.1]]
    cases a with
    | fn f x y =>
     have:=h1.1
     simp only [AV.noId1] at this
     simp only [ZrJ,this,if_true]
     simp only [Bool.and_eq_true,List.isEmpty_iff] at this
     rw [this.1,this.2]; rfl
    | _=>first | rfl | (simp [AV.noId1] at h1)
   rw [List.mapM_cons,e1,ih h1.2 h2.2]; rfl
 rw [AQ,this c h h2]; rfl
theorem Zu4 (bs:Nat)(hp:HP)(k:Nat)(r:List (List AV)):AQ bs hp (.own k r)=some (.lst k r):=rfl
theorem Zku {K:KT}{f:FuncId}{hp:HP}{args:List AV}{k:Nat}{r:List (List AV)}(h:K f args []=some (.own k r,[],none))(ha:args.all AV.bare=true):We K f args hp=some (.own k r,hp,none):=by
 unfold We; rw [if_pos ha,h]; rfl
theorem Zq7 (x:Gg):(Jv x).all AV.noId1=true:=by rfl
def Y6:=And.intro Znq <| And.intro MQ <| And.intro Zvm <| And.intro Zto <| And.intro Ztp <| And.intro Ztq <| And.intro Ztr <| And.intro Zts <| And.intro Ztt <| Zq7
theorem XL (x:ZH):(Zt x).all AV.noId1=true:=by rw [Y1]; rfl
def ZE:=And.intro X5 <| And.intro VU <| And.intro Zvn <| And.intro Ztu <| And.intro Ztv <| And.intro Ztw <| And.intro Ztx <| XL
theorem Zpm (x:Uj):(Vj x).all AV.noId1=true:=by rfl
theorem ZhJ (x:Uj):SizeOf.sizeOf x.Body < SizeOf.sizeOf x:=by cases x; simp; try omega
def Jb:=And.intro Znu <| And.intro Zh8 <| And.intro Zpn <| And.intro Zr5 <| And.intro Zr6 <| And.intro Zr7 <| And.intro Zr8 <| Zpm
theorem ZdN (x:YX):(Yh x).all AV.noId1=true:=by rfl
theorem AX (x:YX):SizeOf.sizeOf x.Routines < SizeOf.sizeOf x:=by cases x; simp; try omega
def ZK:=And.intro VV <| And.intro Ou <| And.intro Zn4 <| And.intro Zpy <| And.intro Zpz <| And.intro Zp0 <| And.intro Zp1 <| And.intro Zp2 <| And.intro Zp3 <| And.intro Zp4 <| And.intro Zp5 <| And.intro Zp6 <| And.intro Zp7 <| And.intro Zn1 <| And.intro Zn2 <| And.intro Zn3 <| ZdN
theorem Zt9 (x:Yo):(ZL x).all AV.noId1=true:=by simp only [ZL,List.all_append,Zq7,XL]; rfl
theorem Zkf (x:Yo):SizeOf.sizeOf x.E < SizeOf.sizeOf x:=by cases x; simp; try omega
theorem Zkg (x:Yo):SizeOf.sizeOf x.F < SizeOf.sizeOf x:=by cases x; simp; try omega
theorem ZlA (x:Yo):SizeOf.sizeOf x.Args < SizeOf.sizeOf x:=by cases x; simp; try omega
def Zu:=And.intro Qi <| And.intro Zns <| And.intro ZtA <| And.intro Zvp <| And.intro Zvq <| And.intro Zvr <| And.intro Zvs <| And.intro Zvt <| And.intro Zvu <| And.intro Zvv <| And.intro Zvw <| And.intro Zvx <| And.intro Zvy <| And.intro Ztz <| And.intro Zt0 <| And.intro Zt1 <| And.intro Zt2 <| And.intro Zt3 <| And.intro Zt4 <| And.intro Zt5 <| And.intro Zt6 <| And.intro Zt7 <| And.intro Zt8 <| And.intro Bj <| And.intro Oe <| And.intro VZ <| Zt9
theorem Zq5 (x:Q3):(Qr x).all AV.noId1=true:=by rfl
theorem C9 (x:Q3):SizeOf.sizeOf x.Instrs < SizeOf.sizeOf x:=by cases x; simp; try omega
def Zz:=And.intro Ztn <| And.intro Zq6 <| And.intro Zvl <| And.intro ZxB <| And.intro ZxC <| And.intro ZxD <| And.intro ZxE <| Zq5
theorem Znz (x:Ym):(ZF x).all AV.noId1=true:=by simp only [ZF,List.all_append,ZdN]; rfl
theorem ZeV (x:Ym):SizeOf.sizeOf x.Decl < SizeOf.sizeOf x:=by cases x; simp; try omega
def Zk:=And.intro TF <| And.intro ZdM <| And.intro Zn0 <| And.intro Zpo <| And.intro Zpp <| And.intro Zpq <| And.intro Zpr <| And.intro Zps <| And.intro Zpt <| And.intro Zpu <| And.intro Zpv <| And.intro Zpw <| And.intro Zpx <| And.intro Znv <| And.intro Znw <| And.intro Znx <| And.intro Zny <| And.intro Uy <| Znz
theorem Zx9 (x:Zff):(DU x).all AV.noId1=true:=by rfl
def KY:=And.intro Zvk <| And.intro Ztm <| And.intro ZxA <| And.intro Zzx <| And.intro Zzy <| And.intro Zzz <| Zx9
theorem Zh7 (x:ZN):(ZX x).all AV.noId1=true:=by rfl
theorem ZeU (x:ZN):SizeOf.sizeOf x.Sites < SizeOf.sizeOf x:=by cases x; simp; try omega
def Zh:=And.intro Znt <| And.intro Zbb <| And.intro Zpl <| And.intro Zr2 <| And.intro Zr3 <| And.intro Zr4 <| Zh7
theorem Zv6 (x:O9):(Jp x).all AV.noId1=true:=by rfl
def YU:=And.intro Bl <| And.intro ZqA <| And.intro Zv7 <| And.intro ZxU <| And.intro ZxV <| And.intro ZxW <| And.intro ZxX <| And.intro ZxY <| And.intro ZxZ <| And.intro Zya <| And.intro Zyb <| And.intro Zyc <| Zv6
theorem Zq8 (x:YO):(Gq x).all AV.noId1=true:=by rfl
def VS:=And.intro L8 <| And.intro Zl3 <| And.intro Zvo <| And.intro ZxF <| And.intro ZxG <| And.intro ZxH <| And.intro ZxI <| And.intro ZxJ <| And.intro ZxK <| And.intro ZxL <| And.intro ZxM <| And.intro ZxN <| Zq8
theorem ZtI (x:YP):(WS x).all AV.noId1=true:=by simp only [WS,List.all_append,Zq5,Zh7]; rfl
def ZG:=And.intro Zkd <| And.intro Zn8 <| And.intro ZtJ <| And.intro ZvB <| And.intro ZvC <| And.intro ZvD <| And.intro ZvE <| And.intro ZvF <| And.intro ZvG <| And.intro ZvH <| And.intro ZvI <| And.intro ZhD <| And.intro ZpA <| ZtI
theorem Z0I:(∀ (hp0:HP) (c:List AV) (hp:HP),c.all AV.noId1=true→c.map AV.ro=c→QK false hp0 (.agg c) hp none=(.agg c,hp0,none))∧(∀ (bs:Nat) (hp:HP) (c:List AV),c.all AV.noId1=true→c.map AV.ro=c→AQ bs hp (.agg c)=some (.agg c))∧(∀ (bs:Nat) (hp:HP) (k:Nat) (r:List (List AV)),AQ bs hp (.own k r)=some (.lst k r)):=⟨Z0M,Z0f,Zu4⟩
def NIL:=And.intro @List.length_nil.{0} <| And.intro Int.natCast_zero <| And.intro @List.map_nil.{0,0} <| And.intro ZyO ZzE
def COL:=And.intro @EV <| And.intro @LD <| And.intro @BL <| And.intro @IFJ <| And.intro @GI <| And.intro @QC <| And.intro @EX <| And.intro @TUP <| And.intro @LIT <| And.intro @Z0I <| And.intro @ZyB <| And.intro @eqB <| And.intro @ZyO <| And.intro @ZzE <| And.intro @Z0j <| And.intro @Z00 <| And.intro @List.length_cons.{0} <| And.intro @List.length_nil.{0} <| @List.map_nil.{0,0}
end Go.Proofs.YtleomfgijkapfaaGreatDoor
end
section
namespace Go.Proofs.YtleomfgijkapfaaGreatDoor
open Go Go.RowKit Go.Proofs.YtleomfgijkapfaaGreatDoor.Abs
open Nat (reduceAdd reduceLeDiff)
set_option maxRecDepth 100000
def KW:List O9:=[⟨[],0,0,false,false,false,false,false,false⟩,⟨[115,108,111,116],1,0,false,true,false,false,false,false⟩,⟨[118,97,114],2,0,false,true,false,false,false,false⟩,⟨[100,114,97,119],1,3,false,false,false,false,true,false⟩,⟨[106,117,109,112],4,0,false,false,false,false,false,false⟩,⟨[98,114,97,110,99,104],4,0,false,true,false,false,false,false⟩,⟨[104,111,108,100],0,0,false,true,false,false,false,false⟩,⟨[115,101,105,122,101],5,0,false,true,true,false,false,true⟩,⟨[114,101,108,101,97,115,101],5,0,false,true,false,false,false,false⟩,⟨[112,117,116],6,0,false,true,false,false,false,false⟩,⟨[103,101,116],6,1,false,false,false,false,false,false⟩,⟨[114,105,100,101],7,0,false,false,false,false,false,false⟩,⟨[119,97,105,116],8,0,false,false,false,false,false,false⟩,⟨[115,105,103,110,97,108],8,0,false,true,false,false,false,false⟩,⟨[115,101,110,100],9,10,true,true,false,true,false,false⟩,⟨[115,112,97,119,110],0,10,false,true,false,true,false,false⟩,⟨[111,98,115,101,114,118,101],11,0,false,true,false,false,false,false⟩,⟨[108,101,118,101,108],12,0,false,true,false,false,false,false⟩,⟨[99,111,117,110,116],13,0,false,true,false,false,false,false⟩,⟨[101,110,100],0,0,false,false,false,false,false,false⟩]
structure LH (C:Cfg):Prop extends OB C where
 F0:C.G 0=some [.lst 9 (KW.map Jp)]
 AW:∀ (N:Nat) (hp:HP),1≤N→Zb C N J5 [] hp=some (.bool true,hp,none)
theorem Zss {C:Cfg}(hC:LH C)(N:Nat)(hN:1≤N)(hp:HP):Zb C N J5 [] hp=some (.bool true,hp,none):=hC.AW N hp hN
theorem ZoQ:KW.length * 56≤140737488351232∧∀ y ∈ KW,Zyx y:=by
 refine ⟨by decide,?_⟩
 intro y hy
 simp only [KW,List.mem_cons,List.not_mem_nil,or_false] at hy
 rcases hy with rfl | rfl | rfl | rfl | rfl | rfl | rfl | rfl | rfl | rfl | rfl | rfl | rfl | rfl | rfl | rfl | rfl | rfl | rfl | rfl <;> exact ⟨by simp,by simp,by simp,trivial,trivial,trivial,trivial,trivial,trivial⟩
theorem IQ {C:Cfg}(hC:OB C)(N:Nat)(hp:HP)(e:ZH)(hN:SizeOf.sizeOf e + 6≤N)(ok:Y2 e):Zb C N LJ [.agg (Zt e)] hp=some (.int .i64 (Jj true e),hp,none):=by
 obtain ⟨m,rfl⟩:∃ m,N=m + 1:=⟨N - 1,by omega⟩
 have q0:=fun hp=>ZaJ hC m hp true e (by omega) ok
 refine ZbU (by rw [hC.T]; rfl) ?_
 have f0:fill [(.bool false)] [(0,1,AV.bool true)]=some [.bool true]:=rfl
 simp only [NS,EV,LD,BL,IFJ,VT,ok,f0,q0]
theorem ZgT {C:Cfg}(hC:OB C)(N:Nat)(hp:HP)(e:ZH)(hN:SizeOf.sizeOf e + 6≤N)(ok:Y2 e):Zb C N RI [.agg (Zt e)] hp=some (.int .i64 (Jj true e),hp,none):=by
 obtain ⟨m,rfl⟩:∃ m,N=m + 1:=⟨N - 1,by omega⟩
 have q0:=fun hp=>Zo4 hC m hp true e (by omega) ok
 refine Zdv (by rw [hC.T]; rfl) ?_
 simp only [EK,EV,LD,BL,IFJ,VT,ok,q0]
end Go.Proofs.YtleomfgijkapfaaGreatDoor
end
